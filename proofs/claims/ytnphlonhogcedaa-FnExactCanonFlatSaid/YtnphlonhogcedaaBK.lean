/- Contracts: binding, of both sides. -/
import Derived.Test.YtnphlonhogcedaaBJ
namespace Go.Proofs.Ytnphlonhogcedaa.Am
open Go
set_option maxRecDepth 100000
set_option maxHeartbeats 4000000
set_option linter.unusedSimpArgs false
set_option linter.unusedVariables false
attribute [local go_sem ↓] bv_t bv_c ev_t ev_c put_same put_ne put_none kill_at pro_at lb_same lb_ne start_zero start_succ wpC_seq wpC_reg wpC_cond wpC_block wpC_skip wpC_exit wpC_ret thenQ_normal thenQ_exit thenQ_ret inBlk_normal inBlk_exit inBlk_ret wpS_nil wpS_step wpS_again wpS_guard wpO_mov wpO_load wpO_faddr wpO_nilCheck wpO_pick wpO_build wpO_bin wpO_eqb wpO_eqst wpO_eqnil wpO_not wpO_conv wpO_bytesStr wpO_iaddr wpO_idxStr wpO_field wpO_extract wpO_len wpO_lenStr wpO_cap wpO_min wpO_slice wpO_sliceStr wpO_alloc wpO_box wpO_store wpO_call wpO_callv wpO_mkfn wpO_buildSlice wpO_mkslice wpO_append wpO_appz proA_nil proA_cons tmpX_nil tmpX_tmp tmpX_cell doneB_normal doneB_ret agK_cons agK_nil pureB_load results_one results_two results_nil resBs_cons resBs_nil resB_tmp resB_cell
attribute [local go_sem] kill_v kill_lp_ne kill_lp_same pro_v pro_lp_same pro_lp_ne av_v av_lp optB_some optX_some valX_eq ldX_lp ldX_v faX_lp faX_v ncX_lp ncX_ptr ncX_fn boxK_one boxK_agg stL_some stK_lp_one stK_lp_agg stK_v_one stK_v_agg proM_v proM_lp callG_mk callVG_mk callvK_fn fnG_mk ptrsA_nil ptrsA_cons callH_some whenA_true whenA_false guardH_tt guardH_ff guardH_tf guardH_ft guardH_undef agV_one agV_agg lenO_sl lenStrO_str notO_bool pickO_bool convO_int eqbO_bool eqnilO_sl extractO_tup capO_sl minO_int loadL_one loadL_all storeL_eq fillA_nil fillA_one fillA_agg nat_ge neg_ge nat_lt neg_lt buildO bin_add bin_sub bin_mul bin_eql bin_neq bin_lss bin_leq bin_gtr bin_geq str_eql str_neq str_lss str_leq str_gtr str_geq retK_some endK_mk gcK_same gcK_int gcK_bool tupO_one tupO_agg rdy_self ib ii Option.map_none Option.map_some Option.some.injEq exists_eq_left' exists_eq_left ne_eq not_false_eq_true if_true if_false List.map_cons List.map_nil List.getElem?_cons_zero List.getElem?_cons_succ List.length_cons List.length_nil List.take_succ_cons List.take_zero List.take_nil List.drop_succ_cons List.drop_zero List.drop_nil List.cons_append List.nil_append List.append_nil List.set_cons_zero List.set_cons_succ Nat.zero_add forall_const true_and and_true and_self Bool.false_eq_true false_implies true_implies implies_true Bool.not_true Bool.not_false Bool.not_eq_true' Bool.not_eq_false' beq_self_eq_true Bool.bne_true Bool.bne_false
attribute [local go_sem] lenI lenS lenP lenQ lenB lenL lenT encI_0 encS_0 encP_0 encP_1 encQ_0 encQ_1 encQ_2 encQ_3 encB_0 encB_1 encL_0 encL_1 encT_0 encT_1
attribute [local go_sem low] whenA_bool guardH_bool
attribute [local go_sem] lenY encY_0 encY_1 encY_2
theorem miniG.smQ {l : List Param} (h : miniG l) : smQ l := h.sm
theorem miniY.bound {l : List Param} {f : Flat} (ok1 : okSig l = true) (ok2 : okFlat f = true) : miniY (boundS l f) := by
  have s := SOk.bound (l := l) ok2
  have hn := okSig_len ok1
  have hl : (boundS l f).length = l.length := boundS_len
  refine ⟨by omega, fun a ha => by have := s.list a ha; omega, fun a ha => by have := s.pairs a ha; omega, fun a ha x hx => by have := s.nm a ha x hx; omega, ?_⟩
  have := wsum_bound (f := cellsEY) (B := 26) (l := boundS l f) (fun a ha => by have := s.list a ha; have := s.pairs a ha; unfold cellsEY; omega)
  unfold cellsY
  have h2 : (boundS l f).length * 26 ≤ 8 * 26 := Nat.mul_le_mul_right _ (by omega)
  omega
theorem miniY.nil : miniY [] := ⟨by simp, fun a ha => by simp at ha, fun a ha => by simp at ha, fun a ha => by simp at ha, by simp [cellsY, wsum]⟩
theorem miniY.bind {l : List Param} {f : Flat} : miniY (bindF l f) := by
  unfold bindF
  split
  · rename_i h
    obtain ⟨ok1, ok2⟩ := fits_ok (accepts_fits h)
    exact .bound ok1 ok2
  · exact .nil
theorem miniY.part {l : List Param} {f : Flat} : miniY (bindPartF l f) := by
  unfold bindPartF
  split
  · rename_i h
    unfold partOk at h
    rw [Bool.and_eq_true] at h
    obtain ⟨ok1, ok2⟩ := fits_ok h.1
    exact .bound ok1 ok2
  · exact .nil
theorem smQ_of {l : List Param} (ok1 : okSig l = true) : smQ l := by
  have hn := okSig_len ok1
  exact ⟨by unfold big; omega, fun x hx => by have := okSig_name ok1 x hx; unfold big; omega⟩
theorem len_isEmpty {α : Type} (l : List α) : decide ((l.length : Int) = 0) = l.isEmpty := by
  cases l with
  | nil => rfl
  | cons a r => simp; omega
theorem len_pos {α : Type} (l : List α) : decide ((l.length : Int) > 0) = !l.isEmpty := by
  cases l with
  | nil => rfl
  | cons a r => simp
section
variable {P : Program} {T : Tb} {L : Lb} {h : H} {Q : PostC} {K : Post}
/-! spec.problems -/
def L221_0 : List AStep := [⟨.mov (.c (.sl none 0 (some 0))), (some 4), none, []⟩]
theorem v221_0 : wpS P L221_0 T L (rdy h) K = wpS P ([⟨.mov (.c (.sl none 0 (some 0))), (some 4), none, []⟩]) T L (rdy h) K := rfl
def L221_1 : List AStep := ⟨.box 51 (.t 0), (some 2), none, []⟩ :: ⟨.box 30 (.t 1), (some 3), none, []⟩ :: L221_0
theorem v221_1 : wpS P L221_1 T L (rdy h) K = wpS P (⟨.box 51 (.t 0), (some 2), none, []⟩ :: ⟨.box 30 (.t 1), (some 3), none, []⟩ :: L221_0) T L (rdy h) K := rfl
def L221_2 : List AStep := [⟨.mov (.t 12), (some 6), none, []⟩]
theorem v221_2 : wpS P L221_2 T L (rdy h) K = wpS P ([⟨.mov (.t 12), (some 6), none, []⟩]) T L (rdy h) K := rfl
def L221_3 : List AStep := ⟨.alloc 111 [(.sl none 0 (some 0))], (some 5), none, []⟩ :: ⟨.store 1 (.t 5) (.t 11), none, none, []⟩ :: L221_2
theorem v221_3 : wpS P L221_3 T L (rdy h) K = wpS P (⟨.alloc 111 [(.sl none 0 (some 0))], (some 5), none, []⟩ :: ⟨.store 1 (.t 5) (.t 11), none, none, []⟩ :: L221_2) T L (rdy h) K := rfl
def L221_4 : List AStep := ⟨.extract (.t 7) 0, (some 11), none, []⟩ :: ⟨.extract (.t 7) 1, (some 12), none, []⟩ :: L221_3
theorem v221_4 : wpS P L221_4 T L (rdy h) K = wpS P (⟨.extract (.t 7) 0, (some 11), none, []⟩ :: ⟨.extract (.t 7) 1, (some 12), none, []⟩ :: L221_3) T L (rdy h) K := rfl
def L221_5 : List AStep := ⟨.call 193 [(.t 8), (.t 9)], (some 10), none, []⟩ :: ⟨.mov (.t 10), (some 7), none, []⟩ :: L221_4
theorem v221_5 : wpS P L221_5 T L (rdy h) K = wpS P (⟨.call 193 [(.t 8), (.t 9)], (some 10), none, []⟩ :: ⟨.mov (.t 10), (some 7), none, []⟩ :: L221_4) T L (rdy h) K := rfl
def L221_6 : List AStep := ⟨.load 1 true (.t 2), (some 8), none, []⟩ :: ⟨.load 2 true (.t 3), (some 9), none, []⟩ :: L221_5
theorem v221_6 : wpS P L221_6 T L (rdy h) K = wpS P (⟨.load 1 true (.t 2), (some 8), none, []⟩ :: ⟨.load 2 true (.t 3), (some 9), none, []⟩ :: L221_5) T L (rdy h) K := rfl
def L221_7 : List AStep := [⟨.append 212 2 24 (.t 13) (.t 16), (some 17), none, []⟩, ⟨.mov (.t 17), (some 4), none, []⟩]
theorem v221_7 : wpS P L221_7 T L (rdy h) K = wpS P ([⟨.append 212 2 24 (.t 13) (.t 16), (some 17), none, []⟩, ⟨.mov (.t 17), (some 4), none, []⟩]) T L (rdy h) K := rfl
def L221_8 : List AStep := ⟨.load 1 true (.t 5), (some 15), none, []⟩ :: ⟨.call 229 [(.t 14), (.t 15)], (some 16), none, []⟩ :: L221_7
theorem v221_8 : wpS P L221_8 T L (rdy h) K = wpS P (⟨.load 1 true (.t 5), (some 15), none, []⟩ :: ⟨.call 229 [(.t 14), (.t 15)], (some 16), none, []⟩ :: L221_7) T L (rdy h) K := rfl
def L221_9 : List AStep := ⟨.mov (.t 6), (some 13), none, []⟩ :: ⟨.load 1 true (.t 2), (some 14), none, []⟩ :: L221_8
theorem v221_9 : wpS P L221_9 T L (rdy h) K = wpS P (⟨.mov (.t 6), (some 13), none, []⟩ :: ⟨.load 1 true (.t 2), (some 14), none, []⟩ :: L221_8) T L (rdy h) K := rfl
def C221_0 : ACode := .seq (.reg L221_9) .ret
theorem u221_0 : wpC P C221_0 T L (rdy h) Q = wpC P (.seq (.reg L221_9) .ret) T L (rdy h) Q := rfl
def C221_1 : ACode := .seq (.reg L221_6) C221_0
theorem u221_1 : wpC P C221_1 T L (rdy h) Q = wpC P (.seq (.reg L221_6) C221_0) T L (rdy h) Q := rfl
def C221_2 : ACode := .seq (.reg L221_1) C221_1
theorem u221_2 : wpC P C221_2 T L (rdy h) Q = wpC P (.seq (.reg L221_1) C221_1) T L (rdy h) Q := rfl
def F221 : AFunc := ⟨18, [.tmp 4], C221_2⟩
theorem cF221 : compB Try.prog 221 = some F221 := by kernel_rfl
end
attribute [local go_sem ↓] u221_0 u221_1 u221_2 v221_0 v221_1 v221_2 v221_3 v221_4 v221_5 v221_6 v221_7 v221_8 v221_9
theorem c_problems (l : List Param) (f : Flat) (q p n : CV) (h : H) (hl : SlQ h (.one q) l) (hf : SlF h p n f) (ok1 : okSig l = true) (ok2 : okFlat f = true) :
    callK (bm Try.prog 221 [.agg [q], .agg [p, n]] h) fun r h' => Grow h h' ∧ NwB h h' r (wrong l f) := by
  refine bm_of cF221 ?_
  have hn := okSig_len ok1
  obtain ⟨hb1, hb2, hb3⟩ := okFlat_sm ok2
  have hbb : (boundB l f).length ≤ 9 := by have := (BOk.nameF (l := l) (f := f) hb3 (Nat.le_refl _)).bad; unfold boundB; omega
  simp +contextual (maxSteps := 2000000) only [go_sem, Nat.reduceEqDiff, reduceCtorEq, Nat.reduceAdd, Nat.reduceLeDiff, F221]
  refine wp_call (c_bound l f q p n h hl hf ok1 ok2) ?_
  rintro r h1 ⟨g1, v, w, rs, rfl, x⟩
  simp +contextual (maxSteps := 2000000) only [go_sem, Nat.reduceEqDiff, reduceCtorEq, Nat.reduceAdd, Nat.reduceLeDiff]
  refine wp_call (c_missing l (boundS l f) rs q v h1 (hl.grow g1) hn x.sl.out.rd boundS_len) ?_
  rintro r h2 ⟨g2, n2⟩
  simp +contextual (maxSteps := 2000000) only [go_sem, Nat.reduceEqDiff, reduceCtorEq, Nat.reduceAdd, Nat.reduceLeDiff]
  refine wp_append lenB (x.pr.grow g2) (n2.sl lenB) (g1.trans g2) (by have := missF_len (l := l) (sl := boundS l f) (i := l.length); unfold missing; omega) ?_
  intro h3 s3 g3 n3 _ _
  simp +contextual (maxSteps := 2000000) only [go_sem, Nat.reduceEqDiff, reduceCtorEq, Nat.reduceAdd, Nat.reduceLeDiff]
  exact gcK_of ⟨g3, n3⟩ (fun hs _ => ⟨Grow.refl h, n3.scalar hs h⟩)
section
variable {P : Program} {T : Tb} {L : Lb} {h : H} {Q : PostC} {K : Post}
/-! spec.accepts -/
def L192_0 : List AStep := [⟨.mov (.c (.bool false)), (some 4), none, []⟩]
theorem v192_0 : wpS P L192_0 T L (rdy h) K = wpS P ([⟨.mov (.c (.bool false)), (some 4), none, []⟩]) T L (rdy h) K := rfl
def L192_1 : List AStep := ⟨.box 51 (.t 0), (some 2), none, []⟩ :: ⟨.box 30 (.t 1), (some 3), none, []⟩ :: L192_0
theorem v192_1 : wpS P L192_1 T L (rdy h) K = wpS P (⟨.box 51 (.t 0), (some 2), none, []⟩ :: ⟨.box 30 (.t 1), (some 3), none, []⟩ :: L192_0) T L (rdy h) K := rfl
def L192_2 : List AStep := [⟨.bin .eql (.t 8) (.c (.int .i64 0)), (some 9), none, []⟩, ⟨.mov (.t 9), (some 4), none, []⟩]
theorem v192_2 : wpS P L192_2 T L (rdy h) K = wpS P ([⟨.bin .eql (.t 8) (.c (.int .i64 0)), (some 9), none, []⟩, ⟨.mov (.t 9), (some 4), none, []⟩]) T L (rdy h) K := rfl
def L192_3 : List AStep := ⟨.call 221 [(.t 5), (.t 6)], (some 7), none, []⟩ :: ⟨.len (.t 7), (some 8), none, []⟩ :: L192_2
theorem v192_3 : wpS P L192_3 T L (rdy h) K = wpS P (⟨.call 221 [(.t 5), (.t 6)], (some 7), none, []⟩ :: ⟨.len (.t 7), (some 8), none, []⟩ :: L192_2) T L (rdy h) K := rfl
def L192_4 : List AStep := ⟨.load 1 true (.t 2), (some 5), none, []⟩ :: ⟨.load 2 true (.t 3), (some 6), none, []⟩ :: L192_3
theorem v192_4 : wpS P L192_4 T L (rdy h) K = wpS P (⟨.load 1 true (.t 2), (some 5), none, []⟩ :: ⟨.load 2 true (.t 3), (some 6), none, []⟩ :: L192_3) T L (rdy h) K := rfl
def C192_0 : ACode := .seq (.reg L192_4) .ret
theorem u192_0 : wpC P C192_0 T L (rdy h) Q = wpC P (.seq (.reg L192_4) .ret) T L (rdy h) Q := rfl
def C192_1 : ACode := .seq (.reg L192_1) C192_0
theorem u192_1 : wpC P C192_1 T L (rdy h) Q = wpC P (.seq (.reg L192_1) C192_0) T L (rdy h) Q := rfl
def F192 : AFunc := ⟨10, [.tmp 4], C192_1⟩
theorem cF192 : compB Try.prog 192 = some F192 := by kernel_rfl
end
attribute [local go_sem ↓] u192_0 u192_1 v192_0 v192_1 v192_2 v192_3 v192_4
theorem c_accepts (l : List Param) (f : Flat) (q p n : CV) (h : H) (hl : SlQ h (.one q) l) (hf : SlF h p n f) (ok1 : okSig l = true) (ok2 : okFlat f = true) : bm Try.prog 192 [.agg [q], .agg [p, n]] h = some (ib (wrong l f).isEmpty, h) := by
  refine bm_eq cF192 ?_
  simp +contextual (maxSteps := 2000000) only [go_sem, Nat.reduceEqDiff, reduceCtorEq, Nat.reduceAdd, Nat.reduceLeDiff, F192]
  refine wp_call (c_problems l f q p n h hl hf ok1 ok2) ?_
  rintro r h1 ⟨g1, n1⟩
  simp +contextual (maxSteps := 2000000) only [go_sem, Nat.reduceEqDiff, reduceCtorEq, Nat.reduceAdd, Nat.reduceLeDiff, n1.length, len_isEmpty]
  exact gcR_of g1 rfl ⟨rfl, rfl⟩
section
variable {P : Program} {T : Tb} {L : Lb} {h : H} {Q : PostC} {K : Post}
/-! spec.Bind -/
def L123_0 : List AStep := [⟨.alloc 111 [(.sl none 0 (some 0))], (some 4), none, []⟩, ⟨.mov (.c (.bool false)), (some 5), none, []⟩]
theorem v123_0 : wpS P L123_0 T L (rdy h) K = wpS P ([⟨.alloc 111 [(.sl none 0 (some 0))], (some 4), none, []⟩, ⟨.mov (.c (.bool false)), (some 5), none, []⟩]) T L (rdy h) K := rfl
def L123_1 : List AStep := ⟨.box 51 (.t 0), (some 2), none, []⟩ :: ⟨.box 30 (.t 1), (some 3), none, []⟩ :: L123_0
theorem v123_1 : wpS P L123_1 T L (rdy h) K = wpS P (⟨.box 51 (.t 0), (some 2), none, []⟩ :: ⟨.box 30 (.t 1), (some 3), none, []⟩ :: L123_0) T L (rdy h) K := rfl
def L123_2 : List AStep := [⟨.not (.t 15), (some 16), (some (12, false)), []⟩, ⟨.pick (.t 12) (.c (.bool true)) (.t 16), (some 17), none, []⟩]
theorem v123_2 : wpS P L123_2 T L (rdy h) K = wpS P ([⟨.not (.t 15), (some 16), (some (12, false)), []⟩, ⟨.pick (.t 12) (.c (.bool true)) (.t 16), (some 17), none, []⟩]) T L (rdy h) K := rfl
def L123_3 : List AStep := ⟨.load 2 true (.t 3), (some 14), (some (12, false)), []⟩ :: ⟨.call 192 [(.t 13), (.t 14)], (some 15), (some (12, false)), []⟩ :: L123_2
theorem v123_3 : wpS P L123_3 T L (rdy h) K = wpS P (⟨.load 2 true (.t 3), (some 14), (some (12, false)), []⟩ :: ⟨.call 192 [(.t 13), (.t 14)], (some 15), (some (12, false)), []⟩ :: L123_2) T L (rdy h) K := rfl
def L123_4 : List AStep := ⟨.mov (.t 11), (some 12), none, []⟩ :: ⟨.load 1 true (.t 2), (some 13), (some (12, false)), []⟩ :: L123_3
theorem v123_4 : wpS P L123_4 T L (rdy h) K = wpS P (⟨.mov (.t 11), (some 12), none, []⟩ :: ⟨.load 1 true (.t 2), (some 13), (some (12, false)), []⟩ :: L123_3) T L (rdy h) K := rfl
def L123_5 : List AStep := ⟨.call 191 [(.t 8), (.t 9)], (some 10), none, []⟩ :: ⟨.not (.t 10), (some 11), none, []⟩ :: L123_4
theorem v123_5 : wpS P L123_5 T L (rdy h) K = wpS P (⟨.call 191 [(.t 8), (.t 9)], (some 10), none, []⟩ :: ⟨.not (.t 10), (some 11), none, []⟩ :: L123_4) T L (rdy h) K := rfl
def L123_6 : List AStep := ⟨.load 1 true (.t 2), (some 8), none, []⟩ :: ⟨.load 2 true (.t 3), (some 9), none, []⟩ :: L123_5
theorem v123_6 : wpS P L123_6 T L (rdy h) K = wpS P (⟨.load 1 true (.t 2), (some 8), none, []⟩ :: ⟨.load 2 true (.t 3), (some 9), none, []⟩ :: L123_5) T L (rdy h) K := rfl
def L123_7 : List AStep := [⟨.mov (.c (.bool false)), (some 5), none, []⟩]
theorem v123_7 : wpS P L123_7 T L (rdy h) K = wpS P ([⟨.mov (.c (.bool false)), (some 5), none, []⟩]) T L (rdy h) K := rfl
def L123_8 : List AStep := ⟨.build [(.sl none 0 (some 0))] [], (some 18), none, []⟩ :: ⟨.store 1 (.t 4) (.t 18), none, none, []⟩ :: L123_7
theorem v123_8 : wpS P L123_8 T L (rdy h) K = wpS P (⟨.build [(.sl none 0 (some 0))] [], (some 18), none, []⟩ :: ⟨.store 1 (.t 4) (.t 18), none, none, []⟩ :: L123_7) T L (rdy h) K := rfl
def L123_9 : List AStep := [⟨.mov (.t 24), (some 7), none, []⟩]
theorem v123_9 : wpS P L123_9 T L (rdy h) K = wpS P ([⟨.mov (.t 24), (some 7), none, []⟩]) T L (rdy h) K := rfl
def L123_10 : List AStep := ⟨.alloc 111 [(.sl none 0 (some 0))], (some 6), none, []⟩ :: ⟨.store 1 (.t 6) (.t 23), none, none, []⟩ :: L123_9
theorem v123_10 : wpS P L123_10 T L (rdy h) K = wpS P (⟨.alloc 111 [(.sl none 0 (some 0))], (some 6), none, []⟩ :: ⟨.store 1 (.t 6) (.t 23), none, none, []⟩ :: L123_9) T L (rdy h) K := rfl
def L123_11 : List AStep := ⟨.extract (.t 19) 0, (some 23), none, []⟩ :: ⟨.extract (.t 19) 1, (some 24), none, []⟩ :: L123_10
theorem v123_11 : wpS P L123_11 T L (rdy h) K = wpS P (⟨.extract (.t 19) 0, (some 23), none, []⟩ :: ⟨.extract (.t 19) 1, (some 24), none, []⟩ :: L123_10) T L (rdy h) K := rfl
def L123_12 : List AStep := ⟨.call 193 [(.t 20), (.t 21)], (some 22), none, []⟩ :: ⟨.mov (.t 22), (some 19), none, []⟩ :: L123_11
theorem v123_12 : wpS P L123_12 T L (rdy h) K = wpS P (⟨.call 193 [(.t 20), (.t 21)], (some 22), none, []⟩ :: ⟨.mov (.t 22), (some 19), none, []⟩ :: L123_11) T L (rdy h) K := rfl
def L123_13 : List AStep := ⟨.load 1 true (.t 2), (some 20), none, []⟩ :: ⟨.load 2 true (.t 3), (some 21), none, []⟩ :: L123_12
theorem v123_13 : wpS P L123_13 T L (rdy h) K = wpS P (⟨.load 1 true (.t 2), (some 20), none, []⟩ :: ⟨.load 2 true (.t 3), (some 21), none, []⟩ :: L123_12) T L (rdy h) K := rfl
def L123_14 : List AStep := [⟨.mov (.c (.bool true)), (some 5), none, []⟩]
theorem v123_14 : wpS P L123_14 T L (rdy h) K = wpS P ([⟨.mov (.c (.bool true)), (some 5), none, []⟩]) T L (rdy h) K := rfl
def L123_15 : List AStep := ⟨.load 1 true (.t 6), (some 25), none, []⟩ :: ⟨.store 1 (.t 4) (.t 25), none, none, []⟩ :: L123_14
theorem v123_15 : wpS P L123_15 T L (rdy h) K = wpS P (⟨.load 1 true (.t 6), (some 25), none, []⟩ :: ⟨.store 1 (.t 4) (.t 25), none, none, []⟩ :: L123_14) T L (rdy h) K := rfl
def C123_0 : ACode := .seq (.reg L123_8) .ret
theorem u123_0 : wpC P C123_0 T L (rdy h) Q = wpC P (.seq (.reg L123_8) .ret) T L (rdy h) Q := rfl
def C123_1 : ACode := .cond (.t 17) C123_0 .skip
theorem u123_1 : wpC P C123_1 T L (rdy h) Q = wpC P (.cond (.t 17) C123_0 .skip) T L (rdy h) Q := rfl
def C123_2 : ACode := .seq (.reg L123_6) C123_1
theorem u123_2 : wpC P C123_2 T L (rdy h) Q = wpC P (.seq (.reg L123_6) C123_1) T L (rdy h) Q := rfl
def C123_3 : ACode := .seq (.reg L123_15) .ret
theorem u123_3 : wpC P C123_3 T L (rdy h) Q = wpC P (.seq (.reg L123_15) .ret) T L (rdy h) Q := rfl
def C123_4 : ACode := .seq (.reg L123_13) C123_3
theorem u123_4 : wpC P C123_4 T L (rdy h) Q = wpC P (.seq (.reg L123_13) C123_3) T L (rdy h) Q := rfl
def C123_5 : ACode := .seq C123_2 C123_4
theorem u123_5 : wpC P C123_5 T L (rdy h) Q = wpC P (.seq C123_2 C123_4) T L (rdy h) Q := rfl
def C123_6 : ACode := .seq (.reg L123_1) C123_5
theorem u123_6 : wpC P C123_6 T L (rdy h) Q = wpC P (.seq (.reg L123_1) C123_5) T L (rdy h) Q := rfl
def F123 : AFunc := ⟨26, [.cell 4 1 true, .tmp 5], C123_6⟩
theorem cF123 : compB Try.prog 123 = some F123 := by kernel_rfl
end
attribute [local go_sem ↓] u123_0 u123_1 u123_2 u123_3 u123_4 u123_5 u123_6 v123_0 v123_1 v123_2 v123_3 v123_4 v123_5 v123_6 v123_7 v123_8 v123_9 v123_10 v123_11 v123_12 v123_13 v123_14 v123_15
theorem k_sBind (l : List Param) (f : Flat) (q p n : CV) (h : H) (hl : SlG h q l) (hf : SlF h p n f) (hn : miniG l) (hm : miniF f) :
    callK (bm Try.prog 123 [.agg [q], .agg [p, n]] h) fun r h' => Grow h h' ∧ ∃ v rs, r = .tup [.agg [v], .one (.bool (acceptsF l f))] ∧ NwY h h' v rs (bindF l f) := by
  refine bm_of cF123 ?_
  have gc := c_goodCall l f q p n h hl.out hn.sm hf.pl hf.nl hm.sm
  unfold bindF acceptsF
  cases b1 : fits l f with
  | false =>
    have b1' : (okSig l && okFlat f) = false := b1
    simp +contextual (maxSteps := 2000000) only [go_sem, Nat.reduceEqDiff, reduceCtorEq, Nat.reduceAdd, Nat.reduceLeDiff, F123, gc, b1', Bool.false_and, if_false]
    exact ⟨Grow.refl h, _, [], rfl, .nil⟩
  | true =>
  have b1' : (okSig l && okFlat f) = true := b1
  obtain ⟨ok1, ok2⟩ := fits_ok b1
  have ac := c_accepts l f q p n h hl.out hf ok1 ok2
  cases b2 : (wrong l f).isEmpty with
  | false =>
    rw [b2] at ac
    simp +contextual (maxSteps := 2000000) only [go_sem, Nat.reduceEqDiff, reduceCtorEq, Nat.reduceAdd, Nat.reduceLeDiff, F123, gc, b1', ac, Bool.true_and, if_false]
    exact ⟨Grow.refl h, _, [], rfl, .nil⟩
  | true =>
    rw [b2] at ac
    simp +contextual (maxSteps := 2000000) only [go_sem, Nat.reduceEqDiff, reduceCtorEq, Nat.reduceAdd, Nat.reduceLeDiff, F123, gc, b1', ac, Bool.true_and, if_true]
    refine wp_call (c_bound l f q p n h hl.out hf ok1 ok2) ?_
    rintro r h1 ⟨g1, v, w, rs, rfl, x⟩
    simp +contextual (maxSteps := 2000000) only [go_sem, Nat.reduceEqDiff, reduceCtorEq, Nat.reduceAdd, Nat.reduceLeDiff]
    exact gcK_of ⟨g1, _, _, rfl, x.sl⟩ (fun hs _ => ⟨Grow.refl h, _, _, rfl, x.sl.scalar (by simpa [AV.scalar, AV.scalars, CV.scalar] using hs) h⟩)
section
variable {P : Program} {T : Tb} {L : Lb} {h : H} {Q : PostC} {K : Post}
/-! impl.fit -/
def L151_0 : List AStep := [⟨.mov (.c (.bool false)), (some 4), none, []⟩]
theorem v151_0 : wpS P L151_0 T L (rdy h) K = wpS P ([⟨.mov (.c (.bool false)), (some 4), none, []⟩]) T L (rdy h) K := rfl
def L151_1 : List AStep := ⟨.box 51 (.t 0), (some 2), none, []⟩ :: ⟨.box 30 (.t 1), (some 3), none, []⟩ :: L151_0
theorem v151_1 : wpS P L151_1 T L (rdy h) K = wpS P (⟨.box 51 (.t 0), (some 2), none, []⟩ :: ⟨.box 30 (.t 1), (some 3), none, []⟩ :: L151_0) T L (rdy h) K := rfl
def L151_2 : List AStep := [⟨.mov (.t 10), (some 4), none, []⟩]
theorem v151_2 : wpS P L151_2 T L (rdy h) K = wpS P ([⟨.mov (.t 10), (some 4), none, []⟩]) T L (rdy h) K := rfl
def L151_3 : List AStep := ⟨.call 60 [(.t 8)], (some 9), (some (7, true)), []⟩ :: ⟨.pick (.t 7) (.t 9) (.c (.bool false)), (some 10), none, []⟩ :: L151_2
theorem v151_3 : wpS P L151_3 T L (rdy h) K = wpS P (⟨.call 60 [(.t 8)], (some 9), (some (7, true)), []⟩ :: ⟨.pick (.t 7) (.t 9) (.c (.bool false)), (some 10), none, []⟩ :: L151_2) T L (rdy h) K := rfl
def L151_4 : List AStep := ⟨.mov (.t 6), (some 7), none, []⟩ :: ⟨.load 2 true (.t 3), (some 8), (some (7, true)), []⟩ :: L151_3
theorem v151_4 : wpS P L151_4 T L (rdy h) K = wpS P (⟨.mov (.t 6), (some 7), none, []⟩ :: ⟨.load 2 true (.t 3), (some 8), (some (7, true)), []⟩ :: L151_3) T L (rdy h) K := rfl
def L151_5 : List AStep := ⟨.load 1 true (.t 2), (some 5), none, []⟩ :: ⟨.call 93 [(.t 5)], (some 6), none, []⟩ :: L151_4
theorem v151_5 : wpS P L151_5 T L (rdy h) K = wpS P (⟨.load 1 true (.t 2), (some 5), none, []⟩ :: ⟨.call 93 [(.t 5)], (some 6), none, []⟩ :: L151_4) T L (rdy h) K := rfl
def C151_0 : ACode := .seq (.reg L151_5) .ret
theorem u151_0 : wpC P C151_0 T L (rdy h) Q = wpC P (.seq (.reg L151_5) .ret) T L (rdy h) Q := rfl
def C151_1 : ACode := .seq (.reg L151_1) C151_0
theorem u151_1 : wpC P C151_1 T L (rdy h) Q = wpC P (.seq (.reg L151_1) C151_0) T L (rdy h) Q := rfl
def F151 : AFunc := ⟨11, [.tmp 4], C151_1⟩
theorem cF151 : compB Try.prog 151 = some F151 := by kernel_rfl
end
attribute [local go_sem ↓] u151_0 u151_1 v151_0 v151_1 v151_2 v151_3 v151_4 v151_5
theorem c_fit (l : List Param) (f : Flat) (q p n : CV) (h : H) (hl : SlG h q l) (hf : SlF h p n f) (hn : miniG l) (hm : miniF f) : bm Try.prog 151 [.agg [q], .agg [p, n]] h = some (ib (fits l f), h) := by
  refine bm_eq cF151 ?_
  have c1 := c_ValidSignature l q h hl.out hn.sm
  have c2 := c_ValidFlat f p n h hf.pl hf.nl hm.sm
  unfold fits
  cases b1 : okSig l with
  | false =>
    rw [b1] at c1
    simp +contextual (maxSteps := 2000000) only [go_sem, Nat.reduceEqDiff, reduceCtorEq, Nat.reduceAdd, Nat.reduceLeDiff, F151, c1, Bool.false_and]
  | true =>
    rw [b1] at c1
    simp +contextual (maxSteps := 2000000) only [go_sem, Nat.reduceEqDiff, reduceCtorEq, Nat.reduceAdd, Nat.reduceLeDiff, F151, c1, c2, Bool.true_and]
section
variable {P : Program} {T : Tb} {L : Lb} {h : H} {Q : PostC} {K : Post}
/-! impl.Bind -/
def L72_0 : List AStep := [⟨.alloc 111 [(.sl none 0 (some 0))], (some 4), none, []⟩, ⟨.mov (.c (.bool false)), (some 5), none, []⟩]
theorem v72_0 : wpS P L72_0 T L (rdy h) K = wpS P ([⟨.alloc 111 [(.sl none 0 (some 0))], (some 4), none, []⟩, ⟨.mov (.c (.bool false)), (some 5), none, []⟩]) T L (rdy h) K := rfl
def L72_1 : List AStep := ⟨.box 51 (.t 0), (some 2), none, []⟩ :: ⟨.box 30 (.t 1), (some 3), none, []⟩ :: L72_0
theorem v72_1 : wpS P L72_1 T L (rdy h) K = wpS P (⟨.box 51 (.t 0), (some 2), none, []⟩ :: ⟨.box 30 (.t 1), (some 3), none, []⟩ :: L72_0) T L (rdy h) K := rfl
def L72_2 : List AStep := [⟨.call 151 [(.t 8), (.t 9)], (some 10), none, []⟩, ⟨.not (.t 10), (some 11), none, []⟩]
theorem v72_2 : wpS P L72_2 T L (rdy h) K = wpS P ([⟨.call 151 [(.t 8), (.t 9)], (some 10), none, []⟩, ⟨.not (.t 10), (some 11), none, []⟩]) T L (rdy h) K := rfl
def L72_3 : List AStep := ⟨.load 1 true (.t 2), (some 8), none, []⟩ :: ⟨.load 2 true (.t 3), (some 9), none, []⟩ :: L72_2
theorem v72_3 : wpS P L72_3 T L (rdy h) K = wpS P (⟨.load 1 true (.t 2), (some 8), none, []⟩ :: ⟨.load 2 true (.t 3), (some 9), none, []⟩ :: L72_2) T L (rdy h) K := rfl
def L72_4 : List AStep := [⟨.mov (.c (.bool false)), (some 5), none, []⟩]
theorem v72_4 : wpS P L72_4 T L (rdy h) K = wpS P ([⟨.mov (.c (.bool false)), (some 5), none, []⟩]) T L (rdy h) K := rfl
def L72_5 : List AStep := ⟨.build [(.sl none 0 (some 0))] [], (some 12), none, []⟩ :: ⟨.store 1 (.t 4) (.t 12), none, none, []⟩ :: L72_4
theorem v72_5 : wpS P L72_5 T L (rdy h) K = wpS P (⟨.build [(.sl none 0 (some 0))] [], (some 12), none, []⟩ :: ⟨.store 1 (.t 4) (.t 12), none, none, []⟩ :: L72_4) T L (rdy h) K := rfl
def L72_6 : List AStep := [⟨.mov (.t 18), (some 7), none, []⟩]
theorem v72_6 : wpS P L72_6 T L (rdy h) K = wpS P ([⟨.mov (.t 18), (some 7), none, []⟩]) T L (rdy h) K := rfl
def L72_7 : List AStep := ⟨.alloc 111 [(.sl none 0 (some 0))], (some 6), none, []⟩ :: ⟨.store 1 (.t 6) (.t 17), none, none, []⟩ :: L72_6
theorem v72_7 : wpS P L72_7 T L (rdy h) K = wpS P (⟨.alloc 111 [(.sl none 0 (some 0))], (some 6), none, []⟩ :: ⟨.store 1 (.t 6) (.t 17), none, none, []⟩ :: L72_6) T L (rdy h) K := rfl
def L72_8 : List AStep := ⟨.extract (.t 13) 0, (some 17), none, []⟩ :: ⟨.extract (.t 13) 1, (some 18), none, []⟩ :: L72_7
theorem v72_8 : wpS P L72_8 T L (rdy h) K = wpS P (⟨.extract (.t 13) 0, (some 17), none, []⟩ :: ⟨.extract (.t 13) 1, (some 18), none, []⟩ :: L72_7) T L (rdy h) K := rfl
def L72_9 : List AStep := ⟨.call 152 [(.t 14), (.t 15)], (some 16), none, []⟩ :: ⟨.mov (.t 16), (some 13), none, []⟩ :: L72_8
theorem v72_9 : wpS P L72_9 T L (rdy h) K = wpS P (⟨.call 152 [(.t 14), (.t 15)], (some 16), none, []⟩ :: ⟨.mov (.t 16), (some 13), none, []⟩ :: L72_8) T L (rdy h) K := rfl
def L72_10 : List AStep := ⟨.load 1 true (.t 2), (some 14), none, []⟩ :: ⟨.load 2 true (.t 3), (some 15), none, []⟩ :: L72_9
theorem v72_10 : wpS P L72_10 T L (rdy h) K = wpS P (⟨.load 1 true (.t 2), (some 14), none, []⟩ :: ⟨.load 2 true (.t 3), (some 15), none, []⟩ :: L72_9) T L (rdy h) K := rfl
def L72_11 : List AStep := [⟨.bin .gtr (.t 20) (.c (.int .i64 0)), (some 21), none, []⟩]
theorem v72_11 : wpS P L72_11 T L (rdy h) K = wpS P ([⟨.bin .gtr (.t 20) (.c (.int .i64 0)), (some 21), none, []⟩]) T L (rdy h) K := rfl
def L72_12 : List AStep := ⟨.mov (.t 7), (some 19), none, []⟩ :: ⟨.len (.t 19), (some 20), none, []⟩ :: L72_11
theorem v72_12 : wpS P L72_12 T L (rdy h) K = wpS P (⟨.mov (.t 7), (some 19), none, []⟩ :: ⟨.len (.t 19), (some 20), none, []⟩ :: L72_11) T L (rdy h) K := rfl
def L72_13 : List AStep := [⟨.mov (.c (.bool false)), (some 5), none, []⟩]
theorem v72_13 : wpS P L72_13 T L (rdy h) K = wpS P ([⟨.mov (.c (.bool false)), (some 5), none, []⟩]) T L (rdy h) K := rfl
def L72_14 : List AStep := ⟨.build [(.sl none 0 (some 0))] [], (some 22), none, []⟩ :: ⟨.store 1 (.t 4) (.t 22), none, none, []⟩ :: L72_13
theorem v72_14 : wpS P L72_14 T L (rdy h) K = wpS P (⟨.build [(.sl none 0 (some 0))] [], (some 22), none, []⟩ :: ⟨.store 1 (.t 4) (.t 22), none, none, []⟩ :: L72_13) T L (rdy h) K := rfl
def L72_15 : List AStep := [⟨.mov (.c (.bool true)), (some 5), none, []⟩]
theorem v72_15 : wpS P L72_15 T L (rdy h) K = wpS P ([⟨.mov (.c (.bool true)), (some 5), none, []⟩]) T L (rdy h) K := rfl
def L72_16 : List AStep := ⟨.load 1 true (.t 6), (some 23), none, []⟩ :: ⟨.store 1 (.t 4) (.t 23), none, none, []⟩ :: L72_15
theorem v72_16 : wpS P L72_16 T L (rdy h) K = wpS P (⟨.load 1 true (.t 6), (some 23), none, []⟩ :: ⟨.store 1 (.t 4) (.t 23), none, none, []⟩ :: L72_15) T L (rdy h) K := rfl
def C72_0 : ACode := .seq (.reg L72_5) .ret
theorem u72_0 : wpC P C72_0 T L (rdy h) Q = wpC P (.seq (.reg L72_5) .ret) T L (rdy h) Q := rfl
def C72_1 : ACode := .cond (.t 11) C72_0 .skip
theorem u72_1 : wpC P C72_1 T L (rdy h) Q = wpC P (.cond (.t 11) C72_0 .skip) T L (rdy h) Q := rfl
def C72_2 : ACode := .seq (.reg L72_3) C72_1
theorem u72_2 : wpC P C72_2 T L (rdy h) Q = wpC P (.seq (.reg L72_3) C72_1) T L (rdy h) Q := rfl
def C72_3 : ACode := .seq (.reg L72_14) .ret
theorem u72_3 : wpC P C72_3 T L (rdy h) Q = wpC P (.seq (.reg L72_14) .ret) T L (rdy h) Q := rfl
def C72_4 : ACode := .cond (.t 21) C72_3 .skip
theorem u72_4 : wpC P C72_4 T L (rdy h) Q = wpC P (.cond (.t 21) C72_3 .skip) T L (rdy h) Q := rfl
def C72_5 : ACode := .seq (.reg L72_12) C72_4
theorem u72_5 : wpC P C72_5 T L (rdy h) Q = wpC P (.seq (.reg L72_12) C72_4) T L (rdy h) Q := rfl
def C72_6 : ACode := .seq (.reg L72_16) .ret
theorem u72_6 : wpC P C72_6 T L (rdy h) Q = wpC P (.seq (.reg L72_16) .ret) T L (rdy h) Q := rfl
def C72_7 : ACode := .seq C72_5 C72_6
theorem u72_7 : wpC P C72_7 T L (rdy h) Q = wpC P (.seq C72_5 C72_6) T L (rdy h) Q := rfl
def C72_8 : ACode := .seq (.reg L72_10) C72_7
theorem u72_8 : wpC P C72_8 T L (rdy h) Q = wpC P (.seq (.reg L72_10) C72_7) T L (rdy h) Q := rfl
def C72_9 : ACode := .seq C72_2 C72_8
theorem u72_9 : wpC P C72_9 T L (rdy h) Q = wpC P (.seq C72_2 C72_8) T L (rdy h) Q := rfl
def C72_10 : ACode := .seq (.reg L72_1) C72_9
theorem u72_10 : wpC P C72_10 T L (rdy h) Q = wpC P (.seq (.reg L72_1) C72_9) T L (rdy h) Q := rfl
def F72 : AFunc := ⟨24, [.cell 4 1 true, .tmp 5], C72_10⟩
theorem cF72 : compB Try.prog 72 = some F72 := by kernel_rfl
end
attribute [local go_sem ↓] u72_0 u72_1 u72_2 u72_3 u72_4 u72_5 u72_6 u72_7 u72_8 u72_9 u72_10 v72_0 v72_1 v72_2 v72_3 v72_4 v72_5 v72_6 v72_7 v72_8 v72_9 v72_10 v72_11 v72_12 v72_13 v72_14 v72_15 v72_16
theorem k_iBind (l : List Param) (f : Flat) (q p n : CV) (h : H) (hl : SlG h q l) (hf : SlF h p n f) (hn : miniG l) (hm : miniF f) :
    callK (bm Try.prog 72 [.agg [q], .agg [p, n]] h) fun r h' => Grow h h' ∧ ∃ v rs, r = .tup [.agg [v], .one (.bool (acceptsF l f))] ∧ NwY h h' v rs (bindF l f) := by
  refine bm_of cF72 ?_
  have gc := c_fit l f q p n h hl hf hn hm
  unfold bindF acceptsF
  cases b1 : fits l f with
  | false =>
    rw [b1] at gc
    simp +contextual (maxSteps := 2000000) only [go_sem, Nat.reduceEqDiff, reduceCtorEq, Nat.reduceAdd, Nat.reduceLeDiff, F72, gc, Bool.false_and, if_false]
    exact ⟨Grow.refl h, _, [], rfl, .nil⟩
  | true =>
  rw [b1] at gc
  obtain ⟨ok1, ok2⟩ := fits_ok b1
  simp +contextual (maxSteps := 2000000) only [go_sem, Nat.reduceEqDiff, reduceCtorEq, Nat.reduceAdd, Nat.reduceLeDiff, F72, gc]
  refine wp_call (c_bind l f q p n h hl.out hf ok1 ok2) ?_
  rintro r h1 ⟨g1, v, w, rs, rfl, x⟩
  cases b2 : (wrong l f).isEmpty with
  | false =>
    simp +contextual (maxSteps := 2000000) only [go_sem, Nat.reduceEqDiff, reduceCtorEq, Nat.reduceAdd, Nat.reduceLeDiff, x.pr.length, len_pos, b2, Bool.true_and, if_false]
    exact gcK_of ⟨g1, _, [], rfl, .nil⟩ (fun hs _ => ⟨Grow.refl h, _, [], rfl, .nil⟩)
  | true =>
    simp +contextual (maxSteps := 2000000) only [go_sem, Nat.reduceEqDiff, reduceCtorEq, Nat.reduceAdd, Nat.reduceLeDiff, x.pr.length, len_pos, b2, Bool.true_and, if_true]
    exact gcK_of ⟨g1, _, _, rfl, x.sl⟩ (fun hs _ => ⟨Grow.refl h, _, _, rfl, x.sl.scalar (by simpa [AV.scalar, AV.scalars, CV.scalar] using hs) h⟩)
section
variable {P : Program} {T : Tb} {L : Lb} {h : H} {Q : PostC} {K : Post}
/-! spec.unbound -/
def L124_0 : List AStep := [⟨.alloc 30 [(.sl none 0 (some 0)), (.sl none 0 (some 0))], (some 4), none, []⟩]
theorem v124_0 : wpS P L124_0 T L (rdy h) K = wpS P ([⟨.alloc 30 [(.sl none 0 (some 0)), (.sl none 0 (some 0))], (some 4), none, []⟩]) T L (rdy h) K := rfl
def L124_1 : List AStep := ⟨.box 51 (.t 0), (some 2), none, []⟩ :: ⟨.box 111 (.t 1), (some 3), none, []⟩ :: L124_0
theorem v124_1 : wpS P L124_1 T L (rdy h) K = wpS P (⟨.box 51 (.t 0), (some 2), none, []⟩ :: ⟨.box 111 (.t 1), (some 3), none, []⟩ :: L124_0) T L (rdy h) K := rfl
def L124_2 : List AStep := [⟨.store 2 (.t 5) (.t 12), none, none, []⟩]
theorem v124_2 : wpS P L124_2 T L (rdy h) K = wpS P ([⟨.store 2 (.t 5) (.t 12), none, none, []⟩]) T L (rdy h) K := rfl
def L124_3 : List AStep := ⟨.build [(.sl none 0 (some 0)), (.sl none 0 (some 0))] [(0, 1, (.t 10)), (1, 1, (.t 11))], (some 12), none, []⟩ :: ⟨.alloc 30 [(.sl none 0 (some 0)), (.sl none 0 (some 0))], (some 5), none, []⟩ :: L124_2
theorem v124_3 : wpS P L124_3 T L (rdy h) K = wpS P (⟨.build [(.sl none 0 (some 0)), (.sl none 0 (some 0))] [(0, 1, (.t 10)), (1, 1, (.t 11))], (some 12), none, []⟩ :: ⟨.alloc 30 [(.sl none 0 (some 0)), (.sl none 0 (some 0))], (some 5), none, []⟩ :: L124_2) T L (rdy h) K := rfl
def L124_4 : List AStep := ⟨.buildSlice 3 0 [(.int .i64 0)] [], (some 10), none, []⟩ :: ⟨.buildSlice 86 0 [(.str (strOfNums [])), (.int .i64 0)] [], (some 11), none, []⟩ :: L124_3
theorem v124_4 : wpS P L124_4 T L (rdy h) K = wpS P (⟨.buildSlice 3 0 [(.int .i64 0)] [], (some 10), none, []⟩ :: ⟨.buildSlice 86 0 [(.str (strOfNums [])), (.int .i64 0)] [], (some 11), none, []⟩ :: L124_3) T L (rdy h) K := rfl
def L124_5 : List AStep := [⟨.mov (.c (.bool true)), (some 6), none, []⟩]
theorem v124_5 : wpS P L124_5 T L (rdy h) K = wpS P ([⟨.mov (.c (.bool true)), (some 6), none, []⟩]) T L (rdy h) K := rfl
def L124_6 : List AStep := [⟨.mov (.c (.int .i64 0)), (some 7), none, []⟩]
theorem v124_6 : wpS P L124_6 T L (rdy h) K = wpS P ([⟨.mov (.c (.int .i64 0)), (some 7), none, []⟩]) T L (rdy h) K := rfl
def L124_7 : List AStep := [⟨.bin .lss (.t 13) (.t 16), (some 17), none, []⟩]
theorem v124_7 : wpS P L124_7 T L (rdy h) K = wpS P ([⟨.bin .lss (.t 13) (.t 16), (some 17), none, []⟩]) T L (rdy h) K := rfl
def L124_8 : List AStep := ⟨.load 1 false (.t 14), (some 15), none, []⟩ :: ⟨.len (.t 15), (some 16), none, []⟩ :: L124_7
theorem v124_8 : wpS P L124_8 T L (rdy h) K = wpS P (⟨.load 1 false (.t 14), (some 15), none, []⟩ :: ⟨.len (.t 15), (some 16), none, []⟩ :: L124_7) T L (rdy h) K := rfl
def L124_9 : List AStep := ⟨.mov (.t 7), (some 13), none, []⟩ :: ⟨.faddr 0 (.t 2), (some 14), none, []⟩ :: L124_8
theorem v124_9 : wpS P L124_9 T L (rdy h) K = wpS P (⟨.mov (.t 7), (some 13), none, []⟩ :: ⟨.faddr 0 (.t 2), (some 14), none, []⟩ :: L124_8) T L (rdy h) K := rfl
def L124_10 : List AStep := [⟨.store 4 (.t 8) (.t 24), none, none, []⟩]
theorem v124_10 : wpS P L124_10 T L (rdy h) K = wpS P ([⟨.store 4 (.t 8) (.t 24), none, none, []⟩]) T L (rdy h) K := rfl
def L124_11 : List AStep := ⟨.load 4 true (.t 23), (some 24), none, []⟩ :: ⟨.alloc 108 [(.str (strOfNums [])), (.int .i64 0), (.bool false), (.int .i64 0)], (some 8), none, []⟩ :: L124_10
theorem v124_11 : wpS P L124_11 T L (rdy h) K = wpS P (⟨.load 4 true (.t 23), (some 24), none, []⟩ :: ⟨.alloc 108 [(.str (strOfNums [])), (.int .i64 0), (.bool false), (.int .i64 0)], (some 8), none, []⟩ :: L124_10) T L (rdy h) K := rfl
def L124_12 : List AStep := ⟨.mov (.t 7), (some 22), none, []⟩ :: ⟨.iaddr 4 (.t 21) (.t 22), (some 23), none, []⟩ :: L124_11
theorem v124_12 : wpS P L124_12 T L (rdy h) K = wpS P (⟨.mov (.t 7), (some 22), none, []⟩ :: ⟨.iaddr 4 (.t 21) (.t 22), (some 23), none, []⟩ :: L124_11) T L (rdy h) K := rfl
def L124_13 : List AStep := ⟨.faddr 0 (.t 2), (some 20), none, []⟩ :: ⟨.load 1 false (.t 20), (some 21), none, []⟩ :: L124_12
theorem v124_13 : wpS P L124_13 T L (rdy h) K = wpS P (⟨.faddr 0 (.t 2), (some 20), none, []⟩ :: ⟨.load 1 false (.t 20), (some 21), none, []⟩ :: L124_12) T L (rdy h) K := rfl
def L124_14 : List AStep := [⟨.store 3 (.t 9) (.t 29), none, none, []⟩]
theorem v124_14 : wpS P L124_14 T L (rdy h) K = wpS P ([⟨.store 3 (.t 9) (.t 29), none, none, []⟩]) T L (rdy h) K := rfl
def L124_15 : List AStep := ⟨.load 3 true (.t 28), (some 29), none, []⟩ :: ⟨.alloc 115 [(.bool false), (.sl none 0 (some 0)), (.sl none 0 (some 0))], (some 9), none, []⟩ :: L124_14
theorem v124_15 : wpS P L124_15 T L (rdy h) K = wpS P (⟨.load 3 true (.t 28), (some 29), none, []⟩ :: ⟨.alloc 115 [(.bool false), (.sl none 0 (some 0)), (.sl none 0 (some 0))], (some 9), none, []⟩ :: L124_14) T L (rdy h) K := rfl
def L124_16 : List AStep := ⟨.mov (.t 7), (some 27), none, []⟩ :: ⟨.iaddr 3 (.t 26) (.t 27), (some 28), none, []⟩ :: L124_15
theorem v124_16 : wpS P L124_16 T L (rdy h) K = wpS P (⟨.mov (.t 7), (some 27), none, []⟩ :: ⟨.iaddr 3 (.t 26) (.t 27), (some 28), none, []⟩ :: L124_15) T L (rdy h) K := rfl
def L124_17 : List AStep := ⟨.faddr 0 (.t 3), (some 25), none, []⟩ :: ⟨.load 1 false (.t 25), (some 26), none, []⟩ :: L124_16
theorem v124_17 : wpS P L124_17 T L (rdy h) K = wpS P (⟨.faddr 0 (.t 3), (some 25), none, []⟩ :: ⟨.load 1 false (.t 25), (some 26), none, []⟩ :: L124_16) T L (rdy h) K := rfl
def L124_18 : List AStep := [⟨.bin .eql (.t 44) (.c (.int .i64 2)), (some 45), none, []⟩, ⟨.mov (.t 45), (some 42), none, []⟩]
theorem v124_18 : wpS P L124_18 T L (rdy h) K = wpS P ([⟨.bin .eql (.t 44) (.c (.int .i64 2)), (some 45), none, []⟩, ⟨.mov (.t 45), (some 42), none, []⟩]) T L (rdy h) K := rfl
def L124_19 : List AStep := ⟨.faddr 1 (.t 8), (some 43), none, []⟩ :: ⟨.load 1 false (.t 43), (some 44), none, []⟩ :: L124_18
theorem v124_19 : wpS P L124_19 T L (rdy h) K = wpS P (⟨.faddr 1 (.t 8), (some 43), none, []⟩ :: ⟨.load 1 false (.t 43), (some 44), none, []⟩ :: L124_18) T L (rdy h) K := rfl
def L124_20 : List AStep := [⟨.store 1 (.t 51) (.t 50), none, none, []⟩]
theorem v124_20 : wpS P L124_20 T L (rdy h) K = wpS P ([⟨.store 1 (.t 51) (.t 50), none, none, []⟩]) T L (rdy h) K := rfl
def L124_21 : List AStep := ⟨.append 3 1 8 (.t 47) (.t 49), (some 50), none, []⟩ :: ⟨.faddr 0 (.t 5), (some 51), none, []⟩ :: L124_20
theorem v124_21 : wpS P L124_21 T L (rdy h) K = wpS P (⟨.append 3 1 8 (.t 47) (.t 49), (some 50), none, []⟩ :: ⟨.faddr 0 (.t 5), (some 51), none, []⟩ :: L124_20) T L (rdy h) K := rfl
def L124_22 : List AStep := ⟨.faddr 1 (.t 9), (some 48), none, []⟩ :: ⟨.load 1 false (.t 48), (some 49), none, []⟩ :: L124_21
theorem v124_22 : wpS P L124_22 T L (rdy h) K = wpS P (⟨.faddr 1 (.t 9), (some 48), none, []⟩ :: ⟨.load 1 false (.t 48), (some 49), none, []⟩ :: L124_21) T L (rdy h) K := rfl
def L124_23 : List AStep := ⟨.faddr 0 (.t 5), (some 46), none, []⟩ :: ⟨.load 1 false (.t 46), (some 47), none, []⟩ :: L124_22
theorem v124_23 : wpS P L124_23 T L (rdy h) K = wpS P (⟨.faddr 0 (.t 5), (some 46), none, []⟩ :: ⟨.load 1 false (.t 46), (some 47), none, []⟩ :: L124_22) T L (rdy h) K := rfl
def L124_24 : List AStep := [⟨.bin .eql (.t 54) (.c (.int .i64 4)), (some 55), none, []⟩, ⟨.mov (.t 55), (some 52), none, []⟩]
theorem v124_24 : wpS P L124_24 T L (rdy h) K = wpS P ([⟨.bin .eql (.t 54) (.c (.int .i64 4)), (some 55), none, []⟩, ⟨.mov (.t 55), (some 52), none, []⟩]) T L (rdy h) K := rfl
def L124_25 : List AStep := ⟨.faddr 1 (.t 8), (some 53), none, []⟩ :: ⟨.load 1 false (.t 53), (some 54), none, []⟩ :: L124_24
theorem v124_25 : wpS P L124_25 T L (rdy h) K = wpS P (⟨.faddr 1 (.t 8), (some 53), none, []⟩ :: ⟨.load 1 false (.t 53), (some 54), none, []⟩ :: L124_24) T L (rdy h) K := rfl
def L124_26 : List AStep := [⟨.store 1 (.t 61) (.t 60), none, none, []⟩]
theorem v124_26 : wpS P L124_26 T L (rdy h) K = wpS P ([⟨.store 1 (.t 61) (.t 60), none, none, []⟩]) T L (rdy h) K := rfl
def L124_27 : List AStep := ⟨.append 86 2 24 (.t 57) (.t 59), (some 60), none, []⟩ :: ⟨.faddr 1 (.t 5), (some 61), none, []⟩ :: L124_26
theorem v124_27 : wpS P L124_27 T L (rdy h) K = wpS P (⟨.append 86 2 24 (.t 57) (.t 59), (some 60), none, []⟩ :: ⟨.faddr 1 (.t 5), (some 61), none, []⟩ :: L124_26) T L (rdy h) K := rfl
def L124_28 : List AStep := ⟨.faddr 2 (.t 9), (some 58), none, []⟩ :: ⟨.load 1 false (.t 58), (some 59), none, []⟩ :: L124_27
theorem v124_28 : wpS P L124_28 T L (rdy h) K = wpS P (⟨.faddr 2 (.t 9), (some 58), none, []⟩ :: ⟨.load 1 false (.t 58), (some 59), none, []⟩ :: L124_27) T L (rdy h) K := rfl
def L124_29 : List AStep := ⟨.faddr 1 (.t 5), (some 56), none, []⟩ :: ⟨.load 1 false (.t 56), (some 57), none, []⟩ :: L124_28
theorem v124_29 : wpS P L124_29 T L (rdy h) K = wpS P (⟨.faddr 1 (.t 5), (some 56), none, []⟩ :: ⟨.load 1 false (.t 56), (some 57), none, []⟩ :: L124_28) T L (rdy h) K := rfl
def L124_30 : List AStep := [⟨.not (.t 64), (some 65), none, []⟩, ⟨.mov (.t 65), (some 62), none, []⟩]
theorem v124_30 : wpS P L124_30 T L (rdy h) K = wpS P ([⟨.not (.t 64), (some 65), none, []⟩, ⟨.mov (.t 65), (some 62), none, []⟩]) T L (rdy h) K := rfl
def L124_31 : List AStep := ⟨.faddr 0 (.t 9), (some 63), none, []⟩ :: ⟨.load 1 false (.t 63), (some 64), none, []⟩ :: L124_30
theorem v124_31 : wpS P L124_31 T L (rdy h) K = wpS P (⟨.faddr 0 (.t 9), (some 63), none, []⟩ :: ⟨.load 1 false (.t 63), (some 64), none, []⟩ :: L124_30) T L (rdy h) K := rfl
def L124_32 : List AStep := [⟨.mov (.t 71), (some 6), none, []⟩]
theorem v124_32 : wpS P L124_32 T L (rdy h) K = wpS P ([⟨.mov (.t 71), (some 6), none, []⟩]) T L (rdy h) K := rfl
def L124_33 : List AStep := ⟨.not (.t 69), (some 70), (some (67, true)), []⟩ :: ⟨.pick (.t 67) (.t 70) (.c (.bool false)), (some 71), none, []⟩ :: L124_32
theorem v124_33 : wpS P L124_33 T L (rdy h) K = wpS P (⟨.not (.t 69), (some 70), (some (67, true)), []⟩ :: ⟨.pick (.t 67) (.t 70) (.c (.bool false)), (some 71), none, []⟩ :: L124_32) T L (rdy h) K := rfl
def L124_34 : List AStep := ⟨.load 4 true (.t 8), (some 68), (some (67, true)), []⟩ :: ⟨.call 177 [(.t 68)], (some 69), (some (67, true)), []⟩ :: L124_33
theorem v124_34 : wpS P L124_34 T L (rdy h) K = wpS P (⟨.load 4 true (.t 8), (some 68), (some (67, true)), []⟩ :: ⟨.call 177 [(.t 68)], (some 69), (some (67, true)), []⟩ :: L124_33) T L (rdy h) K := rfl
def L124_35 : List AStep := ⟨.mov (.t 6), (some 66), none, []⟩ :: ⟨.mov (.t 66), (some 67), none, []⟩ :: L124_34
theorem v124_35 : wpS P L124_35 T L (rdy h) K = wpS P (⟨.mov (.t 6), (some 66), none, []⟩ :: ⟨.mov (.t 66), (some 67), none, []⟩ :: L124_34) T L (rdy h) K := rfl
def L124_36 : List AStep := [⟨.pick (.t 75) (.t 76) (.c (.bool false)), (some 77), none, []⟩, ⟨.mov (.t 77), (some 72), none, []⟩]
theorem v124_36 : wpS P L124_36 T L (rdy h) K = wpS P ([⟨.pick (.t 75) (.t 76) (.c (.bool false)), (some 77), none, []⟩, ⟨.mov (.t 77), (some 72), none, []⟩]) T L (rdy h) K := rfl
def L124_37 : List AStep := ⟨.mov (.t 74), (some 75), none, []⟩ :: ⟨.mov (.t 6), (some 76), (some (75, true)), []⟩ :: L124_36
theorem v124_37 : wpS P L124_37 T L (rdy h) K = wpS P (⟨.mov (.t 74), (some 75), none, []⟩ :: ⟨.mov (.t 6), (some 76), (some (75, true)), []⟩ :: L124_36) T L (rdy h) K := rfl
def L124_38 : List AStep := ⟨.load 4 true (.t 8), (some 73), none, []⟩ :: ⟨.call 177 [(.t 73)], (some 74), none, []⟩ :: L124_37
theorem v124_38 : wpS P L124_38 T L (rdy h) K = wpS P (⟨.load 4 true (.t 8), (some 73), none, []⟩ :: ⟨.call 177 [(.t 73)], (some 74), none, []⟩ :: L124_37) T L (rdy h) K := rfl
def L124_39 : List AStep := [⟨.faddr 0 (.t 5), (some 86), none, []⟩, ⟨.store 1 (.t 86) (.t 85), none, none, []⟩]
theorem v124_39 : wpS P L124_39 T L (rdy h) K = wpS P ([⟨.faddr 0 (.t 5), (some 86), none, []⟩, ⟨.store 1 (.t 86) (.t 85), none, none, []⟩]) T L (rdy h) K := rfl
def L124_40 : List AStep := ⟨.buildSlice 3 1 [(.int .i64 0)] [(0, 1, (.t 83))], (some 84), none, []⟩ :: ⟨.append 3 1 8 (.t 79) (.t 84), (some 85), none, []⟩ :: L124_39
theorem v124_40 : wpS P L124_40 T L (rdy h) K = wpS P (⟨.buildSlice 3 1 [(.int .i64 0)] [(0, 1, (.t 83))], (some 84), none, []⟩ :: ⟨.append 3 1 8 (.t 79) (.t 84), (some 85), none, []⟩ :: L124_39) T L (rdy h) K := rfl
def L124_41 : List AStep := ⟨.iaddr 1 (.t 81) (.c (.int .i64 0)), (some 82), none, []⟩ :: ⟨.load 1 false (.t 82), (some 83), none, []⟩ :: L124_40
theorem v124_41 : wpS P L124_41 T L (rdy h) K = wpS P (⟨.iaddr 1 (.t 81) (.c (.int .i64 0)), (some 82), none, []⟩ :: ⟨.load 1 false (.t 82), (some 83), none, []⟩ :: L124_40) T L (rdy h) K := rfl
def L124_42 : List AStep := ⟨.faddr 1 (.t 9), (some 80), none, []⟩ :: ⟨.load 1 false (.t 80), (some 81), none, []⟩ :: L124_41
theorem v124_42 : wpS P L124_42 T L (rdy h) K = wpS P (⟨.faddr 1 (.t 9), (some 80), none, []⟩ :: ⟨.load 1 false (.t 80), (some 81), none, []⟩ :: L124_41) T L (rdy h) K := rfl
def L124_43 : List AStep := ⟨.faddr 0 (.t 5), (some 78), none, []⟩ :: ⟨.load 1 false (.t 78), (some 79), none, []⟩ :: L124_42
theorem v124_43 : wpS P L124_43 T L (rdy h) K = wpS P (⟨.faddr 0 (.t 5), (some 78), none, []⟩ :: ⟨.load 1 false (.t 78), (some 79), none, []⟩ :: L124_42) T L (rdy h) K := rfl
def L124_44 : List AStep := [⟨.store 1 (.t 41) (.t 40), none, none, []⟩]
theorem v124_44 : wpS P L124_44 T L (rdy h) K = wpS P ([⟨.store 1 (.t 41) (.t 40), none, none, []⟩]) T L (rdy h) K := rfl
def L124_45 : List AStep := ⟨.append 86 2 24 (.t 31) (.t 39), (some 40), none, []⟩ :: ⟨.faddr 1 (.t 5), (some 41), none, []⟩ :: L124_44
theorem v124_45 : wpS P L124_45 T L (rdy h) K = wpS P (⟨.append 86 2 24 (.t 31) (.t 39), (some 40), none, []⟩ :: ⟨.faddr 1 (.t 5), (some 41), none, []⟩ :: L124_44) T L (rdy h) K := rfl
def L124_46 : List AStep := ⟨.build [(.str (strOfNums [])), (.int .i64 0)] [(0, 1, (.t 33)), (1, 1, (.t 37))], (some 38), none, []⟩ :: ⟨.buildSlice 86 1 [(.str (strOfNums [])), (.int .i64 0)] [(0, 2, (.t 38))], (some 39), none, []⟩ :: L124_45
theorem v124_46 : wpS P L124_46 T L (rdy h) K = wpS P (⟨.build [(.str (strOfNums [])), (.int .i64 0)] [(0, 1, (.t 33)), (1, 1, (.t 37))], (some 38), none, []⟩ :: ⟨.buildSlice 86 1 [(.str (strOfNums [])), (.int .i64 0)] [(0, 2, (.t 38))], (some 39), none, []⟩ :: L124_45) T L (rdy h) K := rfl
def L124_47 : List AStep := ⟨.iaddr 1 (.t 35) (.c (.int .i64 0)), (some 36), none, []⟩ :: ⟨.load 1 false (.t 36), (some 37), none, []⟩ :: L124_46
theorem v124_47 : wpS P L124_47 T L (rdy h) K = wpS P (⟨.iaddr 1 (.t 35) (.c (.int .i64 0)), (some 36), none, []⟩ :: ⟨.load 1 false (.t 36), (some 37), none, []⟩ :: L124_46) T L (rdy h) K := rfl
def L124_48 : List AStep := ⟨.faddr 1 (.t 9), (some 34), none, []⟩ :: ⟨.load 1 false (.t 34), (some 35), none, []⟩ :: L124_47
theorem v124_48 : wpS P L124_48 T L (rdy h) K = wpS P (⟨.faddr 1 (.t 9), (some 34), none, []⟩ :: ⟨.load 1 false (.t 34), (some 35), none, []⟩ :: L124_47) T L (rdy h) K := rfl
def L124_49 : List AStep := ⟨.faddr 0 (.t 8), (some 32), none, []⟩ :: ⟨.load 1 false (.t 32), (some 33), none, []⟩ :: L124_48
theorem v124_49 : wpS P L124_49 T L (rdy h) K = wpS P (⟨.faddr 0 (.t 8), (some 32), none, []⟩ :: ⟨.load 1 false (.t 32), (some 33), none, []⟩ :: L124_48) T L (rdy h) K := rfl
def L124_50 : List AStep := ⟨.faddr 1 (.t 5), (some 30), none, []⟩ :: ⟨.load 1 false (.t 30), (some 31), none, []⟩ :: L124_49
theorem v124_50 : wpS P L124_50 T L (rdy h) K = wpS P (⟨.faddr 1 (.t 5), (some 30), none, []⟩ :: ⟨.load 1 false (.t 30), (some 31), none, []⟩ :: L124_49) T L (rdy h) K := rfl
def L124_51 : List AStep := [⟨.mov (.t 19), (some 7), none, []⟩]
theorem v124_51 : wpS P L124_51 T L (rdy h) K = wpS P ([⟨.mov (.t 19), (some 7), none, []⟩]) T L (rdy h) K := rfl
def L124_52 : List AStep := ⟨.mov (.t 7), (some 18), none, []⟩ :: ⟨.bin .add (.t 18) (.c (.int .i64 1)), (some 19), none, []⟩ :: L124_51
theorem v124_52 : wpS P L124_52 T L (rdy h) K = wpS P (⟨.mov (.t 7), (some 18), none, []⟩ :: ⟨.bin .add (.t 18) (.c (.int .i64 1)), (some 19), none, []⟩ :: L124_51) T L (rdy h) K := rfl
def L124_53 : List AStep := [⟨.load 2 true (.t 5), (some 87), none, []⟩, ⟨.store 2 (.t 4) (.t 87), none, none, []⟩]
theorem v124_53 : wpS P L124_53 T L (rdy h) K = wpS P ([⟨.load 2 true (.t 5), (some 87), none, []⟩, ⟨.store 2 (.t 4) (.t 87), none, none, []⟩]) T L (rdy h) K := rfl
def C124_0 : ACode := .cond (.t 17) .skip (.exit 0)
theorem u124_0 : wpC P C124_0 T L (rdy h) Q = wpC P (.cond (.t 17) .skip (.exit 0)) T L (rdy h) Q := rfl
def C124_1 : ACode := .seq (.reg L124_9) C124_0
theorem u124_1 : wpC P C124_1 T L (rdy h) Q = wpC P (.seq (.reg L124_9) C124_0) T L (rdy h) Q := rfl
def C124_2 : ACode := .cond (.t 72) (.reg L124_43) (.reg L124_50)
theorem u124_2 : wpC P C124_2 T L (rdy h) Q = wpC P (.cond (.t 72) (.reg L124_43) (.reg L124_50)) T L (rdy h) Q := rfl
def C124_3 : ACode := .seq (.reg L124_38) C124_2
theorem u124_3 : wpC P C124_3 T L (rdy h) Q = wpC P (.seq (.reg L124_38) C124_2) T L (rdy h) Q := rfl
def C124_4 : ACode := .cond (.t 62) (.reg L124_35) C124_3
theorem u124_4 : wpC P C124_4 T L (rdy h) Q = wpC P (.cond (.t 62) (.reg L124_35) C124_3) T L (rdy h) Q := rfl
def C124_5 : ACode := .seq (.reg L124_31) C124_4
theorem u124_5 : wpC P C124_5 T L (rdy h) Q = wpC P (.seq (.reg L124_31) C124_4) T L (rdy h) Q := rfl
def C124_6 : ACode := .cond (.t 52) (.reg L124_29) C124_5
theorem u124_6 : wpC P C124_6 T L (rdy h) Q = wpC P (.cond (.t 52) (.reg L124_29) C124_5) T L (rdy h) Q := rfl
def C124_7 : ACode := .seq (.reg L124_25) C124_6
theorem u124_7 : wpC P C124_7 T L (rdy h) Q = wpC P (.seq (.reg L124_25) C124_6) T L (rdy h) Q := rfl
def C124_8 : ACode := .cond (.t 42) (.reg L124_23) C124_7
theorem u124_8 : wpC P C124_8 T L (rdy h) Q = wpC P (.cond (.t 42) (.reg L124_23) C124_7) T L (rdy h) Q := rfl
def C124_9 : ACode := .seq (.reg L124_19) C124_8
theorem u124_9 : wpC P C124_9 T L (rdy h) Q = wpC P (.seq (.reg L124_19) C124_8) T L (rdy h) Q := rfl
def C124_10 : ACode := .block 2 C124_9
theorem u124_10 : wpC P C124_10 T L (rdy h) Q = wpC P (.block 2 C124_9) T L (rdy h) Q := rfl
def C124_11 : ACode := .seq (.reg L124_17) C124_10
theorem u124_11 : wpC P C124_11 T L (rdy h) Q = wpC P (.seq (.reg L124_17) C124_10) T L (rdy h) Q := rfl
def C124_12 : ACode := .seq (.reg L124_13) C124_11
theorem u124_12 : wpC P C124_12 T L (rdy h) Q = wpC P (.seq (.reg L124_13) C124_11) T L (rdy h) Q := rfl
def C124_13 : ACode := .block 1 C124_12
theorem u124_13 : wpC P C124_13 T L (rdy h) Q = wpC P (.block 1 C124_12) T L (rdy h) Q := rfl
def C124_14 : ACode := .seq C124_13 (.reg L124_52)
theorem u124_14 : wpC P C124_14 T L (rdy h) Q = wpC P (.seq C124_13 (.reg L124_52)) T L (rdy h) Q := rfl
def C124_15 : ACode := .seq C124_1 C124_14
theorem u124_15 : wpC P C124_15 T L (rdy h) Q = wpC P (.seq C124_1 C124_14) T L (rdy h) Q := rfl
def C124_16 : ACode := .block 0 (.loop C124_15)
theorem u124_16 : wpC P C124_16 T L (rdy h) Q = wpC P (.block 0 (.loop C124_15)) T L (rdy h) Q := rfl
def C124_17 : ACode := .seq (.reg L124_6) C124_16
theorem u124_17 : wpC P C124_17 T L (rdy h) Q = wpC P (.seq (.reg L124_6) C124_16) T L (rdy h) Q := rfl
def C124_18 : ACode := .seq (.reg L124_53) .ret
theorem u124_18 : wpC P C124_18 T L (rdy h) Q = wpC P (.seq (.reg L124_53) .ret) T L (rdy h) Q := rfl
def C124_19 : ACode := .seq C124_17 C124_18
theorem u124_19 : wpC P C124_19 T L (rdy h) Q = wpC P (.seq C124_17 C124_18) T L (rdy h) Q := rfl
def C124_20 : ACode := .seq (.reg L124_5) C124_19
theorem u124_20 : wpC P C124_20 T L (rdy h) Q = wpC P (.seq (.reg L124_5) C124_19) T L (rdy h) Q := rfl
def C124_21 : ACode := .seq (.reg L124_4) C124_20
theorem u124_21 : wpC P C124_21 T L (rdy h) Q = wpC P (.seq (.reg L124_4) C124_20) T L (rdy h) Q := rfl
def C124_22 : ACode := .seq (.reg L124_1) C124_21
theorem u124_22 : wpC P C124_22 T L (rdy h) Q = wpC P (.seq (.reg L124_1) C124_21) T L (rdy h) Q := rfl
def F124 : AFunc := ⟨88, [.cell 4 2 true], C124_22⟩
theorem cF124 : compB Try.prog 124 = some F124 := by kernel_rfl
end
attribute [local go_sem ↓] u124_0 u124_1 u124_2 u124_3 u124_4 u124_5 u124_6 u124_7 u124_8 u124_9 u124_10 u124_11 u124_12 u124_13 u124_14 u124_15 u124_16 u124_17 u124_18 u124_19 u124_20 u124_21 u124_22 v124_0 v124_1 v124_2 v124_3 v124_4 v124_5 v124_6 v124_7 v124_8 v124_9 v124_10 v124_11 v124_12 v124_13 v124_14 v124_15 v124_16 v124_17 v124_18 v124_19 v124_20 v124_21 v124_22 v124_23 v124_24 v124_25 v124_26 v124_27 v124_28 v124_29 v124_30 v124_31 v124_32 v124_33 v124_34 v124_35 v124_36 v124_37 v124_38 v124_39 v124_40 v124_41 v124_42 v124_43 v124_44 v124_45 v124_46 v124_47 v124_48 v124_49 v124_50 v124_51 v124_52 v124_53
theorem c_unbound (l : List Param) (sl : List Slot) (rs : List RSlot) (q v : CV) (h : H) (hl : SlQ h (.one q) l) (ok1 : okSig l = true) (hs : RdY 115 3 86 h v rs sl.length (getY sl)) (hlen : sl.length = l.length) (so : SOk sl) :
    callK (bm Try.prog 124 [.agg [q], .agg [v]] h) fun r h' => Grow h h' ∧ ∃ p n, r = .agg [p, n] ∧ NwF h h' p n (unbF l sl) := by
  refine bm_of cF124 ?_
  have o := Ord.of ok1
  have hn := okSig_len ok1
  simp +contextual (maxSteps := 2000000) only [go_sem, Nat.reduceEqDiff, reduceCtorEq, Nat.reduceAdd, Nat.reduceLeDiff, F124]
  refine wp_lit (enc := encI) (k := 1) (l := []) rfl rfl ?_
  intro h1 w1 g1 n1 _
  obtain ⟨c, rfl⟩ := n1.one
  simp +contextual (maxSteps := 2000000) only [go_sem, Nat.reduceEqDiff, reduceCtorEq, Nat.reduceAdd, Nat.reduceLeDiff]
  refine wp_lit (enc := encP) (k := 2) (l := []) rfl rfl ?_
  intro h2 w2 g2 n2 _
  obtain ⟨d, rfl⟩ := n2.one
  have z0 : NwF h h2 c d ⟨[], []⟩ := ⟨n1.grow g2, n2.from g1.n, n1.apart n2⟩
  have gz := g1.trans g2
  simp +contextual (maxSteps := 2000000) only [go_sem, Nat.reduceEqDiff, reduceCtorEq, Nat.reduceAdd, Nat.reduceLeDiff]
  refine wpC_loop (fun i T L h' => Grow h h' ∧ T 2 = .lp 2 0 ∧ (L 2).2 = [q] ∧ T 3 = .lp 3 0 ∧ (L 3).2 = [v] ∧ T 4 = .lp 4 0 ∧ (L 4).2 = [.sl none 0 (some 0), .sl none 0 (some 0)] ∧ T 5 = .lp 5 0 ∧ (∃ c d, (L 5).2 = [c, d] ∧ NwF h h' c d ⟨(unF l sl i).pl, (unF l sl i).nl⟩) ∧ T 6 = .v (.one (.bool (unF l sl i).opn)) ∧ T 7 = .v (.one (.int .i64 i))) l.length ?_ ?_ (Nat.zero_le _) ?_
  · rintro i T L h' hi ⟨g, t2, l2, t3, l3, t4, l4, t5, ⟨c, d, l5, x⟩, t6, tx⟩
    have k := hl.grow g
    have y := hs.grow g
    have hsl : i < sl.length := by omega
    have hrs : i < rs.length := by rw [y.len]; exact hsl
    have a := y.el i hrs
    rw [getY_eq hsl] at a
    have eg : rs[i].given = sl[i].given := a.given
    have yi : iaddrO 3 (.one v) (.one (.int .i64 i)) = some (.one (.ptr (some (elem 3 (.one v) i)))) := y.out.iaddr hrs
    have yw := y.out.whole hrs
    have es := fun h => c_byPlace l[i] h
    simp only [encQ] at es
    have u := UOk.unF (i := i) (okSig_name ok1) so hlen (by omega)
    have s1 := so.list _ (List.getElem_mem hsl)
    have s2 := so.pairs _ (List.getElem_mem hsl)
    have s3 := so.one _ (List.getElem_mem hsl)
    have kd := o.kind i hi
    have a1 := u.pl
    have a2 := u.nl
    rw [unF_next hi hsl]
    have nx : IntKind.i64.wrap ((i : Int) + 1) = ((i + 1 : Nat) : Int) := wrap_next hi (by omega)
    unfold unStep
    by_cases k2 : l[i].kind = 2
    · rw [if_pos k2]
      have d2 : decide (l[i].kind = 2) = true := decide_eq_true k2
      have b1 : byPlace l[i] = false := by simp [byPlace, k2]
      simp +contextual (maxSteps := 2000000) only [go_sem, Nat.reduceEqDiff, reduceCtorEq, Nat.reduceAdd, Nat.reduceLeDiff, t2, l2, t3, l3, t4, l4, t5, l5, t6, tx, k.len, k.iaddr hi, k.whole hi, encQ, encY, lt_true hi, yi, yw, d2, es, b1]
      refine wp_append lenI x.pl a.list g (by simp only; omega) ?_
      intro h4 s4 g4 n4 st4 hb4
      obtain ⟨c4, rfl⟩ := n4.one
      have x4 := (x).appPl n4 st4 hb4
      simp +contextual (maxSteps := 2000000) only [go_sem, Nat.reduceEqDiff, reduceCtorEq, Nat.reduceAdd, Nat.reduceLeDiff, t2, l2, t3, l3, t4, l4, t5, l5, t6, tx]
      exact ⟨g4, ⟨c4, d, rfl, x4⟩, by rw [nx]⟩
    rw [if_neg k2]
    have d2 : decide (l[i].kind = 2) = false := decide_eq_false k2
    by_cases k4 : l[i].kind = 4
    · rw [if_pos k4]
      have d4 : decide (l[i].kind = 4) = true := decide_eq_true k4
      have b1 : byPlace l[i] = false := by simp [byPlace, k4]
      have b2 : single l[i] = false := by simp [single, byPlace, byName, k4]
      simp +contextual (maxSteps := 2000000) only [go_sem, Nat.reduceEqDiff, reduceCtorEq, Nat.reduceAdd, Nat.reduceLeDiff, t2, l2, t3, l3, t4, l4, t5, l5, t6, tx, k.len, k.iaddr hi, k.whole hi, encQ, encY, lt_true hi, yi, yw, d2, d4, es, b1]
      refine wp_append lenP x.nl a.pairs g (by simp only; omega) ?_
      intro h4 s4 g4 n4 st4 hb4
      obtain ⟨d4, rfl⟩ := n4.one
      have x4 := (x).appNl n4 st4 hb4
      simp +contextual (maxSteps := 2000000) only [go_sem, Nat.reduceEqDiff, reduceCtorEq, Nat.reduceAdd, Nat.reduceLeDiff, t2, l2, t3, l3, t4, l4, t5, l5, t6, tx]
      exact ⟨g4, ⟨c, d4, rfl, x4⟩, by rw [nx]⟩
    rw [if_neg k4]
    have d4 : decide (l[i].kind = 4) = false := decide_eq_false k4
    have b2 := single_iff kd k2 k4
    cases bg : sl[i].given with
    | false =>
      rw [if_pos rfl]
      rw [bg] at eg
      cases b1 : byPlace l[i] with
      | false =>
        rw [Bool.not_false, Bool.and_true]
        cases bo : (unF l sl i).opn with
        | false =>
          rw [bo] at t6
          simp +contextual (maxSteps := 2000000) only [go_sem, Nat.reduceEqDiff, reduceCtorEq, Nat.reduceAdd, Nat.reduceLeDiff, t2, l2, t3, l3, t4, l4, t5, l5, t6, tx, k.len, k.iaddr hi, k.whole hi, encQ, encY, lt_true hi, yi, yw, d2, d4, es, b1, b2, eg]
          exact ⟨g, ⟨c, d, rfl, x⟩, by rw [nx]⟩
        | true =>
          rw [bo] at t6
          simp +contextual (maxSteps := 2000000) only [go_sem, Nat.reduceEqDiff, reduceCtorEq, Nat.reduceAdd, Nat.reduceLeDiff, t2, l2, t3, l3, t4, l4, t5, l5, t6, tx, k.len, k.iaddr hi, k.whole hi, encQ, encY, lt_true hi, yi, yw, d2, d4, es, b1, b2, eg]
          exact ⟨g, ⟨c, d, rfl, x⟩, by rw [nx]⟩
      | true =>
        rw [Bool.not_true, Bool.and_false]
        cases bo : (unF l sl i).opn with
        | false =>
          rw [bo] at t6
          simp +contextual (maxSteps := 2000000) only [go_sem, Nat.reduceEqDiff, reduceCtorEq, Nat.reduceAdd, Nat.reduceLeDiff, t2, l2, t3, l3, t4, l4, t5, l5, t6, tx, k.len, k.iaddr hi, k.whole hi, encQ, encY, lt_true hi, yi, yw, d2, d4, es, b1, b2, eg]
          exact ⟨g, ⟨c, d, rfl, x⟩, by rw [nx]⟩
        | true =>
          rw [bo] at t6
          simp +contextual (maxSteps := 2000000) only [go_sem, Nat.reduceEqDiff, reduceCtorEq, Nat.reduceAdd, Nat.reduceLeDiff, t2, l2, t3, l3, t4, l4, t5, l5, t6, tx, k.len, k.iaddr hi, k.whole hi, encQ, encY, lt_true hi, yi, yw, d2, d4, es, b1, b2, eg]
          exact ⟨g, ⟨c, d, rfl, x⟩, by rw [nx]⟩
    | true =>
      rw [if_neg (by simp)]
      have s3 := s3 bg
      rw [bg] at eg
      have hz : 0 < sl[i].list.length := by omega
      have li : iaddrO 1 (.one rs[i].lv) (.one (.int .i64 0)) = some (.one (.ptr (some (elem 1 (.one rs[i].lv) 0)))) := a.list.iaddr hz
      have lo : loadO 1 false h' (.one (.ptr (some (elem 1 (.one rs[i].lv) 0)))) = some (.one (.int .i64 (sl[i].list.headD 0))) := by
        rw [a.list.oneO hz, encI_0]
        rw [head_at s3 hz]
        rfl
      cases b1 : byPlace l[i] with
      | false =>
        rw [Bool.false_and, if_neg (by simp)]
        simp +contextual (maxSteps := 2000000) only [go_sem, Nat.reduceEqDiff, reduceCtorEq, Nat.reduceAdd, Nat.reduceLeDiff, t2, l2, t3, l3, t4, l4, t5, l5, t6, tx, k.len, k.iaddr hi, k.whole hi, encQ, encY, lt_true hi, yi, yw, d2, d4, es, b1, b2, eg, li, lo]
        refine wp_lit (enc := encP) (k := 2) (l := [⟨l[i].name, sl[i].list.headD 0⟩]) rfl rfl ?_
        intro h3 w3 g3 n3 _
        simp +contextual (maxSteps := 2000000) only [go_sem, Nat.reduceEqDiff, reduceCtorEq, Nat.reduceAdd, Nat.reduceLeDiff, t2, l2, t3, l3, t4, l4, t5, l5, t6, tx]
        refine wp_append lenP (x.nl.grow g3) (n3.sl lenP) (g.trans g3) (by simp; omega) ?_
        intro h4 s4 g4 n4 st4 hb4
        obtain ⟨d4, rfl⟩ := n4.one
        have x4 := (x.grow g3).appNl n4 st4 hb4
        simp +contextual (maxSteps := 2000000) only [go_sem, Nat.reduceEqDiff, reduceCtorEq, Nat.reduceAdd, Nat.reduceLeDiff, t2, l2, t3, l3, t4, l4, t5, l5, t6, tx]
        exact ⟨g4, ⟨c, d4, rfl, x4⟩, by rw [nx]⟩
      | true =>
        rw [Bool.true_and]
        cases bo : (unF l sl i).opn with
        | false =>
          rw [bo] at t6
          rw [if_neg (by simp)]
          simp +contextual (maxSteps := 2000000) only [go_sem, Nat.reduceEqDiff, reduceCtorEq, Nat.reduceAdd, Nat.reduceLeDiff, t2, l2, t3, l3, t4, l4, t5, l5, t6, tx, k.len, k.iaddr hi, k.whole hi, encQ, encY, lt_true hi, yi, yw, d2, d4, es, b1, b2, eg, li, lo]
          refine wp_lit (enc := encP) (k := 2) (l := [⟨l[i].name, sl[i].list.headD 0⟩]) rfl rfl ?_
          intro h3 w3 g3 n3 _
          simp +contextual (maxSteps := 2000000) only [go_sem, Nat.reduceEqDiff, reduceCtorEq, Nat.reduceAdd, Nat.reduceLeDiff, t2, l2, t3, l3, t4, l4, t5, l5, t6, tx]
          refine wp_append lenP (x.nl.grow g3) (n3.sl lenP) (g.trans g3) (by simp; omega) ?_
          intro h4 s4 g4 n4 st4 hb4
          obtain ⟨d4, rfl⟩ := n4.one
          have x4 := (x.grow g3).appNl n4 st4 hb4
          simp +contextual (maxSteps := 2000000) only [go_sem, Nat.reduceEqDiff, reduceCtorEq, Nat.reduceAdd, Nat.reduceLeDiff, t2, l2, t3, l3, t4, l4, t5, l5, t6, tx]
          exact ⟨g4, ⟨c, d4, rfl, x4⟩, by rw [nx]⟩
        | true =>
          rw [bo] at t6
          rw [if_pos rfl]
          simp +contextual (maxSteps := 2000000) only [go_sem, Nat.reduceEqDiff, reduceCtorEq, Nat.reduceAdd, Nat.reduceLeDiff, t2, l2, t3, l3, t4, l4, t5, l5, t6, tx, k.len, k.iaddr hi, k.whole hi, encQ, encY, lt_true hi, yi, yw, d2, d4, es, b1, b2, eg, li, lo]
          refine wp_lit (enc := encI) (k := 1) (l := [sl[i].list.headD 0]) rfl rfl ?_
          intro h3 w3 g3 n3 _
          simp +contextual (maxSteps := 2000000) only [go_sem, Nat.reduceEqDiff, reduceCtorEq, Nat.reduceAdd, Nat.reduceLeDiff, t2, l2, t3, l3, t4, l4, t5, l5, t6, tx]
          refine wp_append lenI (x.pl.grow g3) (n3.sl lenI) (g.trans g3) (by simp; omega) ?_
          intro h4 s4 g4 n4 st4 hb4
          obtain ⟨c4, rfl⟩ := n4.one
          have x4 := (x.grow g3).appPl n4 st4 hb4
          simp +contextual (maxSteps := 2000000) only [go_sem, Nat.reduceEqDiff, reduceCtorEq, Nat.reduceAdd, Nat.reduceLeDiff, t2, l2, t3, l3, t4, l4, t5, l5, t6, tx]
          exact ⟨g4, ⟨c4, d, rfl, x4⟩, by rw [nx]⟩
  · rintro T L h' ⟨g, t2, l2, t3, l3, t4, l4, t5, ⟨c, d, l5, x⟩, t6, tx⟩
    have k := hl.grow g
    simp +contextual (maxSteps := 2000000) only [go_sem, Nat.reduceEqDiff, reduceCtorEq, Nat.reduceAdd, Nat.reduceLeDiff, t2, l2, t3, l3, t4, l4, t5, l5, t6, tx, k.len, lt_false]
    have z : NwF h h' c d (unbF l sl) := x
    exact gcK_of ⟨g, _, _, rfl, z⟩ (fun hs _ => ⟨Grow.refl h, _, _, rfl, z.scalar hs h⟩)
  · simp +contextual (maxSteps := 2000000) only [go_sem, Nat.reduceEqDiff, reduceCtorEq, Nat.reduceAdd, Nat.reduceLeDiff]
    exact ⟨gz, ⟨c, d, rfl, z0⟩, rfl, rfl⟩
section
variable {P : Program} {T : Tb} {L : Lb} {h : H} {Q : PostC} {K : Post}
/-! impl.unbind -/
def L126_0 : List AStep := [⟨.alloc 30 [(.sl none 0 (some 0)), (.sl none 0 (some 0))], (some 4), none, []⟩]
theorem v126_0 : wpS P L126_0 T L (rdy h) K = wpS P ([⟨.alloc 30 [(.sl none 0 (some 0)), (.sl none 0 (some 0))], (some 4), none, []⟩]) T L (rdy h) K := rfl
def L126_1 : List AStep := ⟨.box 51 (.t 0), (some 2), none, []⟩ :: ⟨.box 111 (.t 1), (some 3), none, []⟩ :: L126_0
theorem v126_1 : wpS P L126_1 T L (rdy h) K = wpS P (⟨.box 51 (.t 0), (some 2), none, []⟩ :: ⟨.box 111 (.t 1), (some 3), none, []⟩ :: L126_0) T L (rdy h) K := rfl
def L126_2 : List AStep := [⟨.alloc 30 [(.sl none 0 (some 0)), (.sl none 0 (some 0))], (some 5), none, []⟩]
theorem v126_2 : wpS P L126_2 T L (rdy h) K = wpS P ([⟨.alloc 30 [(.sl none 0 (some 0)), (.sl none 0 (some 0))], (some 5), none, []⟩]) T L (rdy h) K := rfl
def L126_3 : List AStep := [⟨.mov (.c (.bool true)), (some 6), none, []⟩]
theorem v126_3 : wpS P L126_3 T L (rdy h) K = wpS P ([⟨.mov (.c (.bool true)), (some 6), none, []⟩]) T L (rdy h) K := rfl
def L126_4 : List AStep := [⟨.len (.t 11), (some 12), none, []⟩, ⟨.mov (.c (.int .i64 0)), (some 13), none, []⟩]
theorem v126_4 : wpS P L126_4 T L (rdy h) K = wpS P ([⟨.len (.t 11), (some 12), none, []⟩, ⟨.mov (.c (.int .i64 0)), (some 13), none, []⟩]) T L (rdy h) K := rfl
def L126_5 : List AStep := ⟨.faddr 0 (.t 2), (some 10), none, []⟩ :: ⟨.load 1 false (.t 10), (some 11), none, []⟩ :: L126_4
theorem v126_5 : wpS P L126_5 T L (rdy h) K = wpS P (⟨.faddr 0 (.t 2), (some 10), none, []⟩ :: ⟨.load 1 false (.t 10), (some 11), none, []⟩ :: L126_4) T L (rdy h) K := rfl
def L126_6 : List AStep := [⟨.bin .lss (.t 13) (.t 12), (some 14), none, []⟩]
theorem v126_6 : wpS P L126_6 T L (rdy h) K = wpS P ([⟨.bin .lss (.t 13) (.t 12), (some 14), none, []⟩]) T L (rdy h) K := rfl
def L126_7 : List AStep := [⟨.mov (.t 15), (some 7), none, []⟩, ⟨.store 4 (.t 8) (.t 17), none, none, []⟩]
theorem v126_7 : wpS P L126_7 T L (rdy h) K = wpS P ([⟨.mov (.t 15), (some 7), none, []⟩, ⟨.store 4 (.t 8) (.t 17), none, none, []⟩]) T L (rdy h) K := rfl
def L126_8 : List AStep := ⟨.load 4 true (.t 16), (some 17), none, []⟩ :: ⟨.alloc 108 [(.str (strOfNums [])), (.int .i64 0), (.bool false), (.int .i64 0)], (some 8), none, []⟩ :: L126_7
theorem v126_8 : wpS P L126_8 T L (rdy h) K = wpS P (⟨.load 4 true (.t 16), (some 17), none, []⟩ :: ⟨.alloc 108 [(.str (strOfNums [])), (.int .i64 0), (.bool false), (.int .i64 0)], (some 8), none, []⟩ :: L126_7) T L (rdy h) K := rfl
def L126_9 : List AStep := ⟨.mov (.t 13), (some 15), none, []⟩ :: ⟨.iaddr 4 (.t 11) (.t 13), (some 16), none, []⟩ :: L126_8
theorem v126_9 : wpS P L126_9 T L (rdy h) K = wpS P (⟨.mov (.t 13), (some 15), none, []⟩ :: ⟨.iaddr 4 (.t 11) (.t 13), (some 16), none, []⟩ :: L126_8) T L (rdy h) K := rfl
def L126_10 : List AStep := [⟨.store 3 (.t 9) (.t 22), none, none, []⟩]
theorem v126_10 : wpS P L126_10 T L (rdy h) K = wpS P ([⟨.store 3 (.t 9) (.t 22), none, none, []⟩]) T L (rdy h) K := rfl
def L126_11 : List AStep := ⟨.load 3 true (.t 21), (some 22), none, []⟩ :: ⟨.alloc 115 [(.bool false), (.sl none 0 (some 0)), (.sl none 0 (some 0))], (some 9), none, []⟩ :: L126_10
theorem v126_11 : wpS P L126_11 T L (rdy h) K = wpS P (⟨.load 3 true (.t 21), (some 22), none, []⟩ :: ⟨.alloc 115 [(.bool false), (.sl none 0 (some 0)), (.sl none 0 (some 0))], (some 9), none, []⟩ :: L126_10) T L (rdy h) K := rfl
def L126_12 : List AStep := ⟨.mov (.t 7), (some 20), none, []⟩ :: ⟨.iaddr 3 (.t 19) (.t 20), (some 21), none, []⟩ :: L126_11
theorem v126_12 : wpS P L126_12 T L (rdy h) K = wpS P (⟨.mov (.t 7), (some 20), none, []⟩ :: ⟨.iaddr 3 (.t 19) (.t 20), (some 21), none, []⟩ :: L126_11) T L (rdy h) K := rfl
def L126_13 : List AStep := ⟨.faddr 0 (.t 3), (some 18), none, []⟩ :: ⟨.load 1 false (.t 18), (some 19), none, []⟩ :: L126_12
theorem v126_13 : wpS P L126_13 T L (rdy h) K = wpS P (⟨.faddr 0 (.t 3), (some 18), none, []⟩ :: ⟨.load 1 false (.t 18), (some 19), none, []⟩ :: L126_12) T L (rdy h) K := rfl
def L126_14 : List AStep := [⟨.pick (.t 29) (.t 31) (.c (.bool false)), (some 32), none, []⟩, ⟨.mov (.t 32), (some 23), none, []⟩]
theorem v126_14 : wpS P L126_14 T L (rdy h) K = wpS P ([⟨.pick (.t 29) (.t 31) (.c (.bool false)), (some 32), none, []⟩, ⟨.mov (.t 32), (some 23), none, []⟩]) T L (rdy h) K := rfl
def L126_15 : List AStep := ⟨.faddr 0 (.t 9), (some 30), (some (29, true)), []⟩ :: ⟨.load 1 false (.t 30), (some 31), (some (29, true)), []⟩ :: L126_14
theorem v126_15 : wpS P L126_15 T L (rdy h) K = wpS P (⟨.faddr 0 (.t 9), (some 30), (some (29, true)), []⟩ :: ⟨.load 1 false (.t 30), (some 31), (some (29, true)), []⟩ :: L126_14) T L (rdy h) K := rfl
def L126_16 : List AStep := ⟨.pick (.t 26) (.t 27) (.c (.bool false)), (some 28), none, []⟩ :: ⟨.mov (.t 28), (some 29), none, []⟩ :: L126_15
theorem v126_16 : wpS P L126_16 T L (rdy h) K = wpS P (⟨.pick (.t 26) (.t 27) (.c (.bool false)), (some 28), none, []⟩ :: ⟨.mov (.t 28), (some 29), none, []⟩ :: L126_15) T L (rdy h) K := rfl
def L126_17 : List AStep := ⟨.mov (.t 25), (some 26), none, []⟩ :: ⟨.mov (.t 6), (some 27), (some (26, true)), []⟩ :: L126_16
theorem v126_17 : wpS P L126_17 T L (rdy h) K = wpS P (⟨.mov (.t 25), (some 26), none, []⟩ :: ⟨.mov (.t 6), (some 27), (some (26, true)), []⟩ :: L126_16) T L (rdy h) K := rfl
def L126_18 : List AStep := ⟨.load 4 true (.t 8), (some 24), none, []⟩ :: ⟨.call 94 [(.t 24)], (some 25), none, []⟩ :: L126_17
theorem v126_18 : wpS P L126_18 T L (rdy h) K = wpS P (⟨.load 4 true (.t 8), (some 24), none, []⟩ :: ⟨.call 94 [(.t 24)], (some 25), none, []⟩ :: L126_17) T L (rdy h) K := rfl
def L126_19 : List AStep := [⟨.bin .eql (.t 34) (.c (.int .i64 2)), (some 35), none, []⟩, ⟨.mov (.t 35), (some 23), none, []⟩]
theorem v126_19 : wpS P L126_19 T L (rdy h) K = wpS P ([⟨.bin .eql (.t 34) (.c (.int .i64 2)), (some 35), none, []⟩, ⟨.mov (.t 35), (some 23), none, []⟩]) T L (rdy h) K := rfl
def L126_20 : List AStep := ⟨.faddr 1 (.t 8), (some 33), none, []⟩ :: ⟨.load 1 false (.t 33), (some 34), none, []⟩ :: L126_19
theorem v126_20 : wpS P L126_20 T L (rdy h) K = wpS P (⟨.faddr 1 (.t 8), (some 33), none, []⟩ :: ⟨.load 1 false (.t 33), (some 34), none, []⟩ :: L126_19) T L (rdy h) K := rfl
def L126_21 : List AStep := [⟨.store 1 (.t 41) (.t 40), none, none, []⟩]
theorem v126_21 : wpS P L126_21 T L (rdy h) K = wpS P ([⟨.store 1 (.t 41) (.t 40), none, none, []⟩]) T L (rdy h) K := rfl
def L126_22 : List AStep := ⟨.append 3 1 8 (.t 37) (.t 39), (some 40), none, []⟩ :: ⟨.faddr 0 (.t 5), (some 41), none, []⟩ :: L126_21
theorem v126_22 : wpS P L126_22 T L (rdy h) K = wpS P (⟨.append 3 1 8 (.t 37) (.t 39), (some 40), none, []⟩ :: ⟨.faddr 0 (.t 5), (some 41), none, []⟩ :: L126_21) T L (rdy h) K := rfl
def L126_23 : List AStep := ⟨.faddr 1 (.t 9), (some 38), none, []⟩ :: ⟨.load 1 false (.t 38), (some 39), none, []⟩ :: L126_22
theorem v126_23 : wpS P L126_23 T L (rdy h) K = wpS P (⟨.faddr 1 (.t 9), (some 38), none, []⟩ :: ⟨.load 1 false (.t 38), (some 39), none, []⟩ :: L126_22) T L (rdy h) K := rfl
def L126_24 : List AStep := ⟨.faddr 0 (.t 5), (some 36), none, []⟩ :: ⟨.load 1 false (.t 36), (some 37), none, []⟩ :: L126_23
theorem v126_24 : wpS P L126_24 T L (rdy h) K = wpS P (⟨.faddr 0 (.t 5), (some 36), none, []⟩ :: ⟨.load 1 false (.t 36), (some 37), none, []⟩ :: L126_23) T L (rdy h) K := rfl
def L126_25 : List AStep := [⟨.pick (.t 45) (.t 48) (.c (.bool false)), (some 49), none, []⟩, ⟨.mov (.t 49), (some 42), none, []⟩]
theorem v126_25 : wpS P L126_25 T L (rdy h) K = wpS P ([⟨.pick (.t 45) (.t 48) (.c (.bool false)), (some 49), none, []⟩, ⟨.mov (.t 49), (some 42), none, []⟩]) T L (rdy h) K := rfl
def L126_26 : List AStep := ⟨.load 1 false (.t 46), (some 47), (some (45, true)), []⟩ :: ⟨.not (.t 47), (some 48), (some (45, true)), []⟩ :: L126_25
theorem v126_26 : wpS P L126_26 T L (rdy h) K = wpS P (⟨.load 1 false (.t 46), (some 47), (some (45, true)), []⟩ :: ⟨.not (.t 47), (some 48), (some (45, true)), []⟩ :: L126_25) T L (rdy h) K := rfl
def L126_27 : List AStep := ⟨.mov (.t 44), (some 45), none, []⟩ :: ⟨.faddr 0 (.t 9), (some 46), (some (45, true)), []⟩ :: L126_26
theorem v126_27 : wpS P L126_27 T L (rdy h) K = wpS P (⟨.mov (.t 44), (some 45), none, []⟩ :: ⟨.faddr 0 (.t 9), (some 46), (some (45, true)), []⟩ :: L126_26) T L (rdy h) K := rfl
def L126_28 : List AStep := ⟨.load 4 true (.t 8), (some 43), none, []⟩ :: ⟨.call 94 [(.t 43)], (some 44), none, []⟩ :: L126_27
theorem v126_28 : wpS P L126_28 T L (rdy h) K = wpS P (⟨.load 4 true (.t 8), (some 43), none, []⟩ :: ⟨.call 94 [(.t 43)], (some 44), none, []⟩ :: L126_27) T L (rdy h) K := rfl
def L126_29 : List AStep := [⟨.mov (.c (.bool false)), (some 6), none, []⟩]
theorem v126_29 : wpS P L126_29 T L (rdy h) K = wpS P ([⟨.mov (.c (.bool false)), (some 6), none, []⟩]) T L (rdy h) K := rfl
def L126_30 : List AStep := [⟨.mov (.t 56), (some 50), none, []⟩]
theorem v126_30 : wpS P L126_30 T L (rdy h) K = wpS P ([⟨.mov (.t 56), (some 50), none, []⟩]) T L (rdy h) K := rfl
def L126_31 : List AStep := ⟨.load 1 false (.t 54), (some 55), (some (53, true)), []⟩ :: ⟨.pick (.t 53) (.t 55) (.c (.bool false)), (some 56), none, []⟩ :: L126_30
theorem v126_31 : wpS P L126_31 T L (rdy h) K = wpS P (⟨.load 1 false (.t 54), (some 55), (some (53, true)), []⟩ :: ⟨.pick (.t 53) (.t 55) (.c (.bool false)), (some 56), none, []⟩ :: L126_30) T L (rdy h) K := rfl
def L126_32 : List AStep := ⟨.mov (.t 52), (some 53), none, []⟩ :: ⟨.faddr 0 (.t 9), (some 54), (some (53, true)), []⟩ :: L126_31
theorem v126_32 : wpS P L126_32 T L (rdy h) K = wpS P (⟨.mov (.t 52), (some 53), none, []⟩ :: ⟨.faddr 0 (.t 9), (some 54), (some (53, true)), []⟩ :: L126_31) T L (rdy h) K := rfl
def L126_33 : List AStep := ⟨.load 4 true (.t 8), (some 51), none, []⟩ :: ⟨.call 172 [(.t 51)], (some 52), none, []⟩ :: L126_32
theorem v126_33 : wpS P L126_33 T L (rdy h) K = wpS P (⟨.load 4 true (.t 8), (some 51), none, []⟩ :: ⟨.call 172 [(.t 51)], (some 52), none, []⟩ :: L126_32) T L (rdy h) K := rfl
def L126_34 : List AStep := [⟨.store 1 (.t 68) (.t 67), none, none, []⟩]
theorem v126_34 : wpS P L126_34 T L (rdy h) K = wpS P ([⟨.store 1 (.t 68) (.t 67), none, none, []⟩]) T L (rdy h) K := rfl
def L126_35 : List AStep := ⟨.append 86 2 24 (.t 58) (.t 66), (some 67), none, []⟩ :: ⟨.faddr 1 (.t 5), (some 68), none, []⟩ :: L126_34
theorem v126_35 : wpS P L126_35 T L (rdy h) K = wpS P (⟨.append 86 2 24 (.t 58) (.t 66), (some 67), none, []⟩ :: ⟨.faddr 1 (.t 5), (some 68), none, []⟩ :: L126_34) T L (rdy h) K := rfl
def L126_36 : List AStep := ⟨.build [(.str (strOfNums [])), (.int .i64 0)] [(0, 1, (.t 60)), (1, 1, (.t 64))], (some 65), none, []⟩ :: ⟨.buildSlice 86 1 [(.str (strOfNums [])), (.int .i64 0)] [(0, 2, (.t 65))], (some 66), none, []⟩ :: L126_35
theorem v126_36 : wpS P L126_36 T L (rdy h) K = wpS P (⟨.build [(.str (strOfNums [])), (.int .i64 0)] [(0, 1, (.t 60)), (1, 1, (.t 64))], (some 65), none, []⟩ :: ⟨.buildSlice 86 1 [(.str (strOfNums [])), (.int .i64 0)] [(0, 2, (.t 65))], (some 66), none, []⟩ :: L126_35) T L (rdy h) K := rfl
def L126_37 : List AStep := ⟨.iaddr 1 (.t 62) (.c (.int .i64 0)), (some 63), none, []⟩ :: ⟨.load 1 false (.t 63), (some 64), none, []⟩ :: L126_36
theorem v126_37 : wpS P L126_37 T L (rdy h) K = wpS P (⟨.iaddr 1 (.t 62) (.c (.int .i64 0)), (some 63), none, []⟩ :: ⟨.load 1 false (.t 63), (some 64), none, []⟩ :: L126_36) T L (rdy h) K := rfl
def L126_38 : List AStep := ⟨.faddr 1 (.t 9), (some 61), none, []⟩ :: ⟨.load 1 false (.t 61), (some 62), none, []⟩ :: L126_37
theorem v126_38 : wpS P L126_38 T L (rdy h) K = wpS P (⟨.faddr 1 (.t 9), (some 61), none, []⟩ :: ⟨.load 1 false (.t 61), (some 62), none, []⟩ :: L126_37) T L (rdy h) K := rfl
def L126_39 : List AStep := ⟨.faddr 0 (.t 8), (some 59), none, []⟩ :: ⟨.load 1 false (.t 59), (some 60), none, []⟩ :: L126_38
theorem v126_39 : wpS P L126_39 T L (rdy h) K = wpS P (⟨.faddr 0 (.t 8), (some 59), none, []⟩ :: ⟨.load 1 false (.t 59), (some 60), none, []⟩ :: L126_38) T L (rdy h) K := rfl
def L126_40 : List AStep := ⟨.faddr 1 (.t 5), (some 57), none, []⟩ :: ⟨.load 1 false (.t 57), (some 58), none, []⟩ :: L126_39
theorem v126_40 : wpS P L126_40 T L (rdy h) K = wpS P (⟨.faddr 1 (.t 5), (some 57), none, []⟩ :: ⟨.load 1 false (.t 57), (some 58), none, []⟩ :: L126_39) T L (rdy h) K := rfl
def L126_41 : List AStep := [⟨.bin .eql (.t 71) (.c (.int .i64 4)), (some 72), none, []⟩, ⟨.mov (.t 72), (some 69), none, []⟩]
theorem v126_41 : wpS P L126_41 T L (rdy h) K = wpS P ([⟨.bin .eql (.t 71) (.c (.int .i64 4)), (some 72), none, []⟩, ⟨.mov (.t 72), (some 69), none, []⟩]) T L (rdy h) K := rfl
def L126_42 : List AStep := ⟨.faddr 1 (.t 8), (some 70), none, []⟩ :: ⟨.load 1 false (.t 70), (some 71), none, []⟩ :: L126_41
theorem v126_42 : wpS P L126_42 T L (rdy h) K = wpS P (⟨.faddr 1 (.t 8), (some 70), none, []⟩ :: ⟨.load 1 false (.t 70), (some 71), none, []⟩ :: L126_41) T L (rdy h) K := rfl
def L126_43 : List AStep := [⟨.store 1 (.t 78) (.t 77), none, none, []⟩]
theorem v126_43 : wpS P L126_43 T L (rdy h) K = wpS P ([⟨.store 1 (.t 78) (.t 77), none, none, []⟩]) T L (rdy h) K := rfl
def L126_44 : List AStep := ⟨.append 86 2 24 (.t 74) (.t 76), (some 77), none, []⟩ :: ⟨.faddr 1 (.t 5), (some 78), none, []⟩ :: L126_43
theorem v126_44 : wpS P L126_44 T L (rdy h) K = wpS P (⟨.append 86 2 24 (.t 74) (.t 76), (some 77), none, []⟩ :: ⟨.faddr 1 (.t 5), (some 78), none, []⟩ :: L126_43) T L (rdy h) K := rfl
def L126_45 : List AStep := ⟨.faddr 2 (.t 9), (some 75), none, []⟩ :: ⟨.load 1 false (.t 75), (some 76), none, []⟩ :: L126_44
theorem v126_45 : wpS P L126_45 T L (rdy h) K = wpS P (⟨.faddr 2 (.t 9), (some 75), none, []⟩ :: ⟨.load 1 false (.t 75), (some 76), none, []⟩ :: L126_44) T L (rdy h) K := rfl
def L126_46 : List AStep := ⟨.faddr 1 (.t 5), (some 73), none, []⟩ :: ⟨.load 1 false (.t 73), (some 74), none, []⟩ :: L126_45
theorem v126_46 : wpS P L126_46 T L (rdy h) K = wpS P (⟨.faddr 1 (.t 5), (some 73), none, []⟩ :: ⟨.load 1 false (.t 73), (some 74), none, []⟩ :: L126_45) T L (rdy h) K := rfl
def L126_47 : List AStep := [⟨.bin .add (.t 13) (.c (.int .i64 1)), (some 79), none, []⟩, ⟨.mov (.t 79), (some 13), none, []⟩]
theorem v126_47 : wpS P L126_47 T L (rdy h) K = wpS P ([⟨.bin .add (.t 13) (.c (.int .i64 1)), (some 79), none, []⟩, ⟨.mov (.t 79), (some 13), none, []⟩]) T L (rdy h) K := rfl
def L126_48 : List AStep := [⟨.store 2 (.t 4) (.t 81), none, none, []⟩]
theorem v126_48 : wpS P L126_48 T L (rdy h) K = wpS P ([⟨.store 2 (.t 4) (.t 81), none, none, []⟩]) T L (rdy h) K := rfl
def L126_49 : List AStep := ⟨.load 2 true (.t 5), (some 80), none, []⟩ :: ⟨.call 77 [(.t 80)], (some 81), none, []⟩ :: L126_48
theorem v126_49 : wpS P L126_49 T L (rdy h) K = wpS P (⟨.load 2 true (.t 5), (some 80), none, []⟩ :: ⟨.call 77 [(.t 80)], (some 81), none, []⟩ :: L126_48) T L (rdy h) K := rfl
def C126_0 : ACode := .cond (.t 14) .skip (.exit 0)
theorem u126_0 : wpC P C126_0 T L (rdy h) Q = wpC P (.cond (.t 14) .skip (.exit 0)) T L (rdy h) Q := rfl
def C126_1 : ACode := .cond (.t 23) .skip (.reg L126_20)
theorem u126_1 : wpC P C126_1 T L (rdy h) Q = wpC P (.cond (.t 23) .skip (.reg L126_20)) T L (rdy h) Q := rfl
def C126_2 : ACode := .seq (.reg L126_18) C126_1
theorem u126_2 : wpC P C126_2 T L (rdy h) Q = wpC P (.seq (.reg L126_18) C126_1) T L (rdy h) Q := rfl
def C126_3 : ACode := .cond (.t 69) (.reg L126_46) .skip
theorem u126_3 : wpC P C126_3 T L (rdy h) Q = wpC P (.cond (.t 69) (.reg L126_46) .skip) T L (rdy h) Q := rfl
def C126_4 : ACode := .seq (.reg L126_42) C126_3
theorem u126_4 : wpC P C126_4 T L (rdy h) Q = wpC P (.seq (.reg L126_42) C126_3) T L (rdy h) Q := rfl
def C126_5 : ACode := .cond (.t 50) (.reg L126_40) C126_4
theorem u126_5 : wpC P C126_5 T L (rdy h) Q = wpC P (.cond (.t 50) (.reg L126_40) C126_4) T L (rdy h) Q := rfl
def C126_6 : ACode := .seq (.reg L126_33) C126_5
theorem u126_6 : wpC P C126_6 T L (rdy h) Q = wpC P (.seq (.reg L126_33) C126_5) T L (rdy h) Q := rfl
def C126_7 : ACode := .cond (.t 42) (.reg L126_29) C126_6
theorem u126_7 : wpC P C126_7 T L (rdy h) Q = wpC P (.cond (.t 42) (.reg L126_29) C126_6) T L (rdy h) Q := rfl
def C126_8 : ACode := .seq (.reg L126_28) C126_7
theorem u126_8 : wpC P C126_8 T L (rdy h) Q = wpC P (.seq (.reg L126_28) C126_7) T L (rdy h) Q := rfl
def C126_9 : ACode := .cond (.t 23) (.reg L126_24) C126_8
theorem u126_9 : wpC P C126_9 T L (rdy h) Q = wpC P (.cond (.t 23) (.reg L126_24) C126_8) T L (rdy h) Q := rfl
def C126_10 : ACode := .seq C126_2 C126_9
theorem u126_10 : wpC P C126_10 T L (rdy h) Q = wpC P (.seq C126_2 C126_9) T L (rdy h) Q := rfl
def C126_11 : ACode := .block 2 C126_10
theorem u126_11 : wpC P C126_11 T L (rdy h) Q = wpC P (.block 2 C126_10) T L (rdy h) Q := rfl
def C126_12 : ACode := .seq (.reg L126_13) C126_11
theorem u126_12 : wpC P C126_12 T L (rdy h) Q = wpC P (.seq (.reg L126_13) C126_11) T L (rdy h) Q := rfl
def C126_13 : ACode := .seq (.reg L126_9) C126_12
theorem u126_13 : wpC P C126_13 T L (rdy h) Q = wpC P (.seq (.reg L126_9) C126_12) T L (rdy h) Q := rfl
def C126_14 : ACode := .block 1 C126_13
theorem u126_14 : wpC P C126_14 T L (rdy h) Q = wpC P (.block 1 C126_13) T L (rdy h) Q := rfl
def C126_15 : ACode := .seq C126_14 (.reg L126_47)
theorem u126_15 : wpC P C126_15 T L (rdy h) Q = wpC P (.seq C126_14 (.reg L126_47)) T L (rdy h) Q := rfl
def C126_16 : ACode := .seq C126_0 C126_15
theorem u126_16 : wpC P C126_16 T L (rdy h) Q = wpC P (.seq C126_0 C126_15) T L (rdy h) Q := rfl
def C126_17 : ACode := .seq (.reg L126_6) C126_16
theorem u126_17 : wpC P C126_17 T L (rdy h) Q = wpC P (.seq (.reg L126_6) C126_16) T L (rdy h) Q := rfl
def C126_18 : ACode := .block 0 (.loop C126_17)
theorem u126_18 : wpC P C126_18 T L (rdy h) Q = wpC P (.block 0 (.loop C126_17)) T L (rdy h) Q := rfl
def C126_19 : ACode := .seq (.reg L126_5) C126_18
theorem u126_19 : wpC P C126_19 T L (rdy h) Q = wpC P (.seq (.reg L126_5) C126_18) T L (rdy h) Q := rfl
def C126_20 : ACode := .seq (.reg L126_49) .ret
theorem u126_20 : wpC P C126_20 T L (rdy h) Q = wpC P (.seq (.reg L126_49) .ret) T L (rdy h) Q := rfl
def C126_21 : ACode := .seq C126_19 C126_20
theorem u126_21 : wpC P C126_21 T L (rdy h) Q = wpC P (.seq C126_19 C126_20) T L (rdy h) Q := rfl
def C126_22 : ACode := .seq (.reg L126_3) C126_21
theorem u126_22 : wpC P C126_22 T L (rdy h) Q = wpC P (.seq (.reg L126_3) C126_21) T L (rdy h) Q := rfl
def C126_23 : ACode := .seq (.reg L126_2) C126_22
theorem u126_23 : wpC P C126_23 T L (rdy h) Q = wpC P (.seq (.reg L126_2) C126_22) T L (rdy h) Q := rfl
def C126_24 : ACode := .seq (.reg L126_1) C126_23
theorem u126_24 : wpC P C126_24 T L (rdy h) Q = wpC P (.seq (.reg L126_1) C126_23) T L (rdy h) Q := rfl
def F126 : AFunc := ⟨82, [.cell 4 2 true], C126_24⟩
theorem cF126 : compB Try.prog 126 = some F126 := by kernel_rfl
end
attribute [local go_sem ↓] u126_0 u126_1 u126_2 u126_3 u126_4 u126_5 u126_6 u126_7 u126_8 u126_9 u126_10 u126_11 u126_12 u126_13 u126_14 u126_15 u126_16 u126_17 u126_18 u126_19 u126_20 u126_21 u126_22 u126_23 u126_24 v126_0 v126_1 v126_2 v126_3 v126_4 v126_5 v126_6 v126_7 v126_8 v126_9 v126_10 v126_11 v126_12 v126_13 v126_14 v126_15 v126_16 v126_17 v126_18 v126_19 v126_20 v126_21 v126_22 v126_23 v126_24 v126_25 v126_26 v126_27 v126_28 v126_29 v126_30 v126_31 v126_32 v126_33 v126_34 v126_35 v126_36 v126_37 v126_38 v126_39 v126_40 v126_41 v126_42 v126_43 v126_44 v126_45 v126_46 v126_47 v126_48 v126_49
theorem c_unbind (l : List Param) (sl : List Slot) (rs : List RSlot) (q v : CV) (h : H) (hl : SlQ h (.one q) l) (ok1 : okSig l = true) (hs : RdY 115 3 86 h v rs sl.length (getY sl)) (hlen : sl.length = l.length) (so : SOk sl) :
    callK (bm Try.prog 126 [.agg [q], .agg [v]] h) fun r h' => Grow h h' ∧ ∃ p n, r = .agg [p, n] ∧ NwF h h' p n (unbF l sl) := by
  refine bm_of cF126 ?_
  have o := Ord.of ok1
  have hn := okSig_len ok1
  have z0 : NwF h h (.sl none 0 (some 0)) (.sl none 0 (some 0)) ⟨[], []⟩ := .nil
  have gz := Grow.refl h
  simp +contextual (maxSteps := 2000000) only [go_sem, Nat.reduceEqDiff, reduceCtorEq, Nat.reduceAdd, Nat.reduceLeDiff, F126, hl.len]
  refine wpC_loop (fun i T L h' => Grow h h' ∧ T 2 = .lp 2 0 ∧ (L 2).2 = [q] ∧ T 3 = .lp 3 0 ∧ (L 3).2 = [v] ∧ T 4 = .lp 4 0 ∧ (L 4).2 = [.sl none 0 (some 0), .sl none 0 (some 0)] ∧ T 5 = .lp 5 0 ∧ (∃ c d, (L 5).2 = [c, d] ∧ NwF h h' c d ⟨(unF l sl i).pl, (unF l sl i).nl⟩) ∧ T 6 = .v (.one (.bool (unF l sl i).opn)) ∧ T 11 = .v (.one q) ∧ T 12 = .v (.one (.int .i64 l.length)) ∧ T 13 = .v (.one (.int .i64 i))) l.length ?_ ?_ (Nat.zero_le _) ?_
  · rintro i T L h' hi ⟨g, t2, l2, t3, l3, t4, l4, t5, ⟨c, d, l5, x⟩, t6, t11, t12, tx⟩
    have k := hl.grow g
    have y := hs.grow g
    have hsl : i < sl.length := by omega
    have hrs : i < rs.length := by rw [y.len]; exact hsl
    have a := y.el i hrs
    rw [getY_eq hsl] at a
    have eg : rs[i].given = sl[i].given := a.given
    have yi : iaddrO 3 (.one v) (.one (.int .i64 i)) = some (.one (.ptr (some (elem 3 (.one v) i)))) := y.out.iaddr hrs
    have yw := y.out.whole hrs
    have es := fun h => c_placed l[i] h
    simp only [encQ] at es
    have es2 := fun h => c_single l[i] h
    simp only [encQ] at es2
    have u := UOk.unF (i := i) (okSig_name ok1) so hlen (by omega)
    have s1 := so.list _ (List.getElem_mem hsl)
    have s2 := so.pairs _ (List.getElem_mem hsl)
    have s3 := so.one _ (List.getElem_mem hsl)
    have kd := o.kind i hi
    have a1 := u.pl
    have a2 := u.nl
    rw [unF_next hi hsl]
    have nx : IntKind.i64.wrap ((i : Int) + 1) = ((i + 1 : Nat) : Int) := wrap_next hi (by omega)
    unfold unStep
    by_cases k2 : l[i].kind = 2
    · rw [if_pos k2]
      have d2 : decide (l[i].kind = 2) = true := decide_eq_true k2
      have b1 : byPlace l[i] = false := by simp [byPlace, k2]
      simp +contextual (maxSteps := 2000000) only [go_sem, Nat.reduceEqDiff, reduceCtorEq, Nat.reduceAdd, Nat.reduceLeDiff, t2, l2, t3, l3, t4, l4, t5, l5, t6, t11, t12, tx, k.len, k.iaddr hi, k.whole hi, encQ, encY, lt_true hi, yi, yw, d2, es, es2, b1]
      refine wp_append lenI x.pl a.list g (by simp only; omega) ?_
      intro h4 s4 g4 n4 st4 hb4
      obtain ⟨c4, rfl⟩ := n4.one
      have x4 := (x).appPl n4 st4 hb4
      simp +contextual (maxSteps := 2000000) only [go_sem, Nat.reduceEqDiff, reduceCtorEq, Nat.reduceAdd, Nat.reduceLeDiff, t2, l2, t3, l3, t4, l4, t5, l5, t6, t11, t12, tx]
      exact ⟨g4, ⟨c4, d, rfl, x4⟩, by rw [nx]⟩
    rw [if_neg k2]
    have d2 : decide (l[i].kind = 2) = false := decide_eq_false k2
    by_cases k4 : l[i].kind = 4
    · rw [if_pos k4]
      have d4 : decide (l[i].kind = 4) = true := decide_eq_true k4
      have b1 : byPlace l[i] = false := by simp [byPlace, k4]
      have b2 : single l[i] = false := by simp [single, byPlace, byName, k4]
      simp +contextual (maxSteps := 2000000) only [go_sem, Nat.reduceEqDiff, reduceCtorEq, Nat.reduceAdd, Nat.reduceLeDiff, t2, l2, t3, l3, t4, l4, t5, l5, t6, t11, t12, tx, k.len, k.iaddr hi, k.whole hi, encQ, encY, lt_true hi, yi, yw, d2, d4, es, es2, b1, b2]
      refine wp_append lenP x.nl a.pairs g (by simp only; omega) ?_
      intro h4 s4 g4 n4 st4 hb4
      obtain ⟨d4, rfl⟩ := n4.one
      have x4 := (x).appNl n4 st4 hb4
      simp +contextual (maxSteps := 2000000) only [go_sem, Nat.reduceEqDiff, reduceCtorEq, Nat.reduceAdd, Nat.reduceLeDiff, t2, l2, t3, l3, t4, l4, t5, l5, t6, t11, t12, tx]
      exact ⟨g4, ⟨c, d4, rfl, x4⟩, by rw [nx]⟩
    rw [if_neg k4]
    have d4 : decide (l[i].kind = 4) = false := decide_eq_false k4
    have b2 := single_iff kd k2 k4
    cases bg : sl[i].given with
    | false =>
      rw [if_pos rfl]
      rw [bg] at eg
      cases b1 : byPlace l[i] with
      | false =>
        rw [Bool.not_false, Bool.and_true]
        cases bo : (unF l sl i).opn with
        | false =>
          rw [bo] at t6
          simp +contextual (maxSteps := 2000000) only [go_sem, Nat.reduceEqDiff, reduceCtorEq, Nat.reduceAdd, Nat.reduceLeDiff, t2, l2, t3, l3, t4, l4, t5, l5, t6, t11, t12, tx, k.len, k.iaddr hi, k.whole hi, encQ, encY, lt_true hi, yi, yw, d2, d4, es, es2, b1, b2, eg]
          exact ⟨g, ⟨c, d, rfl, x⟩, by rw [nx]⟩
        | true =>
          rw [bo] at t6
          simp +contextual (maxSteps := 2000000) only [go_sem, Nat.reduceEqDiff, reduceCtorEq, Nat.reduceAdd, Nat.reduceLeDiff, t2, l2, t3, l3, t4, l4, t5, l5, t6, t11, t12, tx, k.len, k.iaddr hi, k.whole hi, encQ, encY, lt_true hi, yi, yw, d2, d4, es, es2, b1, b2, eg]
          exact ⟨g, ⟨c, d, rfl, x⟩, by rw [nx]⟩
      | true =>
        rw [Bool.not_true, Bool.and_false]
        cases bo : (unF l sl i).opn with
        | false =>
          rw [bo] at t6
          simp +contextual (maxSteps := 2000000) only [go_sem, Nat.reduceEqDiff, reduceCtorEq, Nat.reduceAdd, Nat.reduceLeDiff, t2, l2, t3, l3, t4, l4, t5, l5, t6, t11, t12, tx, k.len, k.iaddr hi, k.whole hi, encQ, encY, lt_true hi, yi, yw, d2, d4, es, es2, b1, b2, eg]
          exact ⟨g, ⟨c, d, rfl, x⟩, by rw [nx]⟩
        | true =>
          rw [bo] at t6
          simp +contextual (maxSteps := 2000000) only [go_sem, Nat.reduceEqDiff, reduceCtorEq, Nat.reduceAdd, Nat.reduceLeDiff, t2, l2, t3, l3, t4, l4, t5, l5, t6, t11, t12, tx, k.len, k.iaddr hi, k.whole hi, encQ, encY, lt_true hi, yi, yw, d2, d4, es, es2, b1, b2, eg]
          exact ⟨g, ⟨c, d, rfl, x⟩, by rw [nx]⟩
    | true =>
      rw [if_neg (by simp)]
      have s3 := s3 bg
      rw [bg] at eg
      have hz : 0 < sl[i].list.length := by omega
      have li : iaddrO 1 (.one rs[i].lv) (.one (.int .i64 0)) = some (.one (.ptr (some (elem 1 (.one rs[i].lv) 0)))) := a.list.iaddr hz
      have lo : loadO 1 false h' (.one (.ptr (some (elem 1 (.one rs[i].lv) 0)))) = some (.one (.int .i64 (sl[i].list.headD 0))) := by
        rw [a.list.oneO hz, encI_0]
        rw [head_at s3 hz]
        rfl
      cases b1 : byPlace l[i] with
      | false =>
        rw [Bool.false_and, if_neg (by simp)]
        cases bo : (unF l sl i).opn with
        | false =>
          rw [bo] at t6
          simp +contextual (maxSteps := 2000000) only [go_sem, Nat.reduceEqDiff, reduceCtorEq, Nat.reduceAdd, Nat.reduceLeDiff, t2, l2, t3, l3, t4, l4, t5, l5, t6, t11, t12, tx, k.len, k.iaddr hi, k.whole hi, encQ, encY, lt_true hi, yi, yw, d2, d4, es, es2, b1, b2, eg, li, lo]
          refine wp_lit (enc := encP) (k := 2) (l := [⟨l[i].name, sl[i].list.headD 0⟩]) rfl rfl ?_
          intro h3 w3 g3 n3 _
          simp +contextual (maxSteps := 2000000) only [go_sem, Nat.reduceEqDiff, reduceCtorEq, Nat.reduceAdd, Nat.reduceLeDiff, t2, l2, t3, l3, t4, l4, t5, l5, t6, t11, t12, tx]
          refine wp_append lenP (x.nl.grow g3) (n3.sl lenP) (g.trans g3) (by simp; omega) ?_
          intro h4 s4 g4 n4 st4 hb4
          obtain ⟨d4, rfl⟩ := n4.one
          have x4 := (x.grow g3).appNl n4 st4 hb4
          simp +contextual (maxSteps := 2000000) only [go_sem, Nat.reduceEqDiff, reduceCtorEq, Nat.reduceAdd, Nat.reduceLeDiff, t2, l2, t3, l3, t4, l4, t5, l5, t6, t11, t12, tx]
          exact ⟨g4, ⟨c, d4, rfl, x4⟩, by rw [nx]⟩
        | true =>
          rw [bo] at t6
          simp +contextual (maxSteps := 2000000) only [go_sem, Nat.reduceEqDiff, reduceCtorEq, Nat.reduceAdd, Nat.reduceLeDiff, t2, l2, t3, l3, t4, l4, t5, l5, t6, t11, t12, tx, k.len, k.iaddr hi, k.whole hi, encQ, encY, lt_true hi, yi, yw, d2, d4, es, es2, b1, b2, eg, li, lo]
          refine wp_lit (enc := encP) (k := 2) (l := [⟨l[i].name, sl[i].list.headD 0⟩]) rfl rfl ?_
          intro h3 w3 g3 n3 _
          simp +contextual (maxSteps := 2000000) only [go_sem, Nat.reduceEqDiff, reduceCtorEq, Nat.reduceAdd, Nat.reduceLeDiff, t2, l2, t3, l3, t4, l4, t5, l5, t6, t11, t12, tx]
          refine wp_append lenP (x.nl.grow g3) (n3.sl lenP) (g.trans g3) (by simp; omega) ?_
          intro h4 s4 g4 n4 st4 hb4
          obtain ⟨d4, rfl⟩ := n4.one
          have x4 := (x.grow g3).appNl n4 st4 hb4
          simp +contextual (maxSteps := 2000000) only [go_sem, Nat.reduceEqDiff, reduceCtorEq, Nat.reduceAdd, Nat.reduceLeDiff, t2, l2, t3, l3, t4, l4, t5, l5, t6, t11, t12, tx]
          exact ⟨g4, ⟨c, d4, rfl, x4⟩, by rw [nx]⟩
      | true =>
        rw [Bool.true_and]
        cases bo : (unF l sl i).opn with
        | false =>
          rw [bo] at t6
          rw [if_neg (by simp)]
          simp +contextual (maxSteps := 2000000) only [go_sem, Nat.reduceEqDiff, reduceCtorEq, Nat.reduceAdd, Nat.reduceLeDiff, t2, l2, t3, l3, t4, l4, t5, l5, t6, t11, t12, tx, k.len, k.iaddr hi, k.whole hi, encQ, encY, lt_true hi, yi, yw, d2, d4, es, es2, b1, b2, eg, li, lo]
          refine wp_lit (enc := encP) (k := 2) (l := [⟨l[i].name, sl[i].list.headD 0⟩]) rfl rfl ?_
          intro h3 w3 g3 n3 _
          simp +contextual (maxSteps := 2000000) only [go_sem, Nat.reduceEqDiff, reduceCtorEq, Nat.reduceAdd, Nat.reduceLeDiff, t2, l2, t3, l3, t4, l4, t5, l5, t6, t11, t12, tx]
          refine wp_append lenP (x.nl.grow g3) (n3.sl lenP) (g.trans g3) (by simp; omega) ?_
          intro h4 s4 g4 n4 st4 hb4
          obtain ⟨d4, rfl⟩ := n4.one
          have x4 := (x.grow g3).appNl n4 st4 hb4
          simp +contextual (maxSteps := 2000000) only [go_sem, Nat.reduceEqDiff, reduceCtorEq, Nat.reduceAdd, Nat.reduceLeDiff, t2, l2, t3, l3, t4, l4, t5, l5, t6, t11, t12, tx]
          exact ⟨g4, ⟨c, d4, rfl, x4⟩, by rw [nx]⟩
        | true =>
          rw [bo] at t6
          rw [if_pos rfl]
          simp +contextual (maxSteps := 2000000) only [go_sem, Nat.reduceEqDiff, reduceCtorEq, Nat.reduceAdd, Nat.reduceLeDiff, t2, l2, t3, l3, t4, l4, t5, l5, t6, t11, t12, tx, k.len, k.iaddr hi, k.whole hi, encQ, encY, lt_true hi, yi, yw, d2, d4, es, es2, b1, b2, eg]
          have al := a.list
          rw [head_one s3] at al
          refine wp_append lenI x.pl al g (by simp; omega) ?_
          intro h4 s4 g4 n4 st4 hb4
          obtain ⟨c4, rfl⟩ := n4.one
          have x4 := (x).appPl n4 st4 hb4
          simp +contextual (maxSteps := 2000000) only [go_sem, Nat.reduceEqDiff, reduceCtorEq, Nat.reduceAdd, Nat.reduceLeDiff, t2, l2, t3, l3, t4, l4, t5, l5, t6, t11, t12, tx]
          exact ⟨g4, ⟨c4, d, rfl, x4⟩, by rw [nx]⟩
  · rintro T L h' ⟨g, t2, l2, t3, l3, t4, l4, t5, ⟨c, d, l5, x⟩, t6, t11, t12, tx⟩
    simp +contextual (maxSteps := 2000000) only [go_sem, Nat.reduceEqDiff, reduceCtorEq, Nat.reduceAdd, Nat.reduceLeDiff, t2, l2, t3, l3, t4, l4, t5, l5, t6, t11, t12, tx, lt_false]
    have u := UOk.unF (i := l.length) (okSig_name ok1) so hlen (by omega)
    have z : NwF h h' c d (unbF l sl) := x
    have sm : smF (unbF l sl) := ⟨by have := u.pl; unfold unbF big; simp only; omega, by have := u.nl; unfold unbF big; simp only; omega, fun x hx => by have := u.nm x hx; unfold big; omega⟩
    refine wp_call (c_copyOfF (unbF l sl) c d h' z.sl sm) ?_
    rintro r h5 ⟨g5, p', n', rfl, x5⟩
    have x6 := x5.from g.n
    simp +contextual (maxSteps := 2000000) only [go_sem, Nat.reduceEqDiff, reduceCtorEq, Nat.reduceAdd, Nat.reduceLeDiff, t2, l2, t3, l3, t4, l4, t5, l5, t6, t11, t12, tx]
    exact gcK_of ⟨g.trans g5, _, _, rfl, x6⟩ (fun hs _ => ⟨Grow.refl h, _, _, rfl, x6.scalar hs h⟩)
  · simp +contextual (maxSteps := 2000000) only [go_sem, Nat.reduceEqDiff, reduceCtorEq, Nat.reduceAdd, Nat.reduceLeDiff]
    exact ⟨gz, ⟨_, _, rfl, z0⟩, rfl, rfl⟩
section
variable {P : Program} {T : Tb} {L : Lb} {h : H} {Q : PostC} {K : Post}
/-! spec.CanonFlat -/
def L47_0 : List AStep := [⟨.alloc 30 [(.sl none 0 (some 0)), (.sl none 0 (some 0))], (some 4), none, []⟩, ⟨.mov (.c (.bool false)), (some 5), none, []⟩]
theorem v47_0 : wpS P L47_0 T L (rdy h) K = wpS P ([⟨.alloc 30 [(.sl none 0 (some 0)), (.sl none 0 (some 0))], (some 4), none, []⟩, ⟨.mov (.c (.bool false)), (some 5), none, []⟩]) T L (rdy h) K := rfl
def L47_1 : List AStep := ⟨.box 51 (.t 0), (some 2), none, []⟩ :: ⟨.box 30 (.t 1), (some 3), none, []⟩ :: L47_0
theorem v47_1 : wpS P L47_1 T L (rdy h) K = wpS P (⟨.box 51 (.t 0), (some 2), none, []⟩ :: ⟨.box 30 (.t 1), (some 3), none, []⟩ :: L47_0) T L (rdy h) K := rfl
def L47_2 : List AStep := [⟨.mov (.t 13), (some 7), none, []⟩]
theorem v47_2 : wpS P L47_2 T L (rdy h) K = wpS P ([⟨.mov (.t 13), (some 7), none, []⟩]) T L (rdy h) K := rfl
def L47_3 : List AStep := ⟨.alloc 111 [(.sl none 0 (some 0))], (some 6), none, []⟩ :: ⟨.store 1 (.t 6) (.t 12), none, none, []⟩ :: L47_2
theorem v47_3 : wpS P L47_3 T L (rdy h) K = wpS P (⟨.alloc 111 [(.sl none 0 (some 0))], (some 6), none, []⟩ :: ⟨.store 1 (.t 6) (.t 12), none, none, []⟩ :: L47_2) T L (rdy h) K := rfl
def L47_4 : List AStep := ⟨.extract (.t 8) 0, (some 12), none, []⟩ :: ⟨.extract (.t 8) 1, (some 13), none, []⟩ :: L47_3
theorem v47_4 : wpS P L47_4 T L (rdy h) K = wpS P (⟨.extract (.t 8) 0, (some 12), none, []⟩ :: ⟨.extract (.t 8) 1, (some 13), none, []⟩ :: L47_3) T L (rdy h) K := rfl
def L47_5 : List AStep := ⟨.call 123 [(.t 9), (.t 10)], (some 11), none, []⟩ :: ⟨.mov (.t 11), (some 8), none, []⟩ :: L47_4
theorem v47_5 : wpS P L47_5 T L (rdy h) K = wpS P (⟨.call 123 [(.t 9), (.t 10)], (some 11), none, []⟩ :: ⟨.mov (.t 11), (some 8), none, []⟩ :: L47_4) T L (rdy h) K := rfl
def L47_6 : List AStep := ⟨.load 1 true (.t 2), (some 9), none, []⟩ :: ⟨.load 2 true (.t 3), (some 10), none, []⟩ :: L47_5
theorem v47_6 : wpS P L47_6 T L (rdy h) K = wpS P (⟨.load 1 true (.t 2), (some 9), none, []⟩ :: ⟨.load 2 true (.t 3), (some 10), none, []⟩ :: L47_5) T L (rdy h) K := rfl
def L47_7 : List AStep := [⟨.mov (.t 7), (some 14), none, []⟩, ⟨.not (.t 14), (some 15), none, []⟩]
theorem v47_7 : wpS P L47_7 T L (rdy h) K = wpS P ([⟨.mov (.t 7), (some 14), none, []⟩, ⟨.not (.t 14), (some 15), none, []⟩]) T L (rdy h) K := rfl
def L47_8 : List AStep := [⟨.mov (.c (.bool false)), (some 5), none, []⟩]
theorem v47_8 : wpS P L47_8 T L (rdy h) K = wpS P ([⟨.mov (.c (.bool false)), (some 5), none, []⟩]) T L (rdy h) K := rfl
def L47_9 : List AStep := ⟨.build [(.sl none 0 (some 0)), (.sl none 0 (some 0))] [], (some 16), none, []⟩ :: ⟨.store 2 (.t 4) (.t 16), none, none, []⟩ :: L47_8
theorem v47_9 : wpS P L47_9 T L (rdy h) K = wpS P (⟨.build [(.sl none 0 (some 0)), (.sl none 0 (some 0))] [], (some 16), none, []⟩ :: ⟨.store 2 (.t 4) (.t 16), none, none, []⟩ :: L47_8) T L (rdy h) K := rfl
def L47_10 : List AStep := [⟨.mov (.c (.bool true)), (some 5), none, []⟩]
theorem v47_10 : wpS P L47_10 T L (rdy h) K = wpS P ([⟨.mov (.c (.bool true)), (some 5), none, []⟩]) T L (rdy h) K := rfl
def L47_11 : List AStep := ⟨.call 124 [(.t 17), (.t 18)], (some 19), none, []⟩ :: ⟨.store 2 (.t 4) (.t 19), none, none, []⟩ :: L47_10
theorem v47_11 : wpS P L47_11 T L (rdy h) K = wpS P (⟨.call 124 [(.t 17), (.t 18)], (some 19), none, []⟩ :: ⟨.store 2 (.t 4) (.t 19), none, none, []⟩ :: L47_10) T L (rdy h) K := rfl
def L47_12 : List AStep := ⟨.load 1 true (.t 2), (some 17), none, []⟩ :: ⟨.load 1 true (.t 6), (some 18), none, []⟩ :: L47_11
theorem v47_12 : wpS P L47_12 T L (rdy h) K = wpS P (⟨.load 1 true (.t 2), (some 17), none, []⟩ :: ⟨.load 1 true (.t 6), (some 18), none, []⟩ :: L47_11) T L (rdy h) K := rfl
def C47_0 : ACode := .seq (.reg L47_9) .ret
theorem u47_0 : wpC P C47_0 T L (rdy h) Q = wpC P (.seq (.reg L47_9) .ret) T L (rdy h) Q := rfl
def C47_1 : ACode := .cond (.t 15) C47_0 .skip
theorem u47_1 : wpC P C47_1 T L (rdy h) Q = wpC P (.cond (.t 15) C47_0 .skip) T L (rdy h) Q := rfl
def C47_2 : ACode := .seq (.reg L47_7) C47_1
theorem u47_2 : wpC P C47_2 T L (rdy h) Q = wpC P (.seq (.reg L47_7) C47_1) T L (rdy h) Q := rfl
def C47_3 : ACode := .seq (.reg L47_12) .ret
theorem u47_3 : wpC P C47_3 T L (rdy h) Q = wpC P (.seq (.reg L47_12) .ret) T L (rdy h) Q := rfl
def C47_4 : ACode := .seq C47_2 C47_3
theorem u47_4 : wpC P C47_4 T L (rdy h) Q = wpC P (.seq C47_2 C47_3) T L (rdy h) Q := rfl
def C47_5 : ACode := .seq (.reg L47_6) C47_4
theorem u47_5 : wpC P C47_5 T L (rdy h) Q = wpC P (.seq (.reg L47_6) C47_4) T L (rdy h) Q := rfl
def C47_6 : ACode := .seq (.reg L47_1) C47_5
theorem u47_6 : wpC P C47_6 T L (rdy h) Q = wpC P (.seq (.reg L47_1) C47_5) T L (rdy h) Q := rfl
def F47 : AFunc := ⟨20, [.cell 4 2 true, .tmp 5], C47_6⟩
theorem cF47 : compB Try.prog 47 = some F47 := by kernel_rfl
end
attribute [local go_sem ↓] u47_0 u47_1 u47_2 u47_3 u47_4 u47_5 u47_6 v47_0 v47_1 v47_2 v47_3 v47_4 v47_5 v47_6 v47_7 v47_8 v47_9 v47_10 v47_11 v47_12
theorem k_sCanonFlat (l : List Param) (f : Flat) (q p n : CV) (h : H) (hl : SlG h q l) (hf : SlF h p n f) (hn : miniG l) (hm : miniF f) :
    callK (bm Try.prog 47 [.agg [q], .agg [p, n]] h) fun r h' => Grow h h' ∧ ∃ p' n', r = .tup [.agg [p', n'], .one (.bool (acceptsF l f))] ∧ NwF h h' p' n' (canonF l f) := by
  refine bm_of cF47 ?_
  simp +contextual (maxSteps := 2000000) only [go_sem, Nat.reduceEqDiff, reduceCtorEq, Nat.reduceAdd, Nat.reduceLeDiff, F47]
  refine wp_call (k_sBind l f q p n h hl hf hn hm) ?_
  rintro r h1 ⟨g1, v, rs, rfl, x⟩
  unfold canonF
  unfold bindF at x
  cases b1 : acceptsF l f with
  | false =>
    simp +contextual (maxSteps := 2000000) only [go_sem, Nat.reduceEqDiff, reduceCtorEq, Nat.reduceAdd, Nat.reduceLeDiff, if_false]
    exact gcK_of ⟨g1, _, _, rfl, .nil⟩ (fun hs _ => ⟨Grow.refl h, _, _, rfl, .nil⟩)
  | true =>
    rw [if_pos b1] at x
    obtain ⟨ok1, ok2⟩ := fits_ok (accepts_fits b1)
    simp +contextual (maxSteps := 2000000) only [go_sem, Nat.reduceEqDiff, reduceCtorEq, Nat.reduceAdd, Nat.reduceLeDiff, if_true]
    refine wp_call (c_unbound l (boundS l f) rs q v h1 (hl.out.grow g1) ok1 x.out.rd boundS_len (SOk.bound ok2)) ?_
    rintro r h2 ⟨g2, p', n', rfl, x2⟩
    have x3 := x2.from g1.n
    simp +contextual (maxSteps := 2000000) only [go_sem, Nat.reduceEqDiff, reduceCtorEq, Nat.reduceAdd, Nat.reduceLeDiff]
    exact gcK_of ⟨g1.trans g2, _, _, rfl, x3⟩ (fun hs _ => ⟨Grow.refl h, _, _, rfl, x3.scalar (by simpa [AV.scalar, AV.scalars, CV.scalar] using hs) h⟩)
section
variable {P : Program} {T : Tb} {L : Lb} {h : H} {Q : PostC} {K : Post}
/-! impl.CanonFlat -/
def L49_0 : List AStep := [⟨.alloc 30 [(.sl none 0 (some 0)), (.sl none 0 (some 0))], (some 4), none, []⟩, ⟨.mov (.c (.bool false)), (some 5), none, []⟩]
theorem v49_0 : wpS P L49_0 T L (rdy h) K = wpS P ([⟨.alloc 30 [(.sl none 0 (some 0)), (.sl none 0 (some 0))], (some 4), none, []⟩, ⟨.mov (.c (.bool false)), (some 5), none, []⟩]) T L (rdy h) K := rfl
def L49_1 : List AStep := ⟨.box 51 (.t 0), (some 2), none, []⟩ :: ⟨.box 30 (.t 1), (some 3), none, []⟩ :: L49_0
theorem v49_1 : wpS P L49_1 T L (rdy h) K = wpS P (⟨.box 51 (.t 0), (some 2), none, []⟩ :: ⟨.box 30 (.t 1), (some 3), none, []⟩ :: L49_0) T L (rdy h) K := rfl
def L49_2 : List AStep := [⟨.mov (.t 13), (some 7), none, []⟩]
theorem v49_2 : wpS P L49_2 T L (rdy h) K = wpS P ([⟨.mov (.t 13), (some 7), none, []⟩]) T L (rdy h) K := rfl
def L49_3 : List AStep := ⟨.alloc 111 [(.sl none 0 (some 0))], (some 6), none, []⟩ :: ⟨.store 1 (.t 6) (.t 12), none, none, []⟩ :: L49_2
theorem v49_3 : wpS P L49_3 T L (rdy h) K = wpS P (⟨.alloc 111 [(.sl none 0 (some 0))], (some 6), none, []⟩ :: ⟨.store 1 (.t 6) (.t 12), none, none, []⟩ :: L49_2) T L (rdy h) K := rfl
def L49_4 : List AStep := ⟨.extract (.t 8) 0, (some 12), none, []⟩ :: ⟨.extract (.t 8) 1, (some 13), none, []⟩ :: L49_3
theorem v49_4 : wpS P L49_4 T L (rdy h) K = wpS P (⟨.extract (.t 8) 0, (some 12), none, []⟩ :: ⟨.extract (.t 8) 1, (some 13), none, []⟩ :: L49_3) T L (rdy h) K := rfl
def L49_5 : List AStep := ⟨.call 72 [(.t 9), (.t 10)], (some 11), none, []⟩ :: ⟨.mov (.t 11), (some 8), none, []⟩ :: L49_4
theorem v49_5 : wpS P L49_5 T L (rdy h) K = wpS P (⟨.call 72 [(.t 9), (.t 10)], (some 11), none, []⟩ :: ⟨.mov (.t 11), (some 8), none, []⟩ :: L49_4) T L (rdy h) K := rfl
def L49_6 : List AStep := ⟨.load 1 true (.t 2), (some 9), none, []⟩ :: ⟨.load 2 true (.t 3), (some 10), none, []⟩ :: L49_5
theorem v49_6 : wpS P L49_6 T L (rdy h) K = wpS P (⟨.load 1 true (.t 2), (some 9), none, []⟩ :: ⟨.load 2 true (.t 3), (some 10), none, []⟩ :: L49_5) T L (rdy h) K := rfl
def L49_7 : List AStep := [⟨.mov (.t 7), (some 14), none, []⟩, ⟨.not (.t 14), (some 15), none, []⟩]
theorem v49_7 : wpS P L49_7 T L (rdy h) K = wpS P ([⟨.mov (.t 7), (some 14), none, []⟩, ⟨.not (.t 14), (some 15), none, []⟩]) T L (rdy h) K := rfl
def L49_8 : List AStep := [⟨.mov (.c (.bool false)), (some 5), none, []⟩]
theorem v49_8 : wpS P L49_8 T L (rdy h) K = wpS P ([⟨.mov (.c (.bool false)), (some 5), none, []⟩]) T L (rdy h) K := rfl
def L49_9 : List AStep := ⟨.build [(.sl none 0 (some 0)), (.sl none 0 (some 0))] [], (some 16), none, []⟩ :: ⟨.store 2 (.t 4) (.t 16), none, none, []⟩ :: L49_8
theorem v49_9 : wpS P L49_9 T L (rdy h) K = wpS P (⟨.build [(.sl none 0 (some 0)), (.sl none 0 (some 0))] [], (some 16), none, []⟩ :: ⟨.store 2 (.t 4) (.t 16), none, none, []⟩ :: L49_8) T L (rdy h) K := rfl
def L49_10 : List AStep := [⟨.mov (.c (.bool true)), (some 5), none, []⟩]
theorem v49_10 : wpS P L49_10 T L (rdy h) K = wpS P ([⟨.mov (.c (.bool true)), (some 5), none, []⟩]) T L (rdy h) K := rfl
def L49_11 : List AStep := ⟨.call 126 [(.t 17), (.t 18)], (some 19), none, []⟩ :: ⟨.store 2 (.t 4) (.t 19), none, none, []⟩ :: L49_10
theorem v49_11 : wpS P L49_11 T L (rdy h) K = wpS P (⟨.call 126 [(.t 17), (.t 18)], (some 19), none, []⟩ :: ⟨.store 2 (.t 4) (.t 19), none, none, []⟩ :: L49_10) T L (rdy h) K := rfl
def L49_12 : List AStep := ⟨.load 1 true (.t 2), (some 17), none, []⟩ :: ⟨.load 1 true (.t 6), (some 18), none, []⟩ :: L49_11
theorem v49_12 : wpS P L49_12 T L (rdy h) K = wpS P (⟨.load 1 true (.t 2), (some 17), none, []⟩ :: ⟨.load 1 true (.t 6), (some 18), none, []⟩ :: L49_11) T L (rdy h) K := rfl
def C49_0 : ACode := .seq (.reg L49_9) .ret
theorem u49_0 : wpC P C49_0 T L (rdy h) Q = wpC P (.seq (.reg L49_9) .ret) T L (rdy h) Q := rfl
def C49_1 : ACode := .cond (.t 15) C49_0 .skip
theorem u49_1 : wpC P C49_1 T L (rdy h) Q = wpC P (.cond (.t 15) C49_0 .skip) T L (rdy h) Q := rfl
def C49_2 : ACode := .seq (.reg L49_7) C49_1
theorem u49_2 : wpC P C49_2 T L (rdy h) Q = wpC P (.seq (.reg L49_7) C49_1) T L (rdy h) Q := rfl
def C49_3 : ACode := .seq (.reg L49_12) .ret
theorem u49_3 : wpC P C49_3 T L (rdy h) Q = wpC P (.seq (.reg L49_12) .ret) T L (rdy h) Q := rfl
def C49_4 : ACode := .seq C49_2 C49_3
theorem u49_4 : wpC P C49_4 T L (rdy h) Q = wpC P (.seq C49_2 C49_3) T L (rdy h) Q := rfl
def C49_5 : ACode := .seq (.reg L49_6) C49_4
theorem u49_5 : wpC P C49_5 T L (rdy h) Q = wpC P (.seq (.reg L49_6) C49_4) T L (rdy h) Q := rfl
def C49_6 : ACode := .seq (.reg L49_1) C49_5
theorem u49_6 : wpC P C49_6 T L (rdy h) Q = wpC P (.seq (.reg L49_1) C49_5) T L (rdy h) Q := rfl
def F49 : AFunc := ⟨20, [.cell 4 2 true, .tmp 5], C49_6⟩
theorem cF49 : compB Try.prog 49 = some F49 := by kernel_rfl
end
attribute [local go_sem ↓] u49_0 u49_1 u49_2 u49_3 u49_4 u49_5 u49_6 v49_0 v49_1 v49_2 v49_3 v49_4 v49_5 v49_6 v49_7 v49_8 v49_9 v49_10 v49_11 v49_12
theorem k_iCanonFlat (l : List Param) (f : Flat) (q p n : CV) (h : H) (hl : SlG h q l) (hf : SlF h p n f) (hn : miniG l) (hm : miniF f) :
    callK (bm Try.prog 49 [.agg [q], .agg [p, n]] h) fun r h' => Grow h h' ∧ ∃ p' n', r = .tup [.agg [p', n'], .one (.bool (acceptsF l f))] ∧ NwF h h' p' n' (canonF l f) := by
  refine bm_of cF49 ?_
  simp +contextual (maxSteps := 2000000) only [go_sem, Nat.reduceEqDiff, reduceCtorEq, Nat.reduceAdd, Nat.reduceLeDiff, F49]
  refine wp_call (k_iBind l f q p n h hl hf hn hm) ?_
  rintro r h1 ⟨g1, v, rs, rfl, x⟩
  unfold canonF
  unfold bindF at x
  cases b1 : acceptsF l f with
  | false =>
    simp +contextual (maxSteps := 2000000) only [go_sem, Nat.reduceEqDiff, reduceCtorEq, Nat.reduceAdd, Nat.reduceLeDiff, if_false]
    exact gcK_of ⟨g1, _, _, rfl, .nil⟩ (fun hs _ => ⟨Grow.refl h, _, _, rfl, .nil⟩)
  | true =>
    rw [if_pos b1] at x
    obtain ⟨ok1, ok2⟩ := fits_ok (accepts_fits b1)
    simp +contextual (maxSteps := 2000000) only [go_sem, Nat.reduceEqDiff, reduceCtorEq, Nat.reduceAdd, Nat.reduceLeDiff, if_true]
    refine wp_call (c_unbind l (boundS l f) rs q v h1 (hl.out.grow g1) ok1 x.out.rd boundS_len (SOk.bound ok2)) ?_
    rintro r h2 ⟨g2, p', n', rfl, x2⟩
    have x3 := x2.from g1.n
    simp +contextual (maxSteps := 2000000) only [go_sem, Nat.reduceEqDiff, reduceCtorEq, Nat.reduceAdd, Nat.reduceLeDiff]
    exact gcK_of ⟨g1.trans g2, _, _, rfl, x3⟩ (fun hs _ => ⟨Grow.refl h, _, _, rfl, x3.scalar (by simpa [AV.scalar, AV.scalars, CV.scalar] using hs) h⟩)
end Go.Proofs.Ytnphlonhogcedaa.Am
