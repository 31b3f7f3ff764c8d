/- Contracts: binding, of both sides. -/
import Derived.Test.YtekkimfdcbgcoacBJ
namespace Go.Proofs.Ytekkimfdcbgcoac.Am
open Go
set_option maxRecDepth 100000
set_option maxHeartbeats 4000000
set_option linter.unusedSimpArgs false
set_option linter.unusedVariables false
attribute [local go_sem ↓] bv_t bv_c ev_t ev_c put_same put_ne put_none kill_at pro_at lb_same lb_ne start_zero start_succ wpC_seq wpC_reg wpC_cond wpC_block wpC_skip wpC_exit wpC_ret thenQ_normal thenQ_exit thenQ_ret inBlk_normal inBlk_exit inBlk_ret wpS_nil wpS_step wpS_again wpS_guard wpO_mov wpO_load wpO_faddr wpO_nilCheck wpO_pick wpO_build wpO_bin wpO_eqb wpO_eqst wpO_eqnil wpO_not wpO_conv wpO_bytesStr wpO_iaddr wpO_idxStr wpO_field wpO_extract wpO_len wpO_lenStr wpO_cap wpO_min wpO_slice wpO_sliceStr wpO_alloc wpO_box wpO_store wpO_call wpO_callv wpO_mkfn wpO_buildSlice wpO_mkslice wpO_append wpO_appz proA_nil proA_cons tmpX_nil tmpX_tmp tmpX_cell doneB_normal doneB_ret agK_cons agK_nil agK_guard agG_tt agG_ff agG_tf agG_ft agG_undef pureB_load results_one results_two results_nil resBs_cons resBs_nil resB_tmp resB_cell
attribute [local go_sem] kill_v kill_lp_ne kill_lp_same pro_v pro_lp_same pro_lp_ne av_v av_lp optB_some optX_some valX_eq ldX_lp ldX_v faX_lp faX_v ncX_lp ncX_ptr ncX_fn boxK_one boxK_agg stL_some stK_lp_one stK_lp_agg stK_v_one stK_v_agg proM_v proM_lp callG_mk callVG_mk callvK_fn fnG_mk ptrsA_nil ptrsA_cons callH_some whenA_true whenA_false guardH_tt guardH_ff guardH_tf guardH_ft guardH_undef agV_one agV_agg lenO_sl lenStrO_str notO_bool pickO_bool convO_int eqbO_bool eqnilO_sl extractO_tup capO_sl minO_int loadL_one loadL_all storeL_eq fillA_nil fillA_one fillA_agg nat_ge neg_ge nat_lt neg_lt buildO bin_add bin_sub bin_mul bin_eql bin_neq bin_lss bin_leq bin_gtr bin_geq str_eql str_neq str_lss str_leq str_gtr str_geq retK_some endK_mk gcK_same gcK_int gcK_bool tupO_one tupO_agg rdy_self ib ii Option.map_none Option.map_some Option.some.injEq exists_eq_left' exists_eq_left ne_eq not_false_eq_true if_true if_false List.map_cons List.map_nil List.getElem?_cons_zero List.getElem?_cons_succ List.length_cons List.length_nil List.take_succ_cons List.take_zero List.take_nil List.drop_succ_cons List.drop_zero List.drop_nil List.cons_append List.nil_append List.append_nil List.set_cons_zero List.set_cons_succ Nat.zero_add forall_const true_and and_true and_self Bool.false_eq_true false_implies true_implies implies_true Bool.not_true Bool.not_false Bool.not_eq_true' Bool.not_eq_false' beq_self_eq_true Bool.bne_true Bool.bne_false
attribute [local go_sem] lenI lenS lenP lenQ lenB lenL lenT encI_0 encS_0 encP_0 encP_1 encQ_0 encQ_1 encQ_2 encQ_3 encB_0 encB_1 encL_0 encL_1 encT_0 encT_1
attribute [local go_sem low] whenA_bool guardH_bool
attribute [local go_sem] lenY encY_0 encY_1 encY_2
theorem miniG.smQ {l : List Param} (h : miniG l) : smQ l := h.sm
theorem miniY.bound {l : List Param} {f : Flat} (ok1 : okSig l = true) (ok2 : okFlat f = true) : miniY (boundS l f) := by
  have s := SOk.bound (l := l) ok2
  have hn := okSig_len ok1
  have hl : (boundS l f).length = l.length := boundS_len
  refine ⟨by omega, fun a ha => by have := s.list a ha; omega, fun a ha => by have := s.pairs a ha; omega, fun a ha x hx => by have := s.nm a ha x hx; omega, ?_⟩
  have := wsum_bound (f := cellsEY) (B := 26) (l := boundS l f) (fun a ha => by have := s.list a ha; have := s.pairs a ha; unfold cellsEY; omega)
  unfold cellsY
  have h2 : (boundS l f).length * 26 ≤ 8 * 26 := Nat.mul_le_mul_right _ (by omega)
  omega
theorem miniY.nil : miniY [] := ⟨by simp, fun a ha => by simp at ha, fun a ha => by simp at ha, fun a ha => by simp at ha, by simp [cellsY, wsum]⟩
theorem miniY.bind {l : List Param} {f : Flat} : miniY (bindF l f) := by
  unfold bindF
  split
  · rename_i h
    obtain ⟨ok1, ok2⟩ := fits_ok (accepts_fits h)
    exact .bound ok1 ok2
  · exact .nil
theorem miniY.part {l : List Param} {f : Flat} : miniY (bindPartF l f) := by
  unfold bindPartF
  split
  · rename_i h
    unfold partOk at h
    rw [Bool.and_eq_true] at h
    obtain ⟨ok1, ok2⟩ := fits_ok h.1
    exact .bound ok1 ok2
  · exact .nil
theorem smQ_of {l : List Param} (ok1 : okSig l = true) : smQ l := by
  have hn := okSig_len ok1
  exact ⟨by unfold big; omega, fun x hx => by have := okSig_name ok1 x hx; unfold big; omega⟩
theorem len_isEmpty {α : Type} (l : List α) : decide ((l.length : Int) = 0) = l.isEmpty := by
  cases l with
  | nil => rfl
  | cons a r => simp; omega
theorem len_pos {α : Type} (l : List α) : decide ((l.length : Int) > 0) = !l.isEmpty := by
  cases l with
  | nil => rfl
  | cons a r => simp
/-! spec.validPartial -/
def L51_0 : List AStep := [⟨.box 31 (.t 0), (some 1), none, []⟩, ⟨.mov (.c (.bool false)), (some 2), none, []⟩]
theorem v51_0 : VS L51_0.eq_1 := rfl
def L51_1 : List AStep := [⟨.call 96 [(.t 6), (.t 8)], (some 9), none, []⟩, ⟨.not (.t 9), (some 10), none, []⟩]
theorem v51_1 : VS L51_1.eq_1 := rfl
def L51_2 : List AStep := ⟨.faddr 1 (.t 1), (some 7), none, []⟩ :: ⟨.load 2 true (.t 7), (some 8), none, []⟩ :: L51_1
theorem v51_2 : VS L51_2.eq_1 := rfl
def L51_3 : List AStep := ⟨.faddr 0 (.t 1), (some 5), none, []⟩ :: ⟨.load 1 true (.t 5), (some 6), none, []⟩ :: L51_2
theorem v51_3 : VS L51_3.eq_1 := rfl
def L51_4 : List AStep := [⟨.mov (.c (.bool false)), (some 2), none, []⟩]
theorem v51_4 : VS L51_4.eq_1 := rfl
def L51_5 : List AStep := [⟨.mov (.t 18), (some 4), none, []⟩]
theorem v51_5 : VS L51_5.eq_1 := rfl
def L51_6 : List AStep := ⟨.alloc 39 [(.sl none 0 (some 0))], (some 3), none, []⟩ :: ⟨.store 1 (.t 3) (.t 17), none, none, []⟩ :: L51_5
theorem v51_6 : VS L51_6.eq_1 := rfl
def L51_7 : List AStep := ⟨.extract (.t 11) 0, (some 17), none, []⟩ :: ⟨.extract (.t 11) 1, (some 18), none, []⟩ :: L51_6
theorem v51_7 : VS L51_7.eq_1 := rfl
def L51_8 : List AStep := ⟨.call 52 [(.t 13), (.t 15)], (some 16), none, []⟩ :: ⟨.mov (.t 16), (some 11), none, []⟩ :: L51_7
theorem v51_8 : VS L51_8.eq_1 := rfl
def L51_9 : List AStep := ⟨.faddr 1 (.t 1), (some 14), none, []⟩ :: ⟨.load 2 true (.t 14), (some 15), none, []⟩ :: L51_8
theorem v51_9 : VS L51_9.eq_1 := rfl
def L51_10 : List AStep := ⟨.faddr 0 (.t 1), (some 12), none, []⟩ :: ⟨.load 1 true (.t 12), (some 13), none, []⟩ :: L51_9
theorem v51_10 : VS L51_10.eq_1 := rfl
def L51_11 : List AStep := [⟨.bin .eql (.t 20) (.c (.int .i64 0)), (some 21), none, []⟩, ⟨.mov (.t 21), (some 2), none, []⟩]
theorem v51_11 : VS L51_11.eq_1 := rfl
def L51_12 : List AStep := ⟨.mov (.t 4), (some 19), none, []⟩ :: ⟨.len (.t 19), (some 20), none, []⟩ :: L51_11
theorem v51_12 : VS L51_12.eq_1 := rfl
def C51_0 : ACode := .seq (.reg L51_4) .ret
theorem u51_0 : VC C51_0.eq_1 := rfl
def C51_1 : ACode := .cond (.t 10) C51_0 .skip
theorem u51_1 : VC C51_1.eq_1 := rfl
def C51_2 : ACode := .seq (.reg L51_3) C51_1
theorem u51_2 : VC C51_2.eq_1 := rfl
def C51_3 : ACode := .seq (.reg L51_12) .ret
theorem u51_3 : VC C51_3.eq_1 := rfl
def C51_4 : ACode := .seq (.reg L51_10) C51_3
theorem u51_4 : VC C51_4.eq_1 := rfl
def C51_5 : ACode := .seq C51_2 C51_4
theorem u51_5 : VC C51_5.eq_1 := rfl
def C51_6 : ACode := .seq (.reg L51_0) C51_5
theorem u51_6 : VC C51_6.eq_1 := rfl
def F51 : AFunc := ⟨22, [.tmp 2], C51_6⟩
theorem cF51 : compB Try.prog 51 = some F51 := by kernel_rfl
attribute [local go_sem ↓] u51_0 u51_1 u51_2 u51_3 u51_4 u51_5 u51_6 v51_0 v51_1 v51_2 v51_3 v51_4 v51_5 v51_6 v51_7 v51_8 v51_9 v51_10 v51_11 v51_12
theorem c_validPartial (l : List Param) (f : Flat) (q p n : CV) (h : H) (hl : SlG h q l) (hf : SlF h p n f) (hn : miniG l) (hm : miniF f) : bm Try.prog 51 [.agg [q, p, n]] h = some (ib (partOk l f), h) := by
  refine bm_eq cF51 ?_
  have gc := c_goodCall l f q p n h hl.out hn.sm hf.pl hf.nl hm.sm
  unfold partOk
  cases b1 : fits l f with
  | false =>
    have b1' : (okSig l && okFlat f) = false := b1
    simp +contextual (maxSteps := 2000000) only [go_sem, Nat.reduceEqDiff, reduceCtorEq, Nat.reduceAdd, Nat.reduceLeDiff, F51, loadL_agg, gc, b1', Bool.false_and]
  | true =>
  have b1' : (okSig l && okFlat f) = true := b1
  obtain ⟨ok1, ok2⟩ := fits_ok b1
  simp +contextual (maxSteps := 2000000) only [go_sem, Nat.reduceEqDiff, reduceCtorEq, Nat.reduceAdd, Nat.reduceLeDiff, F51, loadL_agg, gc, b1', Bool.true_and]
  refine wp_call (c_bound l f q p n h hl.out hf ok1 ok2) ?_
  rintro r h1 ⟨g1, v, w, rs, rfl, x⟩
  simp +contextual (maxSteps := 2000000) only [go_sem, Nat.reduceEqDiff, reduceCtorEq, Nat.reduceAdd, Nat.reduceLeDiff, x.pr.length, len_isEmpty]
  exact gcR_of g1 rfl ⟨rfl, rfl⟩
/-! impl.fit -/
def L54_0 : List AStep := [⟨.mov (.c (.bool false)), (some 4), none, []⟩]
theorem v54_0 : VS L54_0.eq_1 := rfl
def L54_1 : List AStep := ⟨.box 25 (.t 0), (some 2), none, []⟩ :: ⟨.box 29 (.t 1), (some 3), none, []⟩ :: L54_0
theorem v54_1 : VS L54_1.eq_1 := rfl
def L54_2 : List AStep := [⟨.mov (.t 10), (some 4), none, []⟩]
theorem v54_2 : VS L54_2.eq_1 := rfl
def L54_3 : List AStep := ⟨.call 43 [(.t 8)], (some 9), (some (7, true)), []⟩ :: ⟨.pick (.t 7) (.t 9) (.c (.bool false)), (some 10), none, []⟩ :: L54_2
theorem v54_3 : VS L54_3.eq_1 := rfl
def L54_4 : List AStep := ⟨.mov (.t 6), (some 7), none, []⟩ :: ⟨.load 2 true (.t 3), (some 8), (some (7, true)), []⟩ :: L54_3
theorem v54_4 : VS L54_4.eq_1 := rfl
def L54_5 : List AStep := ⟨.load 1 true (.t 2), (some 5), none, []⟩ :: ⟨.call 27 [(.t 5)], (some 6), none, []⟩ :: L54_4
theorem v54_5 : VS L54_5.eq_1 := rfl
def C54_0 : ACode := .seq (.reg L54_5) .ret
theorem u54_0 : VC C54_0.eq_1 := rfl
def C54_1 : ACode := .seq (.reg L54_1) C54_0
theorem u54_1 : VC C54_1.eq_1 := rfl
def F54 : AFunc := ⟨11, [.tmp 4], C54_1⟩
theorem cF54 : compB Try.prog 54 = some F54 := by kernel_rfl
attribute [local go_sem ↓] u54_0 u54_1 v54_0 v54_1 v54_2 v54_3 v54_4 v54_5
theorem c_fit (l : List Param) (f : Flat) (q p n : CV) (h : H) (hl : SlG h q l) (hf : SlF h p n f) (hn : miniG l) (hm : miniF f) : bm Try.prog 54 [.agg [q], .agg [p, n]] h = some (ib (fits l f), h) := by
  refine bm_eq cF54 ?_
  have c1 := c_ValidSignature l q h hl.out hn.sm
  have c2 := c_ValidFlat f p n h hf.pl hf.nl hm.sm
  unfold fits
  cases b1 : okSig l with
  | false =>
    rw [b1] at c1
    simp +contextual (maxSteps := 2000000) only [go_sem, Nat.reduceEqDiff, reduceCtorEq, Nat.reduceAdd, Nat.reduceLeDiff, F54, c1, Bool.false_and]
  | true =>
    rw [b1] at c1
    simp +contextual (maxSteps := 2000000) only [go_sem, Nat.reduceEqDiff, reduceCtorEq, Nat.reduceAdd, Nat.reduceLeDiff, F54, c1, c2, Bool.true_and]
/-! impl.BindPart$1 -/
def L57_0 : List AStep := [⟨.box 86 (.t 0), (some 1), none, []⟩, ⟨.mov (.c (.bool false)), (some 2), none, []⟩]
theorem v57_0 : VS L57_0.eq_1 := rfl
def L57_1 : List AStep := [⟨.bin .neq (.t 4) (.c (.int .i64 3)), (some 5), none, []⟩, ⟨.mov (.t 5), (some 2), none, []⟩]
theorem v57_1 : VS L57_1.eq_1 := rfl
def L57_2 : List AStep := ⟨.faddr 0 (.t 1), (some 3), none, []⟩ :: ⟨.load 1 false (.t 3), (some 4), none, []⟩ :: L57_1
theorem v57_2 : VS L57_2.eq_1 := rfl
def C57_0 : ACode := .seq (.reg L57_2) .ret
theorem u57_0 : VC C57_0.eq_1 := rfl
def C57_1 : ACode := .seq (.reg L57_0) C57_0
theorem u57_1 : VC C57_1.eq_1 := rfl
def F57 : AFunc := ⟨6, [.tmp 2], C57_1⟩
theorem cF57 : compB Try.prog 57 = some F57 := by kernel_rfl
attribute [local go_sem ↓] u57_0 u57_1 v57_0 v57_1 v57_2
theorem c_BindPart1 (x : Problem) (h : H) : bm Try.prog 57 [.agg (encB x)] h = some (ib (!(decide (x.kind = 3))), h) := by
  refine bm_eq cF57 ?_
  simp +contextual (maxSteps := 2000000) only [go_sem, Nat.reduceEqDiff, reduceCtorEq, Nat.reduceAdd, Nat.reduceLeDiff, F57]
/-! impl.BindPart -/
def L14_0 : List AStep := [⟨.alloc 39 [(.sl none 0 (some 0))], (some 4), none, []⟩, ⟨.mov (.c (.bool false)), (some 5), none, []⟩]
theorem v14_0 : VS L14_0.eq_1 := rfl
def L14_1 : List AStep := ⟨.box 25 (.t 0), (some 2), none, []⟩ :: ⟨.box 29 (.t 1), (some 3), none, []⟩ :: L14_0
theorem v14_1 : VS L14_1.eq_1 := rfl
def L14_2 : List AStep := [⟨.call 54 [(.t 8), (.t 9)], (some 10), none, []⟩, ⟨.not (.t 10), (some 11), none, []⟩]
theorem v14_2 : VS L14_2.eq_1 := rfl
def L14_3 : List AStep := ⟨.load 1 true (.t 2), (some 8), none, []⟩ :: ⟨.load 2 true (.t 3), (some 9), none, []⟩ :: L14_2
theorem v14_3 : VS L14_3.eq_1 := rfl
def L14_4 : List AStep := [⟨.mov (.c (.bool false)), (some 5), none, []⟩]
theorem v14_4 : VS L14_4.eq_1 := rfl
def L14_5 : List AStep := ⟨.build [(.sl none 0 (some 0))] [], (some 12), none, []⟩ :: ⟨.store 1 (.t 4) (.t 12), none, none, []⟩ :: L14_4
theorem v14_5 : VS L14_5.eq_1 := rfl
def L14_6 : List AStep := [⟨.mov (.t 18), (some 7), none, []⟩]
theorem v14_6 : VS L14_6.eq_1 := rfl
def L14_7 : List AStep := ⟨.alloc 39 [(.sl none 0 (some 0))], (some 6), none, []⟩ :: ⟨.store 1 (.t 6) (.t 17), none, none, []⟩ :: L14_6
theorem v14_7 : VS L14_7.eq_1 := rfl
def L14_8 : List AStep := ⟨.extract (.t 13) 0, (some 17), none, []⟩ :: ⟨.extract (.t 13) 1, (some 18), none, []⟩ :: L14_7
theorem v14_8 : VS L14_8.eq_1 := rfl
def L14_9 : List AStep := ⟨.call 55 [(.t 14), (.t 15)], (some 16), none, []⟩ :: ⟨.mov (.t 16), (some 13), none, []⟩ :: L14_8
theorem v14_9 : VS L14_9.eq_1 := rfl
def L14_10 : List AStep := ⟨.load 1 true (.t 2), (some 14), none, []⟩ :: ⟨.load 2 true (.t 3), (some 15), none, []⟩ :: L14_9
theorem v14_10 : VS L14_10.eq_1 := rfl
def L14_11 : List AStep := [⟨.mov (.t 7), (some 19), none, []⟩, ⟨.call 56 [(.t 19), (.c (.fn 57 []))], (some 20), none, []⟩]
theorem v14_11 : VS L14_11.eq_1 := rfl
def L14_12 : List AStep := [⟨.mov (.c (.bool false)), (some 5), none, []⟩]
theorem v14_12 : VS L14_12.eq_1 := rfl
def L14_13 : List AStep := ⟨.build [(.sl none 0 (some 0))] [], (some 21), none, []⟩ :: ⟨.store 1 (.t 4) (.t 21), none, none, []⟩ :: L14_12
theorem v14_13 : VS L14_13.eq_1 := rfl
def L14_14 : List AStep := [⟨.mov (.c (.bool true)), (some 5), none, []⟩]
theorem v14_14 : VS L14_14.eq_1 := rfl
def L14_15 : List AStep := ⟨.load 1 true (.t 6), (some 22), none, []⟩ :: ⟨.store 1 (.t 4) (.t 22), none, none, []⟩ :: L14_14
theorem v14_15 : VS L14_15.eq_1 := rfl
def C14_0 : ACode := .seq (.reg L14_5) .ret
theorem u14_0 : VC C14_0.eq_1 := rfl
def C14_1 : ACode := .cond (.t 11) C14_0 .skip
theorem u14_1 : VC C14_1.eq_1 := rfl
def C14_2 : ACode := .seq (.reg L14_3) C14_1
theorem u14_2 : VC C14_2.eq_1 := rfl
def C14_3 : ACode := .seq (.reg L14_13) .ret
theorem u14_3 : VC C14_3.eq_1 := rfl
def C14_4 : ACode := .cond (.t 20) C14_3 .skip
theorem u14_4 : VC C14_4.eq_1 := rfl
def C14_5 : ACode := .seq (.reg L14_11) C14_4
theorem u14_5 : VC C14_5.eq_1 := rfl
def C14_6 : ACode := .seq (.reg L14_15) .ret
theorem u14_6 : VC C14_6.eq_1 := rfl
def C14_7 : ACode := .seq C14_5 C14_6
theorem u14_7 : VC C14_7.eq_1 := rfl
def C14_8 : ACode := .seq (.reg L14_10) C14_7
theorem u14_8 : VC C14_8.eq_1 := rfl
def C14_9 : ACode := .seq C14_2 C14_8
theorem u14_9 : VC C14_9.eq_1 := rfl
def C14_10 : ACode := .seq (.reg L14_1) C14_9
theorem u14_10 : VC C14_10.eq_1 := rfl
def F14 : AFunc := ⟨23, [.cell 4 1 true, .tmp 5], C14_10⟩
theorem cF14 : compB Try.prog 14 = some F14 := by kernel_rfl
attribute [local go_sem ↓] u14_0 u14_1 u14_2 u14_3 u14_4 u14_5 u14_6 u14_7 u14_8 u14_9 u14_10 v14_0 v14_1 v14_2 v14_3 v14_4 v14_5 v14_6 v14_7 v14_8 v14_9 v14_10 v14_11 v14_12 v14_13 v14_14 v14_15
theorem k_iBindPart (l : List Param) (f : Flat) (q p n : CV) (h : H) (hl : SlG h q l) (hf : SlF h p n f) (hn : miniG l) (hm : miniF f) :
    callK (bm Try.prog 14 [.agg [q], .agg [p, n]] h) fun r h' => Grow h h' ∧ ∃ v rs, r = .tup [.agg [v], .one (.bool (partOk l f))] ∧ NwY h h' v rs (bindPartF l f) := by
  refine bm_of cF14 ?_
  have gc := c_fit l f q p n h hl hf hn hm
  unfold bindPartF partOk
  cases b1 : fits l f with
  | false =>
    rw [b1] at gc
    simp +contextual (maxSteps := 2000000) only [go_sem, Nat.reduceEqDiff, reduceCtorEq, Nat.reduceAdd, Nat.reduceLeDiff, F14, gc, Bool.false_and, if_false]
    exact ⟨Grow.refl h, _, [], rfl, .nil⟩
  | true =>
  rw [b1] at gc
  obtain ⟨ok1, ok2⟩ := fits_ok b1
  have hn8 := okSig_len ok1
  obtain ⟨hb1, hb2, hb3⟩ := okFlat_sm ok2
  have hbb : (wrong l f).length ≤ big := by
    have h1 := (BOk.nameF (l := l) (f := f) hb3 (Nat.le_refl _)).bad
    have h2 := missF_len (l := l) (sl := boundS l f) (i := l.length)
    unfold wrong boundB missing big
    rw [List.length_append]
    omega
  simp +contextual (maxSteps := 2000000) only [go_sem, Nat.reduceEqDiff, reduceCtorEq, Nat.reduceAdd, Nat.reduceLeDiff, F14, gc]
  refine wp_call (c_bind l f q p n h hl.out hf ok1 ok2) ?_
  rintro r h1 ⟨g1, v, w, rs, rfl, x⟩
  have e := c_hasB (wrong l f) _ 57 [] (fun p => !(decide (p.kind = 3))) h1 (x.pr.sl lenB) hbb (fun i hi x hx => c_BindPart1 x h1)
  rw [part_any] at e
  cases b2 : (boundB l f).isEmpty with
  | false =>
    rw [b2] at e
    simp +contextual (maxSteps := 2000000) only [go_sem, Nat.reduceEqDiff, reduceCtorEq, Nat.reduceAdd, Nat.reduceLeDiff, e, Bool.true_and, if_false]
    exact gcK_of ⟨g1, _, [], rfl, .nil⟩ (fun hs _ => ⟨Grow.refl h, _, [], rfl, .nil⟩)
  | true =>
    rw [b2] at e
    simp +contextual (maxSteps := 2000000) only [go_sem, Nat.reduceEqDiff, reduceCtorEq, Nat.reduceAdd, Nat.reduceLeDiff, e, Bool.true_and, if_true]
    exact gcK_of ⟨g1, _, _, rfl, x.sl⟩ (fun hs _ => ⟨Grow.refl h, _, _, rfl, x.sl.scalar (by simpa [AV.scalar, AV.scalars, CV.scalar] using hs) h⟩)
/-! impl.ValidPartial -/
def L13_0 : List AStep := [⟨.box 31 (.t 0), (some 1), none, []⟩, ⟨.mov (.c (.bool false)), (some 2), none, []⟩]
theorem v13_0 : VS L13_0.eq_1 := rfl
def L13_1 : List AStep := [⟨.mov (.t 12), (some 4), none, []⟩]
theorem v13_1 : VS L13_1.eq_1 := rfl
def L13_2 : List AStep := ⟨.alloc 39 [(.sl none 0 (some 0))], (some 3), none, []⟩ :: ⟨.store 1 (.t 3) (.t 11), none, none, []⟩ :: L13_1
theorem v13_2 : VS L13_2.eq_1 := rfl
def L13_3 : List AStep := ⟨.extract (.t 5) 0, (some 11), none, []⟩ :: ⟨.extract (.t 5) 1, (some 12), none, []⟩ :: L13_2
theorem v13_3 : VS L13_3.eq_1 := rfl
def L13_4 : List AStep := ⟨.call 14 [(.t 7), (.t 9)], (some 10), none, []⟩ :: ⟨.mov (.t 10), (some 5), none, []⟩ :: L13_3
theorem v13_4 : VS L13_4.eq_1 := rfl
def L13_5 : List AStep := ⟨.faddr 1 (.t 1), (some 8), none, []⟩ :: ⟨.load 2 true (.t 8), (some 9), none, []⟩ :: L13_4
theorem v13_5 : VS L13_5.eq_1 := rfl
def L13_6 : List AStep := ⟨.faddr 0 (.t 1), (some 6), none, []⟩ :: ⟨.load 1 true (.t 6), (some 7), none, []⟩ :: L13_5
theorem v13_6 : VS L13_6.eq_1 := rfl
def L13_7 : List AStep := [⟨.mov (.t 4), (some 13), none, []⟩, ⟨.mov (.t 13), (some 2), none, []⟩]
theorem v13_7 : VS L13_7.eq_1 := rfl
def C13_0 : ACode := .seq (.reg L13_7) .ret
theorem u13_0 : VC C13_0.eq_1 := rfl
def C13_1 : ACode := .seq (.reg L13_6) C13_0
theorem u13_1 : VC C13_1.eq_1 := rfl
def C13_2 : ACode := .seq (.reg L13_0) C13_1
theorem u13_2 : VC C13_2.eq_1 := rfl
def F13 : AFunc := ⟨14, [.tmp 2], C13_2⟩
theorem cF13 : compB Try.prog 13 = some F13 := by kernel_rfl
attribute [local go_sem ↓] u13_0 u13_1 u13_2 v13_0 v13_1 v13_2 v13_3 v13_4 v13_5 v13_6 v13_7
theorem c_ValidPartial (l : List Param) (f : Flat) (q p n : CV) (h : H) (hl : SlG h q l) (hf : SlF h p n f) (hn : miniG l) (hm : miniF f) : bm Try.prog 13 [.agg [q, p, n]] h = some (ib (partOk l f), h) := by
  refine bm_eq cF13 ?_
  simp +contextual (maxSteps := 2000000) only [go_sem, Nat.reduceEqDiff, reduceCtorEq, Nat.reduceAdd, Nat.reduceLeDiff, F13, loadL_agg]
  refine wp_call (k_iBindPart l f q p n h hl hf hn hm) ?_
  rintro r h1 ⟨g1, v, rs, rfl, x⟩
  simp +contextual (maxSteps := 2000000) only [go_sem, Nat.reduceEqDiff, reduceCtorEq, Nat.reduceAdd, Nat.reduceLeDiff]
  exact gcR_of g1 rfl ⟨rfl, rfl⟩
end Go.Proofs.Ytekkimfdcbgcoac.Am
