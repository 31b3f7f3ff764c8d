/- Contracts: binding, of both sides. -/
import Derived.Test.YtekkimfdcbgcoaaBJ
namespace Go.Proofs.Ytekkimfdcbgcoaa.Am
open Go
set_option maxRecDepth 100000
set_option maxHeartbeats 4000000
set_option linter.unusedSimpArgs false
set_option linter.unusedVariables false
attribute [local go_sem ↓] bv_t bv_c ev_t ev_c put_same put_ne put_none kill_at pro_at lb_same lb_ne start_zero start_succ wpC_seq wpC_reg wpC_cond wpC_block wpC_skip wpC_exit wpC_ret thenQ_normal thenQ_exit thenQ_ret inBlk_normal inBlk_exit inBlk_ret wpS_nil wpS_step wpS_again wpS_guard wpO_mov wpO_load wpO_faddr wpO_nilCheck wpO_pick wpO_build wpO_bin wpO_eqb wpO_eqst wpO_eqnil wpO_not wpO_conv wpO_bytesStr wpO_iaddr wpO_idxStr wpO_field wpO_extract wpO_len wpO_lenStr wpO_cap wpO_min wpO_slice wpO_sliceStr wpO_alloc wpO_box wpO_store wpO_call wpO_callv wpO_mkfn wpO_buildSlice wpO_mkslice wpO_append wpO_appz proA_nil proA_cons tmpX_nil tmpX_tmp tmpX_cell doneB_normal doneB_ret agK_cons agK_nil agK_guard agG_tt agG_ff agG_tf agG_ft agG_undef pureB_load results_one results_two results_nil resBs_cons resBs_nil resB_tmp resB_cell
attribute [local go_sem] kill_v kill_lp_ne kill_lp_same pro_v pro_lp_same pro_lp_ne av_v av_lp optB_some optX_some valX_eq ldX_lp ldX_v faX_lp faX_v ncX_lp ncX_ptr ncX_fn boxK_one boxK_agg stL_some stK_lp_one stK_lp_agg stK_v_one stK_v_agg proM_v proM_lp callG_mk callVG_mk callvK_fn fnG_mk ptrsA_nil ptrsA_cons callH_some whenA_true whenA_false guardH_tt guardH_ff guardH_tf guardH_ft guardH_undef agV_one agV_agg lenO_sl lenStrO_str notO_bool pickO_bool convO_int eqbO_bool eqnilO_sl extractO_tup capO_sl minO_int loadL_one loadL_all storeL_eq fillA_nil fillA_one fillA_agg nat_ge neg_ge nat_lt neg_lt buildO bin_add bin_sub bin_mul bin_eql bin_neq bin_lss bin_leq bin_gtr bin_geq str_eql str_neq str_lss str_leq str_gtr str_geq retK_some endK_mk gcK_same gcK_int gcK_bool tupO_one tupO_agg rdy_self ib ii Option.map_none Option.map_some Option.some.injEq exists_eq_left' exists_eq_left ne_eq not_false_eq_true if_true if_false List.map_cons List.map_nil List.getElem?_cons_zero List.getElem?_cons_succ List.length_cons List.length_nil List.take_succ_cons List.take_zero List.take_nil List.drop_succ_cons List.drop_zero List.drop_nil List.cons_append List.nil_append List.append_nil List.set_cons_zero List.set_cons_succ Nat.zero_add forall_const true_and and_true and_self Bool.false_eq_true false_implies true_implies implies_true Bool.not_true Bool.not_false Bool.not_eq_true' Bool.not_eq_false' beq_self_eq_true Bool.bne_true Bool.bne_false
attribute [local go_sem] lenI lenS lenP lenQ lenB lenL lenT encI_0 encS_0 encP_0 encP_1 encQ_0 encQ_1 encQ_2 encQ_3 encB_0 encB_1 encL_0 encL_1 encT_0 encT_1
attribute [local go_sem low] whenA_bool guardH_bool
attribute [local go_sem] lenY encY_0 encY_1 encY_2
theorem miniG.smQ {l : List Param} (h : miniG l) : smQ l := h.sm
theorem miniY.bound {l : List Param} {f : Flat} (ok1 : okSig l = true) (ok2 : okFlat f = true) : miniY (boundS l f) := by
  have s := SOk.bound (l := l) ok2
  have hn := okSig_len ok1
  have hl : (boundS l f).length = l.length := boundS_len
  refine ⟨by omega, fun a ha => by have := s.list a ha; omega, fun a ha => by have := s.pairs a ha; omega, fun a ha x hx => by have := s.nm a ha x hx; omega, ?_⟩
  have := wsum_bound (f := cellsEY) (B := 26) (l := boundS l f) (fun a ha => by have := s.list a ha; have := s.pairs a ha; unfold cellsEY; omega)
  unfold cellsY
  have h2 : (boundS l f).length * 26 ≤ 8 * 26 := Nat.mul_le_mul_right _ (by omega)
  omega
theorem miniY.nil : miniY [] := ⟨by simp, fun a ha => by simp at ha, fun a ha => by simp at ha, fun a ha => by simp at ha, by simp [cellsY, wsum]⟩
theorem miniY.bind {l : List Param} {f : Flat} : miniY (bindF l f) := by
  unfold bindF
  split
  · rename_i h
    obtain ⟨ok1, ok2⟩ := fits_ok (accepts_fits h)
    exact .bound ok1 ok2
  · exact .nil
theorem miniY.part {l : List Param} {f : Flat} : miniY (bindPartF l f) := by
  unfold bindPartF
  split
  · rename_i h
    unfold partOk at h
    rw [Bool.and_eq_true] at h
    obtain ⟨ok1, ok2⟩ := fits_ok h.1
    exact .bound ok1 ok2
  · exact .nil
theorem smQ_of {l : List Param} (ok1 : okSig l = true) : smQ l := by
  have hn := okSig_len ok1
  exact ⟨by unfold big; omega, fun x hx => by have := okSig_name ok1 x hx; unfold big; omega⟩
theorem len_isEmpty {α : Type} (l : List α) : decide ((l.length : Int) = 0) = l.isEmpty := by
  cases l with
  | nil => rfl
  | cons a r => simp; omega
theorem len_pos {α : Type} (l : List α) : decide ((l.length : Int) > 0) = !l.isEmpty := by
  cases l with
  | nil => rfl
  | cons a r => simp
/-! impl.fit -/
def L69_0 : List AStep := [⟨.mov (.c (.bool false)), (some 4), none, []⟩]
theorem v69_0 : VS L69_0.eq_1 := rfl
def L69_1 : List AStep := ⟨.box 38 (.t 0), (some 2), none, []⟩ :: ⟨.box 27 (.t 1), (some 3), none, []⟩ :: L69_0
theorem v69_1 : VS L69_1.eq_1 := rfl
def L69_2 : List AStep := [⟨.mov (.t 10), (some 4), none, []⟩]
theorem v69_2 : VS L69_2.eq_1 := rfl
def L69_3 : List AStep := ⟨.call 17 [(.t 8)], (some 9), (some (7, true)), []⟩ :: ⟨.pick (.t 7) (.t 9) (.c (.bool false)), (some 10), none, []⟩ :: L69_2
theorem v69_3 : VS L69_3.eq_1 := rfl
def L69_4 : List AStep := ⟨.mov (.t 6), (some 7), none, []⟩ :: ⟨.load 2 true (.t 3), (some 8), (some (7, true)), []⟩ :: L69_3
theorem v69_4 : VS L69_4.eq_1 := rfl
def L69_5 : List AStep := ⟨.load 1 true (.t 2), (some 5), none, []⟩ :: ⟨.call 49 [(.t 5)], (some 6), none, []⟩ :: L69_4
theorem v69_5 : VS L69_5.eq_1 := rfl
def C69_0 : ACode := .seq (.reg L69_5) .ret
theorem u69_0 : VC C69_0.eq_1 := rfl
def C69_1 : ACode := .seq (.reg L69_1) C69_0
theorem u69_1 : VC C69_1.eq_1 := rfl
def F69 : AFunc := ⟨11, [.tmp 4], C69_1⟩
theorem cF69 : compB Try.prog 69 = some F69 := by kernel_rfl
attribute [local go_sem ↓] u69_0 u69_1 v69_0 v69_1 v69_2 v69_3 v69_4 v69_5
theorem c_fit (l : List Param) (f : Flat) (q p n : CV) (h : H) (hl : SlG h q l) (hf : SlF h p n f) (hn : miniG l) (hm : miniF f) : bm Try.prog 69 [.agg [q], .agg [p, n]] h = some (ib (fits l f), h) := by
  refine bm_eq cF69 ?_
  have c1 := c_ValidSignature l q h hl.out hn.sm
  have c2 := c_ValidFlat f p n h hf.pl hf.nl hm.sm
  unfold fits
  cases b1 : okSig l with
  | false =>
    rw [b1] at c1
    simp +contextual (maxSteps := 2000000) only [go_sem, Nat.reduceEqDiff, reduceCtorEq, Nat.reduceAdd, Nat.reduceLeDiff, F69, c1, Bool.false_and]
  | true =>
    rw [b1] at c1
    simp +contextual (maxSteps := 2000000) only [go_sem, Nat.reduceEqDiff, reduceCtorEq, Nat.reduceAdd, Nat.reduceLeDiff, F69, c1, c2, Bool.true_and]
/-! impl.Bind -/
def L19_0 : List AStep := [⟨.alloc 42 [(.sl none 0 (some 0))], (some 4), none, []⟩, ⟨.mov (.c (.bool false)), (some 5), none, []⟩]
theorem v19_0 : VS L19_0.eq_1 := rfl
def L19_1 : List AStep := ⟨.box 38 (.t 0), (some 2), none, []⟩ :: ⟨.box 27 (.t 1), (some 3), none, []⟩ :: L19_0
theorem v19_1 : VS L19_1.eq_1 := rfl
def L19_2 : List AStep := [⟨.call 69 [(.t 8), (.t 9)], (some 10), none, []⟩, ⟨.not (.t 10), (some 11), none, []⟩]
theorem v19_2 : VS L19_2.eq_1 := rfl
def L19_3 : List AStep := ⟨.load 1 true (.t 2), (some 8), none, []⟩ :: ⟨.load 2 true (.t 3), (some 9), none, []⟩ :: L19_2
theorem v19_3 : VS L19_3.eq_1 := rfl
def L19_4 : List AStep := [⟨.mov (.c (.bool false)), (some 5), none, []⟩]
theorem v19_4 : VS L19_4.eq_1 := rfl
def L19_5 : List AStep := ⟨.build [(.sl none 0 (some 0))] [], (some 12), none, []⟩ :: ⟨.store 1 (.t 4) (.t 12), none, none, []⟩ :: L19_4
theorem v19_5 : VS L19_5.eq_1 := rfl
def L19_6 : List AStep := [⟨.mov (.t 18), (some 7), none, []⟩]
theorem v19_6 : VS L19_6.eq_1 := rfl
def L19_7 : List AStep := ⟨.alloc 42 [(.sl none 0 (some 0))], (some 6), none, []⟩ :: ⟨.store 1 (.t 6) (.t 17), none, none, []⟩ :: L19_6
theorem v19_7 : VS L19_7.eq_1 := rfl
def L19_8 : List AStep := ⟨.extract (.t 13) 0, (some 17), none, []⟩ :: ⟨.extract (.t 13) 1, (some 18), none, []⟩ :: L19_7
theorem v19_8 : VS L19_8.eq_1 := rfl
def L19_9 : List AStep := ⟨.call 70 [(.t 14), (.t 15)], (some 16), none, []⟩ :: ⟨.mov (.t 16), (some 13), none, []⟩ :: L19_8
theorem v19_9 : VS L19_9.eq_1 := rfl
def L19_10 : List AStep := ⟨.load 1 true (.t 2), (some 14), none, []⟩ :: ⟨.load 2 true (.t 3), (some 15), none, []⟩ :: L19_9
theorem v19_10 : VS L19_10.eq_1 := rfl
def L19_11 : List AStep := [⟨.bin .gtr (.t 20) (.c (.int .i64 0)), (some 21), none, []⟩]
theorem v19_11 : VS L19_11.eq_1 := rfl
def L19_12 : List AStep := ⟨.mov (.t 7), (some 19), none, []⟩ :: ⟨.len (.t 19), (some 20), none, []⟩ :: L19_11
theorem v19_12 : VS L19_12.eq_1 := rfl
def L19_13 : List AStep := [⟨.mov (.c (.bool false)), (some 5), none, []⟩]
theorem v19_13 : VS L19_13.eq_1 := rfl
def L19_14 : List AStep := ⟨.build [(.sl none 0 (some 0))] [], (some 22), none, []⟩ :: ⟨.store 1 (.t 4) (.t 22), none, none, []⟩ :: L19_13
theorem v19_14 : VS L19_14.eq_1 := rfl
def L19_15 : List AStep := [⟨.mov (.c (.bool true)), (some 5), none, []⟩]
theorem v19_15 : VS L19_15.eq_1 := rfl
def L19_16 : List AStep := ⟨.load 1 true (.t 6), (some 23), none, []⟩ :: ⟨.store 1 (.t 4) (.t 23), none, none, []⟩ :: L19_15
theorem v19_16 : VS L19_16.eq_1 := rfl
def C19_0 : ACode := .seq (.reg L19_5) .ret
theorem u19_0 : VC C19_0.eq_1 := rfl
def C19_1 : ACode := .cond (.t 11) C19_0 .skip
theorem u19_1 : VC C19_1.eq_1 := rfl
def C19_2 : ACode := .seq (.reg L19_3) C19_1
theorem u19_2 : VC C19_2.eq_1 := rfl
def C19_3 : ACode := .seq (.reg L19_14) .ret
theorem u19_3 : VC C19_3.eq_1 := rfl
def C19_4 : ACode := .cond (.t 21) C19_3 .skip
theorem u19_4 : VC C19_4.eq_1 := rfl
def C19_5 : ACode := .seq (.reg L19_12) C19_4
theorem u19_5 : VC C19_5.eq_1 := rfl
def C19_6 : ACode := .seq (.reg L19_16) .ret
theorem u19_6 : VC C19_6.eq_1 := rfl
def C19_7 : ACode := .seq C19_5 C19_6
theorem u19_7 : VC C19_7.eq_1 := rfl
def C19_8 : ACode := .seq (.reg L19_10) C19_7
theorem u19_8 : VC C19_8.eq_1 := rfl
def C19_9 : ACode := .seq C19_2 C19_8
theorem u19_9 : VC C19_9.eq_1 := rfl
def C19_10 : ACode := .seq (.reg L19_1) C19_9
theorem u19_10 : VC C19_10.eq_1 := rfl
def F19 : AFunc := ⟨24, [.cell 4 1 true, .tmp 5], C19_10⟩
theorem cF19 : compB Try.prog 19 = some F19 := by kernel_rfl
attribute [local go_sem ↓] u19_0 u19_1 u19_2 u19_3 u19_4 u19_5 u19_6 u19_7 u19_8 u19_9 u19_10 v19_0 v19_1 v19_2 v19_3 v19_4 v19_5 v19_6 v19_7 v19_8 v19_9 v19_10 v19_11 v19_12 v19_13 v19_14 v19_15 v19_16
theorem k_iBind (l : List Param) (f : Flat) (q p n : CV) (h : H) (hl : SlG h q l) (hf : SlF h p n f) (hn : miniG l) (hm : miniF f) :
    callK (bm Try.prog 19 [.agg [q], .agg [p, n]] h) fun r h' => Grow h h' ∧ ∃ v rs, r = .tup [.agg [v], .one (.bool (acceptsF l f))] ∧ NwY h h' v rs (bindF l f) := by
  refine bm_of cF19 ?_
  have gc := c_fit l f q p n h hl hf hn hm
  unfold bindF acceptsF
  cases b1 : fits l f with
  | false =>
    rw [b1] at gc
    simp +contextual (maxSteps := 2000000) only [go_sem, Nat.reduceEqDiff, reduceCtorEq, Nat.reduceAdd, Nat.reduceLeDiff, F19, gc, Bool.false_and, if_false]
    exact ⟨Grow.refl h, _, [], rfl, .nil⟩
  | true =>
  rw [b1] at gc
  obtain ⟨ok1, ok2⟩ := fits_ok b1
  simp +contextual (maxSteps := 2000000) only [go_sem, Nat.reduceEqDiff, reduceCtorEq, Nat.reduceAdd, Nat.reduceLeDiff, F19, gc]
  refine wp_call (c_bind l f q p n h hl.out hf ok1 ok2) ?_
  rintro r h1 ⟨g1, v, w, rs, rfl, x⟩
  cases b2 : (wrong l f).isEmpty with
  | false =>
    simp +contextual (maxSteps := 2000000) only [go_sem, Nat.reduceEqDiff, reduceCtorEq, Nat.reduceAdd, Nat.reduceLeDiff, x.pr.length, len_pos, b2, Bool.true_and, if_false]
    exact gcK_of ⟨g1, _, [], rfl, .nil⟩ (fun hs _ => ⟨Grow.refl h, _, [], rfl, .nil⟩)
  | true =>
    simp +contextual (maxSteps := 2000000) only [go_sem, Nat.reduceEqDiff, reduceCtorEq, Nat.reduceAdd, Nat.reduceLeDiff, x.pr.length, len_pos, b2, Bool.true_and, if_true]
    exact gcK_of ⟨g1, _, _, rfl, x.sl⟩ (fun hs _ => ⟨Grow.refl h, _, _, rfl, x.sl.scalar (by simpa [AV.scalar, AV.scalars, CV.scalar] using hs) h⟩)
/-! impl.Accepts -/
def L21_0 : List AStep := [⟨.mov (.c (.bool false)), (some 4), none, []⟩]
theorem v21_0 : VS L21_0.eq_1 := rfl
def L21_1 : List AStep := ⟨.box 38 (.t 0), (some 2), none, []⟩ :: ⟨.box 27 (.t 1), (some 3), none, []⟩ :: L21_0
theorem v21_1 : VS L21_1.eq_1 := rfl
def L21_2 : List AStep := [⟨.mov (.t 12), (some 6), none, []⟩]
theorem v21_2 : VS L21_2.eq_1 := rfl
def L21_3 : List AStep := ⟨.alloc 42 [(.sl none 0 (some 0))], (some 5), none, []⟩ :: ⟨.store 1 (.t 5) (.t 11), none, none, []⟩ :: L21_2
theorem v21_3 : VS L21_3.eq_1 := rfl
def L21_4 : List AStep := ⟨.extract (.t 7) 0, (some 11), none, []⟩ :: ⟨.extract (.t 7) 1, (some 12), none, []⟩ :: L21_3
theorem v21_4 : VS L21_4.eq_1 := rfl
def L21_5 : List AStep := ⟨.call 19 [(.t 8), (.t 9)], (some 10), none, []⟩ :: ⟨.mov (.t 10), (some 7), none, []⟩ :: L21_4
theorem v21_5 : VS L21_5.eq_1 := rfl
def L21_6 : List AStep := ⟨.load 1 true (.t 2), (some 8), none, []⟩ :: ⟨.load 2 true (.t 3), (some 9), none, []⟩ :: L21_5
theorem v21_6 : VS L21_6.eq_1 := rfl
def L21_7 : List AStep := [⟨.mov (.t 6), (some 13), none, []⟩, ⟨.mov (.t 13), (some 4), none, []⟩]
theorem v21_7 : VS L21_7.eq_1 := rfl
def C21_0 : ACode := .seq (.reg L21_7) .ret
theorem u21_0 : VC C21_0.eq_1 := rfl
def C21_1 : ACode := .seq (.reg L21_6) C21_0
theorem u21_1 : VC C21_1.eq_1 := rfl
def C21_2 : ACode := .seq (.reg L21_1) C21_1
theorem u21_2 : VC C21_2.eq_1 := rfl
def F21 : AFunc := ⟨14, [.tmp 4], C21_2⟩
theorem cF21 : compB Try.prog 21 = some F21 := by kernel_rfl
attribute [local go_sem ↓] u21_0 u21_1 u21_2 v21_0 v21_1 v21_2 v21_3 v21_4 v21_5 v21_6 v21_7
theorem k_iAccepts (l : List Param) (f : Flat) (q p n : CV) (h : H) (hl : SlG h q l) (hf : SlF h p n f) (hn : miniG l) (hm : miniF f) : bm Try.prog 21 [.agg [q], .agg [p, n]] h = some (ib (acceptsF l f), h) := by
  refine bm_eq cF21 ?_
  simp +contextual (maxSteps := 2000000) only [go_sem, Nat.reduceEqDiff, reduceCtorEq, Nat.reduceAdd, Nat.reduceLeDiff, F21]
  refine wp_call (k_iBind l f q p n h hl hf hn hm) ?_
  rintro r h1 ⟨g1, v, rs, rfl, x⟩
  simp +contextual (maxSteps := 2000000) only [go_sem, Nat.reduceEqDiff, reduceCtorEq, Nat.reduceAdd, Nat.reduceLeDiff]
  exact gcR_of g1 rfl ⟨rfl, rfl⟩
end Go.Proofs.Ytekkimfdcbgcoaa.Am
