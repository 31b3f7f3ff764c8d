/- Contracts: binding, of both sides. -/
import Derived.Test.YtekkimfdcbgcoacBJ
namespace Go.Proofs.Ytekkimfdcbgcoac.Am
open Go
set_option maxRecDepth 100000
set_option maxHeartbeats 4000000
set_option linter.unusedSimpArgs false
set_option linter.unusedVariables false
attribute [local go_sem ↓] bv_t bv_c ev_t ev_c put_same put_ne put_none kill_at pro_at lb_same lb_ne start_zero start_succ wpC_seq wpC_reg wpC_cond wpC_block wpC_skip wpC_exit wpC_ret thenQ_normal thenQ_exit thenQ_ret inBlk_normal inBlk_exit inBlk_ret wpS_nil wpS_step wpS_again wpS_guard wpO_mov wpO_load wpO_faddr wpO_nilCheck wpO_pick wpO_build wpO_bin wpO_eqb wpO_eqst wpO_eqnil wpO_not wpO_conv wpO_bytesStr wpO_iaddr wpO_idxStr wpO_field wpO_extract wpO_len wpO_lenStr wpO_cap wpO_min wpO_slice wpO_sliceStr wpO_alloc wpO_box wpO_store wpO_call wpO_callv wpO_mkfn wpO_buildSlice wpO_mkslice wpO_append wpO_appz proA_nil proA_cons tmpX_nil tmpX_tmp tmpX_cell doneB_normal doneB_ret agK_cons agK_nil agK_guard agG_tt agG_ff agG_tf agG_ft agG_undef pureB_load results_one results_two results_nil resBs_cons resBs_nil resB_tmp resB_cell
attribute [local go_sem] kill_v kill_lp_ne kill_lp_same pro_v pro_lp_same pro_lp_ne av_v av_lp optB_some optX_some valX_eq ldX_lp ldX_v faX_lp faX_v ncX_lp ncX_ptr ncX_fn boxK_one boxK_agg stL_some stK_lp_one stK_lp_agg stK_v_one stK_v_agg proM_v proM_lp callG_mk callVG_mk callvK_fn fnG_mk ptrsA_nil ptrsA_cons callH_some whenA_true whenA_false guardH_tt guardH_ff guardH_tf guardH_ft guardH_undef agV_one agV_agg lenO_sl lenStrO_str notO_bool pickO_bool convO_int eqbO_bool eqnilO_sl extractO_tup capO_sl minO_int loadL_one loadL_all storeL_eq fillA_nil fillA_one fillA_agg nat_ge neg_ge nat_lt neg_lt buildO bin_add bin_sub bin_mul bin_eql bin_neq bin_lss bin_leq bin_gtr bin_geq str_eql str_neq str_lss str_leq str_gtr str_geq retK_some endK_mk gcK_same gcK_int gcK_bool tupO_one tupO_agg rdy_self ib ii Option.map_none Option.map_some Option.some.injEq exists_eq_left' exists_eq_left ne_eq not_false_eq_true if_true if_false List.map_cons List.map_nil List.getElem?_cons_zero List.getElem?_cons_succ List.length_cons List.length_nil List.take_succ_cons List.take_zero List.take_nil List.drop_succ_cons List.drop_zero List.drop_nil List.cons_append List.nil_append List.append_nil List.set_cons_zero List.set_cons_succ Nat.zero_add forall_const true_and and_true and_self Bool.false_eq_true false_implies true_implies implies_true Bool.not_true Bool.not_false Bool.not_eq_true' Bool.not_eq_false' beq_self_eq_true Bool.bne_true Bool.bne_false
attribute [local go_sem] lenI lenS lenP lenQ lenB lenL lenT encI_0 encS_0 encP_0 encP_1 encQ_0 encQ_1 encQ_2 encQ_3 encB_0 encB_1 encL_0 encL_1 encT_0 encT_1
attribute [local go_sem low] whenA_bool guardH_bool
attribute [local go_sem] lenY encY_0 encY_1 encY_2
theorem miniG.smQ {l : List Param} (h : miniG l) : smQ l := h.sm
theorem miniY.bound {l : List Param} {f : Flat} (ok1 : okSig l = true) (ok2 : okFlat f = true) : miniY (boundS l f) := by
  have s := SOk.bound (l := l) ok2
  have hn := okSig_len ok1
  have hl : (boundS l f).length = l.length := boundS_len
  refine ⟨by omega, fun a ha => by have := s.list a ha; omega, fun a ha => by have := s.pairs a ha; omega, fun a ha x hx => by have := s.nm a ha x hx; omega, ?_⟩
  have := wsum_bound (f := cellsEY) (B := 26) (l := boundS l f) (fun a ha => by have := s.list a ha; have := s.pairs a ha; unfold cellsEY; omega)
  unfold cellsY
  have h2 : (boundS l f).length * 26 ≤ 8 * 26 := Nat.mul_le_mul_right _ (by omega)
  omega
theorem miniY.nil : miniY [] := ⟨by simp, fun a ha => by simp at ha, fun a ha => by simp at ha, fun a ha => by simp at ha, by simp [cellsY, wsum]⟩
theorem miniY.bind {l : List Param} {f : Flat} : miniY (bindF l f) := by
  unfold bindF
  split
  · rename_i h
    obtain ⟨ok1, ok2⟩ := fits_ok (accepts_fits h)
    exact .bound ok1 ok2
  · exact .nil
theorem miniY.part {l : List Param} {f : Flat} : miniY (bindPartF l f) := by
  unfold bindPartF
  split
  · rename_i h
    unfold partOk at h
    rw [Bool.and_eq_true] at h
    obtain ⟨ok1, ok2⟩ := fits_ok h.1
    exact .bound ok1 ok2
  · exact .nil
theorem smQ_of {l : List Param} (ok1 : okSig l = true) : smQ l := by
  have hn := okSig_len ok1
  exact ⟨by unfold big; omega, fun x hx => by have := okSig_name ok1 x hx; unfold big; omega⟩
theorem len_isEmpty {α : Type} (l : List α) : decide ((l.length : Int) = 0) = l.isEmpty := by
  cases l with
  | nil => rfl
  | cons a r => simp; omega
theorem len_pos {α : Type} (l : List α) : decide ((l.length : Int) > 0) = !l.isEmpty := by
  cases l with
  | nil => rfl
  | cons a r => simp
/-! spec.problems -/
def L59_0 : List AStep := [⟨.mov (.c (.sl none 0 (some 0))), (some 4), none, []⟩]
theorem v59_0 : VS L59_0.eq_1 := rfl
def L59_1 : List AStep := ⟨.box 25 (.t 0), (some 2), none, []⟩ :: ⟨.box 29 (.t 1), (some 3), none, []⟩ :: L59_0
theorem v59_1 : VS L59_1.eq_1 := rfl
def L59_2 : List AStep := [⟨.mov (.t 12), (some 6), none, []⟩]
theorem v59_2 : VS L59_2.eq_1 := rfl
def L59_3 : List AStep := ⟨.alloc 39 [(.sl none 0 (some 0))], (some 5), none, []⟩ :: ⟨.store 1 (.t 5) (.t 11), none, none, []⟩ :: L59_2
theorem v59_3 : VS L59_3.eq_1 := rfl
def L59_4 : List AStep := ⟨.extract (.t 7) 0, (some 11), none, []⟩ :: ⟨.extract (.t 7) 1, (some 12), none, []⟩ :: L59_3
theorem v59_4 : VS L59_4.eq_1 := rfl
def L59_5 : List AStep := ⟨.call 52 [(.t 8), (.t 9)], (some 10), none, []⟩ :: ⟨.mov (.t 10), (some 7), none, []⟩ :: L59_4
theorem v59_5 : VS L59_5.eq_1 := rfl
def L59_6 : List AStep := ⟨.load 1 true (.t 2), (some 8), none, []⟩ :: ⟨.load 2 true (.t 3), (some 9), none, []⟩ :: L59_5
theorem v59_6 : VS L59_6.eq_1 := rfl
def L59_7 : List AStep := [⟨.append 86 2 24 (.t 13) (.t 16), (some 17), none, []⟩, ⟨.mov (.t 17), (some 4), none, []⟩]
theorem v59_7 : VS L59_7.eq_1 := rfl
def L59_8 : List AStep := ⟨.load 1 true (.t 5), (some 15), none, []⟩ :: ⟨.call 108 [(.t 14), (.t 15)], (some 16), none, []⟩ :: L59_7
theorem v59_8 : VS L59_8.eq_1 := rfl
def L59_9 : List AStep := ⟨.mov (.t 6), (some 13), none, []⟩ :: ⟨.load 1 true (.t 2), (some 14), none, []⟩ :: L59_8
theorem v59_9 : VS L59_9.eq_1 := rfl
def C59_0 : ACode := .seq (.reg L59_9) .ret
theorem u59_0 : VC C59_0.eq_1 := rfl
def C59_1 : ACode := .seq (.reg L59_6) C59_0
theorem u59_1 : VC C59_1.eq_1 := rfl
def C59_2 : ACode := .seq (.reg L59_1) C59_1
theorem u59_2 : VC C59_2.eq_1 := rfl
def F59 : AFunc := ⟨18, [.tmp 4], C59_2⟩
theorem cF59 : compB Try.prog 59 = some F59 := by kernel_rfl
attribute [local go_sem ↓] u59_0 u59_1 u59_2 v59_0 v59_1 v59_2 v59_3 v59_4 v59_5 v59_6 v59_7 v59_8 v59_9
theorem c_problems (l : List Param) (f : Flat) (q p n : CV) (h : H) (hl : SlQ h (.one q) l) (hf : SlF h p n f) (ok1 : okSig l = true) (ok2 : okFlat f = true) :
    callK (bm Try.prog 59 [.agg [q], .agg [p, n]] h) fun r h' => Grow h h' ∧ NwB h h' r (wrong l f) := by
  refine bm_of cF59 ?_
  have hn := okSig_len ok1
  obtain ⟨hb1, hb2, hb3⟩ := okFlat_sm ok2
  have hbb : (boundB l f).length ≤ 9 := by have := (BOk.nameF (l := l) (f := f) hb3 (Nat.le_refl _)).bad; unfold boundB; omega
  simp +contextual (maxSteps := 2000000) only [go_sem, Nat.reduceEqDiff, reduceCtorEq, Nat.reduceAdd, Nat.reduceLeDiff, F59]
  refine wp_call (c_bound l f q p n h hl hf ok1 ok2) ?_
  rintro r h1 ⟨g1, v, w, rs, rfl, x⟩
  simp +contextual (maxSteps := 2000000) only [go_sem, Nat.reduceEqDiff, reduceCtorEq, Nat.reduceAdd, Nat.reduceLeDiff]
  refine wp_call (c_missing l (boundS l f) rs q v h1 (hl.grow g1) hn x.sl.out.rd boundS_len) ?_
  rintro r h2 ⟨g2, n2⟩
  simp +contextual (maxSteps := 2000000) only [go_sem, Nat.reduceEqDiff, reduceCtorEq, Nat.reduceAdd, Nat.reduceLeDiff]
  refine wp_append lenB (x.pr.grow g2) (n2.sl lenB) (g1.trans g2) (by have := missF_len (l := l) (sl := boundS l f) (i := l.length); unfold missing; omega) ?_
  intro h3 s3 g3 n3 _ _
  simp +contextual (maxSteps := 2000000) only [go_sem, Nat.reduceEqDiff, reduceCtorEq, Nat.reduceAdd, Nat.reduceLeDiff]
  exact gcK_of ⟨g3, n3⟩ (fun hs _ => ⟨Grow.refl h, n3.scalar hs h⟩)
/-! spec.accepts -/
def L129_0 : List AStep := [⟨.mov (.c (.bool false)), (some 4), none, []⟩]
theorem v129_0 : VS L129_0.eq_1 := rfl
def L129_1 : List AStep := ⟨.box 25 (.t 0), (some 2), none, []⟩ :: ⟨.box 29 (.t 1), (some 3), none, []⟩ :: L129_0
theorem v129_1 : VS L129_1.eq_1 := rfl
def L129_2 : List AStep := [⟨.bin .eql (.t 8) (.c (.int .i64 0)), (some 9), none, []⟩, ⟨.mov (.t 9), (some 4), none, []⟩]
theorem v129_2 : VS L129_2.eq_1 := rfl
def L129_3 : List AStep := ⟨.call 59 [(.t 5), (.t 6)], (some 7), none, []⟩ :: ⟨.len (.t 7), (some 8), none, []⟩ :: L129_2
theorem v129_3 : VS L129_3.eq_1 := rfl
def L129_4 : List AStep := ⟨.load 1 true (.t 2), (some 5), none, []⟩ :: ⟨.load 2 true (.t 3), (some 6), none, []⟩ :: L129_3
theorem v129_4 : VS L129_4.eq_1 := rfl
def C129_0 : ACode := .seq (.reg L129_4) .ret
theorem u129_0 : VC C129_0.eq_1 := rfl
def C129_1 : ACode := .seq (.reg L129_1) C129_0
theorem u129_1 : VC C129_1.eq_1 := rfl
def F129 : AFunc := ⟨10, [.tmp 4], C129_1⟩
theorem cF129 : compB Try.prog 129 = some F129 := by kernel_rfl
attribute [local go_sem ↓] u129_0 u129_1 v129_0 v129_1 v129_2 v129_3 v129_4
theorem c_accepts (l : List Param) (f : Flat) (q p n : CV) (h : H) (hl : SlQ h (.one q) l) (hf : SlF h p n f) (ok1 : okSig l = true) (ok2 : okFlat f = true) : bm Try.prog 129 [.agg [q], .agg [p, n]] h = some (ib (wrong l f).isEmpty, h) := by
  refine bm_eq cF129 ?_
  simp +contextual (maxSteps := 2000000) only [go_sem, Nat.reduceEqDiff, reduceCtorEq, Nat.reduceAdd, Nat.reduceLeDiff, F129]
  refine wp_call (c_problems l f q p n h hl hf ok1 ok2) ?_
  rintro r h1 ⟨g1, n1⟩
  simp +contextual (maxSteps := 2000000) only [go_sem, Nat.reduceEqDiff, reduceCtorEq, Nat.reduceAdd, Nat.reduceLeDiff, n1.length, len_isEmpty]
  exact gcR_of g1 rfl ⟨rfl, rfl⟩
/-! impl.fit -/
def L54_0 : List AStep := [⟨.mov (.c (.bool false)), (some 4), none, []⟩]
theorem v54_0 : VS L54_0.eq_1 := rfl
def L54_1 : List AStep := ⟨.box 25 (.t 0), (some 2), none, []⟩ :: ⟨.box 29 (.t 1), (some 3), none, []⟩ :: L54_0
theorem v54_1 : VS L54_1.eq_1 := rfl
def L54_2 : List AStep := [⟨.mov (.t 10), (some 4), none, []⟩]
theorem v54_2 : VS L54_2.eq_1 := rfl
def L54_3 : List AStep := ⟨.call 43 [(.t 8)], (some 9), (some (7, true)), []⟩ :: ⟨.pick (.t 7) (.t 9) (.c (.bool false)), (some 10), none, []⟩ :: L54_2
theorem v54_3 : VS L54_3.eq_1 := rfl
def L54_4 : List AStep := ⟨.mov (.t 6), (some 7), none, []⟩ :: ⟨.load 2 true (.t 3), (some 8), (some (7, true)), []⟩ :: L54_3
theorem v54_4 : VS L54_4.eq_1 := rfl
def L54_5 : List AStep := ⟨.load 1 true (.t 2), (some 5), none, []⟩ :: ⟨.call 27 [(.t 5)], (some 6), none, []⟩ :: L54_4
theorem v54_5 : VS L54_5.eq_1 := rfl
def C54_0 : ACode := .seq (.reg L54_5) .ret
theorem u54_0 : VC C54_0.eq_1 := rfl
def C54_1 : ACode := .seq (.reg L54_1) C54_0
theorem u54_1 : VC C54_1.eq_1 := rfl
def F54 : AFunc := ⟨11, [.tmp 4], C54_1⟩
theorem cF54 : compB Try.prog 54 = some F54 := by kernel_rfl
attribute [local go_sem ↓] u54_0 u54_1 v54_0 v54_1 v54_2 v54_3 v54_4 v54_5
theorem c_fit (l : List Param) (f : Flat) (q p n : CV) (h : H) (hl : SlG h q l) (hf : SlF h p n f) (hn : miniG l) (hm : miniF f) : bm Try.prog 54 [.agg [q], .agg [p, n]] h = some (ib (fits l f), h) := by
  refine bm_eq cF54 ?_
  have c1 := c_ValidSignature l q h hl.out hn.sm
  have c2 := c_ValidFlat f p n h hf.pl hf.nl hm.sm
  unfold fits
  cases b1 : okSig l with
  | false =>
    rw [b1] at c1
    simp +contextual (maxSteps := 2000000) only [go_sem, Nat.reduceEqDiff, reduceCtorEq, Nat.reduceAdd, Nat.reduceLeDiff, F54, c1, Bool.false_and]
  | true =>
    rw [b1] at c1
    simp +contextual (maxSteps := 2000000) only [go_sem, Nat.reduceEqDiff, reduceCtorEq, Nat.reduceAdd, Nat.reduceLeDiff, F54, c1, c2, Bool.true_and]
/-! impl.Bind -/
def L32_0 : List AStep := [⟨.alloc 39 [(.sl none 0 (some 0))], (some 4), none, []⟩, ⟨.mov (.c (.bool false)), (some 5), none, []⟩]
theorem v32_0 : VS L32_0.eq_1 := rfl
def L32_1 : List AStep := ⟨.box 25 (.t 0), (some 2), none, []⟩ :: ⟨.box 29 (.t 1), (some 3), none, []⟩ :: L32_0
theorem v32_1 : VS L32_1.eq_1 := rfl
def L32_2 : List AStep := [⟨.call 54 [(.t 8), (.t 9)], (some 10), none, []⟩, ⟨.not (.t 10), (some 11), none, []⟩]
theorem v32_2 : VS L32_2.eq_1 := rfl
def L32_3 : List AStep := ⟨.load 1 true (.t 2), (some 8), none, []⟩ :: ⟨.load 2 true (.t 3), (some 9), none, []⟩ :: L32_2
theorem v32_3 : VS L32_3.eq_1 := rfl
def L32_4 : List AStep := [⟨.mov (.c (.bool false)), (some 5), none, []⟩]
theorem v32_4 : VS L32_4.eq_1 := rfl
def L32_5 : List AStep := ⟨.build [(.sl none 0 (some 0))] [], (some 12), none, []⟩ :: ⟨.store 1 (.t 4) (.t 12), none, none, []⟩ :: L32_4
theorem v32_5 : VS L32_5.eq_1 := rfl
def L32_6 : List AStep := [⟨.mov (.t 18), (some 7), none, []⟩]
theorem v32_6 : VS L32_6.eq_1 := rfl
def L32_7 : List AStep := ⟨.alloc 39 [(.sl none 0 (some 0))], (some 6), none, []⟩ :: ⟨.store 1 (.t 6) (.t 17), none, none, []⟩ :: L32_6
theorem v32_7 : VS L32_7.eq_1 := rfl
def L32_8 : List AStep := ⟨.extract (.t 13) 0, (some 17), none, []⟩ :: ⟨.extract (.t 13) 1, (some 18), none, []⟩ :: L32_7
theorem v32_8 : VS L32_8.eq_1 := rfl
def L32_9 : List AStep := ⟨.call 55 [(.t 14), (.t 15)], (some 16), none, []⟩ :: ⟨.mov (.t 16), (some 13), none, []⟩ :: L32_8
theorem v32_9 : VS L32_9.eq_1 := rfl
def L32_10 : List AStep := ⟨.load 1 true (.t 2), (some 14), none, []⟩ :: ⟨.load 2 true (.t 3), (some 15), none, []⟩ :: L32_9
theorem v32_10 : VS L32_10.eq_1 := rfl
def L32_11 : List AStep := [⟨.bin .gtr (.t 20) (.c (.int .i64 0)), (some 21), none, []⟩]
theorem v32_11 : VS L32_11.eq_1 := rfl
def L32_12 : List AStep := ⟨.mov (.t 7), (some 19), none, []⟩ :: ⟨.len (.t 19), (some 20), none, []⟩ :: L32_11
theorem v32_12 : VS L32_12.eq_1 := rfl
def L32_13 : List AStep := [⟨.mov (.c (.bool false)), (some 5), none, []⟩]
theorem v32_13 : VS L32_13.eq_1 := rfl
def L32_14 : List AStep := ⟨.build [(.sl none 0 (some 0))] [], (some 22), none, []⟩ :: ⟨.store 1 (.t 4) (.t 22), none, none, []⟩ :: L32_13
theorem v32_14 : VS L32_14.eq_1 := rfl
def L32_15 : List AStep := [⟨.mov (.c (.bool true)), (some 5), none, []⟩]
theorem v32_15 : VS L32_15.eq_1 := rfl
def L32_16 : List AStep := ⟨.load 1 true (.t 6), (some 23), none, []⟩ :: ⟨.store 1 (.t 4) (.t 23), none, none, []⟩ :: L32_15
theorem v32_16 : VS L32_16.eq_1 := rfl
def C32_0 : ACode := .seq (.reg L32_5) .ret
theorem u32_0 : VC C32_0.eq_1 := rfl
def C32_1 : ACode := .cond (.t 11) C32_0 .skip
theorem u32_1 : VC C32_1.eq_1 := rfl
def C32_2 : ACode := .seq (.reg L32_3) C32_1
theorem u32_2 : VC C32_2.eq_1 := rfl
def C32_3 : ACode := .seq (.reg L32_14) .ret
theorem u32_3 : VC C32_3.eq_1 := rfl
def C32_4 : ACode := .cond (.t 21) C32_3 .skip
theorem u32_4 : VC C32_4.eq_1 := rfl
def C32_5 : ACode := .seq (.reg L32_12) C32_4
theorem u32_5 : VC C32_5.eq_1 := rfl
def C32_6 : ACode := .seq (.reg L32_16) .ret
theorem u32_6 : VC C32_6.eq_1 := rfl
def C32_7 : ACode := .seq C32_5 C32_6
theorem u32_7 : VC C32_7.eq_1 := rfl
def C32_8 : ACode := .seq (.reg L32_10) C32_7
theorem u32_8 : VC C32_8.eq_1 := rfl
def C32_9 : ACode := .seq C32_2 C32_8
theorem u32_9 : VC C32_9.eq_1 := rfl
def C32_10 : ACode := .seq (.reg L32_1) C32_9
theorem u32_10 : VC C32_10.eq_1 := rfl
def F32 : AFunc := ⟨24, [.cell 4 1 true, .tmp 5], C32_10⟩
theorem cF32 : compB Try.prog 32 = some F32 := by kernel_rfl
attribute [local go_sem ↓] u32_0 u32_1 u32_2 u32_3 u32_4 u32_5 u32_6 u32_7 u32_8 u32_9 u32_10 v32_0 v32_1 v32_2 v32_3 v32_4 v32_5 v32_6 v32_7 v32_8 v32_9 v32_10 v32_11 v32_12 v32_13 v32_14 v32_15 v32_16
theorem k_iBind (l : List Param) (f : Flat) (q p n : CV) (h : H) (hl : SlG h q l) (hf : SlF h p n f) (hn : miniG l) (hm : miniF f) :
    callK (bm Try.prog 32 [.agg [q], .agg [p, n]] h) fun r h' => Grow h h' ∧ ∃ v rs, r = .tup [.agg [v], .one (.bool (acceptsF l f))] ∧ NwY h h' v rs (bindF l f) := by
  refine bm_of cF32 ?_
  have gc := c_fit l f q p n h hl hf hn hm
  unfold bindF acceptsF
  cases b1 : fits l f with
  | false =>
    rw [b1] at gc
    simp +contextual (maxSteps := 2000000) only [go_sem, Nat.reduceEqDiff, reduceCtorEq, Nat.reduceAdd, Nat.reduceLeDiff, F32, gc, Bool.false_and, if_false]
    exact ⟨Grow.refl h, _, [], rfl, .nil⟩
  | true =>
  rw [b1] at gc
  obtain ⟨ok1, ok2⟩ := fits_ok b1
  simp +contextual (maxSteps := 2000000) only [go_sem, Nat.reduceEqDiff, reduceCtorEq, Nat.reduceAdd, Nat.reduceLeDiff, F32, gc]
  refine wp_call (c_bind l f q p n h hl.out hf ok1 ok2) ?_
  rintro r h1 ⟨g1, v, w, rs, rfl, x⟩
  cases b2 : (wrong l f).isEmpty with
  | false =>
    simp +contextual (maxSteps := 2000000) only [go_sem, Nat.reduceEqDiff, reduceCtorEq, Nat.reduceAdd, Nat.reduceLeDiff, x.pr.length, len_pos, b2, Bool.true_and, if_false]
    exact gcK_of ⟨g1, _, [], rfl, .nil⟩ (fun hs _ => ⟨Grow.refl h, _, [], rfl, .nil⟩)
  | true =>
    simp +contextual (maxSteps := 2000000) only [go_sem, Nat.reduceEqDiff, reduceCtorEq, Nat.reduceAdd, Nat.reduceLeDiff, x.pr.length, len_pos, b2, Bool.true_and, if_true]
    exact gcK_of ⟨g1, _, _, rfl, x.sl⟩ (fun hs _ => ⟨Grow.refl h, _, _, rfl, x.sl.scalar (by simpa [AV.scalar, AV.scalars, CV.scalar] using hs) h⟩)
/-! impl.Accepts -/
def L45_0 : List AStep := [⟨.mov (.c (.bool false)), (some 4), none, []⟩]
theorem v45_0 : VS L45_0.eq_1 := rfl
def L45_1 : List AStep := ⟨.box 25 (.t 0), (some 2), none, []⟩ :: ⟨.box 29 (.t 1), (some 3), none, []⟩ :: L45_0
theorem v45_1 : VS L45_1.eq_1 := rfl
def L45_2 : List AStep := [⟨.mov (.t 12), (some 6), none, []⟩]
theorem v45_2 : VS L45_2.eq_1 := rfl
def L45_3 : List AStep := ⟨.alloc 39 [(.sl none 0 (some 0))], (some 5), none, []⟩ :: ⟨.store 1 (.t 5) (.t 11), none, none, []⟩ :: L45_2
theorem v45_3 : VS L45_3.eq_1 := rfl
def L45_4 : List AStep := ⟨.extract (.t 7) 0, (some 11), none, []⟩ :: ⟨.extract (.t 7) 1, (some 12), none, []⟩ :: L45_3
theorem v45_4 : VS L45_4.eq_1 := rfl
def L45_5 : List AStep := ⟨.call 32 [(.t 8), (.t 9)], (some 10), none, []⟩ :: ⟨.mov (.t 10), (some 7), none, []⟩ :: L45_4
theorem v45_5 : VS L45_5.eq_1 := rfl
def L45_6 : List AStep := ⟨.load 1 true (.t 2), (some 8), none, []⟩ :: ⟨.load 2 true (.t 3), (some 9), none, []⟩ :: L45_5
theorem v45_6 : VS L45_6.eq_1 := rfl
def L45_7 : List AStep := [⟨.mov (.t 6), (some 13), none, []⟩, ⟨.mov (.t 13), (some 4), none, []⟩]
theorem v45_7 : VS L45_7.eq_1 := rfl
def C45_0 : ACode := .seq (.reg L45_7) .ret
theorem u45_0 : VC C45_0.eq_1 := rfl
def C45_1 : ACode := .seq (.reg L45_6) C45_0
theorem u45_1 : VC C45_1.eq_1 := rfl
def C45_2 : ACode := .seq (.reg L45_1) C45_1
theorem u45_2 : VC C45_2.eq_1 := rfl
def F45 : AFunc := ⟨14, [.tmp 4], C45_2⟩
theorem cF45 : compB Try.prog 45 = some F45 := by kernel_rfl
attribute [local go_sem ↓] u45_0 u45_1 u45_2 v45_0 v45_1 v45_2 v45_3 v45_4 v45_5 v45_6 v45_7
theorem k_iAccepts (l : List Param) (f : Flat) (q p n : CV) (h : H) (hl : SlG h q l) (hf : SlF h p n f) (hn : miniG l) (hm : miniF f) : bm Try.prog 45 [.agg [q], .agg [p, n]] h = some (ib (acceptsF l f), h) := by
  refine bm_eq cF45 ?_
  simp +contextual (maxSteps := 2000000) only [go_sem, Nat.reduceEqDiff, reduceCtorEq, Nat.reduceAdd, Nat.reduceLeDiff, F45]
  refine wp_call (k_iBind l f q p n h hl hf hn hm) ?_
  rintro r h1 ⟨g1, v, rs, rfl, x⟩
  simp +contextual (maxSteps := 2000000) only [go_sem, Nat.reduceEqDiff, reduceCtorEq, Nat.reduceAdd, Nat.reduceLeDiff]
  exact gcR_of g1 rfl ⟨rfl, rfl⟩
end Go.Proofs.Ytekkimfdcbgcoac.Am
