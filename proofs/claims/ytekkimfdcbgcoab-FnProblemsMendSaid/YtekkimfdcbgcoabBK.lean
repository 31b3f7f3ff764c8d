/- Contracts: binding, of both sides. -/
import Derived.Test.YtekkimfdcbgcoabBJ
namespace Go.Proofs.Ytekkimfdcbgcoab.Am
open Go
set_option maxRecDepth 100000
set_option maxHeartbeats 4000000
set_option linter.unusedSimpArgs false
set_option linter.unusedVariables false
attribute [local go_sem ↓] bv_t bv_c ev_t ev_c put_same put_ne put_none kill_at pro_at lb_same lb_ne start_zero start_succ wpC_seq wpC_reg wpC_cond wpC_block wpC_skip wpC_exit wpC_ret thenQ_normal thenQ_exit thenQ_ret inBlk_normal inBlk_exit inBlk_ret wpS_nil wpS_step wpS_again wpS_guard wpO_mov wpO_load wpO_faddr wpO_nilCheck wpO_pick wpO_build wpO_bin wpO_eqb wpO_eqst wpO_eqnil wpO_not wpO_conv wpO_bytesStr wpO_iaddr wpO_idxStr wpO_field wpO_extract wpO_len wpO_lenStr wpO_cap wpO_min wpO_slice wpO_sliceStr wpO_alloc wpO_box wpO_store wpO_call wpO_callv wpO_mkfn wpO_buildSlice wpO_mkslice wpO_append wpO_appz proA_nil proA_cons tmpX_nil tmpX_tmp tmpX_cell doneB_normal doneB_ret agK_cons agK_nil agK_guard agG_tt agG_ff agG_tf agG_ft agG_undef pureB_load results_one results_two results_nil resBs_cons resBs_nil resB_tmp resB_cell
attribute [local go_sem] kill_v kill_lp_ne kill_lp_same pro_v pro_lp_same pro_lp_ne av_v av_lp optB_some optX_some valX_eq ldX_lp ldX_v faX_lp faX_v ncX_lp ncX_ptr ncX_fn boxK_one boxK_agg stL_some stK_lp_one stK_lp_agg stK_v_one stK_v_agg proM_v proM_lp callG_mk callVG_mk callvK_fn fnG_mk ptrsA_nil ptrsA_cons callH_some whenA_true whenA_false guardH_tt guardH_ff guardH_tf guardH_ft guardH_undef agV_one agV_agg lenO_sl lenStrO_str notO_bool pickO_bool convO_int eqbO_bool eqnilO_sl extractO_tup capO_sl minO_int loadL_one loadL_all storeL_eq fillA_nil fillA_one fillA_agg nat_ge neg_ge nat_lt neg_lt buildO bin_add bin_sub bin_mul bin_eql bin_neq bin_lss bin_leq bin_gtr bin_geq str_eql str_neq str_lss str_leq str_gtr str_geq retK_some endK_mk gcK_same gcK_int gcK_bool tupO_one tupO_agg rdy_self ib ii Option.map_none Option.map_some Option.some.injEq exists_eq_left' exists_eq_left ne_eq not_false_eq_true if_true if_false List.map_cons List.map_nil List.getElem?_cons_zero List.getElem?_cons_succ List.length_cons List.length_nil List.take_succ_cons List.take_zero List.take_nil List.drop_succ_cons List.drop_zero List.drop_nil List.cons_append List.nil_append List.append_nil List.set_cons_zero List.set_cons_succ Nat.zero_add forall_const true_and and_true and_self Bool.false_eq_true false_implies true_implies implies_true Bool.not_true Bool.not_false Bool.not_eq_true' Bool.not_eq_false' beq_self_eq_true Bool.bne_true Bool.bne_false
attribute [local go_sem] lenI lenS lenP lenQ lenB lenL lenT encI_0 encS_0 encP_0 encP_1 encQ_0 encQ_1 encQ_2 encQ_3 encB_0 encB_1 encL_0 encL_1 encT_0 encT_1
attribute [local go_sem low] whenA_bool guardH_bool
attribute [local go_sem] lenY encY_0 encY_1 encY_2
theorem miniG.smQ {l : List Param} (h : miniG l) : smQ l := h.sm
theorem miniY.bound {l : List Param} {f : Flat} (ok1 : okSig l = true) (ok2 : okFlat f = true) : miniY (boundS l f) := by
  have s := SOk.bound (l := l) ok2
  have hn := okSig_len ok1
  have hl : (boundS l f).length = l.length := boundS_len
  refine ⟨by omega, fun a ha => by have := s.list a ha; omega, fun a ha => by have := s.pairs a ha; omega, fun a ha x hx => by have := s.nm a ha x hx; omega, ?_⟩
  have := wsum_bound (f := cellsEY) (B := 26) (l := boundS l f) (fun a ha => by have := s.list a ha; have := s.pairs a ha; unfold cellsEY; omega)
  unfold cellsY
  have h2 : (boundS l f).length * 26 ≤ 8 * 26 := Nat.mul_le_mul_right _ (by omega)
  omega
theorem miniY.nil : miniY [] := ⟨by simp, fun a ha => by simp at ha, fun a ha => by simp at ha, fun a ha => by simp at ha, by simp [cellsY, wsum]⟩
theorem miniY.bind {l : List Param} {f : Flat} : miniY (bindF l f) := by
  unfold bindF
  split
  · rename_i h
    obtain ⟨ok1, ok2⟩ := fits_ok (accepts_fits h)
    exact .bound ok1 ok2
  · exact .nil
theorem miniY.part {l : List Param} {f : Flat} : miniY (bindPartF l f) := by
  unfold bindPartF
  split
  · rename_i h
    unfold partOk at h
    rw [Bool.and_eq_true] at h
    obtain ⟨ok1, ok2⟩ := fits_ok h.1
    exact .bound ok1 ok2
  · exact .nil
theorem smQ_of {l : List Param} (ok1 : okSig l = true) : smQ l := by
  have hn := okSig_len ok1
  exact ⟨by unfold big; omega, fun x hx => by have := okSig_name ok1 x hx; unfold big; omega⟩
theorem len_isEmpty {α : Type} (l : List α) : decide ((l.length : Int) = 0) = l.isEmpty := by
  cases l with
  | nil => rfl
  | cons a r => simp; omega
theorem len_pos {α : Type} (l : List α) : decide ((l.length : Int) > 0) = !l.isEmpty := by
  cases l with
  | nil => rfl
  | cons a r => simp
/-! spec.problems -/
def L67_0 : List AStep := [⟨.mov (.c (.sl none 0 (some 0))), (some 4), none, []⟩]
theorem v67_0 : VS L67_0.eq_1 := rfl
def L67_1 : List AStep := ⟨.box 25 (.t 0), (some 2), none, []⟩ :: ⟨.box 29 (.t 1), (some 3), none, []⟩ :: L67_0
theorem v67_1 : VS L67_1.eq_1 := rfl
def L67_2 : List AStep := [⟨.mov (.t 12), (some 6), none, []⟩]
theorem v67_2 : VS L67_2.eq_1 := rfl
def L67_3 : List AStep := ⟨.alloc 56 [(.sl none 0 (some 0))], (some 5), none, []⟩ :: ⟨.store 1 (.t 5) (.t 11), none, none, []⟩ :: L67_2
theorem v67_3 : VS L67_3.eq_1 := rfl
def L67_4 : List AStep := ⟨.extract (.t 7) 0, (some 11), none, []⟩ :: ⟨.extract (.t 7) 1, (some 12), none, []⟩ :: L67_3
theorem v67_4 : VS L67_4.eq_1 := rfl
def L67_5 : List AStep := ⟨.call 72 [(.t 8), (.t 9)], (some 10), none, []⟩ :: ⟨.mov (.t 10), (some 7), none, []⟩ :: L67_4
theorem v67_5 : VS L67_5.eq_1 := rfl
def L67_6 : List AStep := ⟨.load 1 true (.t 2), (some 8), none, []⟩ :: ⟨.load 2 true (.t 3), (some 9), none, []⟩ :: L67_5
theorem v67_6 : VS L67_6.eq_1 := rfl
def L67_7 : List AStep := [⟨.append 52 2 24 (.t 13) (.t 16), (some 17), none, []⟩, ⟨.mov (.t 17), (some 4), none, []⟩]
theorem v67_7 : VS L67_7.eq_1 := rfl
def L67_8 : List AStep := ⟨.load 1 true (.t 5), (some 15), none, []⟩ :: ⟨.call 116 [(.t 14), (.t 15)], (some 16), none, []⟩ :: L67_7
theorem v67_8 : VS L67_8.eq_1 := rfl
def L67_9 : List AStep := ⟨.mov (.t 6), (some 13), none, []⟩ :: ⟨.load 1 true (.t 2), (some 14), none, []⟩ :: L67_8
theorem v67_9 : VS L67_9.eq_1 := rfl
def C67_0 : ACode := .seq (.reg L67_9) .ret
theorem u67_0 : VC C67_0.eq_1 := rfl
def C67_1 : ACode := .seq (.reg L67_6) C67_0
theorem u67_1 : VC C67_1.eq_1 := rfl
def C67_2 : ACode := .seq (.reg L67_1) C67_1
theorem u67_2 : VC C67_2.eq_1 := rfl
def F67 : AFunc := ⟨18, [.tmp 4], C67_2⟩
theorem cF67 : compB Try.prog 67 = some F67 := by kernel_rfl
attribute [local go_sem ↓] u67_0 u67_1 u67_2 v67_0 v67_1 v67_2 v67_3 v67_4 v67_5 v67_6 v67_7 v67_8 v67_9
theorem c_problems (l : List Param) (f : Flat) (q p n : CV) (h : H) (hl : SlQ h (.one q) l) (hf : SlF h p n f) (ok1 : okSig l = true) (ok2 : okFlat f = true) :
    callK (bm Try.prog 67 [.agg [q], .agg [p, n]] h) fun r h' => Grow h h' ∧ NwB h h' r (wrong l f) := by
  refine bm_of cF67 ?_
  have hn := okSig_len ok1
  obtain ⟨hb1, hb2, hb3⟩ := okFlat_sm ok2
  have hbb : (boundB l f).length ≤ 9 := by have := (BOk.nameF (l := l) (f := f) hb3 (Nat.le_refl _)).bad; unfold boundB; omega
  simp +contextual (maxSteps := 2000000) only [go_sem, Nat.reduceEqDiff, reduceCtorEq, Nat.reduceAdd, Nat.reduceLeDiff, F67]
  refine wp_call (c_bound l f q p n h hl hf ok1 ok2) ?_
  rintro r h1 ⟨g1, v, w, rs, rfl, x⟩
  simp +contextual (maxSteps := 2000000) only [go_sem, Nat.reduceEqDiff, reduceCtorEq, Nat.reduceAdd, Nat.reduceLeDiff]
  refine wp_call (c_missing l (boundS l f) rs q v h1 (hl.grow g1) hn x.sl.out.rd boundS_len) ?_
  rintro r h2 ⟨g2, n2⟩
  simp +contextual (maxSteps := 2000000) only [go_sem, Nat.reduceEqDiff, reduceCtorEq, Nat.reduceAdd, Nat.reduceLeDiff]
  refine wp_append lenB (x.pr.grow g2) (n2.sl lenB) (g1.trans g2) (by have := missF_len (l := l) (sl := boundS l f) (i := l.length); unfold missing; omega) ?_
  intro h3 s3 g3 n3 _ _
  simp +contextual (maxSteps := 2000000) only [go_sem, Nat.reduceEqDiff, reduceCtorEq, Nat.reduceAdd, Nat.reduceLeDiff]
  exact gcK_of ⟨g3, n3⟩ (fun hs _ => ⟨Grow.refl h, n3.scalar hs h⟩)
/-! spec.BindPart -/
def L29_0 : List AStep := [⟨.alloc 56 [(.sl none 0 (some 0))], (some 4), none, []⟩, ⟨.mov (.c (.bool false)), (some 5), none, []⟩]
theorem v29_0 : VS L29_0.eq_1 := rfl
def L29_1 : List AStep := ⟨.box 25 (.t 0), (some 2), none, []⟩ :: ⟨.box 29 (.t 1), (some 3), none, []⟩ :: L29_0
theorem v29_1 : VS L29_1.eq_1 := rfl
def L29_2 : List AStep := [⟨.call 66 [(.t 8), (.t 9)], (some 10), none, []⟩, ⟨.not (.t 10), (some 11), none, []⟩]
theorem v29_2 : VS L29_2.eq_1 := rfl
def L29_3 : List AStep := ⟨.load 1 true (.t 2), (some 8), none, []⟩ :: ⟨.load 2 true (.t 3), (some 9), none, []⟩ :: L29_2
theorem v29_3 : VS L29_3.eq_1 := rfl
def L29_4 : List AStep := [⟨.mov (.c (.bool false)), (some 5), none, []⟩]
theorem v29_4 : VS L29_4.eq_1 := rfl
def L29_5 : List AStep := ⟨.build [(.sl none 0 (some 0))] [], (some 12), none, []⟩ :: ⟨.store 1 (.t 4) (.t 12), none, none, []⟩ :: L29_4
theorem v29_5 : VS L29_5.eq_1 := rfl
def L29_6 : List AStep := [⟨.mov (.t 18), (some 7), none, []⟩]
theorem v29_6 : VS L29_6.eq_1 := rfl
def L29_7 : List AStep := ⟨.alloc 56 [(.sl none 0 (some 0))], (some 6), none, []⟩ :: ⟨.store 1 (.t 6) (.t 17), none, none, []⟩ :: L29_6
theorem v29_7 : VS L29_7.eq_1 := rfl
def L29_8 : List AStep := ⟨.extract (.t 13) 0, (some 17), none, []⟩ :: ⟨.extract (.t 13) 1, (some 18), none, []⟩ :: L29_7
theorem v29_8 : VS L29_8.eq_1 := rfl
def L29_9 : List AStep := ⟨.call 72 [(.t 14), (.t 15)], (some 16), none, []⟩ :: ⟨.mov (.t 16), (some 13), none, []⟩ :: L29_8
theorem v29_9 : VS L29_9.eq_1 := rfl
def L29_10 : List AStep := ⟨.load 1 true (.t 2), (some 14), none, []⟩ :: ⟨.load 2 true (.t 3), (some 15), none, []⟩ :: L29_9
theorem v29_10 : VS L29_10.eq_1 := rfl
def L29_11 : List AStep := [⟨.bin .gtr (.t 20) (.c (.int .i64 0)), (some 21), none, []⟩]
theorem v29_11 : VS L29_11.eq_1 := rfl
def L29_12 : List AStep := ⟨.mov (.t 7), (some 19), none, []⟩ :: ⟨.len (.t 19), (some 20), none, []⟩ :: L29_11
theorem v29_12 : VS L29_12.eq_1 := rfl
def L29_13 : List AStep := [⟨.mov (.c (.bool false)), (some 5), none, []⟩]
theorem v29_13 : VS L29_13.eq_1 := rfl
def L29_14 : List AStep := ⟨.build [(.sl none 0 (some 0))] [], (some 22), none, []⟩ :: ⟨.store 1 (.t 4) (.t 22), none, none, []⟩ :: L29_13
theorem v29_14 : VS L29_14.eq_1 := rfl
def L29_15 : List AStep := [⟨.mov (.c (.bool true)), (some 5), none, []⟩]
theorem v29_15 : VS L29_15.eq_1 := rfl
def L29_16 : List AStep := ⟨.load 1 true (.t 6), (some 23), none, []⟩ :: ⟨.store 1 (.t 4) (.t 23), none, none, []⟩ :: L29_15
theorem v29_16 : VS L29_16.eq_1 := rfl
def C29_0 : ACode := .seq (.reg L29_5) .ret
theorem u29_0 : VC C29_0.eq_1 := rfl
def C29_1 : ACode := .cond (.t 11) C29_0 .skip
theorem u29_1 : VC C29_1.eq_1 := rfl
def C29_2 : ACode := .seq (.reg L29_3) C29_1
theorem u29_2 : VC C29_2.eq_1 := rfl
def C29_3 : ACode := .seq (.reg L29_14) .ret
theorem u29_3 : VC C29_3.eq_1 := rfl
def C29_4 : ACode := .cond (.t 21) C29_3 .skip
theorem u29_4 : VC C29_4.eq_1 := rfl
def C29_5 : ACode := .seq (.reg L29_12) C29_4
theorem u29_5 : VC C29_5.eq_1 := rfl
def C29_6 : ACode := .seq (.reg L29_16) .ret
theorem u29_6 : VC C29_6.eq_1 := rfl
def C29_7 : ACode := .seq C29_5 C29_6
theorem u29_7 : VC C29_7.eq_1 := rfl
def C29_8 : ACode := .seq (.reg L29_10) C29_7
theorem u29_8 : VC C29_8.eq_1 := rfl
def C29_9 : ACode := .seq C29_2 C29_8
theorem u29_9 : VC C29_9.eq_1 := rfl
def C29_10 : ACode := .seq (.reg L29_1) C29_9
theorem u29_10 : VC C29_10.eq_1 := rfl
def F29 : AFunc := ⟨24, [.cell 4 1 true, .tmp 5], C29_10⟩
theorem cF29 : compB Try.prog 29 = some F29 := by kernel_rfl
attribute [local go_sem ↓] u29_0 u29_1 u29_2 u29_3 u29_4 u29_5 u29_6 u29_7 u29_8 u29_9 u29_10 v29_0 v29_1 v29_2 v29_3 v29_4 v29_5 v29_6 v29_7 v29_8 v29_9 v29_10 v29_11 v29_12 v29_13 v29_14 v29_15 v29_16
theorem k_sBindPart (l : List Param) (f : Flat) (q p n : CV) (h : H) (hl : SlG h q l) (hf : SlF h p n f) (hn : miniG l) (hm : miniF f) :
    callK (bm Try.prog 29 [.agg [q], .agg [p, n]] h) fun r h' => Grow h h' ∧ ∃ v rs, r = .tup [.agg [v], .one (.bool (partOk l f))] ∧ NwY h h' v rs (bindPartF l f) := by
  refine bm_of cF29 ?_
  have gc := c_goodCall l f q p n h hl.out hn.sm hf.pl hf.nl hm.sm
  unfold bindPartF partOk
  cases b1 : fits l f with
  | false =>
    have b1' : (okSig l && okFlat f) = false := b1
    simp +contextual (maxSteps := 2000000) only [go_sem, Nat.reduceEqDiff, reduceCtorEq, Nat.reduceAdd, Nat.reduceLeDiff, F29, gc, b1', Bool.false_and, if_false]
    exact ⟨Grow.refl h, _, [], rfl, .nil⟩
  | true =>
  have b1' : (okSig l && okFlat f) = true := b1
  obtain ⟨ok1, ok2⟩ := fits_ok b1
  simp +contextual (maxSteps := 2000000) only [go_sem, Nat.reduceEqDiff, reduceCtorEq, Nat.reduceAdd, Nat.reduceLeDiff, F29, gc, b1']
  refine wp_call (c_bound l f q p n h hl.out hf ok1 ok2) ?_
  rintro r h1 ⟨g1, v, w, rs, rfl, x⟩
  cases b2 : (boundB l f).isEmpty with
  | false =>
    simp +contextual (maxSteps := 2000000) only [go_sem, Nat.reduceEqDiff, reduceCtorEq, Nat.reduceAdd, Nat.reduceLeDiff, x.pr.length, len_pos, b2, Bool.true_and, if_false]
    exact gcK_of ⟨g1, _, [], rfl, .nil⟩ (fun hs _ => ⟨Grow.refl h, _, [], rfl, .nil⟩)
  | true =>
    simp +contextual (maxSteps := 2000000) only [go_sem, Nat.reduceEqDiff, reduceCtorEq, Nat.reduceAdd, Nat.reduceLeDiff, x.pr.length, len_pos, b2, Bool.true_and, if_true]
    exact gcK_of ⟨g1, _, _, rfl, x.sl⟩ (fun hs _ => ⟨Grow.refl h, _, _, rfl, x.sl.scalar (by simpa [AV.scalar, AV.scalars, CV.scalar] using hs) h⟩)
/-! spec.Problems -/
def L25_0 : List AStep := [⟨.mov (.c (.sl none 0 (some 0))), (some 4), none, []⟩]
theorem v25_0 : VS L25_0.eq_1 := rfl
def L25_1 : List AStep := ⟨.box 25 (.t 0), (some 2), none, []⟩ :: ⟨.box 29 (.t 1), (some 3), none, []⟩ :: L25_0
theorem v25_1 : VS L25_1.eq_1 := rfl
def L25_2 : List AStep := [⟨.call 66 [(.t 5), (.t 6)], (some 7), none, []⟩, ⟨.not (.t 7), (some 8), none, []⟩]
theorem v25_2 : VS L25_2.eq_1 := rfl
def L25_3 : List AStep := ⟨.load 1 true (.t 2), (some 5), none, []⟩ :: ⟨.load 2 true (.t 3), (some 6), none, []⟩ :: L25_2
theorem v25_3 : VS L25_3.eq_1 := rfl
def L25_4 : List AStep := [⟨.mov (.c (.sl none 0 (some 0))), (some 4), none, []⟩]
theorem v25_4 : VS L25_4.eq_1 := rfl
def L25_5 : List AStep := [⟨.call 67 [(.t 9), (.t 10)], (some 11), none, []⟩, ⟨.mov (.t 11), (some 4), none, []⟩]
theorem v25_5 : VS L25_5.eq_1 := rfl
def L25_6 : List AStep := ⟨.load 1 true (.t 2), (some 9), none, []⟩ :: ⟨.load 2 true (.t 3), (some 10), none, []⟩ :: L25_5
theorem v25_6 : VS L25_6.eq_1 := rfl
def C25_0 : ACode := .seq (.reg L25_4) .ret
theorem u25_0 : VC C25_0.eq_1 := rfl
def C25_1 : ACode := .cond (.t 8) C25_0 .skip
theorem u25_1 : VC C25_1.eq_1 := rfl
def C25_2 : ACode := .seq (.reg L25_3) C25_1
theorem u25_2 : VC C25_2.eq_1 := rfl
def C25_3 : ACode := .seq (.reg L25_6) .ret
theorem u25_3 : VC C25_3.eq_1 := rfl
def C25_4 : ACode := .seq C25_2 C25_3
theorem u25_4 : VC C25_4.eq_1 := rfl
def C25_5 : ACode := .seq (.reg L25_1) C25_4
theorem u25_5 : VC C25_5.eq_1 := rfl
def F25 : AFunc := ⟨12, [.tmp 4], C25_5⟩
theorem cF25 : compB Try.prog 25 = some F25 := by kernel_rfl
attribute [local go_sem ↓] u25_0 u25_1 u25_2 u25_3 u25_4 u25_5 v25_0 v25_1 v25_2 v25_3 v25_4 v25_5 v25_6
theorem k_sProblems (l : List Param) (f : Flat) (q p n : CV) (h : H) (hl : SlG h q l) (hf : SlF h p n f) (hn : miniG l) (hm : miniF f) :
    callK (bm Try.prog 25 [.agg [q], .agg [p, n]] h) fun r h' => Grow h h' ∧ NwB h h' r (problemsF l f) := by
  refine bm_of cF25 ?_
  have gc := c_goodCall l f q p n h hl.out hn.sm hf.pl hf.nl hm.sm
  unfold problemsF
  cases b1 : fits l f with
  | false =>
    have b1' : (okSig l && okFlat f) = false := b1
    simp +contextual (maxSteps := 2000000) only [go_sem, Nat.reduceEqDiff, reduceCtorEq, Nat.reduceAdd, Nat.reduceLeDiff, F25, gc, b1', if_false]
    exact ⟨Grow.refl h, .nil⟩
  | true =>
  have b1' : (okSig l && okFlat f) = true := b1
  obtain ⟨ok1, ok2⟩ := fits_ok b1
  simp +contextual (maxSteps := 2000000) only [go_sem, Nat.reduceEqDiff, reduceCtorEq, Nat.reduceAdd, Nat.reduceLeDiff, F25, gc, b1', if_true]
  refine wp_call (c_problems l f q p n h hl.out hf ok1 ok2) ?_
  rintro r h1 ⟨g1, n1⟩
  simp +contextual (maxSteps := 2000000) only [go_sem, Nat.reduceEqDiff, reduceCtorEq, Nat.reduceAdd, Nat.reduceLeDiff]
  exact gcK_of ⟨g1, n1⟩ (fun hs _ => ⟨Grow.refl h, n1.scalar hs h⟩)
/-! impl.fit -/
def L64_0 : List AStep := [⟨.mov (.c (.bool false)), (some 4), none, []⟩]
theorem v64_0 : VS L64_0.eq_1 := rfl
def L64_1 : List AStep := ⟨.box 25 (.t 0), (some 2), none, []⟩ :: ⟨.box 29 (.t 1), (some 3), none, []⟩ :: L64_0
theorem v64_1 : VS L64_1.eq_1 := rfl
def L64_2 : List AStep := [⟨.mov (.t 10), (some 4), none, []⟩]
theorem v64_2 : VS L64_2.eq_1 := rfl
def L64_3 : List AStep := ⟨.call 32 [(.t 8)], (some 9), (some (7, true)), []⟩ :: ⟨.pick (.t 7) (.t 9) (.c (.bool false)), (some 10), none, []⟩ :: L64_2
theorem v64_3 : VS L64_3.eq_1 := rfl
def L64_4 : List AStep := ⟨.mov (.t 6), (some 7), none, []⟩ :: ⟨.load 2 true (.t 3), (some 8), (some (7, true)), []⟩ :: L64_3
theorem v64_4 : VS L64_4.eq_1 := rfl
def L64_5 : List AStep := ⟨.load 1 true (.t 2), (some 5), none, []⟩ :: ⟨.call 31 [(.t 5)], (some 6), none, []⟩ :: L64_4
theorem v64_5 : VS L64_5.eq_1 := rfl
def C64_0 : ACode := .seq (.reg L64_5) .ret
theorem u64_0 : VC C64_0.eq_1 := rfl
def C64_1 : ACode := .seq (.reg L64_1) C64_0
theorem u64_1 : VC C64_1.eq_1 := rfl
def F64 : AFunc := ⟨11, [.tmp 4], C64_1⟩
theorem cF64 : compB Try.prog 64 = some F64 := by kernel_rfl
attribute [local go_sem ↓] u64_0 u64_1 v64_0 v64_1 v64_2 v64_3 v64_4 v64_5
theorem c_fit (l : List Param) (f : Flat) (q p n : CV) (h : H) (hl : SlG h q l) (hf : SlF h p n f) (hn : miniG l) (hm : miniF f) : bm Try.prog 64 [.agg [q], .agg [p, n]] h = some (ib (fits l f), h) := by
  refine bm_eq cF64 ?_
  have c1 := c_ValidSignature l q h hl.out hn.sm
  have c2 := c_ValidFlat f p n h hf.pl hf.nl hm.sm
  unfold fits
  cases b1 : okSig l with
  | false =>
    rw [b1] at c1
    simp +contextual (maxSteps := 2000000) only [go_sem, Nat.reduceEqDiff, reduceCtorEq, Nat.reduceAdd, Nat.reduceLeDiff, F64, c1, Bool.false_and]
  | true =>
    rw [b1] at c1
    simp +contextual (maxSteps := 2000000) only [go_sem, Nat.reduceEqDiff, reduceCtorEq, Nat.reduceAdd, Nat.reduceLeDiff, F64, c1, c2, Bool.true_and]
/-! impl.Problems -/
def L23_0 : List AStep := [⟨.mov (.c (.sl none 0 (some 0))), (some 4), none, []⟩]
theorem v23_0 : VS L23_0.eq_1 := rfl
def L23_1 : List AStep := ⟨.box 25 (.t 0), (some 2), none, []⟩ :: ⟨.box 29 (.t 1), (some 3), none, []⟩ :: L23_0
theorem v23_1 : VS L23_1.eq_1 := rfl
def L23_2 : List AStep := [⟨.call 64 [(.t 7), (.t 8)], (some 9), none, []⟩, ⟨.not (.t 9), (some 10), none, []⟩]
theorem v23_2 : VS L23_2.eq_1 := rfl
def L23_3 : List AStep := ⟨.load 1 true (.t 2), (some 7), none, []⟩ :: ⟨.load 2 true (.t 3), (some 8), none, []⟩ :: L23_2
theorem v23_3 : VS L23_3.eq_1 := rfl
def L23_4 : List AStep := [⟨.mov (.c (.sl none 0 (some 0))), (some 4), none, []⟩]
theorem v23_4 : VS L23_4.eq_1 := rfl
def L23_5 : List AStep := [⟨.mov (.t 16), (some 6), none, []⟩]
theorem v23_5 : VS L23_5.eq_1 := rfl
def L23_6 : List AStep := ⟨.alloc 56 [(.sl none 0 (some 0))], (some 5), none, []⟩ :: ⟨.store 1 (.t 5) (.t 15), none, none, []⟩ :: L23_5
theorem v23_6 : VS L23_6.eq_1 := rfl
def L23_7 : List AStep := ⟨.extract (.t 11) 0, (some 15), none, []⟩ :: ⟨.extract (.t 11) 1, (some 16), none, []⟩ :: L23_6
theorem v23_7 : VS L23_7.eq_1 := rfl
def L23_8 : List AStep := ⟨.call 65 [(.t 12), (.t 13)], (some 14), none, []⟩ :: ⟨.mov (.t 14), (some 11), none, []⟩ :: L23_7
theorem v23_8 : VS L23_8.eq_1 := rfl
def L23_9 : List AStep := ⟨.load 1 true (.t 2), (some 12), none, []⟩ :: ⟨.load 2 true (.t 3), (some 13), none, []⟩ :: L23_8
theorem v23_9 : VS L23_9.eq_1 := rfl
def L23_10 : List AStep := [⟨.mov (.t 6), (some 17), none, []⟩, ⟨.mov (.t 17), (some 4), none, []⟩]
theorem v23_10 : VS L23_10.eq_1 := rfl
def C23_0 : ACode := .seq (.reg L23_4) .ret
theorem u23_0 : VC C23_0.eq_1 := rfl
def C23_1 : ACode := .cond (.t 10) C23_0 .skip
theorem u23_1 : VC C23_1.eq_1 := rfl
def C23_2 : ACode := .seq (.reg L23_3) C23_1
theorem u23_2 : VC C23_2.eq_1 := rfl
def C23_3 : ACode := .seq (.reg L23_10) .ret
theorem u23_3 : VC C23_3.eq_1 := rfl
def C23_4 : ACode := .seq (.reg L23_9) C23_3
theorem u23_4 : VC C23_4.eq_1 := rfl
def C23_5 : ACode := .seq C23_2 C23_4
theorem u23_5 : VC C23_5.eq_1 := rfl
def C23_6 : ACode := .seq (.reg L23_1) C23_5
theorem u23_6 : VC C23_6.eq_1 := rfl
def F23 : AFunc := ⟨18, [.tmp 4], C23_6⟩
theorem cF23 : compB Try.prog 23 = some F23 := by kernel_rfl
attribute [local go_sem ↓] u23_0 u23_1 u23_2 u23_3 u23_4 u23_5 u23_6 v23_0 v23_1 v23_2 v23_3 v23_4 v23_5 v23_6 v23_7 v23_8 v23_9 v23_10
theorem k_iProblems (l : List Param) (f : Flat) (q p n : CV) (h : H) (hl : SlG h q l) (hf : SlF h p n f) (hn : miniG l) (hm : miniF f) :
    callK (bm Try.prog 23 [.agg [q], .agg [p, n]] h) fun r h' => Grow h h' ∧ NwB h h' r (problemsF l f) := by
  refine bm_of cF23 ?_
  have gc := c_fit l f q p n h hl hf hn hm
  unfold problemsF
  cases b1 : fits l f with
  | false =>
    rw [b1] at gc
    simp +contextual (maxSteps := 2000000) only [go_sem, Nat.reduceEqDiff, reduceCtorEq, Nat.reduceAdd, Nat.reduceLeDiff, F23, gc, if_false]
    exact ⟨Grow.refl h, .nil⟩
  | true =>
  rw [b1] at gc
  obtain ⟨ok1, ok2⟩ := fits_ok b1
  simp +contextual (maxSteps := 2000000) only [go_sem, Nat.reduceEqDiff, reduceCtorEq, Nat.reduceAdd, Nat.reduceLeDiff, F23, gc, if_true]
  refine wp_call (c_bind l f q p n h hl.out hf ok1 ok2) ?_
  rintro r h1 ⟨g1, v, w, rs, rfl, x⟩
  simp +contextual (maxSteps := 2000000) only [go_sem, Nat.reduceEqDiff, reduceCtorEq, Nat.reduceAdd, Nat.reduceLeDiff]
  exact gcK_of ⟨g1, x.pr⟩ (fun hs _ => ⟨Grow.refl h, x.pr.scalar (by simpa [AV.scalar] using hs) h⟩)
/-! impl.BindPart$1 -/
def L71_0 : List AStep := [⟨.box 52 (.t 0), (some 1), none, []⟩, ⟨.mov (.c (.bool false)), (some 2), none, []⟩]
theorem v71_0 : VS L71_0.eq_1 := rfl
def L71_1 : List AStep := [⟨.bin .neq (.t 4) (.c (.int .i64 3)), (some 5), none, []⟩, ⟨.mov (.t 5), (some 2), none, []⟩]
theorem v71_1 : VS L71_1.eq_1 := rfl
def L71_2 : List AStep := ⟨.faddr 0 (.t 1), (some 3), none, []⟩ :: ⟨.load 1 false (.t 3), (some 4), none, []⟩ :: L71_1
theorem v71_2 : VS L71_2.eq_1 := rfl
def C71_0 : ACode := .seq (.reg L71_2) .ret
theorem u71_0 : VC C71_0.eq_1 := rfl
def C71_1 : ACode := .seq (.reg L71_0) C71_0
theorem u71_1 : VC C71_1.eq_1 := rfl
def F71 : AFunc := ⟨6, [.tmp 2], C71_1⟩
theorem cF71 : compB Try.prog 71 = some F71 := by kernel_rfl
attribute [local go_sem ↓] u71_0 u71_1 v71_0 v71_1 v71_2
theorem c_BindPart1 (x : Problem) (h : H) : bm Try.prog 71 [.agg (encB x)] h = some (ib (!(decide (x.kind = 3))), h) := by
  refine bm_eq cF71 ?_
  simp +contextual (maxSteps := 2000000) only [go_sem, Nat.reduceEqDiff, reduceCtorEq, Nat.reduceAdd, Nat.reduceLeDiff, F71]
/-! impl.BindPart -/
def L28_0 : List AStep := [⟨.alloc 56 [(.sl none 0 (some 0))], (some 4), none, []⟩, ⟨.mov (.c (.bool false)), (some 5), none, []⟩]
theorem v28_0 : VS L28_0.eq_1 := rfl
def L28_1 : List AStep := ⟨.box 25 (.t 0), (some 2), none, []⟩ :: ⟨.box 29 (.t 1), (some 3), none, []⟩ :: L28_0
theorem v28_1 : VS L28_1.eq_1 := rfl
def L28_2 : List AStep := [⟨.call 64 [(.t 8), (.t 9)], (some 10), none, []⟩, ⟨.not (.t 10), (some 11), none, []⟩]
theorem v28_2 : VS L28_2.eq_1 := rfl
def L28_3 : List AStep := ⟨.load 1 true (.t 2), (some 8), none, []⟩ :: ⟨.load 2 true (.t 3), (some 9), none, []⟩ :: L28_2
theorem v28_3 : VS L28_3.eq_1 := rfl
def L28_4 : List AStep := [⟨.mov (.c (.bool false)), (some 5), none, []⟩]
theorem v28_4 : VS L28_4.eq_1 := rfl
def L28_5 : List AStep := ⟨.build [(.sl none 0 (some 0))] [], (some 12), none, []⟩ :: ⟨.store 1 (.t 4) (.t 12), none, none, []⟩ :: L28_4
theorem v28_5 : VS L28_5.eq_1 := rfl
def L28_6 : List AStep := [⟨.mov (.t 18), (some 7), none, []⟩]
theorem v28_6 : VS L28_6.eq_1 := rfl
def L28_7 : List AStep := ⟨.alloc 56 [(.sl none 0 (some 0))], (some 6), none, []⟩ :: ⟨.store 1 (.t 6) (.t 17), none, none, []⟩ :: L28_6
theorem v28_7 : VS L28_7.eq_1 := rfl
def L28_8 : List AStep := ⟨.extract (.t 13) 0, (some 17), none, []⟩ :: ⟨.extract (.t 13) 1, (some 18), none, []⟩ :: L28_7
theorem v28_8 : VS L28_8.eq_1 := rfl
def L28_9 : List AStep := ⟨.call 65 [(.t 14), (.t 15)], (some 16), none, []⟩ :: ⟨.mov (.t 16), (some 13), none, []⟩ :: L28_8
theorem v28_9 : VS L28_9.eq_1 := rfl
def L28_10 : List AStep := ⟨.load 1 true (.t 2), (some 14), none, []⟩ :: ⟨.load 2 true (.t 3), (some 15), none, []⟩ :: L28_9
theorem v28_10 : VS L28_10.eq_1 := rfl
def L28_11 : List AStep := [⟨.mov (.t 7), (some 19), none, []⟩, ⟨.call 70 [(.t 19), (.c (.fn 71 []))], (some 20), none, []⟩]
theorem v28_11 : VS L28_11.eq_1 := rfl
def L28_12 : List AStep := [⟨.mov (.c (.bool false)), (some 5), none, []⟩]
theorem v28_12 : VS L28_12.eq_1 := rfl
def L28_13 : List AStep := ⟨.build [(.sl none 0 (some 0))] [], (some 21), none, []⟩ :: ⟨.store 1 (.t 4) (.t 21), none, none, []⟩ :: L28_12
theorem v28_13 : VS L28_13.eq_1 := rfl
def L28_14 : List AStep := [⟨.mov (.c (.bool true)), (some 5), none, []⟩]
theorem v28_14 : VS L28_14.eq_1 := rfl
def L28_15 : List AStep := ⟨.load 1 true (.t 6), (some 22), none, []⟩ :: ⟨.store 1 (.t 4) (.t 22), none, none, []⟩ :: L28_14
theorem v28_15 : VS L28_15.eq_1 := rfl
def C28_0 : ACode := .seq (.reg L28_5) .ret
theorem u28_0 : VC C28_0.eq_1 := rfl
def C28_1 : ACode := .cond (.t 11) C28_0 .skip
theorem u28_1 : VC C28_1.eq_1 := rfl
def C28_2 : ACode := .seq (.reg L28_3) C28_1
theorem u28_2 : VC C28_2.eq_1 := rfl
def C28_3 : ACode := .seq (.reg L28_13) .ret
theorem u28_3 : VC C28_3.eq_1 := rfl
def C28_4 : ACode := .cond (.t 20) C28_3 .skip
theorem u28_4 : VC C28_4.eq_1 := rfl
def C28_5 : ACode := .seq (.reg L28_11) C28_4
theorem u28_5 : VC C28_5.eq_1 := rfl
def C28_6 : ACode := .seq (.reg L28_15) .ret
theorem u28_6 : VC C28_6.eq_1 := rfl
def C28_7 : ACode := .seq C28_5 C28_6
theorem u28_7 : VC C28_7.eq_1 := rfl
def C28_8 : ACode := .seq (.reg L28_10) C28_7
theorem u28_8 : VC C28_8.eq_1 := rfl
def C28_9 : ACode := .seq C28_2 C28_8
theorem u28_9 : VC C28_9.eq_1 := rfl
def C28_10 : ACode := .seq (.reg L28_1) C28_9
theorem u28_10 : VC C28_10.eq_1 := rfl
def F28 : AFunc := ⟨23, [.cell 4 1 true, .tmp 5], C28_10⟩
theorem cF28 : compB Try.prog 28 = some F28 := by kernel_rfl
attribute [local go_sem ↓] u28_0 u28_1 u28_2 u28_3 u28_4 u28_5 u28_6 u28_7 u28_8 u28_9 u28_10 v28_0 v28_1 v28_2 v28_3 v28_4 v28_5 v28_6 v28_7 v28_8 v28_9 v28_10 v28_11 v28_12 v28_13 v28_14 v28_15
theorem k_iBindPart (l : List Param) (f : Flat) (q p n : CV) (h : H) (hl : SlG h q l) (hf : SlF h p n f) (hn : miniG l) (hm : miniF f) :
    callK (bm Try.prog 28 [.agg [q], .agg [p, n]] h) fun r h' => Grow h h' ∧ ∃ v rs, r = .tup [.agg [v], .one (.bool (partOk l f))] ∧ NwY h h' v rs (bindPartF l f) := by
  refine bm_of cF28 ?_
  have gc := c_fit l f q p n h hl hf hn hm
  unfold bindPartF partOk
  cases b1 : fits l f with
  | false =>
    rw [b1] at gc
    simp +contextual (maxSteps := 2000000) only [go_sem, Nat.reduceEqDiff, reduceCtorEq, Nat.reduceAdd, Nat.reduceLeDiff, F28, gc, Bool.false_and, if_false]
    exact ⟨Grow.refl h, _, [], rfl, .nil⟩
  | true =>
  rw [b1] at gc
  obtain ⟨ok1, ok2⟩ := fits_ok b1
  have hn8 := okSig_len ok1
  obtain ⟨hb1, hb2, hb3⟩ := okFlat_sm ok2
  have hbb : (wrong l f).length ≤ big := by
    have h1 := (BOk.nameF (l := l) (f := f) hb3 (Nat.le_refl _)).bad
    have h2 := missF_len (l := l) (sl := boundS l f) (i := l.length)
    unfold wrong boundB missing big
    rw [List.length_append]
    omega
  simp +contextual (maxSteps := 2000000) only [go_sem, Nat.reduceEqDiff, reduceCtorEq, Nat.reduceAdd, Nat.reduceLeDiff, F28, gc]
  refine wp_call (c_bind l f q p n h hl.out hf ok1 ok2) ?_
  rintro r h1 ⟨g1, v, w, rs, rfl, x⟩
  have e := c_hasB (wrong l f) _ 71 [] (fun p => !(decide (p.kind = 3))) h1 (x.pr.sl lenB) hbb (fun i hi x hx => c_BindPart1 x h1)
  rw [part_any] at e
  cases b2 : (boundB l f).isEmpty with
  | false =>
    rw [b2] at e
    simp +contextual (maxSteps := 2000000) only [go_sem, Nat.reduceEqDiff, reduceCtorEq, Nat.reduceAdd, Nat.reduceLeDiff, e, Bool.true_and, if_false]
    exact gcK_of ⟨g1, _, [], rfl, .nil⟩ (fun hs _ => ⟨Grow.refl h, _, [], rfl, .nil⟩)
  | true =>
    rw [b2] at e
    simp +contextual (maxSteps := 2000000) only [go_sem, Nat.reduceEqDiff, reduceCtorEq, Nat.reduceAdd, Nat.reduceLeDiff, e, Bool.true_and, if_true]
    exact gcK_of ⟨g1, _, _, rfl, x.sl⟩ (fun hs _ => ⟨Grow.refl h, _, _, rfl, x.sl.scalar (by simpa [AV.scalar, AV.scalars, CV.scalar] using hs) h⟩)
end Go.Proofs.Ytekkimfdcbgcoab.Am
