/- Contracts: binding, of both sides. -/
import Derived.Test.YtdalgphpacikkaaBJ
namespace Go.Proofs.Ytdalgphpacikkaa.Am
open Go
set_option maxRecDepth 100000
set_option maxHeartbeats 4000000
set_option linter.unusedSimpArgs false
set_option linter.unusedVariables false
attribute [local go_sem ↓] bv_t bv_c ev_t ev_c put_same put_ne put_none kill_at pro_at lb_same lb_ne start_zero start_succ wpC_seq wpC_reg wpC_cond wpC_block wpC_skip wpC_exit wpC_ret thenQ_normal thenQ_exit thenQ_ret inBlk_normal inBlk_exit inBlk_ret wpS_nil wpS_step wpS_again wpS_guard wpO_mov wpO_load wpO_faddr wpO_nilCheck wpO_pick wpO_build wpO_bin wpO_eqb wpO_eqst wpO_eqnil wpO_not wpO_conv wpO_bytesStr wpO_iaddr wpO_idxStr wpO_field wpO_extract wpO_len wpO_lenStr wpO_cap wpO_min wpO_slice wpO_sliceStr wpO_alloc wpO_box wpO_store wpO_call wpO_callv wpO_mkfn wpO_buildSlice wpO_mkslice wpO_append wpO_appz proA_nil proA_cons tmpX_nil tmpX_tmp tmpX_cell doneB_normal doneB_ret agK_cons agK_nil agK_guard agG_tt agG_ff agG_tf agG_ft agG_undef pureB_load results_one results_two results_nil resBs_cons resBs_nil resB_tmp resB_cell
attribute [local go_sem] kill_v kill_lp_ne kill_lp_same pro_v pro_lp_same pro_lp_ne av_v av_lp optB_some optX_some valX_eq ldX_lp ldX_v faX_lp faX_v ncX_lp ncX_ptr ncX_fn boxK_one boxK_agg stL_some stK_lp_one stK_lp_agg stK_v_one stK_v_agg proM_v proM_lp callG_mk callVG_mk callvK_fn fnG_mk ptrsA_nil ptrsA_cons callH_some whenA_true whenA_false guardH_tt guardH_ff guardH_tf guardH_ft guardH_undef agV_one agV_agg lenO_sl lenStrO_str notO_bool pickO_bool convO_int eqbO_bool eqnilO_sl extractO_tup capO_sl minO_int loadL_one loadL_all storeL_eq fillA_nil fillA_one fillA_agg nat_ge neg_ge nat_lt neg_lt buildO bin_add bin_sub bin_mul bin_eql bin_neq bin_lss bin_leq bin_gtr bin_geq str_eql str_neq str_lss str_leq str_gtr str_geq retK_some endK_mk gcK_same gcK_int gcK_bool tupO_one tupO_agg rdy_self ib ii Option.map_none Option.map_some Option.some.injEq exists_eq_left' exists_eq_left ne_eq not_false_eq_true if_true if_false List.map_cons List.map_nil List.getElem?_cons_zero List.getElem?_cons_succ List.length_cons List.length_nil List.take_succ_cons List.take_zero List.take_nil List.drop_succ_cons List.drop_zero List.drop_nil List.cons_append List.nil_append List.append_nil List.set_cons_zero List.set_cons_succ Nat.zero_add forall_const true_and and_true and_self Bool.false_eq_true false_implies true_implies implies_true Bool.not_true Bool.not_false Bool.not_eq_true' Bool.not_eq_false' beq_self_eq_true Bool.bne_true Bool.bne_false
attribute [local go_sem] lenI lenS lenP lenQ lenB lenL lenT encI_0 encS_0 encP_0 encP_1 encQ_0 encQ_1 encQ_2 encQ_3 encB_0 encB_1 encL_0 encL_1 encT_0 encT_1
attribute [local go_sem low] whenA_bool guardH_bool
attribute [local go_sem] lenY encY_0 encY_1 encY_2
theorem miniG.smQ {l : List Param} (h : miniG l) : smQ l := h.sm
theorem miniY.bound {l : List Param} {f : Flat} (ok1 : okSig l = true) (ok2 : okFlat f = true) : miniY (boundS l f) := by
  have s := SOk.bound (l := l) ok2
  have hn := okSig_len ok1
  have hl : (boundS l f).length = l.length := boundS_len
  refine ⟨by omega, fun a ha => by have := s.list a ha; omega, fun a ha => by have := s.pairs a ha; omega, fun a ha x hx => by have := s.nm a ha x hx; omega, ?_⟩
  have := wsum_bound (f := cellsEY) (B := 26) (l := boundS l f) (fun a ha => by have := s.list a ha; have := s.pairs a ha; unfold cellsEY; omega)
  unfold cellsY
  have h2 : (boundS l f).length * 26 ≤ 8 * 26 := Nat.mul_le_mul_right _ (by omega)
  omega
theorem miniY.nil : miniY [] := ⟨by simp, fun a ha => by simp at ha, fun a ha => by simp at ha, fun a ha => by simp at ha, by simp [cellsY, wsum]⟩
theorem miniY.bind {l : List Param} {f : Flat} : miniY (bindF l f) := by
  unfold bindF
  split
  · rename_i h
    obtain ⟨ok1, ok2⟩ := fits_ok (accepts_fits h)
    exact .bound ok1 ok2
  · exact .nil
theorem miniY.part {l : List Param} {f : Flat} : miniY (bindPartF l f) := by
  unfold bindPartF
  split
  · rename_i h
    unfold partOk at h
    rw [Bool.and_eq_true] at h
    obtain ⟨ok1, ok2⟩ := fits_ok h.1
    exact .bound ok1 ok2
  · exact .nil
theorem smQ_of {l : List Param} (ok1 : okSig l = true) : smQ l := by
  have hn := okSig_len ok1
  exact ⟨by unfold big; omega, fun x hx => by have := okSig_name ok1 x hx; unfold big; omega⟩
theorem len_isEmpty {α : Type} (l : List α) : decide ((l.length : Int) = 0) = l.isEmpty := by
  cases l with
  | nil => rfl
  | cons a r => simp; omega
theorem len_pos {α : Type} (l : List α) : decide ((l.length : Int) > 0) = !l.isEmpty := by
  cases l with
  | nil => rfl
  | cons a r => simp
/-! spec.problems -/
def L57_0 : List AStep := [⟨.mov (.c (.sl none 0 (some 0))), (some 4), none, []⟩]
theorem v57_0 : VS L57_0.eq_1 := rfl
def L57_1 : List AStep := ⟨.box 38 (.t 0), (some 2), none, []⟩ :: ⟨.box 42 (.t 1), (some 3), none, []⟩ :: L57_0
theorem v57_1 : VS L57_1.eq_1 := rfl
def L57_2 : List AStep := [⟨.mov (.t 12), (some 6), none, []⟩]
theorem v57_2 : VS L57_2.eq_1 := rfl
def L57_3 : List AStep := ⟨.alloc 33 [(.sl none 0 (some 0))], (some 5), none, []⟩ :: ⟨.store 1 (.t 5) (.t 11), none, none, []⟩ :: L57_2
theorem v57_3 : VS L57_3.eq_1 := rfl
def L57_4 : List AStep := ⟨.extract (.t 7) 0, (some 11), none, []⟩ :: ⟨.extract (.t 7) 1, (some 12), none, []⟩ :: L57_3
theorem v57_4 : VS L57_4.eq_1 := rfl
def L57_5 : List AStep := ⟨.call 40 [(.t 8), (.t 9)], (some 10), none, []⟩ :: ⟨.mov (.t 10), (some 7), none, []⟩ :: L57_4
theorem v57_5 : VS L57_5.eq_1 := rfl
def L57_6 : List AStep := ⟨.load 1 true (.t 2), (some 8), none, []⟩ :: ⟨.load 2 true (.t 3), (some 9), none, []⟩ :: L57_5
theorem v57_6 : VS L57_6.eq_1 := rfl
def L57_7 : List AStep := [⟨.append 82 2 24 (.t 13) (.t 16), (some 17), none, []⟩, ⟨.mov (.t 17), (some 4), none, []⟩]
theorem v57_7 : VS L57_7.eq_1 := rfl
def L57_8 : List AStep := ⟨.load 1 true (.t 5), (some 15), none, []⟩ :: ⟨.call 85 [(.t 14), (.t 15)], (some 16), none, []⟩ :: L57_7
theorem v57_8 : VS L57_8.eq_1 := rfl
def L57_9 : List AStep := ⟨.mov (.t 6), (some 13), none, []⟩ :: ⟨.load 1 true (.t 2), (some 14), none, []⟩ :: L57_8
theorem v57_9 : VS L57_9.eq_1 := rfl
def C57_0 : ACode := .seq (.reg L57_9) .ret
theorem u57_0 : VC C57_0.eq_1 := rfl
def C57_1 : ACode := .seq (.reg L57_6) C57_0
theorem u57_1 : VC C57_1.eq_1 := rfl
def C57_2 : ACode := .seq (.reg L57_1) C57_1
theorem u57_2 : VC C57_2.eq_1 := rfl
def F57 : AFunc := ⟨18, [.tmp 4], C57_2⟩
theorem cF57 : compB Try.prog 57 = some F57 := by kernel_rfl
attribute [local go_sem ↓] u57_0 u57_1 u57_2 v57_0 v57_1 v57_2 v57_3 v57_4 v57_5 v57_6 v57_7 v57_8 v57_9
theorem c_problems (l : List Param) (f : Flat) (q p n : CV) (h : H) (hl : SlQ h (.one q) l) (hf : SlF h p n f) (ok1 : okSig l = true) (ok2 : okFlat f = true) :
    callK (bm Try.prog 57 [.agg [q], .agg [p, n]] h) fun r h' => Grow h h' ∧ NwB h h' r (wrong l f) := by
  refine bm_of cF57 ?_
  have hn := okSig_len ok1
  obtain ⟨hb1, hb2, hb3⟩ := okFlat_sm ok2
  have hbb : (boundB l f).length ≤ 9 := by have := (BOk.nameF (l := l) (f := f) hb3 (Nat.le_refl _)).bad; unfold boundB; omega
  simp +contextual (maxSteps := 2000000) only [go_sem, Nat.reduceEqDiff, reduceCtorEq, Nat.reduceAdd, Nat.reduceLeDiff, F57]
  refine wp_call (c_bound l f q p n h hl hf ok1 ok2) ?_
  rintro r h1 ⟨g1, v, w, rs, rfl, x⟩
  simp +contextual (maxSteps := 2000000) only [go_sem, Nat.reduceEqDiff, reduceCtorEq, Nat.reduceAdd, Nat.reduceLeDiff]
  refine wp_call (c_missing l (boundS l f) rs q v h1 (hl.grow g1) hn x.sl.out.rd boundS_len) ?_
  rintro r h2 ⟨g2, n2⟩
  simp +contextual (maxSteps := 2000000) only [go_sem, Nat.reduceEqDiff, reduceCtorEq, Nat.reduceAdd, Nat.reduceLeDiff]
  refine wp_append lenB (x.pr.grow g2) (n2.sl lenB) (g1.trans g2) (by have := missF_len (l := l) (sl := boundS l f) (i := l.length); unfold missing; omega) ?_
  intro h3 s3 g3 n3 _ _
  simp +contextual (maxSteps := 2000000) only [go_sem, Nat.reduceEqDiff, reduceCtorEq, Nat.reduceAdd, Nat.reduceLeDiff]
  exact gcK_of ⟨g3, n3⟩ (fun hs _ => ⟨Grow.refl h, n3.scalar hs h⟩)
/-! spec.accepts -/
def L39_0 : List AStep := [⟨.mov (.c (.bool false)), (some 4), none, []⟩]
theorem v39_0 : VS L39_0.eq_1 := rfl
def L39_1 : List AStep := ⟨.box 38 (.t 0), (some 2), none, []⟩ :: ⟨.box 42 (.t 1), (some 3), none, []⟩ :: L39_0
theorem v39_1 : VS L39_1.eq_1 := rfl
def L39_2 : List AStep := [⟨.bin .eql (.t 8) (.c (.int .i64 0)), (some 9), none, []⟩, ⟨.mov (.t 9), (some 4), none, []⟩]
theorem v39_2 : VS L39_2.eq_1 := rfl
def L39_3 : List AStep := ⟨.call 57 [(.t 5), (.t 6)], (some 7), none, []⟩ :: ⟨.len (.t 7), (some 8), none, []⟩ :: L39_2
theorem v39_3 : VS L39_3.eq_1 := rfl
def L39_4 : List AStep := ⟨.load 1 true (.t 2), (some 5), none, []⟩ :: ⟨.load 2 true (.t 3), (some 6), none, []⟩ :: L39_3
theorem v39_4 : VS L39_4.eq_1 := rfl
def C39_0 : ACode := .seq (.reg L39_4) .ret
theorem u39_0 : VC C39_0.eq_1 := rfl
def C39_1 : ACode := .seq (.reg L39_1) C39_0
theorem u39_1 : VC C39_1.eq_1 := rfl
def F39 : AFunc := ⟨10, [.tmp 4], C39_1⟩
theorem cF39 : compB Try.prog 39 = some F39 := by kernel_rfl
attribute [local go_sem ↓] u39_0 u39_1 v39_0 v39_1 v39_2 v39_3 v39_4
theorem c_accepts (l : List Param) (f : Flat) (q p n : CV) (h : H) (hl : SlQ h (.one q) l) (hf : SlF h p n f) (ok1 : okSig l = true) (ok2 : okFlat f = true) : bm Try.prog 39 [.agg [q], .agg [p, n]] h = some (ib (wrong l f).isEmpty, h) := by
  refine bm_eq cF39 ?_
  simp +contextual (maxSteps := 2000000) only [go_sem, Nat.reduceEqDiff, reduceCtorEq, Nat.reduceAdd, Nat.reduceLeDiff, F39]
  refine wp_call (c_problems l f q p n h hl hf ok1 ok2) ?_
  rintro r h1 ⟨g1, n1⟩
  simp +contextual (maxSteps := 2000000) only [go_sem, Nat.reduceEqDiff, reduceCtorEq, Nat.reduceAdd, Nat.reduceLeDiff, n1.length, len_isEmpty]
  exact gcR_of g1 rfl ⟨rfl, rfl⟩
/-! spec.Bind -/
def L10_0 : List AStep := [⟨.alloc 33 [(.sl none 0 (some 0))], (some 4), none, []⟩, ⟨.mov (.c (.bool false)), (some 5), none, []⟩]
theorem v10_0 : VS L10_0.eq_1 := rfl
def L10_1 : List AStep := ⟨.box 38 (.t 0), (some 2), none, []⟩ :: ⟨.box 42 (.t 1), (some 3), none, []⟩ :: L10_0
theorem v10_1 : VS L10_1.eq_1 := rfl
def L10_2 : List AStep := [⟨.not (.t 15), (some 16), (some (12, false)), []⟩, ⟨.pick (.t 12) (.c (.bool true)) (.t 16), (some 17), none, []⟩]
theorem v10_2 : VS L10_2.eq_1 := rfl
def L10_3 : List AStep := ⟨.load 2 true (.t 3), (some 14), (some (12, false)), []⟩ :: ⟨.call 39 [(.t 13), (.t 14)], (some 15), (some (12, false)), []⟩ :: L10_2
theorem v10_3 : VS L10_3.eq_1 := rfl
def L10_4 : List AStep := ⟨.mov (.t 11), (some 12), none, []⟩ :: ⟨.load 1 true (.t 2), (some 13), (some (12, false)), []⟩ :: L10_3
theorem v10_4 : VS L10_4.eq_1 := rfl
def L10_5 : List AStep := ⟨.call 38 [(.t 8), (.t 9)], (some 10), none, []⟩ :: ⟨.not (.t 10), (some 11), none, []⟩ :: L10_4
theorem v10_5 : VS L10_5.eq_1 := rfl
def L10_6 : List AStep := ⟨.load 1 true (.t 2), (some 8), none, []⟩ :: ⟨.load 2 true (.t 3), (some 9), none, []⟩ :: L10_5
theorem v10_6 : VS L10_6.eq_1 := rfl
def L10_7 : List AStep := [⟨.mov (.c (.bool false)), (some 5), none, []⟩]
theorem v10_7 : VS L10_7.eq_1 := rfl
def L10_8 : List AStep := ⟨.build [(.sl none 0 (some 0))] [], (some 18), none, []⟩ :: ⟨.store 1 (.t 4) (.t 18), none, none, []⟩ :: L10_7
theorem v10_8 : VS L10_8.eq_1 := rfl
def L10_9 : List AStep := [⟨.mov (.t 24), (some 7), none, []⟩]
theorem v10_9 : VS L10_9.eq_1 := rfl
def L10_10 : List AStep := ⟨.alloc 33 [(.sl none 0 (some 0))], (some 6), none, []⟩ :: ⟨.store 1 (.t 6) (.t 23), none, none, []⟩ :: L10_9
theorem v10_10 : VS L10_10.eq_1 := rfl
def L10_11 : List AStep := ⟨.extract (.t 19) 0, (some 23), none, []⟩ :: ⟨.extract (.t 19) 1, (some 24), none, []⟩ :: L10_10
theorem v10_11 : VS L10_11.eq_1 := rfl
def L10_12 : List AStep := ⟨.call 40 [(.t 20), (.t 21)], (some 22), none, []⟩ :: ⟨.mov (.t 22), (some 19), none, []⟩ :: L10_11
theorem v10_12 : VS L10_12.eq_1 := rfl
def L10_13 : List AStep := ⟨.load 1 true (.t 2), (some 20), none, []⟩ :: ⟨.load 2 true (.t 3), (some 21), none, []⟩ :: L10_12
theorem v10_13 : VS L10_13.eq_1 := rfl
def L10_14 : List AStep := [⟨.mov (.c (.bool true)), (some 5), none, []⟩]
theorem v10_14 : VS L10_14.eq_1 := rfl
def L10_15 : List AStep := ⟨.load 1 true (.t 6), (some 25), none, []⟩ :: ⟨.store 1 (.t 4) (.t 25), none, none, []⟩ :: L10_14
theorem v10_15 : VS L10_15.eq_1 := rfl
def C10_0 : ACode := .seq (.reg L10_8) .ret
theorem u10_0 : VC C10_0.eq_1 := rfl
def C10_1 : ACode := .cond (.t 17) C10_0 .skip
theorem u10_1 : VC C10_1.eq_1 := rfl
def C10_2 : ACode := .seq (.reg L10_6) C10_1
theorem u10_2 : VC C10_2.eq_1 := rfl
def C10_3 : ACode := .seq (.reg L10_15) .ret
theorem u10_3 : VC C10_3.eq_1 := rfl
def C10_4 : ACode := .seq (.reg L10_13) C10_3
theorem u10_4 : VC C10_4.eq_1 := rfl
def C10_5 : ACode := .seq C10_2 C10_4
theorem u10_5 : VC C10_5.eq_1 := rfl
def C10_6 : ACode := .seq (.reg L10_1) C10_5
theorem u10_6 : VC C10_6.eq_1 := rfl
def F10 : AFunc := ⟨26, [.cell 4 1 true, .tmp 5], C10_6⟩
theorem cF10 : compB Try.prog 10 = some F10 := by kernel_rfl
attribute [local go_sem ↓] u10_0 u10_1 u10_2 u10_3 u10_4 u10_5 u10_6 v10_0 v10_1 v10_2 v10_3 v10_4 v10_5 v10_6 v10_7 v10_8 v10_9 v10_10 v10_11 v10_12 v10_13 v10_14 v10_15
theorem k_sBind (l : List Param) (f : Flat) (q p n : CV) (h : H) (hl : SlG h q l) (hf : SlF h p n f) (hn : miniG l) (hm : miniF f) :
    callK (bm Try.prog 10 [.agg [q], .agg [p, n]] h) fun r h' => Grow h h' ∧ ∃ v rs, r = .tup [.agg [v], .one (.bool (acceptsF l f))] ∧ NwY h h' v rs (bindF l f) := by
  refine bm_of cF10 ?_
  have gc := c_goodCall l f q p n h hl.out hn.sm hf.pl hf.nl hm.sm
  unfold bindF acceptsF
  cases b1 : fits l f with
  | false =>
    have b1' : (okSig l && okFlat f) = false := b1
    simp +contextual (maxSteps := 2000000) only [go_sem, Nat.reduceEqDiff, reduceCtorEq, Nat.reduceAdd, Nat.reduceLeDiff, F10, gc, b1', Bool.false_and, if_false]
    exact ⟨Grow.refl h, _, [], rfl, .nil⟩
  | true =>
  have b1' : (okSig l && okFlat f) = true := b1
  obtain ⟨ok1, ok2⟩ := fits_ok b1
  have ac := c_accepts l f q p n h hl.out hf ok1 ok2
  cases b2 : (wrong l f).isEmpty with
  | false =>
    rw [b2] at ac
    simp +contextual (maxSteps := 2000000) only [go_sem, Nat.reduceEqDiff, reduceCtorEq, Nat.reduceAdd, Nat.reduceLeDiff, F10, gc, b1', ac, Bool.true_and, if_false]
    exact ⟨Grow.refl h, _, [], rfl, .nil⟩
  | true =>
    rw [b2] at ac
    simp +contextual (maxSteps := 2000000) only [go_sem, Nat.reduceEqDiff, reduceCtorEq, Nat.reduceAdd, Nat.reduceLeDiff, F10, gc, b1', ac, Bool.true_and, if_true]
    refine wp_call (c_bound l f q p n h hl.out hf ok1 ok2) ?_
    rintro r h1 ⟨g1, v, w, rs, rfl, x⟩
    simp +contextual (maxSteps := 2000000) only [go_sem, Nat.reduceEqDiff, reduceCtorEq, Nat.reduceAdd, Nat.reduceLeDiff]
    exact gcK_of ⟨g1, _, _, rfl, x.sl⟩ (fun hs _ => ⟨Grow.refl h, _, _, rfl, x.sl.scalar (by simpa [AV.scalar, AV.scalars, CV.scalar] using hs) h⟩)
/-! spec.BindPart -/
def L21_0 : List AStep := [⟨.alloc 33 [(.sl none 0 (some 0))], (some 4), none, []⟩, ⟨.mov (.c (.bool false)), (some 5), none, []⟩]
theorem v21_0 : VS L21_0.eq_1 := rfl
def L21_1 : List AStep := ⟨.box 38 (.t 0), (some 2), none, []⟩ :: ⟨.box 42 (.t 1), (some 3), none, []⟩ :: L21_0
theorem v21_1 : VS L21_1.eq_1 := rfl
def L21_2 : List AStep := [⟨.call 38 [(.t 8), (.t 9)], (some 10), none, []⟩, ⟨.not (.t 10), (some 11), none, []⟩]
theorem v21_2 : VS L21_2.eq_1 := rfl
def L21_3 : List AStep := ⟨.load 1 true (.t 2), (some 8), none, []⟩ :: ⟨.load 2 true (.t 3), (some 9), none, []⟩ :: L21_2
theorem v21_3 : VS L21_3.eq_1 := rfl
def L21_4 : List AStep := [⟨.mov (.c (.bool false)), (some 5), none, []⟩]
theorem v21_4 : VS L21_4.eq_1 := rfl
def L21_5 : List AStep := ⟨.build [(.sl none 0 (some 0))] [], (some 12), none, []⟩ :: ⟨.store 1 (.t 4) (.t 12), none, none, []⟩ :: L21_4
theorem v21_5 : VS L21_5.eq_1 := rfl
def L21_6 : List AStep := [⟨.mov (.t 18), (some 7), none, []⟩]
theorem v21_6 : VS L21_6.eq_1 := rfl
def L21_7 : List AStep := ⟨.alloc 33 [(.sl none 0 (some 0))], (some 6), none, []⟩ :: ⟨.store 1 (.t 6) (.t 17), none, none, []⟩ :: L21_6
theorem v21_7 : VS L21_7.eq_1 := rfl
def L21_8 : List AStep := ⟨.extract (.t 13) 0, (some 17), none, []⟩ :: ⟨.extract (.t 13) 1, (some 18), none, []⟩ :: L21_7
theorem v21_8 : VS L21_8.eq_1 := rfl
def L21_9 : List AStep := ⟨.call 40 [(.t 14), (.t 15)], (some 16), none, []⟩ :: ⟨.mov (.t 16), (some 13), none, []⟩ :: L21_8
theorem v21_9 : VS L21_9.eq_1 := rfl
def L21_10 : List AStep := ⟨.load 1 true (.t 2), (some 14), none, []⟩ :: ⟨.load 2 true (.t 3), (some 15), none, []⟩ :: L21_9
theorem v21_10 : VS L21_10.eq_1 := rfl
def L21_11 : List AStep := [⟨.bin .gtr (.t 20) (.c (.int .i64 0)), (some 21), none, []⟩]
theorem v21_11 : VS L21_11.eq_1 := rfl
def L21_12 : List AStep := ⟨.mov (.t 7), (some 19), none, []⟩ :: ⟨.len (.t 19), (some 20), none, []⟩ :: L21_11
theorem v21_12 : VS L21_12.eq_1 := rfl
def L21_13 : List AStep := [⟨.mov (.c (.bool false)), (some 5), none, []⟩]
theorem v21_13 : VS L21_13.eq_1 := rfl
def L21_14 : List AStep := ⟨.build [(.sl none 0 (some 0))] [], (some 22), none, []⟩ :: ⟨.store 1 (.t 4) (.t 22), none, none, []⟩ :: L21_13
theorem v21_14 : VS L21_14.eq_1 := rfl
def L21_15 : List AStep := [⟨.mov (.c (.bool true)), (some 5), none, []⟩]
theorem v21_15 : VS L21_15.eq_1 := rfl
def L21_16 : List AStep := ⟨.load 1 true (.t 6), (some 23), none, []⟩ :: ⟨.store 1 (.t 4) (.t 23), none, none, []⟩ :: L21_15
theorem v21_16 : VS L21_16.eq_1 := rfl
def C21_0 : ACode := .seq (.reg L21_5) .ret
theorem u21_0 : VC C21_0.eq_1 := rfl
def C21_1 : ACode := .cond (.t 11) C21_0 .skip
theorem u21_1 : VC C21_1.eq_1 := rfl
def C21_2 : ACode := .seq (.reg L21_3) C21_1
theorem u21_2 : VC C21_2.eq_1 := rfl
def C21_3 : ACode := .seq (.reg L21_14) .ret
theorem u21_3 : VC C21_3.eq_1 := rfl
def C21_4 : ACode := .cond (.t 21) C21_3 .skip
theorem u21_4 : VC C21_4.eq_1 := rfl
def C21_5 : ACode := .seq (.reg L21_12) C21_4
theorem u21_5 : VC C21_5.eq_1 := rfl
def C21_6 : ACode := .seq (.reg L21_16) .ret
theorem u21_6 : VC C21_6.eq_1 := rfl
def C21_7 : ACode := .seq C21_5 C21_6
theorem u21_7 : VC C21_7.eq_1 := rfl
def C21_8 : ACode := .seq (.reg L21_10) C21_7
theorem u21_8 : VC C21_8.eq_1 := rfl
def C21_9 : ACode := .seq C21_2 C21_8
theorem u21_9 : VC C21_9.eq_1 := rfl
def C21_10 : ACode := .seq (.reg L21_1) C21_9
theorem u21_10 : VC C21_10.eq_1 := rfl
def F21 : AFunc := ⟨24, [.cell 4 1 true, .tmp 5], C21_10⟩
theorem cF21 : compB Try.prog 21 = some F21 := by kernel_rfl
attribute [local go_sem ↓] u21_0 u21_1 u21_2 u21_3 u21_4 u21_5 u21_6 u21_7 u21_8 u21_9 u21_10 v21_0 v21_1 v21_2 v21_3 v21_4 v21_5 v21_6 v21_7 v21_8 v21_9 v21_10 v21_11 v21_12 v21_13 v21_14 v21_15 v21_16
theorem k_sBindPart (l : List Param) (f : Flat) (q p n : CV) (h : H) (hl : SlG h q l) (hf : SlF h p n f) (hn : miniG l) (hm : miniF f) :
    callK (bm Try.prog 21 [.agg [q], .agg [p, n]] h) fun r h' => Grow h h' ∧ ∃ v rs, r = .tup [.agg [v], .one (.bool (partOk l f))] ∧ NwY h h' v rs (bindPartF l f) := by
  refine bm_of cF21 ?_
  have gc := c_goodCall l f q p n h hl.out hn.sm hf.pl hf.nl hm.sm
  unfold bindPartF partOk
  cases b1 : fits l f with
  | false =>
    have b1' : (okSig l && okFlat f) = false := b1
    simp +contextual (maxSteps := 2000000) only [go_sem, Nat.reduceEqDiff, reduceCtorEq, Nat.reduceAdd, Nat.reduceLeDiff, F21, gc, b1', Bool.false_and, if_false]
    exact ⟨Grow.refl h, _, [], rfl, .nil⟩
  | true =>
  have b1' : (okSig l && okFlat f) = true := b1
  obtain ⟨ok1, ok2⟩ := fits_ok b1
  simp +contextual (maxSteps := 2000000) only [go_sem, Nat.reduceEqDiff, reduceCtorEq, Nat.reduceAdd, Nat.reduceLeDiff, F21, gc, b1']
  refine wp_call (c_bound l f q p n h hl.out hf ok1 ok2) ?_
  rintro r h1 ⟨g1, v, w, rs, rfl, x⟩
  cases b2 : (boundB l f).isEmpty with
  | false =>
    simp +contextual (maxSteps := 2000000) only [go_sem, Nat.reduceEqDiff, reduceCtorEq, Nat.reduceAdd, Nat.reduceLeDiff, x.pr.length, len_pos, b2, Bool.true_and, if_false]
    exact gcK_of ⟨g1, _, [], rfl, .nil⟩ (fun hs _ => ⟨Grow.refl h, _, [], rfl, .nil⟩)
  | true =>
    simp +contextual (maxSteps := 2000000) only [go_sem, Nat.reduceEqDiff, reduceCtorEq, Nat.reduceAdd, Nat.reduceLeDiff, x.pr.length, len_pos, b2, Bool.true_and, if_true]
    exact gcK_of ⟨g1, _, _, rfl, x.sl⟩ (fun hs _ => ⟨Grow.refl h, _, _, rfl, x.sl.scalar (by simpa [AV.scalar, AV.scalars, CV.scalar] using hs) h⟩)
/-! spec.Problems -/
def L25_0 : List AStep := [⟨.mov (.c (.sl none 0 (some 0))), (some 4), none, []⟩]
theorem v25_0 : VS L25_0.eq_1 := rfl
def L25_1 : List AStep := ⟨.box 38 (.t 0), (some 2), none, []⟩ :: ⟨.box 42 (.t 1), (some 3), none, []⟩ :: L25_0
theorem v25_1 : VS L25_1.eq_1 := rfl
def L25_2 : List AStep := [⟨.call 38 [(.t 5), (.t 6)], (some 7), none, []⟩, ⟨.not (.t 7), (some 8), none, []⟩]
theorem v25_2 : VS L25_2.eq_1 := rfl
def L25_3 : List AStep := ⟨.load 1 true (.t 2), (some 5), none, []⟩ :: ⟨.load 2 true (.t 3), (some 6), none, []⟩ :: L25_2
theorem v25_3 : VS L25_3.eq_1 := rfl
def L25_4 : List AStep := [⟨.mov (.c (.sl none 0 (some 0))), (some 4), none, []⟩]
theorem v25_4 : VS L25_4.eq_1 := rfl
def L25_5 : List AStep := [⟨.call 57 [(.t 9), (.t 10)], (some 11), none, []⟩, ⟨.mov (.t 11), (some 4), none, []⟩]
theorem v25_5 : VS L25_5.eq_1 := rfl
def L25_6 : List AStep := ⟨.load 1 true (.t 2), (some 9), none, []⟩ :: ⟨.load 2 true (.t 3), (some 10), none, []⟩ :: L25_5
theorem v25_6 : VS L25_6.eq_1 := rfl
def C25_0 : ACode := .seq (.reg L25_4) .ret
theorem u25_0 : VC C25_0.eq_1 := rfl
def C25_1 : ACode := .cond (.t 8) C25_0 .skip
theorem u25_1 : VC C25_1.eq_1 := rfl
def C25_2 : ACode := .seq (.reg L25_3) C25_1
theorem u25_2 : VC C25_2.eq_1 := rfl
def C25_3 : ACode := .seq (.reg L25_6) .ret
theorem u25_3 : VC C25_3.eq_1 := rfl
def C25_4 : ACode := .seq C25_2 C25_3
theorem u25_4 : VC C25_4.eq_1 := rfl
def C25_5 : ACode := .seq (.reg L25_1) C25_4
theorem u25_5 : VC C25_5.eq_1 := rfl
def F25 : AFunc := ⟨12, [.tmp 4], C25_5⟩
theorem cF25 : compB Try.prog 25 = some F25 := by kernel_rfl
attribute [local go_sem ↓] u25_0 u25_1 u25_2 u25_3 u25_4 u25_5 v25_0 v25_1 v25_2 v25_3 v25_4 v25_5 v25_6
theorem k_sProblems (l : List Param) (f : Flat) (q p n : CV) (h : H) (hl : SlG h q l) (hf : SlF h p n f) (hn : miniG l) (hm : miniF f) :
    callK (bm Try.prog 25 [.agg [q], .agg [p, n]] h) fun r h' => Grow h h' ∧ NwB h h' r (problemsF l f) := by
  refine bm_of cF25 ?_
  have gc := c_goodCall l f q p n h hl.out hn.sm hf.pl hf.nl hm.sm
  unfold problemsF
  cases b1 : fits l f with
  | false =>
    have b1' : (okSig l && okFlat f) = false := b1
    simp +contextual (maxSteps := 2000000) only [go_sem, Nat.reduceEqDiff, reduceCtorEq, Nat.reduceAdd, Nat.reduceLeDiff, F25, gc, b1', if_false]
    exact ⟨Grow.refl h, .nil⟩
  | true =>
  have b1' : (okSig l && okFlat f) = true := b1
  obtain ⟨ok1, ok2⟩ := fits_ok b1
  simp +contextual (maxSteps := 2000000) only [go_sem, Nat.reduceEqDiff, reduceCtorEq, Nat.reduceAdd, Nat.reduceLeDiff, F25, gc, b1', if_true]
  refine wp_call (c_problems l f q p n h hl.out hf ok1 ok2) ?_
  rintro r h1 ⟨g1, n1⟩
  simp +contextual (maxSteps := 2000000) only [go_sem, Nat.reduceEqDiff, reduceCtorEq, Nat.reduceAdd, Nat.reduceLeDiff]
  exact gcK_of ⟨g1, n1⟩ (fun hs _ => ⟨Grow.refl h, n1.scalar hs h⟩)
/-! spec.Accepts -/
def L23_0 : List AStep := [⟨.mov (.c (.bool false)), (some 4), none, []⟩]
theorem v23_0 : VS L23_0.eq_1 := rfl
def L23_1 : List AStep := ⟨.box 38 (.t 0), (some 2), none, []⟩ :: ⟨.box 42 (.t 1), (some 3), none, []⟩ :: L23_0
theorem v23_1 : VS L23_1.eq_1 := rfl
def L23_2 : List AStep := [⟨.mov (.t 12), (some 4), none, []⟩]
theorem v23_2 : VS L23_2.eq_1 := rfl
def L23_3 : List AStep := ⟨.call 39 [(.t 9), (.t 10)], (some 11), (some (8, true)), []⟩ :: ⟨.pick (.t 8) (.t 11) (.c (.bool false)), (some 12), none, []⟩ :: L23_2
theorem v23_3 : VS L23_3.eq_1 := rfl
def L23_4 : List AStep := ⟨.load 1 true (.t 2), (some 9), (some (8, true)), []⟩ :: ⟨.load 2 true (.t 3), (some 10), (some (8, true)), []⟩ :: L23_3
theorem v23_4 : VS L23_4.eq_1 := rfl
def L23_5 : List AStep := ⟨.call 38 [(.t 5), (.t 6)], (some 7), none, []⟩ :: ⟨.mov (.t 7), (some 8), none, []⟩ :: L23_4
theorem v23_5 : VS L23_5.eq_1 := rfl
def L23_6 : List AStep := ⟨.load 1 true (.t 2), (some 5), none, []⟩ :: ⟨.load 2 true (.t 3), (some 6), none, []⟩ :: L23_5
theorem v23_6 : VS L23_6.eq_1 := rfl
def C23_0 : ACode := .seq (.reg L23_6) .ret
theorem u23_0 : VC C23_0.eq_1 := rfl
def C23_1 : ACode := .seq (.reg L23_1) C23_0
theorem u23_1 : VC C23_1.eq_1 := rfl
def F23 : AFunc := ⟨13, [.tmp 4], C23_1⟩
theorem cF23 : compB Try.prog 23 = some F23 := by kernel_rfl
attribute [local go_sem ↓] u23_0 u23_1 v23_0 v23_1 v23_2 v23_3 v23_4 v23_5 v23_6
theorem k_sAccepts (l : List Param) (f : Flat) (q p n : CV) (h : H) (hl : SlG h q l) (hf : SlF h p n f) (hn : miniG l) (hm : miniF f) : bm Try.prog 23 [.agg [q], .agg [p, n]] h = some (ib (acceptsF l f), h) := by
  refine bm_eq cF23 ?_
  have gc := c_goodCall l f q p n h hl.out hn.sm hf.pl hf.nl hm.sm
  unfold acceptsF
  cases b1 : fits l f with
  | false =>
    have b1' : (okSig l && okFlat f) = false := b1
    simp +contextual (maxSteps := 2000000) only [go_sem, Nat.reduceEqDiff, reduceCtorEq, Nat.reduceAdd, Nat.reduceLeDiff, F23, gc, b1', Bool.false_and]
  | true =>
  have b1' : (okSig l && okFlat f) = true := b1
  obtain ⟨ok1, ok2⟩ := fits_ok b1
  simp +contextual (maxSteps := 2000000) only [go_sem, Nat.reduceEqDiff, reduceCtorEq, Nat.reduceAdd, Nat.reduceLeDiff, F23, gc, b1', Bool.true_and, c_accepts l f q p n h hl.out hf ok1 ok2]
/-! spec.validPartial -/
def L60_0 : List AStep := [⟨.box 61 (.t 0), (some 1), none, []⟩, ⟨.mov (.c (.bool false)), (some 2), none, []⟩]
theorem v60_0 : VS L60_0.eq_1 := rfl
def L60_1 : List AStep := [⟨.call 38 [(.t 6), (.t 8)], (some 9), none, []⟩, ⟨.not (.t 9), (some 10), none, []⟩]
theorem v60_1 : VS L60_1.eq_1 := rfl
def L60_2 : List AStep := ⟨.faddr 1 (.t 1), (some 7), none, []⟩ :: ⟨.load 2 true (.t 7), (some 8), none, []⟩ :: L60_1
theorem v60_2 : VS L60_2.eq_1 := rfl
def L60_3 : List AStep := ⟨.faddr 0 (.t 1), (some 5), none, []⟩ :: ⟨.load 1 true (.t 5), (some 6), none, []⟩ :: L60_2
theorem v60_3 : VS L60_3.eq_1 := rfl
def L60_4 : List AStep := [⟨.mov (.c (.bool false)), (some 2), none, []⟩]
theorem v60_4 : VS L60_4.eq_1 := rfl
def L60_5 : List AStep := [⟨.mov (.t 18), (some 4), none, []⟩]
theorem v60_5 : VS L60_5.eq_1 := rfl
def L60_6 : List AStep := ⟨.alloc 33 [(.sl none 0 (some 0))], (some 3), none, []⟩ :: ⟨.store 1 (.t 3) (.t 17), none, none, []⟩ :: L60_5
theorem v60_6 : VS L60_6.eq_1 := rfl
def L60_7 : List AStep := ⟨.extract (.t 11) 0, (some 17), none, []⟩ :: ⟨.extract (.t 11) 1, (some 18), none, []⟩ :: L60_6
theorem v60_7 : VS L60_7.eq_1 := rfl
def L60_8 : List AStep := ⟨.call 40 [(.t 13), (.t 15)], (some 16), none, []⟩ :: ⟨.mov (.t 16), (some 11), none, []⟩ :: L60_7
theorem v60_8 : VS L60_8.eq_1 := rfl
def L60_9 : List AStep := ⟨.faddr 1 (.t 1), (some 14), none, []⟩ :: ⟨.load 2 true (.t 14), (some 15), none, []⟩ :: L60_8
theorem v60_9 : VS L60_9.eq_1 := rfl
def L60_10 : List AStep := ⟨.faddr 0 (.t 1), (some 12), none, []⟩ :: ⟨.load 1 true (.t 12), (some 13), none, []⟩ :: L60_9
theorem v60_10 : VS L60_10.eq_1 := rfl
def L60_11 : List AStep := [⟨.bin .eql (.t 20) (.c (.int .i64 0)), (some 21), none, []⟩, ⟨.mov (.t 21), (some 2), none, []⟩]
theorem v60_11 : VS L60_11.eq_1 := rfl
def L60_12 : List AStep := ⟨.mov (.t 4), (some 19), none, []⟩ :: ⟨.len (.t 19), (some 20), none, []⟩ :: L60_11
theorem v60_12 : VS L60_12.eq_1 := rfl
def C60_0 : ACode := .seq (.reg L60_4) .ret
theorem u60_0 : VC C60_0.eq_1 := rfl
def C60_1 : ACode := .cond (.t 10) C60_0 .skip
theorem u60_1 : VC C60_1.eq_1 := rfl
def C60_2 : ACode := .seq (.reg L60_3) C60_1
theorem u60_2 : VC C60_2.eq_1 := rfl
def C60_3 : ACode := .seq (.reg L60_12) .ret
theorem u60_3 : VC C60_3.eq_1 := rfl
def C60_4 : ACode := .seq (.reg L60_10) C60_3
theorem u60_4 : VC C60_4.eq_1 := rfl
def C60_5 : ACode := .seq C60_2 C60_4
theorem u60_5 : VC C60_5.eq_1 := rfl
def C60_6 : ACode := .seq (.reg L60_0) C60_5
theorem u60_6 : VC C60_6.eq_1 := rfl
def F60 : AFunc := ⟨22, [.tmp 2], C60_6⟩
theorem cF60 : compB Try.prog 60 = some F60 := by kernel_rfl
attribute [local go_sem ↓] u60_0 u60_1 u60_2 u60_3 u60_4 u60_5 u60_6 v60_0 v60_1 v60_2 v60_3 v60_4 v60_5 v60_6 v60_7 v60_8 v60_9 v60_10 v60_11 v60_12
theorem c_validPartial (l : List Param) (f : Flat) (q p n : CV) (h : H) (hl : SlG h q l) (hf : SlF h p n f) (hn : miniG l) (hm : miniF f) : bm Try.prog 60 [.agg [q, p, n]] h = some (ib (partOk l f), h) := by
  refine bm_eq cF60 ?_
  have gc := c_goodCall l f q p n h hl.out hn.sm hf.pl hf.nl hm.sm
  unfold partOk
  cases b1 : fits l f with
  | false =>
    have b1' : (okSig l && okFlat f) = false := b1
    simp +contextual (maxSteps := 2000000) only [go_sem, Nat.reduceEqDiff, reduceCtorEq, Nat.reduceAdd, Nat.reduceLeDiff, F60, loadL_agg, gc, b1', Bool.false_and]
  | true =>
  have b1' : (okSig l && okFlat f) = true := b1
  obtain ⟨ok1, ok2⟩ := fits_ok b1
  simp +contextual (maxSteps := 2000000) only [go_sem, Nat.reduceEqDiff, reduceCtorEq, Nat.reduceAdd, Nat.reduceLeDiff, F60, loadL_agg, gc, b1', Bool.true_and]
  refine wp_call (c_bound l f q p n h hl.out hf ok1 ok2) ?_
  rintro r h1 ⟨g1, v, w, rs, rfl, x⟩
  simp +contextual (maxSteps := 2000000) only [go_sem, Nat.reduceEqDiff, reduceCtorEq, Nat.reduceAdd, Nat.reduceLeDiff, x.pr.length, len_isEmpty]
  exact gcR_of g1 rfl ⟨rfl, rfl⟩
/-! impl.fit -/
def L44_0 : List AStep := [⟨.mov (.c (.bool false)), (some 4), none, []⟩]
theorem v44_0 : VS L44_0.eq_1 := rfl
def L44_1 : List AStep := ⟨.box 38 (.t 0), (some 2), none, []⟩ :: ⟨.box 42 (.t 1), (some 3), none, []⟩ :: L44_0
theorem v44_1 : VS L44_1.eq_1 := rfl
def L44_2 : List AStep := [⟨.mov (.t 10), (some 4), none, []⟩]
theorem v44_2 : VS L44_2.eq_1 := rfl
def L44_3 : List AStep := ⟨.call 72 [(.t 8)], (some 9), (some (7, true)), []⟩ :: ⟨.pick (.t 7) (.t 9) (.c (.bool false)), (some 10), none, []⟩ :: L44_2
theorem v44_3 : VS L44_3.eq_1 := rfl
def L44_4 : List AStep := ⟨.mov (.t 6), (some 7), none, []⟩ :: ⟨.load 2 true (.t 3), (some 8), (some (7, true)), []⟩ :: L44_3
theorem v44_4 : VS L44_4.eq_1 := rfl
def L44_5 : List AStep := ⟨.load 1 true (.t 2), (some 5), none, []⟩ :: ⟨.call 71 [(.t 5)], (some 6), none, []⟩ :: L44_4
theorem v44_5 : VS L44_5.eq_1 := rfl
def C44_0 : ACode := .seq (.reg L44_5) .ret
theorem u44_0 : VC C44_0.eq_1 := rfl
def C44_1 : ACode := .seq (.reg L44_1) C44_0
theorem u44_1 : VC C44_1.eq_1 := rfl
def F44 : AFunc := ⟨11, [.tmp 4], C44_1⟩
theorem cF44 : compB Try.prog 44 = some F44 := by kernel_rfl
attribute [local go_sem ↓] u44_0 u44_1 v44_0 v44_1 v44_2 v44_3 v44_4 v44_5
theorem c_fit (l : List Param) (f : Flat) (q p n : CV) (h : H) (hl : SlG h q l) (hf : SlF h p n f) (hn : miniG l) (hm : miniF f) : bm Try.prog 44 [.agg [q], .agg [p, n]] h = some (ib (fits l f), h) := by
  refine bm_eq cF44 ?_
  have c1 := c_ValidSignature l q h hl.out hn.sm
  have c2 := c_ValidFlat f p n h hf.pl hf.nl hm.sm
  unfold fits
  cases b1 : okSig l with
  | false =>
    rw [b1] at c1
    simp +contextual (maxSteps := 2000000) only [go_sem, Nat.reduceEqDiff, reduceCtorEq, Nat.reduceAdd, Nat.reduceLeDiff, F44, c1, Bool.false_and]
  | true =>
    rw [b1] at c1
    simp +contextual (maxSteps := 2000000) only [go_sem, Nat.reduceEqDiff, reduceCtorEq, Nat.reduceAdd, Nat.reduceLeDiff, F44, c1, c2, Bool.true_and]
/-! impl.Bind -/
def L13_0 : List AStep := [⟨.alloc 33 [(.sl none 0 (some 0))], (some 4), none, []⟩, ⟨.mov (.c (.bool false)), (some 5), none, []⟩]
theorem v13_0 : VS L13_0.eq_1 := rfl
def L13_1 : List AStep := ⟨.box 38 (.t 0), (some 2), none, []⟩ :: ⟨.box 42 (.t 1), (some 3), none, []⟩ :: L13_0
theorem v13_1 : VS L13_1.eq_1 := rfl
def L13_2 : List AStep := [⟨.call 44 [(.t 8), (.t 9)], (some 10), none, []⟩, ⟨.not (.t 10), (some 11), none, []⟩]
theorem v13_2 : VS L13_2.eq_1 := rfl
def L13_3 : List AStep := ⟨.load 1 true (.t 2), (some 8), none, []⟩ :: ⟨.load 2 true (.t 3), (some 9), none, []⟩ :: L13_2
theorem v13_3 : VS L13_3.eq_1 := rfl
def L13_4 : List AStep := [⟨.mov (.c (.bool false)), (some 5), none, []⟩]
theorem v13_4 : VS L13_4.eq_1 := rfl
def L13_5 : List AStep := ⟨.build [(.sl none 0 (some 0))] [], (some 12), none, []⟩ :: ⟨.store 1 (.t 4) (.t 12), none, none, []⟩ :: L13_4
theorem v13_5 : VS L13_5.eq_1 := rfl
def L13_6 : List AStep := [⟨.mov (.t 18), (some 7), none, []⟩]
theorem v13_6 : VS L13_6.eq_1 := rfl
def L13_7 : List AStep := ⟨.alloc 33 [(.sl none 0 (some 0))], (some 6), none, []⟩ :: ⟨.store 1 (.t 6) (.t 17), none, none, []⟩ :: L13_6
theorem v13_7 : VS L13_7.eq_1 := rfl
def L13_8 : List AStep := ⟨.extract (.t 13) 0, (some 17), none, []⟩ :: ⟨.extract (.t 13) 1, (some 18), none, []⟩ :: L13_7
theorem v13_8 : VS L13_8.eq_1 := rfl
def L13_9 : List AStep := ⟨.call 45 [(.t 14), (.t 15)], (some 16), none, []⟩ :: ⟨.mov (.t 16), (some 13), none, []⟩ :: L13_8
theorem v13_9 : VS L13_9.eq_1 := rfl
def L13_10 : List AStep := ⟨.load 1 true (.t 2), (some 14), none, []⟩ :: ⟨.load 2 true (.t 3), (some 15), none, []⟩ :: L13_9
theorem v13_10 : VS L13_10.eq_1 := rfl
def L13_11 : List AStep := [⟨.bin .gtr (.t 20) (.c (.int .i64 0)), (some 21), none, []⟩]
theorem v13_11 : VS L13_11.eq_1 := rfl
def L13_12 : List AStep := ⟨.mov (.t 7), (some 19), none, []⟩ :: ⟨.len (.t 19), (some 20), none, []⟩ :: L13_11
theorem v13_12 : VS L13_12.eq_1 := rfl
def L13_13 : List AStep := [⟨.mov (.c (.bool false)), (some 5), none, []⟩]
theorem v13_13 : VS L13_13.eq_1 := rfl
def L13_14 : List AStep := ⟨.build [(.sl none 0 (some 0))] [], (some 22), none, []⟩ :: ⟨.store 1 (.t 4) (.t 22), none, none, []⟩ :: L13_13
theorem v13_14 : VS L13_14.eq_1 := rfl
def L13_15 : List AStep := [⟨.mov (.c (.bool true)), (some 5), none, []⟩]
theorem v13_15 : VS L13_15.eq_1 := rfl
def L13_16 : List AStep := ⟨.load 1 true (.t 6), (some 23), none, []⟩ :: ⟨.store 1 (.t 4) (.t 23), none, none, []⟩ :: L13_15
theorem v13_16 : VS L13_16.eq_1 := rfl
def C13_0 : ACode := .seq (.reg L13_5) .ret
theorem u13_0 : VC C13_0.eq_1 := rfl
def C13_1 : ACode := .cond (.t 11) C13_0 .skip
theorem u13_1 : VC C13_1.eq_1 := rfl
def C13_2 : ACode := .seq (.reg L13_3) C13_1
theorem u13_2 : VC C13_2.eq_1 := rfl
def C13_3 : ACode := .seq (.reg L13_14) .ret
theorem u13_3 : VC C13_3.eq_1 := rfl
def C13_4 : ACode := .cond (.t 21) C13_3 .skip
theorem u13_4 : VC C13_4.eq_1 := rfl
def C13_5 : ACode := .seq (.reg L13_12) C13_4
theorem u13_5 : VC C13_5.eq_1 := rfl
def C13_6 : ACode := .seq (.reg L13_16) .ret
theorem u13_6 : VC C13_6.eq_1 := rfl
def C13_7 : ACode := .seq C13_5 C13_6
theorem u13_7 : VC C13_7.eq_1 := rfl
def C13_8 : ACode := .seq (.reg L13_10) C13_7
theorem u13_8 : VC C13_8.eq_1 := rfl
def C13_9 : ACode := .seq C13_2 C13_8
theorem u13_9 : VC C13_9.eq_1 := rfl
def C13_10 : ACode := .seq (.reg L13_1) C13_9
theorem u13_10 : VC C13_10.eq_1 := rfl
def F13 : AFunc := ⟨24, [.cell 4 1 true, .tmp 5], C13_10⟩
theorem cF13 : compB Try.prog 13 = some F13 := by kernel_rfl
attribute [local go_sem ↓] u13_0 u13_1 u13_2 u13_3 u13_4 u13_5 u13_6 u13_7 u13_8 u13_9 u13_10 v13_0 v13_1 v13_2 v13_3 v13_4 v13_5 v13_6 v13_7 v13_8 v13_9 v13_10 v13_11 v13_12 v13_13 v13_14 v13_15 v13_16
theorem k_iBind (l : List Param) (f : Flat) (q p n : CV) (h : H) (hl : SlG h q l) (hf : SlF h p n f) (hn : miniG l) (hm : miniF f) :
    callK (bm Try.prog 13 [.agg [q], .agg [p, n]] h) fun r h' => Grow h h' ∧ ∃ v rs, r = .tup [.agg [v], .one (.bool (acceptsF l f))] ∧ NwY h h' v rs (bindF l f) := by
  refine bm_of cF13 ?_
  have gc := c_fit l f q p n h hl hf hn hm
  unfold bindF acceptsF
  cases b1 : fits l f with
  | false =>
    rw [b1] at gc
    simp +contextual (maxSteps := 2000000) only [go_sem, Nat.reduceEqDiff, reduceCtorEq, Nat.reduceAdd, Nat.reduceLeDiff, F13, gc, Bool.false_and, if_false]
    exact ⟨Grow.refl h, _, [], rfl, .nil⟩
  | true =>
  rw [b1] at gc
  obtain ⟨ok1, ok2⟩ := fits_ok b1
  simp +contextual (maxSteps := 2000000) only [go_sem, Nat.reduceEqDiff, reduceCtorEq, Nat.reduceAdd, Nat.reduceLeDiff, F13, gc]
  refine wp_call (c_bind l f q p n h hl.out hf ok1 ok2) ?_
  rintro r h1 ⟨g1, v, w, rs, rfl, x⟩
  cases b2 : (wrong l f).isEmpty with
  | false =>
    simp +contextual (maxSteps := 2000000) only [go_sem, Nat.reduceEqDiff, reduceCtorEq, Nat.reduceAdd, Nat.reduceLeDiff, x.pr.length, len_pos, b2, Bool.true_and, if_false]
    exact gcK_of ⟨g1, _, [], rfl, .nil⟩ (fun hs _ => ⟨Grow.refl h, _, [], rfl, .nil⟩)
  | true =>
    simp +contextual (maxSteps := 2000000) only [go_sem, Nat.reduceEqDiff, reduceCtorEq, Nat.reduceAdd, Nat.reduceLeDiff, x.pr.length, len_pos, b2, Bool.true_and, if_true]
    exact gcK_of ⟨g1, _, _, rfl, x.sl⟩ (fun hs _ => ⟨Grow.refl h, _, _, rfl, x.sl.scalar (by simpa [AV.scalar, AV.scalars, CV.scalar] using hs) h⟩)
/-! impl.Accepts -/
def L24_0 : List AStep := [⟨.mov (.c (.bool false)), (some 4), none, []⟩]
theorem v24_0 : VS L24_0.eq_1 := rfl
def L24_1 : List AStep := ⟨.box 38 (.t 0), (some 2), none, []⟩ :: ⟨.box 42 (.t 1), (some 3), none, []⟩ :: L24_0
theorem v24_1 : VS L24_1.eq_1 := rfl
def L24_2 : List AStep := [⟨.mov (.t 12), (some 6), none, []⟩]
theorem v24_2 : VS L24_2.eq_1 := rfl
def L24_3 : List AStep := ⟨.alloc 33 [(.sl none 0 (some 0))], (some 5), none, []⟩ :: ⟨.store 1 (.t 5) (.t 11), none, none, []⟩ :: L24_2
theorem v24_3 : VS L24_3.eq_1 := rfl
def L24_4 : List AStep := ⟨.extract (.t 7) 0, (some 11), none, []⟩ :: ⟨.extract (.t 7) 1, (some 12), none, []⟩ :: L24_3
theorem v24_4 : VS L24_4.eq_1 := rfl
def L24_5 : List AStep := ⟨.call 13 [(.t 8), (.t 9)], (some 10), none, []⟩ :: ⟨.mov (.t 10), (some 7), none, []⟩ :: L24_4
theorem v24_5 : VS L24_5.eq_1 := rfl
def L24_6 : List AStep := ⟨.load 1 true (.t 2), (some 8), none, []⟩ :: ⟨.load 2 true (.t 3), (some 9), none, []⟩ :: L24_5
theorem v24_6 : VS L24_6.eq_1 := rfl
def L24_7 : List AStep := [⟨.mov (.t 6), (some 13), none, []⟩, ⟨.mov (.t 13), (some 4), none, []⟩]
theorem v24_7 : VS L24_7.eq_1 := rfl
def C24_0 : ACode := .seq (.reg L24_7) .ret
theorem u24_0 : VC C24_0.eq_1 := rfl
def C24_1 : ACode := .seq (.reg L24_6) C24_0
theorem u24_1 : VC C24_1.eq_1 := rfl
def C24_2 : ACode := .seq (.reg L24_1) C24_1
theorem u24_2 : VC C24_2.eq_1 := rfl
def F24 : AFunc := ⟨14, [.tmp 4], C24_2⟩
theorem cF24 : compB Try.prog 24 = some F24 := by kernel_rfl
attribute [local go_sem ↓] u24_0 u24_1 u24_2 v24_0 v24_1 v24_2 v24_3 v24_4 v24_5 v24_6 v24_7
theorem k_iAccepts (l : List Param) (f : Flat) (q p n : CV) (h : H) (hl : SlG h q l) (hf : SlF h p n f) (hn : miniG l) (hm : miniF f) : bm Try.prog 24 [.agg [q], .agg [p, n]] h = some (ib (acceptsF l f), h) := by
  refine bm_eq cF24 ?_
  simp +contextual (maxSteps := 2000000) only [go_sem, Nat.reduceEqDiff, reduceCtorEq, Nat.reduceAdd, Nat.reduceLeDiff, F24]
  refine wp_call (k_iBind l f q p n h hl hf hn hm) ?_
  rintro r h1 ⟨g1, v, rs, rfl, x⟩
  simp +contextual (maxSteps := 2000000) only [go_sem, Nat.reduceEqDiff, reduceCtorEq, Nat.reduceAdd, Nat.reduceLeDiff]
  exact gcR_of g1 rfl ⟨rfl, rfl⟩
/-! impl.Problems -/
def L26_0 : List AStep := [⟨.mov (.c (.sl none 0 (some 0))), (some 4), none, []⟩]
theorem v26_0 : VS L26_0.eq_1 := rfl
def L26_1 : List AStep := ⟨.box 38 (.t 0), (some 2), none, []⟩ :: ⟨.box 42 (.t 1), (some 3), none, []⟩ :: L26_0
theorem v26_1 : VS L26_1.eq_1 := rfl
def L26_2 : List AStep := [⟨.call 44 [(.t 7), (.t 8)], (some 9), none, []⟩, ⟨.not (.t 9), (some 10), none, []⟩]
theorem v26_2 : VS L26_2.eq_1 := rfl
def L26_3 : List AStep := ⟨.load 1 true (.t 2), (some 7), none, []⟩ :: ⟨.load 2 true (.t 3), (some 8), none, []⟩ :: L26_2
theorem v26_3 : VS L26_3.eq_1 := rfl
def L26_4 : List AStep := [⟨.mov (.c (.sl none 0 (some 0))), (some 4), none, []⟩]
theorem v26_4 : VS L26_4.eq_1 := rfl
def L26_5 : List AStep := [⟨.mov (.t 16), (some 6), none, []⟩]
theorem v26_5 : VS L26_5.eq_1 := rfl
def L26_6 : List AStep := ⟨.alloc 33 [(.sl none 0 (some 0))], (some 5), none, []⟩ :: ⟨.store 1 (.t 5) (.t 15), none, none, []⟩ :: L26_5
theorem v26_6 : VS L26_6.eq_1 := rfl
def L26_7 : List AStep := ⟨.extract (.t 11) 0, (some 15), none, []⟩ :: ⟨.extract (.t 11) 1, (some 16), none, []⟩ :: L26_6
theorem v26_7 : VS L26_7.eq_1 := rfl
def L26_8 : List AStep := ⟨.call 45 [(.t 12), (.t 13)], (some 14), none, []⟩ :: ⟨.mov (.t 14), (some 11), none, []⟩ :: L26_7
theorem v26_8 : VS L26_8.eq_1 := rfl
def L26_9 : List AStep := ⟨.load 1 true (.t 2), (some 12), none, []⟩ :: ⟨.load 2 true (.t 3), (some 13), none, []⟩ :: L26_8
theorem v26_9 : VS L26_9.eq_1 := rfl
def L26_10 : List AStep := [⟨.mov (.t 6), (some 17), none, []⟩, ⟨.mov (.t 17), (some 4), none, []⟩]
theorem v26_10 : VS L26_10.eq_1 := rfl
def C26_0 : ACode := .seq (.reg L26_4) .ret
theorem u26_0 : VC C26_0.eq_1 := rfl
def C26_1 : ACode := .cond (.t 10) C26_0 .skip
theorem u26_1 : VC C26_1.eq_1 := rfl
def C26_2 : ACode := .seq (.reg L26_3) C26_1
theorem u26_2 : VC C26_2.eq_1 := rfl
def C26_3 : ACode := .seq (.reg L26_10) .ret
theorem u26_3 : VC C26_3.eq_1 := rfl
def C26_4 : ACode := .seq (.reg L26_9) C26_3
theorem u26_4 : VC C26_4.eq_1 := rfl
def C26_5 : ACode := .seq C26_2 C26_4
theorem u26_5 : VC C26_5.eq_1 := rfl
def C26_6 : ACode := .seq (.reg L26_1) C26_5
theorem u26_6 : VC C26_6.eq_1 := rfl
def F26 : AFunc := ⟨18, [.tmp 4], C26_6⟩
theorem cF26 : compB Try.prog 26 = some F26 := by kernel_rfl
attribute [local go_sem ↓] u26_0 u26_1 u26_2 u26_3 u26_4 u26_5 u26_6 v26_0 v26_1 v26_2 v26_3 v26_4 v26_5 v26_6 v26_7 v26_8 v26_9 v26_10
theorem k_iProblems (l : List Param) (f : Flat) (q p n : CV) (h : H) (hl : SlG h q l) (hf : SlF h p n f) (hn : miniG l) (hm : miniF f) :
    callK (bm Try.prog 26 [.agg [q], .agg [p, n]] h) fun r h' => Grow h h' ∧ NwB h h' r (problemsF l f) := by
  refine bm_of cF26 ?_
  have gc := c_fit l f q p n h hl hf hn hm
  unfold problemsF
  cases b1 : fits l f with
  | false =>
    rw [b1] at gc
    simp +contextual (maxSteps := 2000000) only [go_sem, Nat.reduceEqDiff, reduceCtorEq, Nat.reduceAdd, Nat.reduceLeDiff, F26, gc, if_false]
    exact ⟨Grow.refl h, .nil⟩
  | true =>
  rw [b1] at gc
  obtain ⟨ok1, ok2⟩ := fits_ok b1
  simp +contextual (maxSteps := 2000000) only [go_sem, Nat.reduceEqDiff, reduceCtorEq, Nat.reduceAdd, Nat.reduceLeDiff, F26, gc, if_true]
  refine wp_call (c_bind l f q p n h hl.out hf ok1 ok2) ?_
  rintro r h1 ⟨g1, v, w, rs, rfl, x⟩
  simp +contextual (maxSteps := 2000000) only [go_sem, Nat.reduceEqDiff, reduceCtorEq, Nat.reduceAdd, Nat.reduceLeDiff]
  exact gcK_of ⟨g1, x.pr⟩ (fun hs _ => ⟨Grow.refl h, x.pr.scalar (by simpa [AV.scalar] using hs) h⟩)
/-! impl.BindPart$1 -/
def L56_0 : List AStep := [⟨.box 82 (.t 0), (some 1), none, []⟩, ⟨.mov (.c (.bool false)), (some 2), none, []⟩]
theorem v56_0 : VS L56_0.eq_1 := rfl
def L56_1 : List AStep := [⟨.bin .neq (.t 4) (.c (.int .i64 3)), (some 5), none, []⟩, ⟨.mov (.t 5), (some 2), none, []⟩]
theorem v56_1 : VS L56_1.eq_1 := rfl
def L56_2 : List AStep := ⟨.faddr 0 (.t 1), (some 3), none, []⟩ :: ⟨.load 1 false (.t 3), (some 4), none, []⟩ :: L56_1
theorem v56_2 : VS L56_2.eq_1 := rfl
def C56_0 : ACode := .seq (.reg L56_2) .ret
theorem u56_0 : VC C56_0.eq_1 := rfl
def C56_1 : ACode := .seq (.reg L56_0) C56_0
theorem u56_1 : VC C56_1.eq_1 := rfl
def F56 : AFunc := ⟨6, [.tmp 2], C56_1⟩
theorem cF56 : compB Try.prog 56 = some F56 := by kernel_rfl
attribute [local go_sem ↓] u56_0 u56_1 v56_0 v56_1 v56_2
theorem c_BindPart1 (x : Problem) (h : H) : bm Try.prog 56 [.agg (encB x)] h = some (ib (!(decide (x.kind = 3))), h) := by
  refine bm_eq cF56 ?_
  simp +contextual (maxSteps := 2000000) only [go_sem, Nat.reduceEqDiff, reduceCtorEq, Nat.reduceAdd, Nat.reduceLeDiff, F56]
/-! impl.BindPart -/
def L22_0 : List AStep := [⟨.alloc 33 [(.sl none 0 (some 0))], (some 4), none, []⟩, ⟨.mov (.c (.bool false)), (some 5), none, []⟩]
theorem v22_0 : VS L22_0.eq_1 := rfl
def L22_1 : List AStep := ⟨.box 38 (.t 0), (some 2), none, []⟩ :: ⟨.box 42 (.t 1), (some 3), none, []⟩ :: L22_0
theorem v22_1 : VS L22_1.eq_1 := rfl
def L22_2 : List AStep := [⟨.call 44 [(.t 8), (.t 9)], (some 10), none, []⟩, ⟨.not (.t 10), (some 11), none, []⟩]
theorem v22_2 : VS L22_2.eq_1 := rfl
def L22_3 : List AStep := ⟨.load 1 true (.t 2), (some 8), none, []⟩ :: ⟨.load 2 true (.t 3), (some 9), none, []⟩ :: L22_2
theorem v22_3 : VS L22_3.eq_1 := rfl
def L22_4 : List AStep := [⟨.mov (.c (.bool false)), (some 5), none, []⟩]
theorem v22_4 : VS L22_4.eq_1 := rfl
def L22_5 : List AStep := ⟨.build [(.sl none 0 (some 0))] [], (some 12), none, []⟩ :: ⟨.store 1 (.t 4) (.t 12), none, none, []⟩ :: L22_4
theorem v22_5 : VS L22_5.eq_1 := rfl
def L22_6 : List AStep := [⟨.mov (.t 18), (some 7), none, []⟩]
theorem v22_6 : VS L22_6.eq_1 := rfl
def L22_7 : List AStep := ⟨.alloc 33 [(.sl none 0 (some 0))], (some 6), none, []⟩ :: ⟨.store 1 (.t 6) (.t 17), none, none, []⟩ :: L22_6
theorem v22_7 : VS L22_7.eq_1 := rfl
def L22_8 : List AStep := ⟨.extract (.t 13) 0, (some 17), none, []⟩ :: ⟨.extract (.t 13) 1, (some 18), none, []⟩ :: L22_7
theorem v22_8 : VS L22_8.eq_1 := rfl
def L22_9 : List AStep := ⟨.call 45 [(.t 14), (.t 15)], (some 16), none, []⟩ :: ⟨.mov (.t 16), (some 13), none, []⟩ :: L22_8
theorem v22_9 : VS L22_9.eq_1 := rfl
def L22_10 : List AStep := ⟨.load 1 true (.t 2), (some 14), none, []⟩ :: ⟨.load 2 true (.t 3), (some 15), none, []⟩ :: L22_9
theorem v22_10 : VS L22_10.eq_1 := rfl
def L22_11 : List AStep := [⟨.mov (.t 7), (some 19), none, []⟩, ⟨.call 55 [(.t 19), (.c (.fn 56 []))], (some 20), none, []⟩]
theorem v22_11 : VS L22_11.eq_1 := rfl
def L22_12 : List AStep := [⟨.mov (.c (.bool false)), (some 5), none, []⟩]
theorem v22_12 : VS L22_12.eq_1 := rfl
def L22_13 : List AStep := ⟨.build [(.sl none 0 (some 0))] [], (some 21), none, []⟩ :: ⟨.store 1 (.t 4) (.t 21), none, none, []⟩ :: L22_12
theorem v22_13 : VS L22_13.eq_1 := rfl
def L22_14 : List AStep := [⟨.mov (.c (.bool true)), (some 5), none, []⟩]
theorem v22_14 : VS L22_14.eq_1 := rfl
def L22_15 : List AStep := ⟨.load 1 true (.t 6), (some 22), none, []⟩ :: ⟨.store 1 (.t 4) (.t 22), none, none, []⟩ :: L22_14
theorem v22_15 : VS L22_15.eq_1 := rfl
def C22_0 : ACode := .seq (.reg L22_5) .ret
theorem u22_0 : VC C22_0.eq_1 := rfl
def C22_1 : ACode := .cond (.t 11) C22_0 .skip
theorem u22_1 : VC C22_1.eq_1 := rfl
def C22_2 : ACode := .seq (.reg L22_3) C22_1
theorem u22_2 : VC C22_2.eq_1 := rfl
def C22_3 : ACode := .seq (.reg L22_13) .ret
theorem u22_3 : VC C22_3.eq_1 := rfl
def C22_4 : ACode := .cond (.t 20) C22_3 .skip
theorem u22_4 : VC C22_4.eq_1 := rfl
def C22_5 : ACode := .seq (.reg L22_11) C22_4
theorem u22_5 : VC C22_5.eq_1 := rfl
def C22_6 : ACode := .seq (.reg L22_15) .ret
theorem u22_6 : VC C22_6.eq_1 := rfl
def C22_7 : ACode := .seq C22_5 C22_6
theorem u22_7 : VC C22_7.eq_1 := rfl
def C22_8 : ACode := .seq (.reg L22_10) C22_7
theorem u22_8 : VC C22_8.eq_1 := rfl
def C22_9 : ACode := .seq C22_2 C22_8
theorem u22_9 : VC C22_9.eq_1 := rfl
def C22_10 : ACode := .seq (.reg L22_1) C22_9
theorem u22_10 : VC C22_10.eq_1 := rfl
def F22 : AFunc := ⟨23, [.cell 4 1 true, .tmp 5], C22_10⟩
theorem cF22 : compB Try.prog 22 = some F22 := by kernel_rfl
attribute [local go_sem ↓] u22_0 u22_1 u22_2 u22_3 u22_4 u22_5 u22_6 u22_7 u22_8 u22_9 u22_10 v22_0 v22_1 v22_2 v22_3 v22_4 v22_5 v22_6 v22_7 v22_8 v22_9 v22_10 v22_11 v22_12 v22_13 v22_14 v22_15
theorem k_iBindPart (l : List Param) (f : Flat) (q p n : CV) (h : H) (hl : SlG h q l) (hf : SlF h p n f) (hn : miniG l) (hm : miniF f) :
    callK (bm Try.prog 22 [.agg [q], .agg [p, n]] h) fun r h' => Grow h h' ∧ ∃ v rs, r = .tup [.agg [v], .one (.bool (partOk l f))] ∧ NwY h h' v rs (bindPartF l f) := by
  refine bm_of cF22 ?_
  have gc := c_fit l f q p n h hl hf hn hm
  unfold bindPartF partOk
  cases b1 : fits l f with
  | false =>
    rw [b1] at gc
    simp +contextual (maxSteps := 2000000) only [go_sem, Nat.reduceEqDiff, reduceCtorEq, Nat.reduceAdd, Nat.reduceLeDiff, F22, gc, Bool.false_and, if_false]
    exact ⟨Grow.refl h, _, [], rfl, .nil⟩
  | true =>
  rw [b1] at gc
  obtain ⟨ok1, ok2⟩ := fits_ok b1
  have hn8 := okSig_len ok1
  obtain ⟨hb1, hb2, hb3⟩ := okFlat_sm ok2
  have hbb : (wrong l f).length ≤ big := by
    have h1 := (BOk.nameF (l := l) (f := f) hb3 (Nat.le_refl _)).bad
    have h2 := missF_len (l := l) (sl := boundS l f) (i := l.length)
    unfold wrong boundB missing big
    rw [List.length_append]
    omega
  simp +contextual (maxSteps := 2000000) only [go_sem, Nat.reduceEqDiff, reduceCtorEq, Nat.reduceAdd, Nat.reduceLeDiff, F22, gc]
  refine wp_call (c_bind l f q p n h hl.out hf ok1 ok2) ?_
  rintro r h1 ⟨g1, v, w, rs, rfl, x⟩
  have e := c_hasB (wrong l f) _ 56 [] (fun p => !(decide (p.kind = 3))) h1 (x.pr.sl lenB) hbb (fun i hi x hx => c_BindPart1 x h1)
  rw [part_any] at e
  cases b2 : (boundB l f).isEmpty with
  | false =>
    rw [b2] at e
    simp +contextual (maxSteps := 2000000) only [go_sem, Nat.reduceEqDiff, reduceCtorEq, Nat.reduceAdd, Nat.reduceLeDiff, e, Bool.true_and, if_false]
    exact gcK_of ⟨g1, _, [], rfl, .nil⟩ (fun hs _ => ⟨Grow.refl h, _, [], rfl, .nil⟩)
  | true =>
    rw [b2] at e
    simp +contextual (maxSteps := 2000000) only [go_sem, Nat.reduceEqDiff, reduceCtorEq, Nat.reduceAdd, Nat.reduceLeDiff, e, Bool.true_and, if_true]
    exact gcK_of ⟨g1, _, _, rfl, x.sl⟩ (fun hs _ => ⟨Grow.refl h, _, _, rfl, x.sl.scalar (by simpa [AV.scalar, AV.scalars, CV.scalar] using hs) h⟩)
/-! impl.ValidPartial -/
def L33_0 : List AStep := [⟨.box 61 (.t 0), (some 1), none, []⟩, ⟨.mov (.c (.bool false)), (some 2), none, []⟩]
theorem v33_0 : VS L33_0.eq_1 := rfl
def L33_1 : List AStep := [⟨.mov (.t 12), (some 4), none, []⟩]
theorem v33_1 : VS L33_1.eq_1 := rfl
def L33_2 : List AStep := ⟨.alloc 33 [(.sl none 0 (some 0))], (some 3), none, []⟩ :: ⟨.store 1 (.t 3) (.t 11), none, none, []⟩ :: L33_1
theorem v33_2 : VS L33_2.eq_1 := rfl
def L33_3 : List AStep := ⟨.extract (.t 5) 0, (some 11), none, []⟩ :: ⟨.extract (.t 5) 1, (some 12), none, []⟩ :: L33_2
theorem v33_3 : VS L33_3.eq_1 := rfl
def L33_4 : List AStep := ⟨.call 22 [(.t 7), (.t 9)], (some 10), none, []⟩ :: ⟨.mov (.t 10), (some 5), none, []⟩ :: L33_3
theorem v33_4 : VS L33_4.eq_1 := rfl
def L33_5 : List AStep := ⟨.faddr 1 (.t 1), (some 8), none, []⟩ :: ⟨.load 2 true (.t 8), (some 9), none, []⟩ :: L33_4
theorem v33_5 : VS L33_5.eq_1 := rfl
def L33_6 : List AStep := ⟨.faddr 0 (.t 1), (some 6), none, []⟩ :: ⟨.load 1 true (.t 6), (some 7), none, []⟩ :: L33_5
theorem v33_6 : VS L33_6.eq_1 := rfl
def L33_7 : List AStep := [⟨.mov (.t 4), (some 13), none, []⟩, ⟨.mov (.t 13), (some 2), none, []⟩]
theorem v33_7 : VS L33_7.eq_1 := rfl
def C33_0 : ACode := .seq (.reg L33_7) .ret
theorem u33_0 : VC C33_0.eq_1 := rfl
def C33_1 : ACode := .seq (.reg L33_6) C33_0
theorem u33_1 : VC C33_1.eq_1 := rfl
def C33_2 : ACode := .seq (.reg L33_0) C33_1
theorem u33_2 : VC C33_2.eq_1 := rfl
def F33 : AFunc := ⟨14, [.tmp 2], C33_2⟩
theorem cF33 : compB Try.prog 33 = some F33 := by kernel_rfl
attribute [local go_sem ↓] u33_0 u33_1 u33_2 v33_0 v33_1 v33_2 v33_3 v33_4 v33_5 v33_6 v33_7
theorem c_ValidPartial (l : List Param) (f : Flat) (q p n : CV) (h : H) (hl : SlG h q l) (hf : SlF h p n f) (hn : miniG l) (hm : miniF f) : bm Try.prog 33 [.agg [q, p, n]] h = some (ib (partOk l f), h) := by
  refine bm_eq cF33 ?_
  simp +contextual (maxSteps := 2000000) only [go_sem, Nat.reduceEqDiff, reduceCtorEq, Nat.reduceAdd, Nat.reduceLeDiff, F33, loadL_agg]
  refine wp_call (k_iBindPart l f q p n h hl hf hn hm) ?_
  rintro r h1 ⟨g1, v, rs, rfl, x⟩
  simp +contextual (maxSteps := 2000000) only [go_sem, Nat.reduceEqDiff, reduceCtorEq, Nat.reduceAdd, Nat.reduceLeDiff]
  exact gcR_of g1 rfl ⟨rfl, rfl⟩
end Go.Proofs.Ytdalgphpacikkaa.Am
