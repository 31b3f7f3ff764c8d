/- Contracts: binding, of both sides. -/
import Derived.Test.YtdalgphpacikkabBJ
namespace Go.Proofs.Ytdalgphpacikkab.Am
open Go
set_option maxRecDepth 100000
set_option maxHeartbeats 4000000
set_option linter.unusedSimpArgs false
set_option linter.unusedVariables false
attribute [local go_sem ↓] bv_t bv_c ev_t ev_c put_same put_ne put_none kill_at pro_at lb_same lb_ne start_zero start_succ wpC_seq wpC_reg wpC_cond wpC_block wpC_skip wpC_exit wpC_ret thenQ_normal thenQ_exit thenQ_ret inBlk_normal inBlk_exit inBlk_ret wpS_nil wpS_step wpS_again wpS_guard wpO_mov wpO_load wpO_faddr wpO_nilCheck wpO_pick wpO_build wpO_bin wpO_eqb wpO_eqst wpO_eqnil wpO_not wpO_conv wpO_bytesStr wpO_iaddr wpO_idxStr wpO_field wpO_extract wpO_len wpO_lenStr wpO_cap wpO_min wpO_slice wpO_sliceStr wpO_alloc wpO_box wpO_store wpO_call wpO_callv wpO_mkfn wpO_buildSlice wpO_mkslice wpO_append wpO_appz proA_nil proA_cons tmpX_nil tmpX_tmp tmpX_cell doneB_normal doneB_ret agK_cons agK_nil agK_guard agG_tt agG_ff agG_tf agG_ft agG_undef pureB_load results_one results_two results_nil resBs_cons resBs_nil resB_tmp resB_cell
attribute [local go_sem] kill_v kill_lp_ne kill_lp_same pro_v pro_lp_same pro_lp_ne av_v av_lp optB_some optX_some valX_eq ldX_lp ldX_v faX_lp faX_v ncX_lp ncX_ptr ncX_fn boxK_one boxK_agg stL_some stK_lp_one stK_lp_agg stK_v_one stK_v_agg proM_v proM_lp callG_mk callVG_mk callvK_fn fnG_mk ptrsA_nil ptrsA_cons callH_some whenA_true whenA_false guardH_tt guardH_ff guardH_tf guardH_ft guardH_undef agV_one agV_agg lenO_sl lenStrO_str notO_bool pickO_bool convO_int eqbO_bool eqnilO_sl extractO_tup capO_sl minO_int loadL_one loadL_all storeL_eq fillA_nil fillA_one fillA_agg nat_ge neg_ge nat_lt neg_lt buildO bin_add bin_sub bin_mul bin_eql bin_neq bin_lss bin_leq bin_gtr bin_geq str_eql str_neq str_lss str_leq str_gtr str_geq retK_some endK_mk gcK_same gcK_int gcK_bool tupO_one tupO_agg rdy_self ib ii Option.map_none Option.map_some Option.some.injEq exists_eq_left' exists_eq_left ne_eq not_false_eq_true if_true if_false List.map_cons List.map_nil List.getElem?_cons_zero List.getElem?_cons_succ List.length_cons List.length_nil List.take_succ_cons List.take_zero List.take_nil List.drop_succ_cons List.drop_zero List.drop_nil List.cons_append List.nil_append List.append_nil List.set_cons_zero List.set_cons_succ Nat.zero_add forall_const true_and and_true and_self Bool.false_eq_true false_implies true_implies implies_true Bool.not_true Bool.not_false Bool.not_eq_true' Bool.not_eq_false' beq_self_eq_true Bool.bne_true Bool.bne_false
attribute [local go_sem] lenI lenS lenP lenQ lenB lenL lenT encI_0 encS_0 encP_0 encP_1 encQ_0 encQ_1 encQ_2 encQ_3 encB_0 encB_1 encL_0 encL_1 encT_0 encT_1
attribute [local go_sem low] whenA_bool guardH_bool
attribute [local go_sem] lenY encY_0 encY_1 encY_2
theorem miniG.smQ {l : List Param} (h : miniG l) : smQ l := h.sm
theorem miniY.bound {l : List Param} {f : Flat} (ok1 : okSig l = true) (ok2 : okFlat f = true) : miniY (boundS l f) := by
  have s := SOk.bound (l := l) ok2
  have hn := okSig_len ok1
  have hl : (boundS l f).length = l.length := boundS_len
  refine ⟨by omega, fun a ha => by have := s.list a ha; omega, fun a ha => by have := s.pairs a ha; omega, fun a ha x hx => by have := s.nm a ha x hx; omega, ?_⟩
  have := wsum_bound (f := cellsEY) (B := 26) (l := boundS l f) (fun a ha => by have := s.list a ha; have := s.pairs a ha; unfold cellsEY; omega)
  unfold cellsY
  have h2 : (boundS l f).length * 26 ≤ 8 * 26 := Nat.mul_le_mul_right _ (by omega)
  omega
theorem miniY.nil : miniY [] := ⟨by simp, fun a ha => by simp at ha, fun a ha => by simp at ha, fun a ha => by simp at ha, by simp [cellsY, wsum]⟩
theorem miniY.bind {l : List Param} {f : Flat} : miniY (bindF l f) := by
  unfold bindF
  split
  · rename_i h
    obtain ⟨ok1, ok2⟩ := fits_ok (accepts_fits h)
    exact .bound ok1 ok2
  · exact .nil
theorem miniY.part {l : List Param} {f : Flat} : miniY (bindPartF l f) := by
  unfold bindPartF
  split
  · rename_i h
    unfold partOk at h
    rw [Bool.and_eq_true] at h
    obtain ⟨ok1, ok2⟩ := fits_ok h.1
    exact .bound ok1 ok2
  · exact .nil
theorem smQ_of {l : List Param} (ok1 : okSig l = true) : smQ l := by
  have hn := okSig_len ok1
  exact ⟨by unfold big; omega, fun x hx => by have := okSig_name ok1 x hx; unfold big; omega⟩
theorem len_isEmpty {α : Type} (l : List α) : decide ((l.length : Int) = 0) = l.isEmpty := by
  cases l with
  | nil => rfl
  | cons a r => simp; omega
theorem len_pos {α : Type} (l : List α) : decide ((l.length : Int) > 0) = !l.isEmpty := by
  cases l with
  | nil => rfl
  | cons a r => simp
/-! spec.problems -/
def L50_0 : List AStep := [⟨.mov (.c (.sl none 0 (some 0))), (some 4), none, []⟩]
theorem v50_0 : VS L50_0.eq_1 := rfl
def L50_1 : List AStep := ⟨.box 36 (.t 0), (some 2), none, []⟩ :: ⟨.box 39 (.t 1), (some 3), none, []⟩ :: L50_0
theorem v50_1 : VS L50_1.eq_1 := rfl
def L50_2 : List AStep := [⟨.mov (.t 12), (some 6), none, []⟩]
theorem v50_2 : VS L50_2.eq_1 := rfl
def L50_3 : List AStep := ⟨.alloc 75 [(.sl none 0 (some 0))], (some 5), none, []⟩ :: ⟨.store 1 (.t 5) (.t 11), none, none, []⟩ :: L50_2
theorem v50_3 : VS L50_3.eq_1 := rfl
def L50_4 : List AStep := ⟨.extract (.t 7) 0, (some 11), none, []⟩ :: ⟨.extract (.t 7) 1, (some 12), none, []⟩ :: L50_3
theorem v50_4 : VS L50_4.eq_1 := rfl
def L50_5 : List AStep := ⟨.call 45 [(.t 8), (.t 9)], (some 10), none, []⟩ :: ⟨.mov (.t 10), (some 7), none, []⟩ :: L50_4
theorem v50_5 : VS L50_5.eq_1 := rfl
def L50_6 : List AStep := ⟨.load 1 true (.t 2), (some 8), none, []⟩ :: ⟨.load 2 true (.t 3), (some 9), none, []⟩ :: L50_5
theorem v50_6 : VS L50_6.eq_1 := rfl
def L50_7 : List AStep := [⟨.append 88 2 24 (.t 13) (.t 16), (some 17), none, []⟩, ⟨.mov (.t 17), (some 4), none, []⟩]
theorem v50_7 : VS L50_7.eq_1 := rfl
def L50_8 : List AStep := ⟨.load 1 true (.t 5), (some 15), none, []⟩ :: ⟨.call 88 [(.t 14), (.t 15)], (some 16), none, []⟩ :: L50_7
theorem v50_8 : VS L50_8.eq_1 := rfl
def L50_9 : List AStep := ⟨.mov (.t 6), (some 13), none, []⟩ :: ⟨.load 1 true (.t 2), (some 14), none, []⟩ :: L50_8
theorem v50_9 : VS L50_9.eq_1 := rfl
def C50_0 : ACode := .seq (.reg L50_9) .ret
theorem u50_0 : VC C50_0.eq_1 := rfl
def C50_1 : ACode := .seq (.reg L50_6) C50_0
theorem u50_1 : VC C50_1.eq_1 := rfl
def C50_2 : ACode := .seq (.reg L50_1) C50_1
theorem u50_2 : VC C50_2.eq_1 := rfl
def F50 : AFunc := ⟨18, [.tmp 4], C50_2⟩
theorem cF50 : compB Try.prog 50 = some F50 := by kernel_rfl
attribute [local go_sem ↓] u50_0 u50_1 u50_2 v50_0 v50_1 v50_2 v50_3 v50_4 v50_5 v50_6 v50_7 v50_8 v50_9
theorem c_problems (l : List Param) (f : Flat) (q p n : CV) (h : H) (hl : SlQ h (.one q) l) (hf : SlF h p n f) (ok1 : okSig l = true) (ok2 : okFlat f = true) :
    callK (bm Try.prog 50 [.agg [q], .agg [p, n]] h) fun r h' => Grow h h' ∧ NwB h h' r (wrong l f) := by
  refine bm_of cF50 ?_
  have hn := okSig_len ok1
  obtain ⟨hb1, hb2, hb3⟩ := okFlat_sm ok2
  have hbb : (boundB l f).length ≤ 9 := by have := (BOk.nameF (l := l) (f := f) hb3 (Nat.le_refl _)).bad; unfold boundB; omega
  simp +contextual (maxSteps := 2000000) only [go_sem, Nat.reduceEqDiff, reduceCtorEq, Nat.reduceAdd, Nat.reduceLeDiff, F50]
  refine wp_call (c_bound l f q p n h hl hf ok1 ok2) ?_
  rintro r h1 ⟨g1, v, w, rs, rfl, x⟩
  simp +contextual (maxSteps := 2000000) only [go_sem, Nat.reduceEqDiff, reduceCtorEq, Nat.reduceAdd, Nat.reduceLeDiff]
  refine wp_call (c_missing l (boundS l f) rs q v h1 (hl.grow g1) hn x.sl.out.rd boundS_len) ?_
  rintro r h2 ⟨g2, n2⟩
  simp +contextual (maxSteps := 2000000) only [go_sem, Nat.reduceEqDiff, reduceCtorEq, Nat.reduceAdd, Nat.reduceLeDiff]
  refine wp_append lenB (x.pr.grow g2) (n2.sl lenB) (g1.trans g2) (by have := missF_len (l := l) (sl := boundS l f) (i := l.length); unfold missing; omega) ?_
  intro h3 s3 g3 n3 _ _
  simp +contextual (maxSteps := 2000000) only [go_sem, Nat.reduceEqDiff, reduceCtorEq, Nat.reduceAdd, Nat.reduceLeDiff]
  exact gcK_of ⟨g3, n3⟩ (fun hs _ => ⟨Grow.refl h, n3.scalar hs h⟩)
/-! spec.accepts -/
def L70_0 : List AStep := [⟨.mov (.c (.bool false)), (some 4), none, []⟩]
theorem v70_0 : VS L70_0.eq_1 := rfl
def L70_1 : List AStep := ⟨.box 36 (.t 0), (some 2), none, []⟩ :: ⟨.box 39 (.t 1), (some 3), none, []⟩ :: L70_0
theorem v70_1 : VS L70_1.eq_1 := rfl
def L70_2 : List AStep := [⟨.bin .eql (.t 8) (.c (.int .i64 0)), (some 9), none, []⟩, ⟨.mov (.t 9), (some 4), none, []⟩]
theorem v70_2 : VS L70_2.eq_1 := rfl
def L70_3 : List AStep := ⟨.call 50 [(.t 5), (.t 6)], (some 7), none, []⟩ :: ⟨.len (.t 7), (some 8), none, []⟩ :: L70_2
theorem v70_3 : VS L70_3.eq_1 := rfl
def L70_4 : List AStep := ⟨.load 1 true (.t 2), (some 5), none, []⟩ :: ⟨.load 2 true (.t 3), (some 6), none, []⟩ :: L70_3
theorem v70_4 : VS L70_4.eq_1 := rfl
def C70_0 : ACode := .seq (.reg L70_4) .ret
theorem u70_0 : VC C70_0.eq_1 := rfl
def C70_1 : ACode := .seq (.reg L70_1) C70_0
theorem u70_1 : VC C70_1.eq_1 := rfl
def F70 : AFunc := ⟨10, [.tmp 4], C70_1⟩
theorem cF70 : compB Try.prog 70 = some F70 := by kernel_rfl
attribute [local go_sem ↓] u70_0 u70_1 v70_0 v70_1 v70_2 v70_3 v70_4
theorem c_accepts (l : List Param) (f : Flat) (q p n : CV) (h : H) (hl : SlQ h (.one q) l) (hf : SlF h p n f) (ok1 : okSig l = true) (ok2 : okFlat f = true) : bm Try.prog 70 [.agg [q], .agg [p, n]] h = some (ib (wrong l f).isEmpty, h) := by
  refine bm_eq cF70 ?_
  simp +contextual (maxSteps := 2000000) only [go_sem, Nat.reduceEqDiff, reduceCtorEq, Nat.reduceAdd, Nat.reduceLeDiff, F70]
  refine wp_call (c_problems l f q p n h hl hf ok1 ok2) ?_
  rintro r h1 ⟨g1, n1⟩
  simp +contextual (maxSteps := 2000000) only [go_sem, Nat.reduceEqDiff, reduceCtorEq, Nat.reduceAdd, Nat.reduceLeDiff, n1.length, len_isEmpty]
  exact gcR_of g1 rfl ⟨rfl, rfl⟩
/-! spec.Bind -/
def L55_0 : List AStep := [⟨.alloc 75 [(.sl none 0 (some 0))], (some 4), none, []⟩, ⟨.mov (.c (.bool false)), (some 5), none, []⟩]
theorem v55_0 : VS L55_0.eq_1 := rfl
def L55_1 : List AStep := ⟨.box 36 (.t 0), (some 2), none, []⟩ :: ⟨.box 39 (.t 1), (some 3), none, []⟩ :: L55_0
theorem v55_1 : VS L55_1.eq_1 := rfl
def L55_2 : List AStep := [⟨.not (.t 15), (some 16), (some (12, false)), []⟩, ⟨.pick (.t 12) (.c (.bool true)) (.t 16), (some 17), none, []⟩]
theorem v55_2 : VS L55_2.eq_1 := rfl
def L55_3 : List AStep := ⟨.load 2 true (.t 3), (some 14), (some (12, false)), []⟩ :: ⟨.call 70 [(.t 13), (.t 14)], (some 15), (some (12, false)), []⟩ :: L55_2
theorem v55_3 : VS L55_3.eq_1 := rfl
def L55_4 : List AStep := ⟨.mov (.t 11), (some 12), none, []⟩ :: ⟨.load 1 true (.t 2), (some 13), (some (12, false)), []⟩ :: L55_3
theorem v55_4 : VS L55_4.eq_1 := rfl
def L55_5 : List AStep := ⟨.call 78 [(.t 8), (.t 9)], (some 10), none, []⟩ :: ⟨.not (.t 10), (some 11), none, []⟩ :: L55_4
theorem v55_5 : VS L55_5.eq_1 := rfl
def L55_6 : List AStep := ⟨.load 1 true (.t 2), (some 8), none, []⟩ :: ⟨.load 2 true (.t 3), (some 9), none, []⟩ :: L55_5
theorem v55_6 : VS L55_6.eq_1 := rfl
def L55_7 : List AStep := [⟨.mov (.c (.bool false)), (some 5), none, []⟩]
theorem v55_7 : VS L55_7.eq_1 := rfl
def L55_8 : List AStep := ⟨.build [(.sl none 0 (some 0))] [], (some 18), none, []⟩ :: ⟨.store 1 (.t 4) (.t 18), none, none, []⟩ :: L55_7
theorem v55_8 : VS L55_8.eq_1 := rfl
def L55_9 : List AStep := [⟨.mov (.t 24), (some 7), none, []⟩]
theorem v55_9 : VS L55_9.eq_1 := rfl
def L55_10 : List AStep := ⟨.alloc 75 [(.sl none 0 (some 0))], (some 6), none, []⟩ :: ⟨.store 1 (.t 6) (.t 23), none, none, []⟩ :: L55_9
theorem v55_10 : VS L55_10.eq_1 := rfl
def L55_11 : List AStep := ⟨.extract (.t 19) 0, (some 23), none, []⟩ :: ⟨.extract (.t 19) 1, (some 24), none, []⟩ :: L55_10
theorem v55_11 : VS L55_11.eq_1 := rfl
def L55_12 : List AStep := ⟨.call 45 [(.t 20), (.t 21)], (some 22), none, []⟩ :: ⟨.mov (.t 22), (some 19), none, []⟩ :: L55_11
theorem v55_12 : VS L55_12.eq_1 := rfl
def L55_13 : List AStep := ⟨.load 1 true (.t 2), (some 20), none, []⟩ :: ⟨.load 2 true (.t 3), (some 21), none, []⟩ :: L55_12
theorem v55_13 : VS L55_13.eq_1 := rfl
def L55_14 : List AStep := [⟨.mov (.c (.bool true)), (some 5), none, []⟩]
theorem v55_14 : VS L55_14.eq_1 := rfl
def L55_15 : List AStep := ⟨.load 1 true (.t 6), (some 25), none, []⟩ :: ⟨.store 1 (.t 4) (.t 25), none, none, []⟩ :: L55_14
theorem v55_15 : VS L55_15.eq_1 := rfl
def C55_0 : ACode := .seq (.reg L55_8) .ret
theorem u55_0 : VC C55_0.eq_1 := rfl
def C55_1 : ACode := .cond (.t 17) C55_0 .skip
theorem u55_1 : VC C55_1.eq_1 := rfl
def C55_2 : ACode := .seq (.reg L55_6) C55_1
theorem u55_2 : VC C55_2.eq_1 := rfl
def C55_3 : ACode := .seq (.reg L55_15) .ret
theorem u55_3 : VC C55_3.eq_1 := rfl
def C55_4 : ACode := .seq (.reg L55_13) C55_3
theorem u55_4 : VC C55_4.eq_1 := rfl
def C55_5 : ACode := .seq C55_2 C55_4
theorem u55_5 : VC C55_5.eq_1 := rfl
def C55_6 : ACode := .seq (.reg L55_1) C55_5
theorem u55_6 : VC C55_6.eq_1 := rfl
def F55 : AFunc := ⟨26, [.cell 4 1 true, .tmp 5], C55_6⟩
theorem cF55 : compB Try.prog 55 = some F55 := by kernel_rfl
attribute [local go_sem ↓] u55_0 u55_1 u55_2 u55_3 u55_4 u55_5 u55_6 v55_0 v55_1 v55_2 v55_3 v55_4 v55_5 v55_6 v55_7 v55_8 v55_9 v55_10 v55_11 v55_12 v55_13 v55_14 v55_15
theorem k_sBind (l : List Param) (f : Flat) (q p n : CV) (h : H) (hl : SlG h q l) (hf : SlF h p n f) (hn : miniG l) (hm : miniF f) :
    callK (bm Try.prog 55 [.agg [q], .agg [p, n]] h) fun r h' => Grow h h' ∧ ∃ v rs, r = .tup [.agg [v], .one (.bool (acceptsF l f))] ∧ NwY h h' v rs (bindF l f) := by
  refine bm_of cF55 ?_
  have gc := c_goodCall l f q p n h hl.out hn.sm hf.pl hf.nl hm.sm
  unfold bindF acceptsF
  cases b1 : fits l f with
  | false =>
    have b1' : (okSig l && okFlat f) = false := b1
    simp +contextual (maxSteps := 2000000) only [go_sem, Nat.reduceEqDiff, reduceCtorEq, Nat.reduceAdd, Nat.reduceLeDiff, F55, gc, b1', Bool.false_and, if_false]
    exact ⟨Grow.refl h, _, [], rfl, .nil⟩
  | true =>
  have b1' : (okSig l && okFlat f) = true := b1
  obtain ⟨ok1, ok2⟩ := fits_ok b1
  have ac := c_accepts l f q p n h hl.out hf ok1 ok2
  cases b2 : (wrong l f).isEmpty with
  | false =>
    rw [b2] at ac
    simp +contextual (maxSteps := 2000000) only [go_sem, Nat.reduceEqDiff, reduceCtorEq, Nat.reduceAdd, Nat.reduceLeDiff, F55, gc, b1', ac, Bool.true_and, if_false]
    exact ⟨Grow.refl h, _, [], rfl, .nil⟩
  | true =>
    rw [b2] at ac
    simp +contextual (maxSteps := 2000000) only [go_sem, Nat.reduceEqDiff, reduceCtorEq, Nat.reduceAdd, Nat.reduceLeDiff, F55, gc, b1', ac, Bool.true_and, if_true]
    refine wp_call (c_bound l f q p n h hl.out hf ok1 ok2) ?_
    rintro r h1 ⟨g1, v, w, rs, rfl, x⟩
    simp +contextual (maxSteps := 2000000) only [go_sem, Nat.reduceEqDiff, reduceCtorEq, Nat.reduceAdd, Nat.reduceLeDiff]
    exact gcK_of ⟨g1, _, _, rfl, x.sl⟩ (fun hs _ => ⟨Grow.refl h, _, _, rfl, x.sl.scalar (by simpa [AV.scalar, AV.scalars, CV.scalar] using hs) h⟩)
/-! spec.validPartial -/
def L44_0 : List AStep := [⟨.box 41 (.t 0), (some 1), none, []⟩, ⟨.mov (.c (.bool false)), (some 2), none, []⟩]
theorem v44_0 : VS L44_0.eq_1 := rfl
def L44_1 : List AStep := [⟨.call 78 [(.t 6), (.t 8)], (some 9), none, []⟩, ⟨.not (.t 9), (some 10), none, []⟩]
theorem v44_1 : VS L44_1.eq_1 := rfl
def L44_2 : List AStep := ⟨.faddr 1 (.t 1), (some 7), none, []⟩ :: ⟨.load 2 true (.t 7), (some 8), none, []⟩ :: L44_1
theorem v44_2 : VS L44_2.eq_1 := rfl
def L44_3 : List AStep := ⟨.faddr 0 (.t 1), (some 5), none, []⟩ :: ⟨.load 1 true (.t 5), (some 6), none, []⟩ :: L44_2
theorem v44_3 : VS L44_3.eq_1 := rfl
def L44_4 : List AStep := [⟨.mov (.c (.bool false)), (some 2), none, []⟩]
theorem v44_4 : VS L44_4.eq_1 := rfl
def L44_5 : List AStep := [⟨.mov (.t 18), (some 4), none, []⟩]
theorem v44_5 : VS L44_5.eq_1 := rfl
def L44_6 : List AStep := ⟨.alloc 75 [(.sl none 0 (some 0))], (some 3), none, []⟩ :: ⟨.store 1 (.t 3) (.t 17), none, none, []⟩ :: L44_5
theorem v44_6 : VS L44_6.eq_1 := rfl
def L44_7 : List AStep := ⟨.extract (.t 11) 0, (some 17), none, []⟩ :: ⟨.extract (.t 11) 1, (some 18), none, []⟩ :: L44_6
theorem v44_7 : VS L44_7.eq_1 := rfl
def L44_8 : List AStep := ⟨.call 45 [(.t 13), (.t 15)], (some 16), none, []⟩ :: ⟨.mov (.t 16), (some 11), none, []⟩ :: L44_7
theorem v44_8 : VS L44_8.eq_1 := rfl
def L44_9 : List AStep := ⟨.faddr 1 (.t 1), (some 14), none, []⟩ :: ⟨.load 2 true (.t 14), (some 15), none, []⟩ :: L44_8
theorem v44_9 : VS L44_9.eq_1 := rfl
def L44_10 : List AStep := ⟨.faddr 0 (.t 1), (some 12), none, []⟩ :: ⟨.load 1 true (.t 12), (some 13), none, []⟩ :: L44_9
theorem v44_10 : VS L44_10.eq_1 := rfl
def L44_11 : List AStep := [⟨.bin .eql (.t 20) (.c (.int .i64 0)), (some 21), none, []⟩, ⟨.mov (.t 21), (some 2), none, []⟩]
theorem v44_11 : VS L44_11.eq_1 := rfl
def L44_12 : List AStep := ⟨.mov (.t 4), (some 19), none, []⟩ :: ⟨.len (.t 19), (some 20), none, []⟩ :: L44_11
theorem v44_12 : VS L44_12.eq_1 := rfl
def C44_0 : ACode := .seq (.reg L44_4) .ret
theorem u44_0 : VC C44_0.eq_1 := rfl
def C44_1 : ACode := .cond (.t 10) C44_0 .skip
theorem u44_1 : VC C44_1.eq_1 := rfl
def C44_2 : ACode := .seq (.reg L44_3) C44_1
theorem u44_2 : VC C44_2.eq_1 := rfl
def C44_3 : ACode := .seq (.reg L44_12) .ret
theorem u44_3 : VC C44_3.eq_1 := rfl
def C44_4 : ACode := .seq (.reg L44_10) C44_3
theorem u44_4 : VC C44_4.eq_1 := rfl
def C44_5 : ACode := .seq C44_2 C44_4
theorem u44_5 : VC C44_5.eq_1 := rfl
def C44_6 : ACode := .seq (.reg L44_0) C44_5
theorem u44_6 : VC C44_6.eq_1 := rfl
def F44 : AFunc := ⟨22, [.tmp 2], C44_6⟩
theorem cF44 : compB Try.prog 44 = some F44 := by kernel_rfl
attribute [local go_sem ↓] u44_0 u44_1 u44_2 u44_3 u44_4 u44_5 u44_6 v44_0 v44_1 v44_2 v44_3 v44_4 v44_5 v44_6 v44_7 v44_8 v44_9 v44_10 v44_11 v44_12
theorem c_validPartial (l : List Param) (f : Flat) (q p n : CV) (h : H) (hl : SlG h q l) (hf : SlF h p n f) (hn : miniG l) (hm : miniF f) : bm Try.prog 44 [.agg [q, p, n]] h = some (ib (partOk l f), h) := by
  refine bm_eq cF44 ?_
  have gc := c_goodCall l f q p n h hl.out hn.sm hf.pl hf.nl hm.sm
  unfold partOk
  cases b1 : fits l f with
  | false =>
    have b1' : (okSig l && okFlat f) = false := b1
    simp +contextual (maxSteps := 2000000) only [go_sem, Nat.reduceEqDiff, reduceCtorEq, Nat.reduceAdd, Nat.reduceLeDiff, F44, loadL_agg, gc, b1', Bool.false_and]
  | true =>
  have b1' : (okSig l && okFlat f) = true := b1
  obtain ⟨ok1, ok2⟩ := fits_ok b1
  simp +contextual (maxSteps := 2000000) only [go_sem, Nat.reduceEqDiff, reduceCtorEq, Nat.reduceAdd, Nat.reduceLeDiff, F44, loadL_agg, gc, b1', Bool.true_and]
  refine wp_call (c_bound l f q p n h hl.out hf ok1 ok2) ?_
  rintro r h1 ⟨g1, v, w, rs, rfl, x⟩
  simp +contextual (maxSteps := 2000000) only [go_sem, Nat.reduceEqDiff, reduceCtorEq, Nat.reduceAdd, Nat.reduceLeDiff, x.pr.length, len_isEmpty]
  exact gcR_of g1 rfl ⟨rfl, rfl⟩
/-! impl.fit -/
def L93_0 : List AStep := [⟨.mov (.c (.bool false)), (some 4), none, []⟩]
theorem v93_0 : VS L93_0.eq_1 := rfl
def L93_1 : List AStep := ⟨.box 36 (.t 0), (some 2), none, []⟩ :: ⟨.box 39 (.t 1), (some 3), none, []⟩ :: L93_0
theorem v93_1 : VS L93_1.eq_1 := rfl
def L93_2 : List AStep := [⟨.mov (.t 10), (some 4), none, []⟩]
theorem v93_2 : VS L93_2.eq_1 := rfl
def L93_3 : List AStep := ⟨.call 76 [(.t 8)], (some 9), (some (7, true)), []⟩ :: ⟨.pick (.t 7) (.t 9) (.c (.bool false)), (some 10), none, []⟩ :: L93_2
theorem v93_3 : VS L93_3.eq_1 := rfl
def L93_4 : List AStep := ⟨.mov (.t 6), (some 7), none, []⟩ :: ⟨.load 2 true (.t 3), (some 8), (some (7, true)), []⟩ :: L93_3
theorem v93_4 : VS L93_4.eq_1 := rfl
def L93_5 : List AStep := ⟨.load 1 true (.t 2), (some 5), none, []⟩ :: ⟨.call 95 [(.t 5)], (some 6), none, []⟩ :: L93_4
theorem v93_5 : VS L93_5.eq_1 := rfl
def C93_0 : ACode := .seq (.reg L93_5) .ret
theorem u93_0 : VC C93_0.eq_1 := rfl
def C93_1 : ACode := .seq (.reg L93_1) C93_0
theorem u93_1 : VC C93_1.eq_1 := rfl
def F93 : AFunc := ⟨11, [.tmp 4], C93_1⟩
theorem cF93 : compB Try.prog 93 = some F93 := by kernel_rfl
attribute [local go_sem ↓] u93_0 u93_1 v93_0 v93_1 v93_2 v93_3 v93_4 v93_5
theorem c_fit (l : List Param) (f : Flat) (q p n : CV) (h : H) (hl : SlG h q l) (hf : SlF h p n f) (hn : miniG l) (hm : miniF f) : bm Try.prog 93 [.agg [q], .agg [p, n]] h = some (ib (fits l f), h) := by
  refine bm_eq cF93 ?_
  have c1 := c_ValidSignature l q h hl.out hn.sm
  have c2 := c_ValidFlat f p n h hf.pl hf.nl hm.sm
  unfold fits
  cases b1 : okSig l with
  | false =>
    rw [b1] at c1
    simp +contextual (maxSteps := 2000000) only [go_sem, Nat.reduceEqDiff, reduceCtorEq, Nat.reduceAdd, Nat.reduceLeDiff, F93, c1, Bool.false_and]
  | true =>
    rw [b1] at c1
    simp +contextual (maxSteps := 2000000) only [go_sem, Nat.reduceEqDiff, reduceCtorEq, Nat.reduceAdd, Nat.reduceLeDiff, F93, c1, c2, Bool.true_and]
/-! impl.Bind -/
def L61_0 : List AStep := [⟨.alloc 75 [(.sl none 0 (some 0))], (some 4), none, []⟩, ⟨.mov (.c (.bool false)), (some 5), none, []⟩]
theorem v61_0 : VS L61_0.eq_1 := rfl
def L61_1 : List AStep := ⟨.box 36 (.t 0), (some 2), none, []⟩ :: ⟨.box 39 (.t 1), (some 3), none, []⟩ :: L61_0
theorem v61_1 : VS L61_1.eq_1 := rfl
def L61_2 : List AStep := [⟨.call 93 [(.t 8), (.t 9)], (some 10), none, []⟩, ⟨.not (.t 10), (some 11), none, []⟩]
theorem v61_2 : VS L61_2.eq_1 := rfl
def L61_3 : List AStep := ⟨.load 1 true (.t 2), (some 8), none, []⟩ :: ⟨.load 2 true (.t 3), (some 9), none, []⟩ :: L61_2
theorem v61_3 : VS L61_3.eq_1 := rfl
def L61_4 : List AStep := [⟨.mov (.c (.bool false)), (some 5), none, []⟩]
theorem v61_4 : VS L61_4.eq_1 := rfl
def L61_5 : List AStep := ⟨.build [(.sl none 0 (some 0))] [], (some 12), none, []⟩ :: ⟨.store 1 (.t 4) (.t 12), none, none, []⟩ :: L61_4
theorem v61_5 : VS L61_5.eq_1 := rfl
def L61_6 : List AStep := [⟨.mov (.t 18), (some 7), none, []⟩]
theorem v61_6 : VS L61_6.eq_1 := rfl
def L61_7 : List AStep := ⟨.alloc 75 [(.sl none 0 (some 0))], (some 6), none, []⟩ :: ⟨.store 1 (.t 6) (.t 17), none, none, []⟩ :: L61_6
theorem v61_7 : VS L61_7.eq_1 := rfl
def L61_8 : List AStep := ⟨.extract (.t 13) 0, (some 17), none, []⟩ :: ⟨.extract (.t 13) 1, (some 18), none, []⟩ :: L61_7
theorem v61_8 : VS L61_8.eq_1 := rfl
def L61_9 : List AStep := ⟨.call 94 [(.t 14), (.t 15)], (some 16), none, []⟩ :: ⟨.mov (.t 16), (some 13), none, []⟩ :: L61_8
theorem v61_9 : VS L61_9.eq_1 := rfl
def L61_10 : List AStep := ⟨.load 1 true (.t 2), (some 14), none, []⟩ :: ⟨.load 2 true (.t 3), (some 15), none, []⟩ :: L61_9
theorem v61_10 : VS L61_10.eq_1 := rfl
def L61_11 : List AStep := [⟨.bin .gtr (.t 20) (.c (.int .i64 0)), (some 21), none, []⟩]
theorem v61_11 : VS L61_11.eq_1 := rfl
def L61_12 : List AStep := ⟨.mov (.t 7), (some 19), none, []⟩ :: ⟨.len (.t 19), (some 20), none, []⟩ :: L61_11
theorem v61_12 : VS L61_12.eq_1 := rfl
def L61_13 : List AStep := [⟨.mov (.c (.bool false)), (some 5), none, []⟩]
theorem v61_13 : VS L61_13.eq_1 := rfl
def L61_14 : List AStep := ⟨.build [(.sl none 0 (some 0))] [], (some 22), none, []⟩ :: ⟨.store 1 (.t 4) (.t 22), none, none, []⟩ :: L61_13
theorem v61_14 : VS L61_14.eq_1 := rfl
def L61_15 : List AStep := [⟨.mov (.c (.bool true)), (some 5), none, []⟩]
theorem v61_15 : VS L61_15.eq_1 := rfl
def L61_16 : List AStep := ⟨.load 1 true (.t 6), (some 23), none, []⟩ :: ⟨.store 1 (.t 4) (.t 23), none, none, []⟩ :: L61_15
theorem v61_16 : VS L61_16.eq_1 := rfl
def C61_0 : ACode := .seq (.reg L61_5) .ret
theorem u61_0 : VC C61_0.eq_1 := rfl
def C61_1 : ACode := .cond (.t 11) C61_0 .skip
theorem u61_1 : VC C61_1.eq_1 := rfl
def C61_2 : ACode := .seq (.reg L61_3) C61_1
theorem u61_2 : VC C61_2.eq_1 := rfl
def C61_3 : ACode := .seq (.reg L61_14) .ret
theorem u61_3 : VC C61_3.eq_1 := rfl
def C61_4 : ACode := .cond (.t 21) C61_3 .skip
theorem u61_4 : VC C61_4.eq_1 := rfl
def C61_5 : ACode := .seq (.reg L61_12) C61_4
theorem u61_5 : VC C61_5.eq_1 := rfl
def C61_6 : ACode := .seq (.reg L61_16) .ret
theorem u61_6 : VC C61_6.eq_1 := rfl
def C61_7 : ACode := .seq C61_5 C61_6
theorem u61_7 : VC C61_7.eq_1 := rfl
def C61_8 : ACode := .seq (.reg L61_10) C61_7
theorem u61_8 : VC C61_8.eq_1 := rfl
def C61_9 : ACode := .seq C61_2 C61_8
theorem u61_9 : VC C61_9.eq_1 := rfl
def C61_10 : ACode := .seq (.reg L61_1) C61_9
theorem u61_10 : VC C61_10.eq_1 := rfl
def F61 : AFunc := ⟨24, [.cell 4 1 true, .tmp 5], C61_10⟩
theorem cF61 : compB Try.prog 61 = some F61 := by kernel_rfl
attribute [local go_sem ↓] u61_0 u61_1 u61_2 u61_3 u61_4 u61_5 u61_6 u61_7 u61_8 u61_9 u61_10 v61_0 v61_1 v61_2 v61_3 v61_4 v61_5 v61_6 v61_7 v61_8 v61_9 v61_10 v61_11 v61_12 v61_13 v61_14 v61_15 v61_16
theorem k_iBind (l : List Param) (f : Flat) (q p n : CV) (h : H) (hl : SlG h q l) (hf : SlF h p n f) (hn : miniG l) (hm : miniF f) :
    callK (bm Try.prog 61 [.agg [q], .agg [p, n]] h) fun r h' => Grow h h' ∧ ∃ v rs, r = .tup [.agg [v], .one (.bool (acceptsF l f))] ∧ NwY h h' v rs (bindF l f) := by
  refine bm_of cF61 ?_
  have gc := c_fit l f q p n h hl hf hn hm
  unfold bindF acceptsF
  cases b1 : fits l f with
  | false =>
    rw [b1] at gc
    simp +contextual (maxSteps := 2000000) only [go_sem, Nat.reduceEqDiff, reduceCtorEq, Nat.reduceAdd, Nat.reduceLeDiff, F61, gc, Bool.false_and, if_false]
    exact ⟨Grow.refl h, _, [], rfl, .nil⟩
  | true =>
  rw [b1] at gc
  obtain ⟨ok1, ok2⟩ := fits_ok b1
  simp +contextual (maxSteps := 2000000) only [go_sem, Nat.reduceEqDiff, reduceCtorEq, Nat.reduceAdd, Nat.reduceLeDiff, F61, gc]
  refine wp_call (c_bind l f q p n h hl.out hf ok1 ok2) ?_
  rintro r h1 ⟨g1, v, w, rs, rfl, x⟩
  cases b2 : (wrong l f).isEmpty with
  | false =>
    simp +contextual (maxSteps := 2000000) only [go_sem, Nat.reduceEqDiff, reduceCtorEq, Nat.reduceAdd, Nat.reduceLeDiff, x.pr.length, len_pos, b2, Bool.true_and, if_false]
    exact gcK_of ⟨g1, _, [], rfl, .nil⟩ (fun hs _ => ⟨Grow.refl h, _, [], rfl, .nil⟩)
  | true =>
    simp +contextual (maxSteps := 2000000) only [go_sem, Nat.reduceEqDiff, reduceCtorEq, Nat.reduceAdd, Nat.reduceLeDiff, x.pr.length, len_pos, b2, Bool.true_and, if_true]
    exact gcK_of ⟨g1, _, _, rfl, x.sl⟩ (fun hs _ => ⟨Grow.refl h, _, _, rfl, x.sl.scalar (by simpa [AV.scalar, AV.scalars, CV.scalar] using hs) h⟩)
/-! impl.Accepts -/
def L71_0 : List AStep := [⟨.mov (.c (.bool false)), (some 4), none, []⟩]
theorem v71_0 : VS L71_0.eq_1 := rfl
def L71_1 : List AStep := ⟨.box 36 (.t 0), (some 2), none, []⟩ :: ⟨.box 39 (.t 1), (some 3), none, []⟩ :: L71_0
theorem v71_1 : VS L71_1.eq_1 := rfl
def L71_2 : List AStep := [⟨.mov (.t 12), (some 6), none, []⟩]
theorem v71_2 : VS L71_2.eq_1 := rfl
def L71_3 : List AStep := ⟨.alloc 75 [(.sl none 0 (some 0))], (some 5), none, []⟩ :: ⟨.store 1 (.t 5) (.t 11), none, none, []⟩ :: L71_2
theorem v71_3 : VS L71_3.eq_1 := rfl
def L71_4 : List AStep := ⟨.extract (.t 7) 0, (some 11), none, []⟩ :: ⟨.extract (.t 7) 1, (some 12), none, []⟩ :: L71_3
theorem v71_4 : VS L71_4.eq_1 := rfl
def L71_5 : List AStep := ⟨.call 61 [(.t 8), (.t 9)], (some 10), none, []⟩ :: ⟨.mov (.t 10), (some 7), none, []⟩ :: L71_4
theorem v71_5 : VS L71_5.eq_1 := rfl
def L71_6 : List AStep := ⟨.load 1 true (.t 2), (some 8), none, []⟩ :: ⟨.load 2 true (.t 3), (some 9), none, []⟩ :: L71_5
theorem v71_6 : VS L71_6.eq_1 := rfl
def L71_7 : List AStep := [⟨.mov (.t 6), (some 13), none, []⟩, ⟨.mov (.t 13), (some 4), none, []⟩]
theorem v71_7 : VS L71_7.eq_1 := rfl
def C71_0 : ACode := .seq (.reg L71_7) .ret
theorem u71_0 : VC C71_0.eq_1 := rfl
def C71_1 : ACode := .seq (.reg L71_6) C71_0
theorem u71_1 : VC C71_1.eq_1 := rfl
def C71_2 : ACode := .seq (.reg L71_1) C71_1
theorem u71_2 : VC C71_2.eq_1 := rfl
def F71 : AFunc := ⟨14, [.tmp 4], C71_2⟩
theorem cF71 : compB Try.prog 71 = some F71 := by kernel_rfl
attribute [local go_sem ↓] u71_0 u71_1 u71_2 v71_0 v71_1 v71_2 v71_3 v71_4 v71_5 v71_6 v71_7
theorem k_iAccepts (l : List Param) (f : Flat) (q p n : CV) (h : H) (hl : SlG h q l) (hf : SlF h p n f) (hn : miniG l) (hm : miniF f) : bm Try.prog 71 [.agg [q], .agg [p, n]] h = some (ib (acceptsF l f), h) := by
  refine bm_eq cF71 ?_
  simp +contextual (maxSteps := 2000000) only [go_sem, Nat.reduceEqDiff, reduceCtorEq, Nat.reduceAdd, Nat.reduceLeDiff, F71]
  refine wp_call (k_iBind l f q p n h hl hf hn hm) ?_
  rintro r h1 ⟨g1, v, rs, rfl, x⟩
  simp +contextual (maxSteps := 2000000) only [go_sem, Nat.reduceEqDiff, reduceCtorEq, Nat.reduceAdd, Nat.reduceLeDiff]
  exact gcR_of g1 rfl ⟨rfl, rfl⟩
/-! impl.BindPart$1 -/
def L112_0 : List AStep := [⟨.box 88 (.t 0), (some 1), none, []⟩, ⟨.mov (.c (.bool false)), (some 2), none, []⟩]
theorem v112_0 : VS L112_0.eq_1 := rfl
def L112_1 : List AStep := [⟨.bin .neq (.t 4) (.c (.int .i64 3)), (some 5), none, []⟩, ⟨.mov (.t 5), (some 2), none, []⟩]
theorem v112_1 : VS L112_1.eq_1 := rfl
def L112_2 : List AStep := ⟨.faddr 0 (.t 1), (some 3), none, []⟩ :: ⟨.load 1 false (.t 3), (some 4), none, []⟩ :: L112_1
theorem v112_2 : VS L112_2.eq_1 := rfl
def C112_0 : ACode := .seq (.reg L112_2) .ret
theorem u112_0 : VC C112_0.eq_1 := rfl
def C112_1 : ACode := .seq (.reg L112_0) C112_0
theorem u112_1 : VC C112_1.eq_1 := rfl
def F112 : AFunc := ⟨6, [.tmp 2], C112_1⟩
theorem cF112 : compB Try.prog 112 = some F112 := by kernel_rfl
attribute [local go_sem ↓] u112_0 u112_1 v112_0 v112_1 v112_2
theorem c_BindPart1 (x : Problem) (h : H) : bm Try.prog 112 [.agg (encB x)] h = some (ib (!(decide (x.kind = 3))), h) := by
  refine bm_eq cF112 ?_
  simp +contextual (maxSteps := 2000000) only [go_sem, Nat.reduceEqDiff, reduceCtorEq, Nat.reduceAdd, Nat.reduceLeDiff, F112]
/-! impl.BindPart -/
def L85_0 : List AStep := [⟨.alloc 75 [(.sl none 0 (some 0))], (some 4), none, []⟩, ⟨.mov (.c (.bool false)), (some 5), none, []⟩]
theorem v85_0 : VS L85_0.eq_1 := rfl
def L85_1 : List AStep := ⟨.box 36 (.t 0), (some 2), none, []⟩ :: ⟨.box 39 (.t 1), (some 3), none, []⟩ :: L85_0
theorem v85_1 : VS L85_1.eq_1 := rfl
def L85_2 : List AStep := [⟨.call 93 [(.t 8), (.t 9)], (some 10), none, []⟩, ⟨.not (.t 10), (some 11), none, []⟩]
theorem v85_2 : VS L85_2.eq_1 := rfl
def L85_3 : List AStep := ⟨.load 1 true (.t 2), (some 8), none, []⟩ :: ⟨.load 2 true (.t 3), (some 9), none, []⟩ :: L85_2
theorem v85_3 : VS L85_3.eq_1 := rfl
def L85_4 : List AStep := [⟨.mov (.c (.bool false)), (some 5), none, []⟩]
theorem v85_4 : VS L85_4.eq_1 := rfl
def L85_5 : List AStep := ⟨.build [(.sl none 0 (some 0))] [], (some 12), none, []⟩ :: ⟨.store 1 (.t 4) (.t 12), none, none, []⟩ :: L85_4
theorem v85_5 : VS L85_5.eq_1 := rfl
def L85_6 : List AStep := [⟨.mov (.t 18), (some 7), none, []⟩]
theorem v85_6 : VS L85_6.eq_1 := rfl
def L85_7 : List AStep := ⟨.alloc 75 [(.sl none 0 (some 0))], (some 6), none, []⟩ :: ⟨.store 1 (.t 6) (.t 17), none, none, []⟩ :: L85_6
theorem v85_7 : VS L85_7.eq_1 := rfl
def L85_8 : List AStep := ⟨.extract (.t 13) 0, (some 17), none, []⟩ :: ⟨.extract (.t 13) 1, (some 18), none, []⟩ :: L85_7
theorem v85_8 : VS L85_8.eq_1 := rfl
def L85_9 : List AStep := ⟨.call 94 [(.t 14), (.t 15)], (some 16), none, []⟩ :: ⟨.mov (.t 16), (some 13), none, []⟩ :: L85_8
theorem v85_9 : VS L85_9.eq_1 := rfl
def L85_10 : List AStep := ⟨.load 1 true (.t 2), (some 14), none, []⟩ :: ⟨.load 2 true (.t 3), (some 15), none, []⟩ :: L85_9
theorem v85_10 : VS L85_10.eq_1 := rfl
def L85_11 : List AStep := [⟨.mov (.t 7), (some 19), none, []⟩, ⟨.call 111 [(.t 19), (.c (.fn 112 []))], (some 20), none, []⟩]
theorem v85_11 : VS L85_11.eq_1 := rfl
def L85_12 : List AStep := [⟨.mov (.c (.bool false)), (some 5), none, []⟩]
theorem v85_12 : VS L85_12.eq_1 := rfl
def L85_13 : List AStep := ⟨.build [(.sl none 0 (some 0))] [], (some 21), none, []⟩ :: ⟨.store 1 (.t 4) (.t 21), none, none, []⟩ :: L85_12
theorem v85_13 : VS L85_13.eq_1 := rfl
def L85_14 : List AStep := [⟨.mov (.c (.bool true)), (some 5), none, []⟩]
theorem v85_14 : VS L85_14.eq_1 := rfl
def L85_15 : List AStep := ⟨.load 1 true (.t 6), (some 22), none, []⟩ :: ⟨.store 1 (.t 4) (.t 22), none, none, []⟩ :: L85_14
theorem v85_15 : VS L85_15.eq_1 := rfl
def C85_0 : ACode := .seq (.reg L85_5) .ret
theorem u85_0 : VC C85_0.eq_1 := rfl
def C85_1 : ACode := .cond (.t 11) C85_0 .skip
theorem u85_1 : VC C85_1.eq_1 := rfl
def C85_2 : ACode := .seq (.reg L85_3) C85_1
theorem u85_2 : VC C85_2.eq_1 := rfl
def C85_3 : ACode := .seq (.reg L85_13) .ret
theorem u85_3 : VC C85_3.eq_1 := rfl
def C85_4 : ACode := .cond (.t 20) C85_3 .skip
theorem u85_4 : VC C85_4.eq_1 := rfl
def C85_5 : ACode := .seq (.reg L85_11) C85_4
theorem u85_5 : VC C85_5.eq_1 := rfl
def C85_6 : ACode := .seq (.reg L85_15) .ret
theorem u85_6 : VC C85_6.eq_1 := rfl
def C85_7 : ACode := .seq C85_5 C85_6
theorem u85_7 : VC C85_7.eq_1 := rfl
def C85_8 : ACode := .seq (.reg L85_10) C85_7
theorem u85_8 : VC C85_8.eq_1 := rfl
def C85_9 : ACode := .seq C85_2 C85_8
theorem u85_9 : VC C85_9.eq_1 := rfl
def C85_10 : ACode := .seq (.reg L85_1) C85_9
theorem u85_10 : VC C85_10.eq_1 := rfl
def F85 : AFunc := ⟨23, [.cell 4 1 true, .tmp 5], C85_10⟩
theorem cF85 : compB Try.prog 85 = some F85 := by kernel_rfl
attribute [local go_sem ↓] u85_0 u85_1 u85_2 u85_3 u85_4 u85_5 u85_6 u85_7 u85_8 u85_9 u85_10 v85_0 v85_1 v85_2 v85_3 v85_4 v85_5 v85_6 v85_7 v85_8 v85_9 v85_10 v85_11 v85_12 v85_13 v85_14 v85_15
theorem k_iBindPart (l : List Param) (f : Flat) (q p n : CV) (h : H) (hl : SlG h q l) (hf : SlF h p n f) (hn : miniG l) (hm : miniF f) :
    callK (bm Try.prog 85 [.agg [q], .agg [p, n]] h) fun r h' => Grow h h' ∧ ∃ v rs, r = .tup [.agg [v], .one (.bool (partOk l f))] ∧ NwY h h' v rs (bindPartF l f) := by
  refine bm_of cF85 ?_
  have gc := c_fit l f q p n h hl hf hn hm
  unfold bindPartF partOk
  cases b1 : fits l f with
  | false =>
    rw [b1] at gc
    simp +contextual (maxSteps := 2000000) only [go_sem, Nat.reduceEqDiff, reduceCtorEq, Nat.reduceAdd, Nat.reduceLeDiff, F85, gc, Bool.false_and, if_false]
    exact ⟨Grow.refl h, _, [], rfl, .nil⟩
  | true =>
  rw [b1] at gc
  obtain ⟨ok1, ok2⟩ := fits_ok b1
  have hn8 := okSig_len ok1
  obtain ⟨hb1, hb2, hb3⟩ := okFlat_sm ok2
  have hbb : (wrong l f).length ≤ big := by
    have h1 := (BOk.nameF (l := l) (f := f) hb3 (Nat.le_refl _)).bad
    have h2 := missF_len (l := l) (sl := boundS l f) (i := l.length)
    unfold wrong boundB missing big
    rw [List.length_append]
    omega
  simp +contextual (maxSteps := 2000000) only [go_sem, Nat.reduceEqDiff, reduceCtorEq, Nat.reduceAdd, Nat.reduceLeDiff, F85, gc]
  refine wp_call (c_bind l f q p n h hl.out hf ok1 ok2) ?_
  rintro r h1 ⟨g1, v, w, rs, rfl, x⟩
  have e := c_hasB (wrong l f) _ 112 [] (fun p => !(decide (p.kind = 3))) h1 (x.pr.sl lenB) hbb (fun i hi x hx => c_BindPart1 x h1)
  rw [part_any] at e
  cases b2 : (boundB l f).isEmpty with
  | false =>
    rw [b2] at e
    simp +contextual (maxSteps := 2000000) only [go_sem, Nat.reduceEqDiff, reduceCtorEq, Nat.reduceAdd, Nat.reduceLeDiff, e, Bool.true_and, if_false]
    exact gcK_of ⟨g1, _, [], rfl, .nil⟩ (fun hs _ => ⟨Grow.refl h, _, [], rfl, .nil⟩)
  | true =>
    rw [b2] at e
    simp +contextual (maxSteps := 2000000) only [go_sem, Nat.reduceEqDiff, reduceCtorEq, Nat.reduceAdd, Nat.reduceLeDiff, e, Bool.true_and, if_true]
    exact gcK_of ⟨g1, _, _, rfl, x.sl⟩ (fun hs _ => ⟨Grow.refl h, _, _, rfl, x.sl.scalar (by simpa [AV.scalar, AV.scalars, CV.scalar] using hs) h⟩)
end Go.Proofs.Ytdalgphpacikkab.Am
