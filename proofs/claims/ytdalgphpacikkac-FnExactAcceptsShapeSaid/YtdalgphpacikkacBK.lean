/- Contracts: binding, of both sides. -/
import Derived.Test.YtdalgphpacikkacBJ
namespace Go.Proofs.Ytdalgphpacikkac.Am
open Go
set_option maxRecDepth 100000
set_option maxHeartbeats 4000000
set_option linter.unusedSimpArgs false
set_option linter.unusedVariables false
attribute [local go_sem ↓] bv_t bv_c ev_t ev_c put_same put_ne put_none kill_at pro_at lb_same lb_ne start_zero start_succ wpC_seq wpC_reg wpC_cond wpC_block wpC_skip wpC_exit wpC_ret thenQ_normal thenQ_exit thenQ_ret inBlk_normal inBlk_exit inBlk_ret wpS_nil wpS_step wpS_again wpS_guard wpO_mov wpO_load wpO_faddr wpO_nilCheck wpO_pick wpO_build wpO_bin wpO_eqb wpO_eqst wpO_eqnil wpO_not wpO_conv wpO_bytesStr wpO_iaddr wpO_idxStr wpO_field wpO_extract wpO_len wpO_lenStr wpO_cap wpO_min wpO_slice wpO_sliceStr wpO_alloc wpO_box wpO_store wpO_call wpO_callv wpO_mkfn wpO_buildSlice wpO_mkslice wpO_append wpO_appz proA_nil proA_cons tmpX_nil tmpX_tmp tmpX_cell doneB_normal doneB_ret agK_cons agK_nil agK_guard agG_tt agG_ff agG_tf agG_ft agG_undef pureB_load results_one results_two results_nil resBs_cons resBs_nil resB_tmp resB_cell
attribute [local go_sem] kill_v kill_lp_ne kill_lp_same pro_v pro_lp_same pro_lp_ne av_v av_lp optB_some optX_some valX_eq ldX_lp ldX_v faX_lp faX_v ncX_lp ncX_ptr ncX_fn boxK_one boxK_agg stL_some stK_lp_one stK_lp_agg stK_v_one stK_v_agg proM_v proM_lp callG_mk callVG_mk callvK_fn fnG_mk ptrsA_nil ptrsA_cons callH_some whenA_true whenA_false guardH_tt guardH_ff guardH_tf guardH_ft guardH_undef agV_one agV_agg lenO_sl lenStrO_str notO_bool pickO_bool convO_int eqbO_bool eqnilO_sl extractO_tup capO_sl minO_int loadL_one loadL_all storeL_eq fillA_nil fillA_one fillA_agg nat_ge neg_ge nat_lt neg_lt buildO bin_add bin_sub bin_mul bin_eql bin_neq bin_lss bin_leq bin_gtr bin_geq str_eql str_neq str_lss str_leq str_gtr str_geq retK_some endK_mk gcK_same gcK_int gcK_bool tupO_one tupO_agg rdy_self ib ii Option.map_none Option.map_some Option.some.injEq exists_eq_left' exists_eq_left ne_eq not_false_eq_true if_true if_false List.map_cons List.map_nil List.getElem?_cons_zero List.getElem?_cons_succ List.length_cons List.length_nil List.take_succ_cons List.take_zero List.take_nil List.drop_succ_cons List.drop_zero List.drop_nil List.cons_append List.nil_append List.append_nil List.set_cons_zero List.set_cons_succ Nat.zero_add forall_const true_and and_true and_self Bool.false_eq_true false_implies true_implies implies_true Bool.not_true Bool.not_false Bool.not_eq_true' Bool.not_eq_false' beq_self_eq_true Bool.bne_true Bool.bne_false
attribute [local go_sem] lenI lenS lenP lenQ lenB lenL lenT encI_0 encS_0 encP_0 encP_1 encQ_0 encQ_1 encQ_2 encQ_3 encB_0 encB_1 encL_0 encL_1 encT_0 encT_1
attribute [local go_sem low] whenA_bool guardH_bool
attribute [local go_sem] lenY encY_0 encY_1 encY_2
theorem miniG.smQ {l : List Param} (h : miniG l) : smQ l := h.sm
theorem miniY.bound {l : List Param} {f : Flat} (ok1 : okSig l = true) (ok2 : okFlat f = true) : miniY (boundS l f) := by
  have s := SOk.bound (l := l) ok2
  have hn := okSig_len ok1
  have hl : (boundS l f).length = l.length := boundS_len
  refine ⟨by omega, fun a ha => by have := s.list a ha; omega, fun a ha => by have := s.pairs a ha; omega, fun a ha x hx => by have := s.nm a ha x hx; omega, ?_⟩
  have := wsum_bound (f := cellsEY) (B := 26) (l := boundS l f) (fun a ha => by have := s.list a ha; have := s.pairs a ha; unfold cellsEY; omega)
  unfold cellsY
  have h2 : (boundS l f).length * 26 ≤ 8 * 26 := Nat.mul_le_mul_right _ (by omega)
  omega
theorem miniY.nil : miniY [] := ⟨by simp, fun a ha => by simp at ha, fun a ha => by simp at ha, fun a ha => by simp at ha, by simp [cellsY, wsum]⟩
theorem miniY.bind {l : List Param} {f : Flat} : miniY (bindF l f) := by
  unfold bindF
  split
  · rename_i h
    obtain ⟨ok1, ok2⟩ := fits_ok (accepts_fits h)
    exact .bound ok1 ok2
  · exact .nil
theorem miniY.part {l : List Param} {f : Flat} : miniY (bindPartF l f) := by
  unfold bindPartF
  split
  · rename_i h
    unfold partOk at h
    rw [Bool.and_eq_true] at h
    obtain ⟨ok1, ok2⟩ := fits_ok h.1
    exact .bound ok1 ok2
  · exact .nil
theorem smQ_of {l : List Param} (ok1 : okSig l = true) : smQ l := by
  have hn := okSig_len ok1
  exact ⟨by unfold big; omega, fun x hx => by have := okSig_name ok1 x hx; unfold big; omega⟩
theorem len_isEmpty {α : Type} (l : List α) : decide ((l.length : Int) = 0) = l.isEmpty := by
  cases l with
  | nil => rfl
  | cons a r => simp; omega
theorem len_pos {α : Type} (l : List α) : decide ((l.length : Int) > 0) = !l.isEmpty := by
  cases l with
  | nil => rfl
  | cons a r => simp
/-! spec.problems -/
def L116_0 : List AStep := [⟨.mov (.c (.sl none 0 (some 0))), (some 4), none, []⟩]
theorem v116_0 : VS L116_0.eq_1 := rfl
def L116_1 : List AStep := ⟨.box 69 (.t 0), (some 2), none, []⟩ :: ⟨.box 33 (.t 1), (some 3), none, []⟩ :: L116_0
theorem v116_1 : VS L116_1.eq_1 := rfl
def L116_2 : List AStep := [⟨.mov (.t 12), (some 6), none, []⟩]
theorem v116_2 : VS L116_2.eq_1 := rfl
def L116_3 : List AStep := ⟨.alloc 159 [(.sl none 0 (some 0))], (some 5), none, []⟩ :: ⟨.store 1 (.t 5) (.t 11), none, none, []⟩ :: L116_2
theorem v116_3 : VS L116_3.eq_1 := rfl
def L116_4 : List AStep := ⟨.extract (.t 7) 0, (some 11), none, []⟩ :: ⟨.extract (.t 7) 1, (some 12), none, []⟩ :: L116_3
theorem v116_4 : VS L116_4.eq_1 := rfl
def L116_5 : List AStep := ⟨.call 147 [(.t 8), (.t 9)], (some 10), none, []⟩ :: ⟨.mov (.t 10), (some 7), none, []⟩ :: L116_4
theorem v116_5 : VS L116_5.eq_1 := rfl
def L116_6 : List AStep := ⟨.load 1 true (.t 2), (some 8), none, []⟩ :: ⟨.load 2 true (.t 3), (some 9), none, []⟩ :: L116_5
theorem v116_6 : VS L116_6.eq_1 := rfl
def L116_7 : List AStep := [⟨.append 191 2 24 (.t 13) (.t 16), (some 17), none, []⟩, ⟨.mov (.t 17), (some 4), none, []⟩]
theorem v116_7 : VS L116_7.eq_1 := rfl
def L116_8 : List AStep := ⟨.load 1 true (.t 5), (some 15), none, []⟩ :: ⟨.call 148 [(.t 14), (.t 15)], (some 16), none, []⟩ :: L116_7
theorem v116_8 : VS L116_8.eq_1 := rfl
def L116_9 : List AStep := ⟨.mov (.t 6), (some 13), none, []⟩ :: ⟨.load 1 true (.t 2), (some 14), none, []⟩ :: L116_8
theorem v116_9 : VS L116_9.eq_1 := rfl
def C116_0 : ACode := .seq (.reg L116_9) .ret
theorem u116_0 : VC C116_0.eq_1 := rfl
def C116_1 : ACode := .seq (.reg L116_6) C116_0
theorem u116_1 : VC C116_1.eq_1 := rfl
def C116_2 : ACode := .seq (.reg L116_1) C116_1
theorem u116_2 : VC C116_2.eq_1 := rfl
def F116 : AFunc := ⟨18, [.tmp 4], C116_2⟩
theorem cF116 : compB Try.prog 116 = some F116 := by kernel_rfl
attribute [local go_sem ↓] u116_0 u116_1 u116_2 v116_0 v116_1 v116_2 v116_3 v116_4 v116_5 v116_6 v116_7 v116_8 v116_9
theorem c_problems (l : List Param) (f : Flat) (q p n : CV) (h : H) (hl : SlQ h (.one q) l) (hf : SlF h p n f) (ok1 : okSig l = true) (ok2 : okFlat f = true) :
    callK (bm Try.prog 116 [.agg [q], .agg [p, n]] h) fun r h' => Grow h h' ∧ NwB h h' r (wrong l f) := by
  refine bm_of cF116 ?_
  have hn := okSig_len ok1
  obtain ⟨hb1, hb2, hb3⟩ := okFlat_sm ok2
  have hbb : (boundB l f).length ≤ 9 := by have := (BOk.nameF (l := l) (f := f) hb3 (Nat.le_refl _)).bad; unfold boundB; omega
  simp +contextual (maxSteps := 2000000) only [go_sem, Nat.reduceEqDiff, reduceCtorEq, Nat.reduceAdd, Nat.reduceLeDiff, F116]
  refine wp_call (c_bound l f q p n h hl hf ok1 ok2) ?_
  rintro r h1 ⟨g1, v, w, rs, rfl, x⟩
  simp +contextual (maxSteps := 2000000) only [go_sem, Nat.reduceEqDiff, reduceCtorEq, Nat.reduceAdd, Nat.reduceLeDiff]
  refine wp_call (c_missing l (boundS l f) rs q v h1 (hl.grow g1) hn x.sl.out.rd boundS_len) ?_
  rintro r h2 ⟨g2, n2⟩
  simp +contextual (maxSteps := 2000000) only [go_sem, Nat.reduceEqDiff, reduceCtorEq, Nat.reduceAdd, Nat.reduceLeDiff]
  refine wp_append lenB (x.pr.grow g2) (n2.sl lenB) (g1.trans g2) (by have := missF_len (l := l) (sl := boundS l f) (i := l.length); unfold missing; omega) ?_
  intro h3 s3 g3 n3 _ _
  simp +contextual (maxSteps := 2000000) only [go_sem, Nat.reduceEqDiff, reduceCtorEq, Nat.reduceAdd, Nat.reduceLeDiff]
  exact gcK_of ⟨g3, n3⟩ (fun hs _ => ⟨Grow.refl h, n3.scalar hs h⟩)
/-! spec.accepts -/
def L71_0 : List AStep := [⟨.mov (.c (.bool false)), (some 4), none, []⟩]
theorem v71_0 : VS L71_0.eq_1 := rfl
def L71_1 : List AStep := ⟨.box 69 (.t 0), (some 2), none, []⟩ :: ⟨.box 33 (.t 1), (some 3), none, []⟩ :: L71_0
theorem v71_1 : VS L71_1.eq_1 := rfl
def L71_2 : List AStep := [⟨.bin .eql (.t 8) (.c (.int .i64 0)), (some 9), none, []⟩, ⟨.mov (.t 9), (some 4), none, []⟩]
theorem v71_2 : VS L71_2.eq_1 := rfl
def L71_3 : List AStep := ⟨.call 116 [(.t 5), (.t 6)], (some 7), none, []⟩ :: ⟨.len (.t 7), (some 8), none, []⟩ :: L71_2
theorem v71_3 : VS L71_3.eq_1 := rfl
def L71_4 : List AStep := ⟨.load 1 true (.t 2), (some 5), none, []⟩ :: ⟨.load 2 true (.t 3), (some 6), none, []⟩ :: L71_3
theorem v71_4 : VS L71_4.eq_1 := rfl
def C71_0 : ACode := .seq (.reg L71_4) .ret
theorem u71_0 : VC C71_0.eq_1 := rfl
def C71_1 : ACode := .seq (.reg L71_1) C71_0
theorem u71_1 : VC C71_1.eq_1 := rfl
def F71 : AFunc := ⟨10, [.tmp 4], C71_1⟩
theorem cF71 : compB Try.prog 71 = some F71 := by kernel_rfl
attribute [local go_sem ↓] u71_0 u71_1 v71_0 v71_1 v71_2 v71_3 v71_4
theorem c_accepts (l : List Param) (f : Flat) (q p n : CV) (h : H) (hl : SlQ h (.one q) l) (hf : SlF h p n f) (ok1 : okSig l = true) (ok2 : okFlat f = true) : bm Try.prog 71 [.agg [q], .agg [p, n]] h = some (ib (wrong l f).isEmpty, h) := by
  refine bm_eq cF71 ?_
  simp +contextual (maxSteps := 2000000) only [go_sem, Nat.reduceEqDiff, reduceCtorEq, Nat.reduceAdd, Nat.reduceLeDiff, F71]
  refine wp_call (c_problems l f q p n h hl hf ok1 ok2) ?_
  rintro r h1 ⟨g1, n1⟩
  simp +contextual (maxSteps := 2000000) only [go_sem, Nat.reduceEqDiff, reduceCtorEq, Nat.reduceAdd, Nat.reduceLeDiff, n1.length, len_isEmpty]
  exact gcR_of g1 rfl ⟨rfl, rfl⟩
/-! impl.fit -/
def L149_0 : List AStep := [⟨.mov (.c (.bool false)), (some 4), none, []⟩]
theorem v149_0 : VS L149_0.eq_1 := rfl
def L149_1 : List AStep := ⟨.box 69 (.t 0), (some 2), none, []⟩ :: ⟨.box 33 (.t 1), (some 3), none, []⟩ :: L149_0
theorem v149_1 : VS L149_1.eq_1 := rfl
def L149_2 : List AStep := [⟨.mov (.t 10), (some 4), none, []⟩]
theorem v149_2 : VS L149_2.eq_1 := rfl
def L149_3 : List AStep := ⟨.call 48 [(.t 8)], (some 9), (some (7, true)), []⟩ :: ⟨.pick (.t 7) (.t 9) (.c (.bool false)), (some 10), none, []⟩ :: L149_2
theorem v149_3 : VS L149_3.eq_1 := rfl
def L149_4 : List AStep := ⟨.mov (.t 6), (some 7), none, []⟩ :: ⟨.load 2 true (.t 3), (some 8), (some (7, true)), []⟩ :: L149_3
theorem v149_4 : VS L149_4.eq_1 := rfl
def L149_5 : List AStep := ⟨.load 1 true (.t 2), (some 5), none, []⟩ :: ⟨.call 126 [(.t 5)], (some 6), none, []⟩ :: L149_4
theorem v149_5 : VS L149_5.eq_1 := rfl
def C149_0 : ACode := .seq (.reg L149_5) .ret
theorem u149_0 : VC C149_0.eq_1 := rfl
def C149_1 : ACode := .seq (.reg L149_1) C149_0
theorem u149_1 : VC C149_1.eq_1 := rfl
def F149 : AFunc := ⟨11, [.tmp 4], C149_1⟩
theorem cF149 : compB Try.prog 149 = some F149 := by kernel_rfl
attribute [local go_sem ↓] u149_0 u149_1 v149_0 v149_1 v149_2 v149_3 v149_4 v149_5
theorem c_fit (l : List Param) (f : Flat) (q p n : CV) (h : H) (hl : SlG h q l) (hf : SlF h p n f) (hn : miniG l) (hm : miniF f) : bm Try.prog 149 [.agg [q], .agg [p, n]] h = some (ib (fits l f), h) := by
  refine bm_eq cF149 ?_
  have c1 := c_ValidSignature l q h hl.out hn.sm
  have c2 := c_ValidFlat f p n h hf.pl hf.nl hm.sm
  unfold fits
  cases b1 : okSig l with
  | false =>
    rw [b1] at c1
    simp +contextual (maxSteps := 2000000) only [go_sem, Nat.reduceEqDiff, reduceCtorEq, Nat.reduceAdd, Nat.reduceLeDiff, F149, c1, Bool.false_and]
  | true =>
    rw [b1] at c1
    simp +contextual (maxSteps := 2000000) only [go_sem, Nat.reduceEqDiff, reduceCtorEq, Nat.reduceAdd, Nat.reduceLeDiff, F149, c1, c2, Bool.true_and]
/-! impl.Bind -/
def L120_0 : List AStep := [⟨.alloc 159 [(.sl none 0 (some 0))], (some 4), none, []⟩, ⟨.mov (.c (.bool false)), (some 5), none, []⟩]
theorem v120_0 : VS L120_0.eq_1 := rfl
def L120_1 : List AStep := ⟨.box 69 (.t 0), (some 2), none, []⟩ :: ⟨.box 33 (.t 1), (some 3), none, []⟩ :: L120_0
theorem v120_1 : VS L120_1.eq_1 := rfl
def L120_2 : List AStep := [⟨.call 149 [(.t 8), (.t 9)], (some 10), none, []⟩, ⟨.not (.t 10), (some 11), none, []⟩]
theorem v120_2 : VS L120_2.eq_1 := rfl
def L120_3 : List AStep := ⟨.load 1 true (.t 2), (some 8), none, []⟩ :: ⟨.load 2 true (.t 3), (some 9), none, []⟩ :: L120_2
theorem v120_3 : VS L120_3.eq_1 := rfl
def L120_4 : List AStep := [⟨.mov (.c (.bool false)), (some 5), none, []⟩]
theorem v120_4 : VS L120_4.eq_1 := rfl
def L120_5 : List AStep := ⟨.build [(.sl none 0 (some 0))] [], (some 12), none, []⟩ :: ⟨.store 1 (.t 4) (.t 12), none, none, []⟩ :: L120_4
theorem v120_5 : VS L120_5.eq_1 := rfl
def L120_6 : List AStep := [⟨.mov (.t 18), (some 7), none, []⟩]
theorem v120_6 : VS L120_6.eq_1 := rfl
def L120_7 : List AStep := ⟨.alloc 159 [(.sl none 0 (some 0))], (some 6), none, []⟩ :: ⟨.store 1 (.t 6) (.t 17), none, none, []⟩ :: L120_6
theorem v120_7 : VS L120_7.eq_1 := rfl
def L120_8 : List AStep := ⟨.extract (.t 13) 0, (some 17), none, []⟩ :: ⟨.extract (.t 13) 1, (some 18), none, []⟩ :: L120_7
theorem v120_8 : VS L120_8.eq_1 := rfl
def L120_9 : List AStep := ⟨.call 150 [(.t 14), (.t 15)], (some 16), none, []⟩ :: ⟨.mov (.t 16), (some 13), none, []⟩ :: L120_8
theorem v120_9 : VS L120_9.eq_1 := rfl
def L120_10 : List AStep := ⟨.load 1 true (.t 2), (some 14), none, []⟩ :: ⟨.load 2 true (.t 3), (some 15), none, []⟩ :: L120_9
theorem v120_10 : VS L120_10.eq_1 := rfl
def L120_11 : List AStep := [⟨.bin .gtr (.t 20) (.c (.int .i64 0)), (some 21), none, []⟩]
theorem v120_11 : VS L120_11.eq_1 := rfl
def L120_12 : List AStep := ⟨.mov (.t 7), (some 19), none, []⟩ :: ⟨.len (.t 19), (some 20), none, []⟩ :: L120_11
theorem v120_12 : VS L120_12.eq_1 := rfl
def L120_13 : List AStep := [⟨.mov (.c (.bool false)), (some 5), none, []⟩]
theorem v120_13 : VS L120_13.eq_1 := rfl
def L120_14 : List AStep := ⟨.build [(.sl none 0 (some 0))] [], (some 22), none, []⟩ :: ⟨.store 1 (.t 4) (.t 22), none, none, []⟩ :: L120_13
theorem v120_14 : VS L120_14.eq_1 := rfl
def L120_15 : List AStep := [⟨.mov (.c (.bool true)), (some 5), none, []⟩]
theorem v120_15 : VS L120_15.eq_1 := rfl
def L120_16 : List AStep := ⟨.load 1 true (.t 6), (some 23), none, []⟩ :: ⟨.store 1 (.t 4) (.t 23), none, none, []⟩ :: L120_15
theorem v120_16 : VS L120_16.eq_1 := rfl
def C120_0 : ACode := .seq (.reg L120_5) .ret
theorem u120_0 : VC C120_0.eq_1 := rfl
def C120_1 : ACode := .cond (.t 11) C120_0 .skip
theorem u120_1 : VC C120_1.eq_1 := rfl
def C120_2 : ACode := .seq (.reg L120_3) C120_1
theorem u120_2 : VC C120_2.eq_1 := rfl
def C120_3 : ACode := .seq (.reg L120_14) .ret
theorem u120_3 : VC C120_3.eq_1 := rfl
def C120_4 : ACode := .cond (.t 21) C120_3 .skip
theorem u120_4 : VC C120_4.eq_1 := rfl
def C120_5 : ACode := .seq (.reg L120_12) C120_4
theorem u120_5 : VC C120_5.eq_1 := rfl
def C120_6 : ACode := .seq (.reg L120_16) .ret
theorem u120_6 : VC C120_6.eq_1 := rfl
def C120_7 : ACode := .seq C120_5 C120_6
theorem u120_7 : VC C120_7.eq_1 := rfl
def C120_8 : ACode := .seq (.reg L120_10) C120_7
theorem u120_8 : VC C120_8.eq_1 := rfl
def C120_9 : ACode := .seq C120_2 C120_8
theorem u120_9 : VC C120_9.eq_1 := rfl
def C120_10 : ACode := .seq (.reg L120_1) C120_9
theorem u120_10 : VC C120_10.eq_1 := rfl
def F120 : AFunc := ⟨24, [.cell 4 1 true, .tmp 5], C120_10⟩
theorem cF120 : compB Try.prog 120 = some F120 := by kernel_rfl
attribute [local go_sem ↓] u120_0 u120_1 u120_2 u120_3 u120_4 u120_5 u120_6 u120_7 u120_8 u120_9 u120_10 v120_0 v120_1 v120_2 v120_3 v120_4 v120_5 v120_6 v120_7 v120_8 v120_9 v120_10 v120_11 v120_12 v120_13 v120_14 v120_15 v120_16
theorem k_iBind (l : List Param) (f : Flat) (q p n : CV) (h : H) (hl : SlG h q l) (hf : SlF h p n f) (hn : miniG l) (hm : miniF f) :
    callK (bm Try.prog 120 [.agg [q], .agg [p, n]] h) fun r h' => Grow h h' ∧ ∃ v rs, r = .tup [.agg [v], .one (.bool (acceptsF l f))] ∧ NwY h h' v rs (bindF l f) := by
  refine bm_of cF120 ?_
  have gc := c_fit l f q p n h hl hf hn hm
  unfold bindF acceptsF
  cases b1 : fits l f with
  | false =>
    rw [b1] at gc
    simp +contextual (maxSteps := 2000000) only [go_sem, Nat.reduceEqDiff, reduceCtorEq, Nat.reduceAdd, Nat.reduceLeDiff, F120, gc, Bool.false_and, if_false]
    exact ⟨Grow.refl h, _, [], rfl, .nil⟩
  | true =>
  rw [b1] at gc
  obtain ⟨ok1, ok2⟩ := fits_ok b1
  simp +contextual (maxSteps := 2000000) only [go_sem, Nat.reduceEqDiff, reduceCtorEq, Nat.reduceAdd, Nat.reduceLeDiff, F120, gc]
  refine wp_call (c_bind l f q p n h hl.out hf ok1 ok2) ?_
  rintro r h1 ⟨g1, v, w, rs, rfl, x⟩
  cases b2 : (wrong l f).isEmpty with
  | false =>
    simp +contextual (maxSteps := 2000000) only [go_sem, Nat.reduceEqDiff, reduceCtorEq, Nat.reduceAdd, Nat.reduceLeDiff, x.pr.length, len_pos, b2, Bool.true_and, if_false]
    exact gcK_of ⟨g1, _, [], rfl, .nil⟩ (fun hs _ => ⟨Grow.refl h, _, [], rfl, .nil⟩)
  | true =>
    simp +contextual (maxSteps := 2000000) only [go_sem, Nat.reduceEqDiff, reduceCtorEq, Nat.reduceAdd, Nat.reduceLeDiff, x.pr.length, len_pos, b2, Bool.true_and, if_true]
    exact gcK_of ⟨g1, _, _, rfl, x.sl⟩ (fun hs _ => ⟨Grow.refl h, _, _, rfl, x.sl.scalar (by simpa [AV.scalar, AV.scalars, CV.scalar] using hs) h⟩)
/-! impl.Accepts -/
def L76_0 : List AStep := [⟨.mov (.c (.bool false)), (some 4), none, []⟩]
theorem v76_0 : VS L76_0.eq_1 := rfl
def L76_1 : List AStep := ⟨.box 69 (.t 0), (some 2), none, []⟩ :: ⟨.box 33 (.t 1), (some 3), none, []⟩ :: L76_0
theorem v76_1 : VS L76_1.eq_1 := rfl
def L76_2 : List AStep := [⟨.mov (.t 12), (some 6), none, []⟩]
theorem v76_2 : VS L76_2.eq_1 := rfl
def L76_3 : List AStep := ⟨.alloc 159 [(.sl none 0 (some 0))], (some 5), none, []⟩ :: ⟨.store 1 (.t 5) (.t 11), none, none, []⟩ :: L76_2
theorem v76_3 : VS L76_3.eq_1 := rfl
def L76_4 : List AStep := ⟨.extract (.t 7) 0, (some 11), none, []⟩ :: ⟨.extract (.t 7) 1, (some 12), none, []⟩ :: L76_3
theorem v76_4 : VS L76_4.eq_1 := rfl
def L76_5 : List AStep := ⟨.call 120 [(.t 8), (.t 9)], (some 10), none, []⟩ :: ⟨.mov (.t 10), (some 7), none, []⟩ :: L76_4
theorem v76_5 : VS L76_5.eq_1 := rfl
def L76_6 : List AStep := ⟨.load 1 true (.t 2), (some 8), none, []⟩ :: ⟨.load 2 true (.t 3), (some 9), none, []⟩ :: L76_5
theorem v76_6 : VS L76_6.eq_1 := rfl
def L76_7 : List AStep := [⟨.mov (.t 6), (some 13), none, []⟩, ⟨.mov (.t 13), (some 4), none, []⟩]
theorem v76_7 : VS L76_7.eq_1 := rfl
def C76_0 : ACode := .seq (.reg L76_7) .ret
theorem u76_0 : VC C76_0.eq_1 := rfl
def C76_1 : ACode := .seq (.reg L76_6) C76_0
theorem u76_1 : VC C76_1.eq_1 := rfl
def C76_2 : ACode := .seq (.reg L76_1) C76_1
theorem u76_2 : VC C76_2.eq_1 := rfl
def F76 : AFunc := ⟨14, [.tmp 4], C76_2⟩
theorem cF76 : compB Try.prog 76 = some F76 := by kernel_rfl
attribute [local go_sem ↓] u76_0 u76_1 u76_2 v76_0 v76_1 v76_2 v76_3 v76_4 v76_5 v76_6 v76_7
theorem k_iAccepts (l : List Param) (f : Flat) (q p n : CV) (h : H) (hl : SlG h q l) (hf : SlF h p n f) (hn : miniG l) (hm : miniF f) : bm Try.prog 76 [.agg [q], .agg [p, n]] h = some (ib (acceptsF l f), h) := by
  refine bm_eq cF76 ?_
  simp +contextual (maxSteps := 2000000) only [go_sem, Nat.reduceEqDiff, reduceCtorEq, Nat.reduceAdd, Nat.reduceLeDiff, F76]
  refine wp_call (k_iBind l f q p n h hl hf hn hm) ?_
  rintro r h1 ⟨g1, v, rs, rfl, x⟩
  simp +contextual (maxSteps := 2000000) only [go_sem, Nat.reduceEqDiff, reduceCtorEq, Nat.reduceAdd, Nat.reduceLeDiff]
  exact gcR_of g1 rfl ⟨rfl, rfl⟩
end Go.Proofs.Ytdalgphpacikkac.Am
