/- Contracts: binding, of both sides. -/
import Derived.Test.YtdalgphpacikkaaGreatBJ
namespace Go.Proofs.YtdalgphpacikkaaGreat.Am
open Go
set_option maxRecDepth 100000
set_option maxHeartbeats 4000000
set_option linter.unusedSimpArgs false
set_option linter.unusedVariables false
attribute [local go_sem ↓] bv_t bv_c ev_t ev_c put_same put_ne put_none kill_at pro_at lb_same lb_ne start_zero start_succ wpC_seq wpC_reg wpC_cond wpC_block wpC_skip wpC_exit wpC_ret thenQ_normal thenQ_exit thenQ_ret inBlk_normal inBlk_exit inBlk_ret wpS_nil wpS_step wpS_again wpS_guard wpO_mov wpO_load wpO_faddr wpO_nilCheck wpO_pick wpO_build wpO_bin wpO_eqb wpO_eqst wpO_eqnil wpO_not wpO_conv wpO_bytesStr wpO_iaddr wpO_idxStr wpO_field wpO_extract wpO_len wpO_lenStr wpO_cap wpO_min wpO_slice wpO_sliceStr wpO_alloc wpO_box wpO_store wpO_call wpO_callv wpO_mkfn wpO_buildSlice wpO_mkslice wpO_append wpO_appz proA_nil proA_cons tmpX_nil tmpX_tmp tmpX_cell doneB_normal doneB_ret agK_cons agK_nil agK_guard agG_tt agG_ff agG_tf agG_ft agG_undef pureB_load results_one results_two results_nil resBs_cons resBs_nil resB_tmp resB_cell
attribute [local go_sem] kill_v kill_lp_ne kill_lp_same pro_v pro_lp_same pro_lp_ne av_v av_lp optB_some optX_some valX_eq ldX_lp ldX_v faX_lp faX_v ncX_lp ncX_ptr ncX_fn boxK_one boxK_agg stL_some stK_lp_one stK_lp_agg stK_v_one stK_v_agg proM_v proM_lp callG_mk callVG_mk callvK_fn fnG_mk ptrsA_nil ptrsA_cons callH_some whenA_true whenA_false guardH_tt guardH_ff guardH_tf guardH_ft guardH_undef agV_one agV_agg lenO_sl lenStrO_str notO_bool pickO_bool convO_int eqbO_bool eqnilO_sl extractO_tup capO_sl minO_int loadL_one loadL_all storeL_eq fillA_nil fillA_one fillA_agg nat_ge neg_ge nat_lt neg_lt buildO bin_add bin_sub bin_mul bin_eql bin_neq bin_lss bin_leq bin_gtr bin_geq str_eql str_neq str_lss str_leq str_gtr str_geq retK_some endK_mk gcK_same gcK_int gcK_bool tupO_one tupO_agg rdy_self ib ii Option.map_none Option.map_some Option.some.injEq exists_eq_left' exists_eq_left ne_eq not_false_eq_true if_true if_false List.map_cons List.map_nil List.getElem?_cons_zero List.getElem?_cons_succ List.length_cons List.length_nil List.take_succ_cons List.take_zero List.take_nil List.drop_succ_cons List.drop_zero List.drop_nil List.cons_append List.nil_append List.append_nil List.set_cons_zero List.set_cons_succ Nat.zero_add forall_const true_and and_true and_self Bool.false_eq_true false_implies true_implies implies_true Bool.not_true Bool.not_false Bool.not_eq_true' Bool.not_eq_false' beq_self_eq_true Bool.bne_true Bool.bne_false
attribute [local go_sem] lenI lenS lenP lenQ lenB lenL lenT encI_0 encS_0 encP_0 encP_1 encQ_0 encQ_1 encQ_2 encQ_3 encB_0 encB_1 encL_0 encL_1 encT_0 encT_1
attribute [local go_sem low] whenA_bool guardH_bool
attribute [local go_sem] lenY encY_0 encY_1 encY_2
theorem miniG.smQ {l : List Param} (h : miniG l) : smQ l := h.sm
theorem miniY.bound {l : List Param} {f : Flat} (ok1 : okSig l = true) (ok2 : okFlat f = true) : miniY (boundS l f) := by
  have s := SOk.bound (l := l) ok2
  have hn := okSig_len ok1
  have hl : (boundS l f).length = l.length := boundS_len
  refine ⟨by omega, fun a ha => by have := s.list a ha; omega, fun a ha => by have := s.pairs a ha; omega, fun a ha x hx => by have := s.nm a ha x hx; omega, ?_⟩
  have := wsum_bound (f := cellsEY) (B := 26) (l := boundS l f) (fun a ha => by have := s.list a ha; have := s.pairs a ha; unfold cellsEY; omega)
  unfold cellsY
  have h2 : (boundS l f).length * 26 ≤ 8 * 26 := Nat.mul_le_mul_right _ (by omega)
  omega
theorem miniY.nil : miniY [] := ⟨by simp, fun a ha => by simp at ha, fun a ha => by simp at ha, fun a ha => by simp at ha, by simp [cellsY, wsum]⟩
theorem miniY.bind {l : List Param} {f : Flat} : miniY (bindF l f) := by
  unfold bindF
  split
  · rename_i h
    obtain ⟨ok1, ok2⟩ := fits_ok (accepts_fits h)
    exact .bound ok1 ok2
  · exact .nil
theorem miniY.part {l : List Param} {f : Flat} : miniY (bindPartF l f) := by
  unfold bindPartF
  split
  · rename_i h
    unfold partOk at h
    rw [Bool.and_eq_true] at h
    obtain ⟨ok1, ok2⟩ := fits_ok h.1
    exact .bound ok1 ok2
  · exact .nil
theorem smQ_of {l : List Param} (ok1 : okSig l = true) : smQ l := by
  have hn := okSig_len ok1
  exact ⟨by unfold big; omega, fun x hx => by have := okSig_name ok1 x hx; unfold big; omega⟩
theorem len_isEmpty {α : Type} (l : List α) : decide ((l.length : Int) = 0) = l.isEmpty := by
  cases l with
  | nil => rfl
  | cons a r => simp; omega
theorem len_pos {α : Type} (l : List α) : decide ((l.length : Int) > 0) = !l.isEmpty := by
  cases l with
  | nil => rfl
  | cons a r => simp
/-! spec.validPartial -/
def L20_0 : List AStep := [⟨.box 38 (.t 0), (some 1), none, []⟩, ⟨.mov (.c (.bool false)), (some 2), none, []⟩]
theorem v20_0 : VS L20_0.eq_1 := rfl
def L20_1 : List AStep := [⟨.call 39 [(.t 6), (.t 8)], (some 9), none, []⟩, ⟨.not (.t 9), (some 10), none, []⟩]
theorem v20_1 : VS L20_1.eq_1 := rfl
def L20_2 : List AStep := ⟨.faddr 1 (.t 1), (some 7), none, []⟩ :: ⟨.load 2 true (.t 7), (some 8), none, []⟩ :: L20_1
theorem v20_2 : VS L20_2.eq_1 := rfl
def L20_3 : List AStep := ⟨.faddr 0 (.t 1), (some 5), none, []⟩ :: ⟨.load 1 true (.t 5), (some 6), none, []⟩ :: L20_2
theorem v20_3 : VS L20_3.eq_1 := rfl
def L20_4 : List AStep := [⟨.mov (.c (.bool false)), (some 2), none, []⟩]
theorem v20_4 : VS L20_4.eq_1 := rfl
def L20_5 : List AStep := [⟨.mov (.t 18), (some 4), none, []⟩]
theorem v20_5 : VS L20_5.eq_1 := rfl
def L20_6 : List AStep := ⟨.alloc 75 [(.sl none 0 (some 0))], (some 3), none, []⟩ :: ⟨.store 1 (.t 3) (.t 17), none, none, []⟩ :: L20_5
theorem v20_6 : VS L20_6.eq_1 := rfl
def L20_7 : List AStep := ⟨.extract (.t 11) 0, (some 17), none, []⟩ :: ⟨.extract (.t 11) 1, (some 18), none, []⟩ :: L20_6
theorem v20_7 : VS L20_7.eq_1 := rfl
def L20_8 : List AStep := ⟨.call 40 [(.t 13), (.t 15)], (some 16), none, []⟩ :: ⟨.mov (.t 16), (some 11), none, []⟩ :: L20_7
theorem v20_8 : VS L20_8.eq_1 := rfl
def L20_9 : List AStep := ⟨.faddr 1 (.t 1), (some 14), none, []⟩ :: ⟨.load 2 true (.t 14), (some 15), none, []⟩ :: L20_8
theorem v20_9 : VS L20_9.eq_1 := rfl
def L20_10 : List AStep := ⟨.faddr 0 (.t 1), (some 12), none, []⟩ :: ⟨.load 1 true (.t 12), (some 13), none, []⟩ :: L20_9
theorem v20_10 : VS L20_10.eq_1 := rfl
def L20_11 : List AStep := [⟨.bin .eql (.t 20) (.c (.int .i64 0)), (some 21), none, []⟩, ⟨.mov (.t 21), (some 2), none, []⟩]
theorem v20_11 : VS L20_11.eq_1 := rfl
def L20_12 : List AStep := ⟨.mov (.t 4), (some 19), none, []⟩ :: ⟨.len (.t 19), (some 20), none, []⟩ :: L20_11
theorem v20_12 : VS L20_12.eq_1 := rfl
def C20_0 : ACode := .seq (.reg L20_4) .ret
theorem u20_0 : VC C20_0.eq_1 := rfl
def C20_1 : ACode := .cond (.t 10) C20_0 .skip
theorem u20_1 : VC C20_1.eq_1 := rfl
def C20_2 : ACode := .seq (.reg L20_3) C20_1
theorem u20_2 : VC C20_2.eq_1 := rfl
def C20_3 : ACode := .seq (.reg L20_12) .ret
theorem u20_3 : VC C20_3.eq_1 := rfl
def C20_4 : ACode := .seq (.reg L20_10) C20_3
theorem u20_4 : VC C20_4.eq_1 := rfl
def C20_5 : ACode := .seq C20_2 C20_4
theorem u20_5 : VC C20_5.eq_1 := rfl
def C20_6 : ACode := .seq (.reg L20_0) C20_5
theorem u20_6 : VC C20_6.eq_1 := rfl
def F20 : AFunc := ⟨22, [.tmp 2], C20_6⟩
theorem cF20 : compB Tryz.prog 20 = some F20 := by kernel_rfl
attribute [local go_sem ↓] u20_0 u20_1 u20_2 u20_3 u20_4 u20_5 u20_6 v20_0 v20_1 v20_2 v20_3 v20_4 v20_5 v20_6 v20_7 v20_8 v20_9 v20_10 v20_11 v20_12
theorem c_validPartial (l : List Param) (f : Flat) (q p n : CV) (h : H) (hl : SlG h q l) (hf : SlF h p n f) (hn : miniG l) (hm : miniF f) : bm Tryz.prog 20 [.agg [q, p, n]] h = some (ib (partOk l f), h) := by
  refine bm_eq cF20 ?_
  have gc := c_goodCall l f q p n h hl.out hn.sm hf.pl hf.nl hm.sm
  unfold partOk
  cases b1 : fits l f with
  | false =>
    have b1' : (okSig l && okFlat f) = false := b1
    simp +contextual (maxSteps := 2000000) only [go_sem, Nat.reduceEqDiff, reduceCtorEq, Nat.reduceAdd, Nat.reduceLeDiff, F20, loadL_agg, gc, b1', Bool.false_and]
  | true =>
  have b1' : (okSig l && okFlat f) = true := b1
  obtain ⟨ok1, ok2⟩ := fits_ok b1
  simp +contextual (maxSteps := 2000000) only [go_sem, Nat.reduceEqDiff, reduceCtorEq, Nat.reduceAdd, Nat.reduceLeDiff, F20, loadL_agg, gc, b1', Bool.true_and]
  refine wp_call (c_bound l f q p n h hl.out hf ok1 ok2) ?_
  rintro r h1 ⟨g1, v, w, rs, rfl, x⟩
  simp +contextual (maxSteps := 2000000) only [go_sem, Nat.reduceEqDiff, reduceCtorEq, Nat.reduceAdd, Nat.reduceLeDiff, x.pr.length, len_isEmpty]
  exact gcR_of g1 rfl ⟨rfl, rfl⟩
/-! impl.fit -/
def L59_0 : List AStep := [⟨.mov (.c (.bool false)), (some 4), none, []⟩]
theorem v59_0 : VS L59_0.eq_1 := rfl
def L59_1 : List AStep := ⟨.box 33 (.t 0), (some 2), none, []⟩ :: ⟨.box 36 (.t 1), (some 3), none, []⟩ :: L59_0
theorem v59_1 : VS L59_1.eq_1 := rfl
def L59_2 : List AStep := [⟨.mov (.t 10), (some 4), none, []⟩]
theorem v59_2 : VS L59_2.eq_1 := rfl
def L59_3 : List AStep := ⟨.call 77 [(.t 8)], (some 9), (some (7, true)), []⟩ :: ⟨.pick (.t 7) (.t 9) (.c (.bool false)), (some 10), none, []⟩ :: L59_2
theorem v59_3 : VS L59_3.eq_1 := rfl
def L59_4 : List AStep := ⟨.mov (.t 6), (some 7), none, []⟩ :: ⟨.load 2 true (.t 3), (some 8), (some (7, true)), []⟩ :: L59_3
theorem v59_4 : VS L59_4.eq_1 := rfl
def L59_5 : List AStep := ⟨.load 1 true (.t 2), (some 5), none, []⟩ :: ⟨.call 76 [(.t 5)], (some 6), none, []⟩ :: L59_4
theorem v59_5 : VS L59_5.eq_1 := rfl
def C59_0 : ACode := .seq (.reg L59_5) .ret
theorem u59_0 : VC C59_0.eq_1 := rfl
def C59_1 : ACode := .seq (.reg L59_1) C59_0
theorem u59_1 : VC C59_1.eq_1 := rfl
def F59 : AFunc := ⟨11, [.tmp 4], C59_1⟩
theorem cF59 : compB Tryz.prog 59 = some F59 := by kernel_rfl
attribute [local go_sem ↓] u59_0 u59_1 v59_0 v59_1 v59_2 v59_3 v59_4 v59_5
theorem c_fit (l : List Param) (f : Flat) (q p n : CV) (h : H) (hl : SlG h q l) (hf : SlF h p n f) (hn : miniG l) (hm : miniF f) : bm Tryz.prog 59 [.agg [q], .agg [p, n]] h = some (ib (fits l f), h) := by
  refine bm_eq cF59 ?_
  have c1 := c_ValidSignature l q h hl.out hn.sm
  have c2 := c_ValidFlat f p n h hf.pl hf.nl hm.sm
  unfold fits
  cases b1 : okSig l with
  | false =>
    rw [b1] at c1
    simp +contextual (maxSteps := 2000000) only [go_sem, Nat.reduceEqDiff, reduceCtorEq, Nat.reduceAdd, Nat.reduceLeDiff, F59, c1, Bool.false_and]
  | true =>
    rw [b1] at c1
    simp +contextual (maxSteps := 2000000) only [go_sem, Nat.reduceEqDiff, reduceCtorEq, Nat.reduceAdd, Nat.reduceLeDiff, F59, c1, c2, Bool.true_and]
/-! impl.BindPart$1 -/
def L62_0 : List AStep := [⟨.box 96 (.t 0), (some 1), none, []⟩, ⟨.mov (.c (.bool false)), (some 2), none, []⟩]
theorem v62_0 : VS L62_0.eq_1 := rfl
def L62_1 : List AStep := [⟨.bin .neq (.t 4) (.c (.int .i64 3)), (some 5), none, []⟩, ⟨.mov (.t 5), (some 2), none, []⟩]
theorem v62_1 : VS L62_1.eq_1 := rfl
def L62_2 : List AStep := ⟨.faddr 0 (.t 1), (some 3), none, []⟩ :: ⟨.load 1 false (.t 3), (some 4), none, []⟩ :: L62_1
theorem v62_2 : VS L62_2.eq_1 := rfl
def C62_0 : ACode := .seq (.reg L62_2) .ret
theorem u62_0 : VC C62_0.eq_1 := rfl
def C62_1 : ACode := .seq (.reg L62_0) C62_0
theorem u62_1 : VC C62_1.eq_1 := rfl
def F62 : AFunc := ⟨6, [.tmp 2], C62_1⟩
theorem cF62 : compB Tryz.prog 62 = some F62 := by kernel_rfl
attribute [local go_sem ↓] u62_0 u62_1 v62_0 v62_1 v62_2
theorem c_BindPart1 (x : Problem) (h : H) : bm Tryz.prog 62 [.agg (encB x)] h = some (ib (!(decide (x.kind = 3))), h) := by
  refine bm_eq cF62 ?_
  simp +contextual (maxSteps := 2000000) only [go_sem, Nat.reduceEqDiff, reduceCtorEq, Nat.reduceAdd, Nat.reduceLeDiff, F62]
/-! impl.BindPart -/
def L43_0 : List AStep := [⟨.alloc 75 [(.sl none 0 (some 0))], (some 4), none, []⟩, ⟨.mov (.c (.bool false)), (some 5), none, []⟩]
theorem v43_0 : VS L43_0.eq_1 := rfl
def L43_1 : List AStep := ⟨.box 33 (.t 0), (some 2), none, []⟩ :: ⟨.box 36 (.t 1), (some 3), none, []⟩ :: L43_0
theorem v43_1 : VS L43_1.eq_1 := rfl
def L43_2 : List AStep := [⟨.call 59 [(.t 8), (.t 9)], (some 10), none, []⟩, ⟨.not (.t 10), (some 11), none, []⟩]
theorem v43_2 : VS L43_2.eq_1 := rfl
def L43_3 : List AStep := ⟨.load 1 true (.t 2), (some 8), none, []⟩ :: ⟨.load 2 true (.t 3), (some 9), none, []⟩ :: L43_2
theorem v43_3 : VS L43_3.eq_1 := rfl
def L43_4 : List AStep := [⟨.mov (.c (.bool false)), (some 5), none, []⟩]
theorem v43_4 : VS L43_4.eq_1 := rfl
def L43_5 : List AStep := ⟨.build [(.sl none 0 (some 0))] [], (some 12), none, []⟩ :: ⟨.store 1 (.t 4) (.t 12), none, none, []⟩ :: L43_4
theorem v43_5 : VS L43_5.eq_1 := rfl
def L43_6 : List AStep := [⟨.mov (.t 18), (some 7), none, []⟩]
theorem v43_6 : VS L43_6.eq_1 := rfl
def L43_7 : List AStep := ⟨.alloc 75 [(.sl none 0 (some 0))], (some 6), none, []⟩ :: ⟨.store 1 (.t 6) (.t 17), none, none, []⟩ :: L43_6
theorem v43_7 : VS L43_7.eq_1 := rfl
def L43_8 : List AStep := ⟨.extract (.t 13) 0, (some 17), none, []⟩ :: ⟨.extract (.t 13) 1, (some 18), none, []⟩ :: L43_7
theorem v43_8 : VS L43_8.eq_1 := rfl
def L43_9 : List AStep := ⟨.call 60 [(.t 14), (.t 15)], (some 16), none, []⟩ :: ⟨.mov (.t 16), (some 13), none, []⟩ :: L43_8
theorem v43_9 : VS L43_9.eq_1 := rfl
def L43_10 : List AStep := ⟨.load 1 true (.t 2), (some 14), none, []⟩ :: ⟨.load 2 true (.t 3), (some 15), none, []⟩ :: L43_9
theorem v43_10 : VS L43_10.eq_1 := rfl
def L43_11 : List AStep := [⟨.mov (.t 7), (some 19), none, []⟩, ⟨.call 61 [(.t 19), (.c (.fn 62 []))], (some 20), none, []⟩]
theorem v43_11 : VS L43_11.eq_1 := rfl
def L43_12 : List AStep := [⟨.mov (.c (.bool false)), (some 5), none, []⟩]
theorem v43_12 : VS L43_12.eq_1 := rfl
def L43_13 : List AStep := ⟨.build [(.sl none 0 (some 0))] [], (some 21), none, []⟩ :: ⟨.store 1 (.t 4) (.t 21), none, none, []⟩ :: L43_12
theorem v43_13 : VS L43_13.eq_1 := rfl
def L43_14 : List AStep := [⟨.mov (.c (.bool true)), (some 5), none, []⟩]
theorem v43_14 : VS L43_14.eq_1 := rfl
def L43_15 : List AStep := ⟨.load 1 true (.t 6), (some 22), none, []⟩ :: ⟨.store 1 (.t 4) (.t 22), none, none, []⟩ :: L43_14
theorem v43_15 : VS L43_15.eq_1 := rfl
def C43_0 : ACode := .seq (.reg L43_5) .ret
theorem u43_0 : VC C43_0.eq_1 := rfl
def C43_1 : ACode := .cond (.t 11) C43_0 .skip
theorem u43_1 : VC C43_1.eq_1 := rfl
def C43_2 : ACode := .seq (.reg L43_3) C43_1
theorem u43_2 : VC C43_2.eq_1 := rfl
def C43_3 : ACode := .seq (.reg L43_13) .ret
theorem u43_3 : VC C43_3.eq_1 := rfl
def C43_4 : ACode := .cond (.t 20) C43_3 .skip
theorem u43_4 : VC C43_4.eq_1 := rfl
def C43_5 : ACode := .seq (.reg L43_11) C43_4
theorem u43_5 : VC C43_5.eq_1 := rfl
def C43_6 : ACode := .seq (.reg L43_15) .ret
theorem u43_6 : VC C43_6.eq_1 := rfl
def C43_7 : ACode := .seq C43_5 C43_6
theorem u43_7 : VC C43_7.eq_1 := rfl
def C43_8 : ACode := .seq (.reg L43_10) C43_7
theorem u43_8 : VC C43_8.eq_1 := rfl
def C43_9 : ACode := .seq C43_2 C43_8
theorem u43_9 : VC C43_9.eq_1 := rfl
def C43_10 : ACode := .seq (.reg L43_1) C43_9
theorem u43_10 : VC C43_10.eq_1 := rfl
def F43 : AFunc := ⟨23, [.cell 4 1 true, .tmp 5], C43_10⟩
theorem cF43 : compB Tryz.prog 43 = some F43 := by kernel_rfl
attribute [local go_sem ↓] u43_0 u43_1 u43_2 u43_3 u43_4 u43_5 u43_6 u43_7 u43_8 u43_9 u43_10 v43_0 v43_1 v43_2 v43_3 v43_4 v43_5 v43_6 v43_7 v43_8 v43_9 v43_10 v43_11 v43_12 v43_13 v43_14 v43_15
theorem k_iBindPart (l : List Param) (f : Flat) (q p n : CV) (h : H) (hl : SlG h q l) (hf : SlF h p n f) (hn : miniG l) (hm : miniF f) :
    callK (bm Tryz.prog 43 [.agg [q], .agg [p, n]] h) fun r h' => Grow h h' ∧ ∃ v rs, r = .tup [.agg [v], .one (.bool (partOk l f))] ∧ NwY h h' v rs (bindPartF l f) := by
  refine bm_of cF43 ?_
  have gc := c_fit l f q p n h hl hf hn hm
  unfold bindPartF partOk
  cases b1 : fits l f with
  | false =>
    rw [b1] at gc
    simp +contextual (maxSteps := 2000000) only [go_sem, Nat.reduceEqDiff, reduceCtorEq, Nat.reduceAdd, Nat.reduceLeDiff, F43, gc, Bool.false_and, if_false]
    exact ⟨Grow.refl h, _, [], rfl, .nil⟩
  | true =>
  rw [b1] at gc
  obtain ⟨ok1, ok2⟩ := fits_ok b1
  have hn8 := okSig_len ok1
  obtain ⟨hb1, hb2, hb3⟩ := okFlat_sm ok2
  have hbb : (wrong l f).length ≤ big := by
    have h1 := (BOk.nameF (l := l) (f := f) hb3 (Nat.le_refl _)).bad
    have h2 := missF_len (l := l) (sl := boundS l f) (i := l.length)
    unfold wrong boundB missing big
    rw [List.length_append]
    omega
  simp +contextual (maxSteps := 2000000) only [go_sem, Nat.reduceEqDiff, reduceCtorEq, Nat.reduceAdd, Nat.reduceLeDiff, F43, gc]
  refine wp_call (c_bind l f q p n h hl.out hf ok1 ok2) ?_
  rintro r h1 ⟨g1, v, w, rs, rfl, x⟩
  have e := c_hasB (wrong l f) _ 62 [] (fun p => !(decide (p.kind = 3))) h1 (x.pr.sl lenB) hbb (fun i hi x hx => c_BindPart1 x h1)
  rw [part_any] at e
  cases b2 : (boundB l f).isEmpty with
  | false =>
    rw [b2] at e
    simp +contextual (maxSteps := 2000000) only [go_sem, Nat.reduceEqDiff, reduceCtorEq, Nat.reduceAdd, Nat.reduceLeDiff, e, Bool.true_and, if_false]
    exact gcK_of ⟨g1, _, [], rfl, .nil⟩ (fun hs _ => ⟨Grow.refl h, _, [], rfl, .nil⟩)
  | true =>
    rw [b2] at e
    simp +contextual (maxSteps := 2000000) only [go_sem, Nat.reduceEqDiff, reduceCtorEq, Nat.reduceAdd, Nat.reduceLeDiff, e, Bool.true_and, if_true]
    exact gcK_of ⟨g1, _, _, rfl, x.sl⟩ (fun hs _ => ⟨Grow.refl h, _, _, rfl, x.sl.scalar (by simpa [AV.scalar, AV.scalars, CV.scalar] using hs) h⟩)
/-! impl.ValidPartial -/
def L26_0 : List AStep := [⟨.box 38 (.t 0), (some 1), none, []⟩, ⟨.mov (.c (.bool false)), (some 2), none, []⟩]
theorem v26_0 : VS L26_0.eq_1 := rfl
def L26_1 : List AStep := [⟨.mov (.t 12), (some 4), none, []⟩]
theorem v26_1 : VS L26_1.eq_1 := rfl
def L26_2 : List AStep := ⟨.alloc 75 [(.sl none 0 (some 0))], (some 3), none, []⟩ :: ⟨.store 1 (.t 3) (.t 11), none, none, []⟩ :: L26_1
theorem v26_2 : VS L26_2.eq_1 := rfl
def L26_3 : List AStep := ⟨.extract (.t 5) 0, (some 11), none, []⟩ :: ⟨.extract (.t 5) 1, (some 12), none, []⟩ :: L26_2
theorem v26_3 : VS L26_3.eq_1 := rfl
def L26_4 : List AStep := ⟨.call 43 [(.t 7), (.t 9)], (some 10), none, []⟩ :: ⟨.mov (.t 10), (some 5), none, []⟩ :: L26_3
theorem v26_4 : VS L26_4.eq_1 := rfl
def L26_5 : List AStep := ⟨.faddr 1 (.t 1), (some 8), none, []⟩ :: ⟨.load 2 true (.t 8), (some 9), none, []⟩ :: L26_4
theorem v26_5 : VS L26_5.eq_1 := rfl
def L26_6 : List AStep := ⟨.faddr 0 (.t 1), (some 6), none, []⟩ :: ⟨.load 1 true (.t 6), (some 7), none, []⟩ :: L26_5
theorem v26_6 : VS L26_6.eq_1 := rfl
def L26_7 : List AStep := [⟨.mov (.t 4), (some 13), none, []⟩, ⟨.mov (.t 13), (some 2), none, []⟩]
theorem v26_7 : VS L26_7.eq_1 := rfl
def C26_0 : ACode := .seq (.reg L26_7) .ret
theorem u26_0 : VC C26_0.eq_1 := rfl
def C26_1 : ACode := .seq (.reg L26_6) C26_0
theorem u26_1 : VC C26_1.eq_1 := rfl
def C26_2 : ACode := .seq (.reg L26_0) C26_1
theorem u26_2 : VC C26_2.eq_1 := rfl
def F26 : AFunc := ⟨14, [.tmp 2], C26_2⟩
theorem cF26 : compB Tryz.prog 26 = some F26 := by kernel_rfl
attribute [local go_sem ↓] u26_0 u26_1 u26_2 v26_0 v26_1 v26_2 v26_3 v26_4 v26_5 v26_6 v26_7
theorem c_ValidPartial (l : List Param) (f : Flat) (q p n : CV) (h : H) (hl : SlG h q l) (hf : SlF h p n f) (hn : miniG l) (hm : miniF f) : bm Tryz.prog 26 [.agg [q, p, n]] h = some (ib (partOk l f), h) := by
  refine bm_eq cF26 ?_
  simp +contextual (maxSteps := 2000000) only [go_sem, Nat.reduceEqDiff, reduceCtorEq, Nat.reduceAdd, Nat.reduceLeDiff, F26, loadL_agg]
  refine wp_call (k_iBindPart l f q p n h hl hf hn hm) ?_
  rintro r h1 ⟨g1, v, rs, rfl, x⟩
  simp +contextual (maxSteps := 2000000) only [go_sem, Nat.reduceEqDiff, reduceCtorEq, Nat.reduceAdd, Nat.reduceLeDiff]
  exact gcR_of g1 rfl ⟨rfl, rfl⟩
end Go.Proofs.YtdalgphpacikkaaGreat.Am
