/- Contracts: what a wrapper passes on, of both sides. -/
import Derived.Test.YtekkimfdcbgcoaaBK
import Derived.Test.YtekkimfdcbgcoaaPD
import Derived.Test.YtekkimfdcbgcoaaHS
namespace Go.Proofs.Ytekkimfdcbgcoaa.Am
open Go
set_option maxRecDepth 100000
set_option maxHeartbeats 4000000
set_option linter.unusedSimpArgs false
set_option linter.unusedVariables false
attribute [local go_sem ↓] bv_t bv_c ev_t ev_c put_same put_ne put_none kill_at pro_at lb_same lb_ne start_zero start_succ wpC_seq wpC_reg wpC_cond wpC_block wpC_skip wpC_exit wpC_ret thenQ_normal thenQ_exit thenQ_ret inBlk_normal inBlk_exit inBlk_ret wpS_nil wpS_step wpS_again wpS_guard wpO_mov wpO_load wpO_faddr wpO_nilCheck wpO_pick wpO_build wpO_bin wpO_eqb wpO_eqst wpO_eqnil wpO_not wpO_conv wpO_bytesStr wpO_iaddr wpO_idxStr wpO_field wpO_extract wpO_len wpO_lenStr wpO_cap wpO_min wpO_slice wpO_sliceStr wpO_alloc wpO_box wpO_store wpO_call wpO_callv wpO_mkfn wpO_buildSlice wpO_mkslice wpO_append wpO_appz proA_nil proA_cons tmpX_nil tmpX_tmp tmpX_cell doneB_normal doneB_ret agK_cons agK_nil agK_guard agG_tt agG_ff agG_tf agG_ft agG_undef pureB_load results_one results_two results_nil resBs_cons resBs_nil resB_tmp resB_cell
attribute [local go_sem] kill_v kill_lp_ne kill_lp_same pro_v pro_lp_same pro_lp_ne av_v av_lp optB_some optX_some valX_eq ldX_lp ldX_v faX_lp faX_v ncX_lp ncX_ptr ncX_fn boxK_one boxK_agg stL_some stK_lp_one stK_lp_agg stK_v_one stK_v_agg proM_v proM_lp callG_mk callVG_mk callvK_fn fnG_mk ptrsA_nil ptrsA_cons callH_some whenA_true whenA_false guardH_tt guardH_ff guardH_tf guardH_ft guardH_undef agV_one agV_agg lenO_sl lenStrO_str notO_bool pickO_bool convO_int eqbO_bool eqnilO_sl extractO_tup capO_sl minO_int loadL_one loadL_all storeL_eq fillA_nil fillA_one fillA_agg nat_ge neg_ge nat_lt neg_lt buildO bin_add bin_sub bin_mul bin_eql bin_neq bin_lss bin_leq bin_gtr bin_geq str_eql str_neq str_lss str_leq str_gtr str_geq retK_some endK_mk gcK_same gcK_int gcK_bool tupO_one tupO_agg rdy_self ib ii Option.map_none Option.map_some Option.some.injEq exists_eq_left' exists_eq_left ne_eq not_false_eq_true if_true if_false List.map_cons List.map_nil List.getElem?_cons_zero List.getElem?_cons_succ List.length_cons List.length_nil List.take_succ_cons List.take_zero List.take_nil List.drop_succ_cons List.drop_zero List.drop_nil List.cons_append List.nil_append List.append_nil List.set_cons_zero List.set_cons_succ Nat.zero_add forall_const true_and and_true and_self Bool.false_eq_true false_implies true_implies implies_true Bool.not_true Bool.not_false Bool.not_eq_true' Bool.not_eq_false' beq_self_eq_true Bool.bne_true Bool.bne_false
attribute [local go_sem] lenI lenS lenP lenQ lenB lenL lenT encI_0 encS_0 encP_0 encP_1 encQ_0 encQ_1 encQ_2 encQ_3 encB_0 encB_1 encL_0 encL_1 encT_0 encT_1
attribute [local go_sem low] whenA_bool guardH_bool
attribute [local go_sem] lenY encY_0 encY_1 encY_2
/-! spec.isWrapper -/
def L98_0 : List AStep := [⟨.box 38 (.t 0), (some 1), none, []⟩, ⟨.mov (.c (.bool false)), (some 2), none, []⟩]
theorem v98_0 : VS L98_0.eq_1 := rfl
def L98_1 : List AStep := [⟨.mov (.t 16), (some 2), none, []⟩]
theorem v98_1 : VS L98_1.eq_1 := rfl
def L98_2 : List AStep := ⟨.bin .geq (.t 14) (.c (.int .i64 0)), (some 15), (some (11, true)), []⟩ :: ⟨.pick (.t 11) (.t 15) (.c (.bool false)), (some 16), none, []⟩ :: L98_1
theorem v98_2 : VS L98_2.eq_1 := rfl
def L98_3 : List AStep := ⟨.load 1 false (.t 12), (some 13), (some (11, true)), []⟩ :: ⟨.call 94 [(.t 13), (.c (.int .i64 4))], (some 14), (some (11, true)), []⟩ :: L98_2
theorem v98_3 : VS L98_3.eq_1 := rfl
def L98_4 : List AStep := ⟨.mov (.t 10), (some 11), none, []⟩ :: ⟨.faddr 0 (.t 1), (some 12), (some (11, true)), []⟩ :: L98_3
theorem v98_4 : VS L98_4.eq_1 := rfl
def L98_5 : List AStep := ⟨.bin .geq (.t 8) (.c (.int .i64 0)), (some 9), (some (5, true)), []⟩ :: ⟨.pick (.t 5) (.t 9) (.c (.bool false)), (some 10), none, []⟩ :: L98_4
theorem v98_5 : VS L98_5.eq_1 := rfl
def L98_6 : List AStep := ⟨.load 1 false (.t 6), (some 7), (some (5, true)), []⟩ :: ⟨.call 94 [(.t 7), (.c (.int .i64 2))], (some 8), (some (5, true)), []⟩ :: L98_5
theorem v98_6 : VS L98_6.eq_1 := rfl
def L98_7 : List AStep := ⟨.mov (.t 4), (some 5), none, []⟩ :: ⟨.faddr 0 (.t 1), (some 6), (some (5, true)), []⟩ :: L98_6
theorem v98_7 : VS L98_7.eq_1 := rfl
def L98_8 : List AStep := ⟨.load 1 true (.t 1), (some 3), none, []⟩ :: ⟨.call 93 [(.t 3)], (some 4), none, []⟩ :: L98_7
theorem v98_8 : VS L98_8.eq_1 := rfl
def C98_0 : ACode := .seq (.reg L98_8) .ret
theorem u98_0 : VC C98_0.eq_1 := rfl
def C98_1 : ACode := .seq (.reg L98_0) C98_0
theorem u98_1 : VC C98_1.eq_1 := rfl
def F98 : AFunc := ⟨17, [.tmp 2], C98_1⟩
theorem cF98 : compB Try.prog 98 = some F98 := by kernel_rfl
attribute [local go_sem ↓] u98_0 u98_1 v98_0 v98_1 v98_2 v98_3 v98_4 v98_5 v98_6 v98_7 v98_8
theorem c_isWrapper (l : List Param) (q : CV) (h : H) (hl : SlG h q l) (m : miniG l) : bm Try.prog 98 [.agg [q]] h = some (ib (isWrap l), h) := by
  refine bm_eq cF98 ?_
  have e1 := c_validSignature l q h hl.out m.sm
  have e2 : decide (kindAt l 2 ≥ 0) = hasRest l := rfl
  have e3 : decide (kindAt l 4 ≥ 0) = hasMap l := rfl
  unfold isWrap
  cases b1 : okSig l with
  | false =>
    rw [b1] at e1
    simp +contextual (maxSteps := 2000000) only [go_sem, Nat.reduceEqDiff, reduceCtorEq, Nat.reduceAdd, Nat.reduceLeDiff, F98, e1, Bool.false_and]
  | true =>
  rw [b1] at e1
  cases b2 : hasRest l with
  | false =>
    rw [b2] at e2
    simp +contextual (maxSteps := 2000000) only [go_sem, Nat.reduceEqDiff, reduceCtorEq, Nat.reduceAdd, Nat.reduceLeDiff, F98, e1, c_kindAt _ _ _ _ hl.out m.sm, e2, Bool.true_and, Bool.false_and]
  | true =>
    rw [b2] at e2
    simp +contextual (maxSteps := 2000000) only [go_sem, Nat.reduceEqDiff, reduceCtorEq, Nat.reduceAdd, Nat.reduceLeDiff, F98, e1, c_kindAt _ _ _ _ hl.out m.sm, e2, e3, Bool.true_and]
/-! impl.IsWrapper -/
def L47_0 : List AStep := [⟨.box 38 (.t 0), (some 1), none, []⟩, ⟨.mov (.c (.bool false)), (some 2), none, []⟩]
theorem v47_0 : VS L47_0.eq_1 := rfl
def L47_1 : List AStep := [⟨.mov (.t 12), (some 2), none, []⟩]
theorem v47_1 : VS L47_1.eq_1 := rfl
def L47_2 : List AStep := ⟨.call 91 [(.t 10), (.c (.int .i64 4))], (some 11), (some (9, true)), []⟩ :: ⟨.pick (.t 9) (.t 11) (.c (.bool false)), (some 12), none, []⟩ :: L47_1
theorem v47_2 : VS L47_2.eq_1 := rfl
def L47_3 : List AStep := ⟨.mov (.t 8), (some 9), none, []⟩ :: ⟨.load 1 true (.t 1), (some 10), (some (9, true)), []⟩ :: L47_2
theorem v47_3 : VS L47_3.eq_1 := rfl
def L47_4 : List AStep := ⟨.call 91 [(.t 6), (.c (.int .i64 2))], (some 7), (some (5, true)), []⟩ :: ⟨.pick (.t 5) (.t 7) (.c (.bool false)), (some 8), none, []⟩ :: L47_3
theorem v47_4 : VS L47_4.eq_1 := rfl
def L47_5 : List AStep := ⟨.mov (.t 4), (some 5), none, []⟩ :: ⟨.load 1 true (.t 1), (some 6), (some (5, true)), []⟩ :: L47_4
theorem v47_5 : VS L47_5.eq_1 := rfl
def L47_6 : List AStep := ⟨.load 1 true (.t 1), (some 3), none, []⟩ :: ⟨.call 49 [(.t 3)], (some 4), none, []⟩ :: L47_5
theorem v47_6 : VS L47_6.eq_1 := rfl
def C47_0 : ACode := .seq (.reg L47_6) .ret
theorem u47_0 : VC C47_0.eq_1 := rfl
def C47_1 : ACode := .seq (.reg L47_0) C47_0
theorem u47_1 : VC C47_1.eq_1 := rfl
def F47 : AFunc := ⟨13, [.tmp 2], C47_1⟩
theorem cF47 : compB Try.prog 47 = some F47 := by kernel_rfl
attribute [local go_sem ↓] u47_0 u47_1 v47_0 v47_1 v47_2 v47_3 v47_4 v47_5 v47_6
theorem c_IsWrapper (l : List Param) (q : CV) (h : H) (hl : SlG h q l) (m : miniG l) : bm Try.prog 47 [.agg [q]] h = some (ib (isWrap l), h) := by
  refine bm_eq cF47 ?_
  have e1 := c_ValidSignature l q h hl.out m.sm
  have e2 : bm Try.prog 91 [.agg [q], .one (.int .i64 2)] h = some (ib (hasRest l), h) := c_has l q 2 h hl.out m.sm
  have e3 : bm Try.prog 91 [.agg [q], .one (.int .i64 4)] h = some (ib (hasMap l), h) := c_has l q 4 h hl.out m.sm
  unfold isWrap
  cases b1 : okSig l with
  | false =>
    rw [b1] at e1
    simp +contextual (maxSteps := 2000000) only [go_sem, Nat.reduceEqDiff, reduceCtorEq, Nat.reduceAdd, Nat.reduceLeDiff, F47, e1, Bool.false_and]
  | true =>
  rw [b1] at e1
  cases b2 : hasRest l with
  | false =>
    rw [b2] at e2
    simp +contextual (maxSteps := 2000000) only [go_sem, Nat.reduceEqDiff, reduceCtorEq, Nat.reduceAdd, Nat.reduceLeDiff, F47, e1, e2, Bool.true_and, Bool.false_and]
  | true =>
    rw [b2] at e2
    simp +contextual (maxSteps := 2000000) only [go_sem, Nat.reduceEqDiff, reduceCtorEq, Nat.reduceAdd, Nat.reduceLeDiff, F47, e1, e2, e3, Bool.true_and]
theorem wrapAcc_of {l m : List Param} {f : Flat} (h : passOk l f = true) : acceptsF m (passF l f) = (okSig m && (wrong m (passF l f)).isEmpty) := by
  obtain ⟨ok1, ok2⟩ := pass_fits h
  have okp : okFlat (passF l f) = true := by unfold passF; rw [if_pos h]; exact passT_ok ok1 ok2
  unfold acceptsF fits
  rw [okp, Bool.and_true]
end Go.Proofs.Ytekkimfdcbgcoaa.Am
