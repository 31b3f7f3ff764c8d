/- Contracts: what a wrapper passes on, of both sides. -/
import Derived.Test.YtekkimfdcbgcoabBK
import Derived.Test.YtekkimfdcbgcoabPD
import Derived.Test.YtekkimfdcbgcoabHS
namespace Go.Proofs.Ytekkimfdcbgcoab.Am
open Go
set_option maxRecDepth 100000
set_option maxHeartbeats 4000000
set_option linter.unusedSimpArgs false
set_option linter.unusedVariables false
attribute [local go_sem ↓] bv_t bv_c ev_t ev_c put_same put_ne put_none kill_at pro_at lb_same lb_ne start_zero start_succ wpC_seq wpC_reg wpC_cond wpC_block wpC_skip wpC_exit wpC_ret thenQ_normal thenQ_exit thenQ_ret inBlk_normal inBlk_exit inBlk_ret wpS_nil wpS_step wpS_again wpS_guard wpO_mov wpO_load wpO_faddr wpO_nilCheck wpO_pick wpO_build wpO_bin wpO_eqb wpO_eqst wpO_eqnil wpO_not wpO_conv wpO_bytesStr wpO_iaddr wpO_idxStr wpO_field wpO_extract wpO_len wpO_lenStr wpO_cap wpO_min wpO_slice wpO_sliceStr wpO_alloc wpO_box wpO_store wpO_call wpO_callv wpO_mkfn wpO_buildSlice wpO_mkslice wpO_append wpO_appz proA_nil proA_cons tmpX_nil tmpX_tmp tmpX_cell doneB_normal doneB_ret agK_cons agK_nil agK_guard agG_tt agG_ff agG_tf agG_ft agG_undef pureB_load results_one results_two results_nil resBs_cons resBs_nil resB_tmp resB_cell
attribute [local go_sem] kill_v kill_lp_ne kill_lp_same pro_v pro_lp_same pro_lp_ne av_v av_lp optB_some optX_some valX_eq ldX_lp ldX_v faX_lp faX_v ncX_lp ncX_ptr ncX_fn boxK_one boxK_agg stL_some stK_lp_one stK_lp_agg stK_v_one stK_v_agg proM_v proM_lp callG_mk callVG_mk callvK_fn fnG_mk ptrsA_nil ptrsA_cons callH_some whenA_true whenA_false guardH_tt guardH_ff guardH_tf guardH_ft guardH_undef agV_one agV_agg lenO_sl lenStrO_str notO_bool pickO_bool convO_int eqbO_bool eqnilO_sl extractO_tup capO_sl minO_int loadL_one loadL_all storeL_eq fillA_nil fillA_one fillA_agg nat_ge neg_ge nat_lt neg_lt buildO bin_add bin_sub bin_mul bin_eql bin_neq bin_lss bin_leq bin_gtr bin_geq str_eql str_neq str_lss str_leq str_gtr str_geq retK_some endK_mk gcK_same gcK_int gcK_bool tupO_one tupO_agg rdy_self ib ii Option.map_none Option.map_some Option.some.injEq exists_eq_left' exists_eq_left ne_eq not_false_eq_true if_true if_false List.map_cons List.map_nil List.getElem?_cons_zero List.getElem?_cons_succ List.length_cons List.length_nil List.take_succ_cons List.take_zero List.take_nil List.drop_succ_cons List.drop_zero List.drop_nil List.cons_append List.nil_append List.append_nil List.set_cons_zero List.set_cons_succ Nat.zero_add forall_const true_and and_true and_self Bool.false_eq_true false_implies true_implies implies_true Bool.not_true Bool.not_false Bool.not_eq_true' Bool.not_eq_false' beq_self_eq_true Bool.bne_true Bool.bne_false
attribute [local go_sem] lenI lenS lenP lenQ lenB lenL lenT encI_0 encS_0 encP_0 encP_1 encQ_0 encQ_1 encQ_2 encQ_3 encB_0 encB_1 encL_0 encL_1 encT_0 encT_1
attribute [local go_sem low] whenA_bool guardH_bool
attribute [local go_sem] lenY encY_0 encY_1 encY_2
/-! spec.isWrapper -/
def L94_0 : List AStep := [⟨.box 25 (.t 0), (some 1), none, []⟩, ⟨.mov (.c (.bool false)), (some 2), none, []⟩]
theorem v94_0 : VS L94_0.eq_1 := rfl
def L94_1 : List AStep := [⟨.mov (.t 16), (some 2), none, []⟩]
theorem v94_1 : VS L94_1.eq_1 := rfl
def L94_2 : List AStep := ⟨.bin .geq (.t 14) (.c (.int .i64 0)), (some 15), (some (11, true)), []⟩ :: ⟨.pick (.t 11) (.t 15) (.c (.bool false)), (some 16), none, []⟩ :: L94_1
theorem v94_2 : VS L94_2.eq_1 := rfl
def L94_3 : List AStep := ⟨.load 1 false (.t 12), (some 13), (some (11, true)), []⟩ :: ⟨.call 119 [(.t 13), (.c (.int .i64 4))], (some 14), (some (11, true)), []⟩ :: L94_2
theorem v94_3 : VS L94_3.eq_1 := rfl
def L94_4 : List AStep := ⟨.mov (.t 10), (some 11), none, []⟩ :: ⟨.faddr 0 (.t 1), (some 12), (some (11, true)), []⟩ :: L94_3
theorem v94_4 : VS L94_4.eq_1 := rfl
def L94_5 : List AStep := ⟨.bin .geq (.t 8) (.c (.int .i64 0)), (some 9), (some (5, true)), []⟩ :: ⟨.pick (.t 5) (.t 9) (.c (.bool false)), (some 10), none, []⟩ :: L94_4
theorem v94_5 : VS L94_5.eq_1 := rfl
def L94_6 : List AStep := ⟨.load 1 false (.t 6), (some 7), (some (5, true)), []⟩ :: ⟨.call 119 [(.t 7), (.c (.int .i64 2))], (some 8), (some (5, true)), []⟩ :: L94_5
theorem v94_6 : VS L94_6.eq_1 := rfl
def L94_7 : List AStep := ⟨.mov (.t 4), (some 5), none, []⟩ :: ⟨.faddr 0 (.t 1), (some 6), (some (5, true)), []⟩ :: L94_6
theorem v94_7 : VS L94_7.eq_1 := rfl
def L94_8 : List AStep := ⟨.load 1 true (.t 1), (some 3), none, []⟩ :: ⟨.call 53 [(.t 3)], (some 4), none, []⟩ :: L94_7
theorem v94_8 : VS L94_8.eq_1 := rfl
def C94_0 : ACode := .seq (.reg L94_8) .ret
theorem u94_0 : VC C94_0.eq_1 := rfl
def C94_1 : ACode := .seq (.reg L94_0) C94_0
theorem u94_1 : VC C94_1.eq_1 := rfl
def F94 : AFunc := ⟨17, [.tmp 2], C94_1⟩
theorem cF94 : compB Try.prog 94 = some F94 := by kernel_rfl
attribute [local go_sem ↓] u94_0 u94_1 v94_0 v94_1 v94_2 v94_3 v94_4 v94_5 v94_6 v94_7 v94_8
theorem c_isWrapper (l : List Param) (q : CV) (h : H) (hl : SlG h q l) (m : miniG l) : bm Try.prog 94 [.agg [q]] h = some (ib (isWrap l), h) := by
  refine bm_eq cF94 ?_
  have e1 := c_validSignature l q h hl.out m.sm
  have e2 : decide (kindAt l 2 ≥ 0) = hasRest l := rfl
  have e3 : decide (kindAt l 4 ≥ 0) = hasMap l := rfl
  unfold isWrap
  cases b1 : okSig l with
  | false =>
    rw [b1] at e1
    simp +contextual (maxSteps := 2000000) only [go_sem, Nat.reduceEqDiff, reduceCtorEq, Nat.reduceAdd, Nat.reduceLeDiff, F94, e1, Bool.false_and]
  | true =>
  rw [b1] at e1
  cases b2 : hasRest l with
  | false =>
    rw [b2] at e2
    simp +contextual (maxSteps := 2000000) only [go_sem, Nat.reduceEqDiff, reduceCtorEq, Nat.reduceAdd, Nat.reduceLeDiff, F94, e1, c_kindAt _ _ _ _ hl.out m.sm, e2, Bool.true_and, Bool.false_and]
  | true =>
    rw [b2] at e2
    simp +contextual (maxSteps := 2000000) only [go_sem, Nat.reduceEqDiff, reduceCtorEq, Nat.reduceAdd, Nat.reduceLeDiff, F94, e1, c_kindAt _ _ _ _ hl.out m.sm, e2, e3, Bool.true_and]
/-! impl.IsWrapper -/
def L48_0 : List AStep := [⟨.box 25 (.t 0), (some 1), none, []⟩, ⟨.mov (.c (.bool false)), (some 2), none, []⟩]
theorem v48_0 : VS L48_0.eq_1 := rfl
def L48_1 : List AStep := [⟨.mov (.t 12), (some 2), none, []⟩]
theorem v48_1 : VS L48_1.eq_1 := rfl
def L48_2 : List AStep := ⟨.call 83 [(.t 10), (.c (.int .i64 4))], (some 11), (some (9, true)), []⟩ :: ⟨.pick (.t 9) (.t 11) (.c (.bool false)), (some 12), none, []⟩ :: L48_1
theorem v48_2 : VS L48_2.eq_1 := rfl
def L48_3 : List AStep := ⟨.mov (.t 8), (some 9), none, []⟩ :: ⟨.load 1 true (.t 1), (some 10), (some (9, true)), []⟩ :: L48_2
theorem v48_3 : VS L48_3.eq_1 := rfl
def L48_4 : List AStep := ⟨.call 83 [(.t 6), (.c (.int .i64 2))], (some 7), (some (5, true)), []⟩ :: ⟨.pick (.t 5) (.t 7) (.c (.bool false)), (some 8), none, []⟩ :: L48_3
theorem v48_4 : VS L48_4.eq_1 := rfl
def L48_5 : List AStep := ⟨.mov (.t 4), (some 5), none, []⟩ :: ⟨.load 1 true (.t 1), (some 6), (some (5, true)), []⟩ :: L48_4
theorem v48_5 : VS L48_5.eq_1 := rfl
def L48_6 : List AStep := ⟨.load 1 true (.t 1), (some 3), none, []⟩ :: ⟨.call 31 [(.t 3)], (some 4), none, []⟩ :: L48_5
theorem v48_6 : VS L48_6.eq_1 := rfl
def C48_0 : ACode := .seq (.reg L48_6) .ret
theorem u48_0 : VC C48_0.eq_1 := rfl
def C48_1 : ACode := .seq (.reg L48_0) C48_0
theorem u48_1 : VC C48_1.eq_1 := rfl
def F48 : AFunc := ⟨13, [.tmp 2], C48_1⟩
theorem cF48 : compB Try.prog 48 = some F48 := by kernel_rfl
attribute [local go_sem ↓] u48_0 u48_1 v48_0 v48_1 v48_2 v48_3 v48_4 v48_5 v48_6
theorem c_IsWrapper (l : List Param) (q : CV) (h : H) (hl : SlG h q l) (m : miniG l) : bm Try.prog 48 [.agg [q]] h = some (ib (isWrap l), h) := by
  refine bm_eq cF48 ?_
  have e1 := c_ValidSignature l q h hl.out m.sm
  have e2 : bm Try.prog 83 [.agg [q], .one (.int .i64 2)] h = some (ib (hasRest l), h) := c_has l q 2 h hl.out m.sm
  have e3 : bm Try.prog 83 [.agg [q], .one (.int .i64 4)] h = some (ib (hasMap l), h) := c_has l q 4 h hl.out m.sm
  unfold isWrap
  cases b1 : okSig l with
  | false =>
    rw [b1] at e1
    simp +contextual (maxSteps := 2000000) only [go_sem, Nat.reduceEqDiff, reduceCtorEq, Nat.reduceAdd, Nat.reduceLeDiff, F48, e1, Bool.false_and]
  | true =>
  rw [b1] at e1
  cases b2 : hasRest l with
  | false =>
    rw [b2] at e2
    simp +contextual (maxSteps := 2000000) only [go_sem, Nat.reduceEqDiff, reduceCtorEq, Nat.reduceAdd, Nat.reduceLeDiff, F48, e1, e2, Bool.true_and, Bool.false_and]
  | true =>
    rw [b2] at e2
    simp +contextual (maxSteps := 2000000) only [go_sem, Nat.reduceEqDiff, reduceCtorEq, Nat.reduceAdd, Nat.reduceLeDiff, F48, e1, e2, e3, Bool.true_and]
/-! impl.PassedFlat -/
def L43_0 : List AStep := [⟨.alloc 29 [(.sl none 0 (some 0)), (.sl none 0 (some 0))], (some 4), none, []⟩, ⟨.mov (.c (.bool false)), (some 5), none, []⟩]
theorem v43_0 : VS L43_0.eq_1 := rfl
def L43_1 : List AStep := ⟨.box 25 (.t 0), (some 2), none, []⟩ :: ⟨.box 29 (.t 1), (some 3), none, []⟩ :: L43_0
theorem v43_1 : VS L43_1.eq_1 := rfl
def L43_2 : List AStep := [⟨.mov (.t 16), (some 7), none, []⟩]
theorem v43_2 : VS L43_2.eq_1 := rfl
def L43_3 : List AStep := ⟨.alloc 56 [(.sl none 0 (some 0))], (some 6), none, []⟩ :: ⟨.store 1 (.t 6) (.t 15), none, none, []⟩ :: L43_2
theorem v43_3 : VS L43_3.eq_1 := rfl
def L43_4 : List AStep := ⟨.extract (.t 11) 0, (some 15), none, []⟩ :: ⟨.extract (.t 11) 1, (some 16), none, []⟩ :: L43_3
theorem v43_4 : VS L43_4.eq_1 := rfl
def L43_5 : List AStep := ⟨.call 33 [(.t 12), (.t 13)], (some 14), none, []⟩ :: ⟨.mov (.t 14), (some 11), none, []⟩ :: L43_4
theorem v43_5 : VS L43_5.eq_1 := rfl
def L43_6 : List AStep := ⟨.load 1 true (.t 2), (some 12), none, []⟩ :: ⟨.load 2 true (.t 3), (some 13), none, []⟩ :: L43_5
theorem v43_6 : VS L43_6.eq_1 := rfl
def L43_7 : List AStep := [⟨.pick (.t 19) (.c (.bool true)) (.t 22), (some 23), none, []⟩]
theorem v43_7 : VS L43_7.eq_1 := rfl
def L43_8 : List AStep := ⟨.call 48 [(.t 20)], (some 21), (some (19, false)), []⟩ :: ⟨.not (.t 21), (some 22), (some (19, false)), []⟩ :: L43_7
theorem v43_8 : VS L43_8.eq_1 := rfl
def L43_9 : List AStep := ⟨.mov (.t 18), (some 19), none, []⟩ :: ⟨.load 1 true (.t 2), (some 20), (some (19, false)), []⟩ :: L43_8
theorem v43_9 : VS L43_9.eq_1 := rfl
def L43_10 : List AStep := ⟨.mov (.t 7), (some 17), none, []⟩ :: ⟨.not (.t 17), (some 18), none, []⟩ :: L43_9
theorem v43_10 : VS L43_10.eq_1 := rfl
def L43_11 : List AStep := [⟨.mov (.c (.bool false)), (some 5), none, []⟩]
theorem v43_11 : VS L43_11.eq_1 := rfl
def L43_12 : List AStep := ⟨.build [(.sl none 0 (some 0)), (.sl none 0 (some 0))] [], (some 24), none, []⟩ :: ⟨.store 2 (.t 4) (.t 24), none, none, []⟩ :: L43_11
theorem v43_12 : VS L43_12.eq_1 := rfl
def L43_13 : List AStep := [⟨.alloc 29 [(.sl none 0 (some 0)), (.sl none 0 (some 0))], (some 8), none, []⟩]
theorem v43_13 : VS L43_13.eq_1 := rfl
def L43_14 : List AStep := [⟨.len (.t 26), (some 27), none, []⟩, ⟨.mov (.c (.int .i64 0)), (some 28), none, []⟩]
theorem v43_14 : VS L43_14.eq_1 := rfl
def L43_15 : List AStep := ⟨.faddr 0 (.t 2), (some 25), none, []⟩ :: ⟨.load 1 false (.t 25), (some 26), none, []⟩ :: L43_14
theorem v43_15 : VS L43_15.eq_1 := rfl
def L43_16 : List AStep := [⟨.bin .lss (.t 28) (.t 27), (some 29), none, []⟩]
theorem v43_16 : VS L43_16.eq_1 := rfl
def L43_17 : List AStep := [⟨.mov (.t 30), (some 9), none, []⟩, ⟨.store 4 (.t 10) (.t 32), none, none, []⟩]
theorem v43_17 : VS L43_17.eq_1 := rfl
def L43_18 : List AStep := ⟨.load 4 true (.t 31), (some 32), none, []⟩ :: ⟨.alloc 39 [(.str (strOfNums [])), (.int .i64 0), (.bool false), (.int .i64 0)], (some 10), none, []⟩ :: L43_17
theorem v43_18 : VS L43_18.eq_1 := rfl
def L43_19 : List AStep := ⟨.mov (.t 28), (some 30), none, []⟩ :: ⟨.iaddr 4 (.t 26) (.t 28), (some 31), none, []⟩ :: L43_18
theorem v43_19 : VS L43_19.eq_1 := rfl
def L43_20 : List AStep := [⟨.faddr 1 (.t 10), (some 33), none, []⟩, ⟨.load 1 false (.t 33), (some 34), none, []⟩]
theorem v43_20 : VS L43_20.eq_1 := rfl
def L43_21 : List AStep := [⟨.bin .eql (.t 34) (.c (.int .i64 2)), (some 36), none, []⟩, ⟨.mov (.t 36), (some 35), none, []⟩]
theorem v43_21 : VS L43_21.eq_1 := rfl
def L43_22 : List AStep := [⟨.faddr 0 (.t 8), (some 43), none, []⟩, ⟨.store 1 (.t 43) (.t 42), none, none, []⟩]
theorem v43_22 : VS L43_22.eq_1 := rfl
def L43_23 : List AStep := ⟨.faddr 1 (.t 40), (some 41), none, []⟩ :: ⟨.load 1 false (.t 41), (some 42), none, []⟩ :: L43_22
theorem v43_23 : VS L43_23.eq_1 := rfl
def L43_24 : List AStep := ⟨.mov (.t 9), (some 39), none, []⟩ :: ⟨.iaddr 3 (.t 38) (.t 39), (some 40), none, []⟩ :: L43_23
theorem v43_24 : VS L43_24.eq_1 := rfl
def L43_25 : List AStep := ⟨.faddr 0 (.t 6), (some 37), none, []⟩ :: ⟨.load 1 false (.t 37), (some 38), none, []⟩ :: L43_24
theorem v43_25 : VS L43_25.eq_1 := rfl
def L43_26 : List AStep := [⟨.bin .eql (.t 34) (.c (.int .i64 4)), (some 45), none, []⟩, ⟨.mov (.t 45), (some 44), none, []⟩]
theorem v43_26 : VS L43_26.eq_1 := rfl
def L43_27 : List AStep := [⟨.faddr 1 (.t 8), (some 52), none, []⟩, ⟨.store 1 (.t 52) (.t 51), none, none, []⟩]
theorem v43_27 : VS L43_27.eq_1 := rfl
def L43_28 : List AStep := ⟨.faddr 2 (.t 49), (some 50), none, []⟩ :: ⟨.load 1 false (.t 50), (some 51), none, []⟩ :: L43_27
theorem v43_28 : VS L43_28.eq_1 := rfl
def L43_29 : List AStep := ⟨.mov (.t 9), (some 48), none, []⟩ :: ⟨.iaddr 3 (.t 47) (.t 48), (some 49), none, []⟩ :: L43_28
theorem v43_29 : VS L43_29.eq_1 := rfl
def L43_30 : List AStep := ⟨.faddr 0 (.t 6), (some 46), none, []⟩ :: ⟨.load 1 false (.t 46), (some 47), none, []⟩ :: L43_29
theorem v43_30 : VS L43_30.eq_1 := rfl
def L43_31 : List AStep := [⟨.bin .add (.t 28) (.c (.int .i64 1)), (some 53), none, []⟩, ⟨.mov (.t 53), (some 28), none, []⟩]
theorem v43_31 : VS L43_31.eq_1 := rfl
def L43_32 : List AStep := [⟨.store 2 (.t 4) (.t 55), none, none, []⟩, ⟨.mov (.c (.bool true)), (some 5), none, []⟩]
theorem v43_32 : VS L43_32.eq_1 := rfl
def L43_33 : List AStep := ⟨.load 2 true (.t 8), (some 54), none, []⟩ :: ⟨.call 61 [(.t 54)], (some 55), none, []⟩ :: L43_32
theorem v43_33 : VS L43_33.eq_1 := rfl
def C43_0 : ACode := .seq (.reg L43_12) .ret
theorem u43_0 : VC C43_0.eq_1 := rfl
def C43_1 : ACode := .cond (.t 23) C43_0 .skip
theorem u43_1 : VC C43_1.eq_1 := rfl
def C43_2 : ACode := .seq (.reg L43_10) C43_1
theorem u43_2 : VC C43_2.eq_1 := rfl
def C43_3 : ACode := .cond (.t 29) .skip (.exit 0)
theorem u43_3 : VC C43_3.eq_1 := rfl
def C43_4 : ACode := .cond (.t 44) (.reg L43_30) .skip
theorem u43_4 : VC C43_4.eq_1 := rfl
def C43_5 : ACode := .seq (.reg L43_26) C43_4
theorem u43_5 : VC C43_5.eq_1 := rfl
def C43_6 : ACode := .cond (.t 35) (.reg L43_25) C43_5
theorem u43_6 : VC C43_6.eq_1 := rfl
def C43_7 : ACode := .seq (.reg L43_21) C43_6
theorem u43_7 : VC C43_7.eq_1 := rfl
def C43_8 : ACode := .block 2 C43_7
theorem u43_8 : VC C43_8.eq_1 := rfl
def C43_9 : ACode := .seq (.reg L43_20) C43_8
theorem u43_9 : VC C43_9.eq_1 := rfl
def C43_10 : ACode := .seq (.reg L43_19) C43_9
theorem u43_10 : VC C43_10.eq_1 := rfl
def C43_11 : ACode := .block 1 C43_10
theorem u43_11 : VC C43_11.eq_1 := rfl
def C43_12 : ACode := .seq C43_11 (.reg L43_31)
theorem u43_12 : VC C43_12.eq_1 := rfl
def C43_13 : ACode := .seq C43_3 C43_12
theorem u43_13 : VC C43_13.eq_1 := rfl
def C43_14 : ACode := .seq (.reg L43_16) C43_13
theorem u43_14 : VC C43_14.eq_1 := rfl
def C43_15 : ACode := .block 0 (.loop C43_14)
theorem u43_15 : VC C43_15.eq_1 := rfl
def C43_16 : ACode := .seq (.reg L43_15) C43_15
theorem u43_16 : VC C43_16.eq_1 := rfl
def C43_17 : ACode := .seq (.reg L43_33) .ret
theorem u43_17 : VC C43_17.eq_1 := rfl
def C43_18 : ACode := .seq C43_16 C43_17
theorem u43_18 : VC C43_18.eq_1 := rfl
def C43_19 : ACode := .seq (.reg L43_13) C43_18
theorem u43_19 : VC C43_19.eq_1 := rfl
def C43_20 : ACode := .seq C43_2 C43_19
theorem u43_20 : VC C43_20.eq_1 := rfl
def C43_21 : ACode := .seq (.reg L43_6) C43_20
theorem u43_21 : VC C43_21.eq_1 := rfl
def C43_22 : ACode := .seq (.reg L43_1) C43_21
theorem u43_22 : VC C43_22.eq_1 := rfl
def F43 : AFunc := ⟨56, [.cell 4 2 true, .tmp 5], C43_22⟩
theorem cF43 : compB Try.prog 43 = some F43 := by kernel_rfl
attribute [local go_sem ↓] u43_0 u43_1 u43_2 u43_3 u43_4 u43_5 u43_6 u43_7 u43_8 u43_9 u43_10 u43_11 u43_12 u43_13 u43_14 u43_15 u43_16 u43_17 u43_18 u43_19 u43_20 u43_21 u43_22 v43_0 v43_1 v43_2 v43_3 v43_4 v43_5 v43_6 v43_7 v43_8 v43_9 v43_10 v43_11 v43_12 v43_13 v43_14 v43_15 v43_16 v43_17 v43_18 v43_19 v43_20 v43_21 v43_22 v43_23 v43_24 v43_25 v43_26 v43_27 v43_28 v43_29 v43_30 v43_31 v43_32 v43_33
theorem k_iPassedFlat (l : List Param) (f : Flat) (q p n : CV) (h : H) (hl : SlG h q l) (hf : SlF h p n f) (hn : miniG l) (hm : miniF f) :
    callK (bm Try.prog 43 [.agg [q], .agg [p, n]] h) fun r h' => Grow h h' ∧ ∃ p' n', r = .tup [.agg [p', n'], .one (.bool (passOk l f))] ∧ NwF h h' p' n' (passF l f) := by
  refine bm_of cF43 ?_
  simp +contextual (maxSteps := 2000000) only [go_sem, Nat.reduceEqDiff, reduceCtorEq, Nat.reduceAdd, Nat.reduceLeDiff, F43]
  refine wp_call (k_iBind l f q p n h hl hf hn hm) ?_
  rintro r h1 ⟨g1, v, rs, rfl, x⟩
  have wr := c_IsWrapper l q h1 (hl.grow g1) hn
  unfold passF passOk
  unfold bindF at x
  cases b2 : acceptsF l f with
  | false =>
    simp +contextual (maxSteps := 2000000) only [go_sem, Nat.reduceEqDiff, reduceCtorEq, Nat.reduceAdd, Nat.reduceLeDiff, b2, Bool.false_and, if_false]
    exact gcK_of ⟨g1, _, _, rfl, .nil⟩ (fun hs _ => ⟨Grow.refl h, _, _, rfl, .nil⟩)
  | true =>
  cases b1 : isWrap l with
  | false =>
    rw [b1] at wr
    simp +contextual (maxSteps := 2000000) only [go_sem, Nat.reduceEqDiff, reduceCtorEq, Nat.reduceAdd, Nat.reduceLeDiff, b2, wr, Bool.and_false, if_false]
    exact gcK_of ⟨g1, _, _, rfl, .nil⟩ (fun hs _ => ⟨Grow.refl h, _, _, rfl, .nil⟩)
  | true =>
  rw [b1] at wr
  rw [if_pos b2] at x
  obtain ⟨ok1, ok2⟩ := fits_ok (accepts_fits b2)
  have o := Ord.of ok1
  have k := hl.out.grow g1
  have y := x.out.rd
  have hn8 := okSig_len ok1
  simp +contextual (maxSteps := 2000000) only [go_sem, Nat.reduceEqDiff, reduceCtorEq, Nat.reduceAdd, Nat.reduceLeDiff, b2, wr, Bool.and_true, if_true, k.len]
  refine wpC_loop (fun i T L h' => h' = h1 ∧ T 4 = .lp 4 0 ∧ (L 4).2 = [.sl none 0 (some 0), .sl none 0 (some 0)] ∧ T 6 = .lp 6 0 ∧ (L 6).2 = [v] ∧ T 8 = .lp 8 0 ∧ (∃ c d, (L 8).2 = [c, d] ∧ SlI h1 (.one c) (passT l (boundS l f) i).pl ∧ SlP h1 (.one d) (passT l (boundS l f) i).nl) ∧ T 26 = .v (.one q) ∧ T 27 = .v (.one (.int .i64 l.length)) ∧ T 28 = .v (.one (.int .i64 i))) l.length ?_ ?_ (Nat.zero_le _) ?_
  · rintro i T L h' hi ⟨rfl, t4, l4, t6, l6, t8, ⟨c, d, l8, s1, s2⟩, t26, t27, t28⟩
    have hsl : i < (boundS l f).length := by rw [boundS_len]; exact hi
    have hrs : i < rs.length := by rw [y.len]; exact hsl
    have ye := y.el i hrs
    rw [getY_eq hsl] at ye
    have yi : iaddrO 3 (.one v) (.one (.int .i64 i)) = some (.one (.ptr (some (elem 3 (.one v) i)))) := y.out.iaddr hrs
    have f1 := y.out.fieldO (off := 1) hrs (by omega)
    have f2 := y.out.fieldO (off := 2) hrs (by omega)
    rw [encY_1] at f1
    rw [encY_2] at f2
    by_cases k2 : l[i].kind = 2
    · rw [passT_rest o hi hsl k2]
      simp +contextual (maxSteps := 2000000) only [go_sem, Nat.reduceEqDiff, reduceCtorEq, Nat.reduceAdd, Nat.reduceLeDiff, t4, l4, t6, l6, t8, l8, t26, t27, t28, k.iaddr hi, k.whole hi, encQ, lt_true hi, decide_eq_true k2, yi, f1]
      exact ⟨⟨_, _, rfl, ye.list, s2⟩, by rw [wrap_next hi (by omega)]⟩
    by_cases k4 : l[i].kind = 4
    · rw [passT_map o hi hsl k4]
      simp +contextual (maxSteps := 2000000) only [go_sem, Nat.reduceEqDiff, reduceCtorEq, Nat.reduceAdd, Nat.reduceLeDiff, t4, l4, t6, l6, t8, l8, t26, t27, t28, k.iaddr hi, k.whole hi, encQ, lt_true hi, decide_eq_false k2, decide_eq_true k4, yi, f2]
      exact ⟨⟨_, _, rfl, s1, ye.pairs⟩, by rw [wrap_next hi (by omega)]⟩
    rw [passT_else o hi k2 k4]
    simp +contextual (maxSteps := 2000000) only [go_sem, Nat.reduceEqDiff, reduceCtorEq, Nat.reduceAdd, Nat.reduceLeDiff, t4, l4, t6, l6, t8, l8, t26, t27, t28, k.iaddr hi, k.whole hi, encQ, lt_true hi, decide_eq_false k2, decide_eq_false k4]
    exact ⟨⟨_, _, rfl, s1, s2⟩, by rw [wrap_next hi (by omega)]⟩
  · rintro T L h' ⟨rfl, t4, l4, t6, l6, t8, ⟨c, d, l8, s1, s2⟩, t26, t27, t28⟩
    have okp : okFlat (passT l (boundS l f) l.length) = true := passT_ok ok1 ok2
    simp +contextual (maxSteps := 2000000) only [go_sem, Nat.reduceEqDiff, reduceCtorEq, Nat.reduceAdd, Nat.reduceLeDiff, t4, l4, t6, l6, t8, l8, t26, t27, t28, lt_false]
    refine wp_call (c_copyOfF (passT l (boundS l f) l.length) c d _ ⟨s1, s2⟩ (miniF.of okp).sm) ?_
    rintro r h5 ⟨g5, p', n', rfl, x5⟩
    have x6 := x5.from g1.n
    simp +contextual (maxSteps := 2000000) only [go_sem, Nat.reduceEqDiff, reduceCtorEq, Nat.reduceAdd, Nat.reduceLeDiff, t4, l4]
    exact gcK_of ⟨g1.trans g5, _, _, rfl, x6⟩ (fun hs _ => ⟨Grow.refl h, _, _, rfl, x6.scalar (by simpa [AV.scalar, AV.scalars, CV.scalar] using hs) h⟩)
  · rw [passT_zero]
    simp +contextual (maxSteps := 2000000) only [go_sem, Nat.reduceEqDiff, reduceCtorEq, Nat.reduceAdd, Nat.reduceLeDiff]
    exact ⟨⟨_, _, rfl, Sl.nil lenI, Sl.nil lenP⟩, rfl⟩
theorem wrapAcc_of {l m : List Param} {f : Flat} (h : passOk l f = true) : acceptsF m (passF l f) = (okSig m && (wrong m (passF l f)).isEmpty) := by
  obtain ⟨ok1, ok2⟩ := pass_fits h
  have okp : okFlat (passF l f) = true := by unfold passF; rw [if_pos h]; exact passT_ok ok1 ok2
  unfold acceptsF fits
  rw [okp, Bool.and_true]
/-! impl.AcceptsWrapped -/
def L41_0 : List AStep := [⟨.box 29 (.t 2), (some 5), none, []⟩, ⟨.mov (.c (.bool false)), (some 6), none, []⟩]
theorem v41_0 : VS L41_0.eq_1 := rfl
def L41_1 : List AStep := ⟨.box 25 (.t 0), (some 3), none, []⟩ :: ⟨.box 25 (.t 1), (some 4), none, []⟩ :: L41_0
theorem v41_1 : VS L41_1.eq_1 := rfl
def L41_2 : List AStep := [⟨.mov (.t 14), (some 8), none, []⟩]
theorem v41_2 : VS L41_2.eq_1 := rfl
def L41_3 : List AStep := ⟨.alloc 29 [(.sl none 0 (some 0)), (.sl none 0 (some 0))], (some 7), none, []⟩ :: ⟨.store 2 (.t 7) (.t 13), none, none, []⟩ :: L41_2
theorem v41_3 : VS L41_3.eq_1 := rfl
def L41_4 : List AStep := ⟨.extract (.t 9) 0, (some 13), none, []⟩ :: ⟨.extract (.t 9) 1, (some 14), none, []⟩ :: L41_3
theorem v41_4 : VS L41_4.eq_1 := rfl
def L41_5 : List AStep := ⟨.call 43 [(.t 10), (.t 11)], (some 12), none, []⟩ :: ⟨.mov (.t 12), (some 9), none, []⟩ :: L41_4
theorem v41_5 : VS L41_5.eq_1 := rfl
def L41_6 : List AStep := ⟨.load 1 true (.t 3), (some 10), none, []⟩ :: ⟨.load 2 true (.t 5), (some 11), none, []⟩ :: L41_5
theorem v41_6 : VS L41_6.eq_1 := rfl
def L41_7 : List AStep := [⟨.mov (.t 20), (some 6), none, []⟩]
theorem v41_7 : VS L41_7.eq_1 := rfl
def L41_8 : List AStep := ⟨.call 18 [(.t 17), (.t 18)], (some 19), (some (16, true)), []⟩ :: ⟨.pick (.t 16) (.t 19) (.c (.bool false)), (some 20), none, []⟩ :: L41_7
theorem v41_8 : VS L41_8.eq_1 := rfl
def L41_9 : List AStep := ⟨.load 1 true (.t 4), (some 17), (some (16, true)), []⟩ :: ⟨.load 2 true (.t 7), (some 18), (some (16, true)), []⟩ :: L41_8
theorem v41_9 : VS L41_9.eq_1 := rfl
def L41_10 : List AStep := ⟨.mov (.t 8), (some 15), none, []⟩ :: ⟨.mov (.t 15), (some 16), none, []⟩ :: L41_9
theorem v41_10 : VS L41_10.eq_1 := rfl
def C41_0 : ACode := .seq (.reg L41_10) .ret
theorem u41_0 : VC C41_0.eq_1 := rfl
def C41_1 : ACode := .seq (.reg L41_6) C41_0
theorem u41_1 : VC C41_1.eq_1 := rfl
def C41_2 : ACode := .seq (.reg L41_1) C41_1
theorem u41_2 : VC C41_2.eq_1 := rfl
def F41 : AFunc := ⟨21, [.tmp 6], C41_2⟩
theorem cF41 : compB Try.prog 41 = some F41 := by kernel_rfl
attribute [local go_sem ↓] u41_0 u41_1 u41_2 v41_0 v41_1 v41_2 v41_3 v41_4 v41_5 v41_6 v41_7 v41_8 v41_9 v41_10
theorem k_iAcceptsWrapped (l m : List Param) (f : Flat) (q q2 p n : CV) (h : H) (hl : SlG h q l) (hi : SlG h q2 m) (hf : SlF h p n f) (hn : miniG l) (hn2 : miniG m) (hm : miniF f) : bm Try.prog 41 [.agg [q], .agg [q2], .agg [p, n]] h = some (ib (wrapAcc l m f), h) := by
  refine bm_eq cF41 ?_
  simp +contextual (maxSteps := 2000000) only [go_sem, Nat.reduceEqDiff, reduceCtorEq, Nat.reduceAdd, Nat.reduceLeDiff, F41]
  refine wp_call (k_iPassedFlat l f q p n h hl hf hn hm) ?_
  rintro r h1 ⟨g1, p', n', rfl, x⟩
  unfold wrapAcc
  cases b1 : passOk l f with
  | false =>
    simp +contextual (maxSteps := 2000000) only [go_sem, Nat.reduceEqDiff, reduceCtorEq, Nat.reduceAdd, Nat.reduceLeDiff, Bool.false_and]
    exact gcR_of g1 rfl ⟨rfl, rfl⟩
  | true =>
    simp +contextual (maxSteps := 2000000) only [go_sem, Nat.reduceEqDiff, reduceCtorEq, Nat.reduceAdd, Nat.reduceLeDiff, Bool.true_and, k_iAccepts m (passF l f) q2 p' n' h1 (hi.grow g1) x.sl hn2 .pass]
    exact gcR_of g1 rfl ⟨rfl, rfl⟩
end Go.Proofs.Ytekkimfdcbgcoab.Am
