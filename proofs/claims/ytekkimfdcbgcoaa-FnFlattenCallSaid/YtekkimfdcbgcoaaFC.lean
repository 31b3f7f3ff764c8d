/- Contracts: calls that are made flat, of both sides. -/
import Derived.Test.YtekkimfdcbgcoaaA1
import Derived.Test.YtekkimfdcbgcoaaA3
import Derived.Test.YtekkimfdcbgcoaaB1
import Derived.Test.YtekkimfdcbgcoaaDN
import Derived.Test.YtekkimfdcbgcoaaFD
import Derived.Test.YtekkimfdcbgcoaaBY
namespace Go.Proofs.Ytekkimfdcbgcoaa.Am
open Go
set_option maxRecDepth 100000
set_option maxHeartbeats 4000000
set_option linter.unusedSimpArgs false
set_option linter.unusedVariables false
attribute [local go_sem ↓] bv_t bv_c ev_t ev_c put_same put_ne put_none kill_at pro_at lb_same lb_ne start_zero start_succ wpC_seq wpC_reg wpC_cond wpC_block wpC_skip wpC_exit wpC_ret thenQ_normal thenQ_exit thenQ_ret inBlk_normal inBlk_exit inBlk_ret wpS_nil wpS_step wpS_again wpS_guard wpO_mov wpO_load wpO_faddr wpO_nilCheck wpO_pick wpO_build wpO_bin wpO_eqb wpO_eqst wpO_eqnil wpO_not wpO_conv wpO_bytesStr wpO_iaddr wpO_idxStr wpO_field wpO_extract wpO_len wpO_lenStr wpO_cap wpO_min wpO_slice wpO_sliceStr wpO_alloc wpO_box wpO_store wpO_call wpO_callv wpO_mkfn wpO_buildSlice wpO_mkslice wpO_append wpO_appz proA_nil proA_cons tmpX_nil tmpX_tmp tmpX_cell doneB_normal doneB_ret agK_cons agK_nil agK_guard agG_tt agG_ff agG_tf agG_ft agG_undef pureB_load results_one results_two results_nil resBs_cons resBs_nil resB_tmp resB_cell
attribute [local go_sem] kill_v kill_lp_ne kill_lp_same pro_v pro_lp_same pro_lp_ne av_v av_lp optB_some optX_some valX_eq ldX_lp ldX_v faX_lp faX_v ncX_lp ncX_ptr ncX_fn boxK_one boxK_agg stL_some stK_lp_one stK_lp_agg stK_v_one stK_v_agg proM_v proM_lp callG_mk callVG_mk callvK_fn fnG_mk ptrsA_nil ptrsA_cons callH_some whenA_true whenA_false guardH_tt guardH_ff guardH_tf guardH_ft guardH_undef agV_one agV_agg lenO_sl lenStrO_str notO_bool pickO_bool convO_int eqbO_bool eqnilO_sl extractO_tup capO_sl minO_int loadL_one loadL_all storeL_eq fillA_nil fillA_one fillA_agg nat_ge neg_ge nat_lt neg_lt buildO bin_add bin_sub bin_mul bin_eql bin_neq bin_lss bin_leq bin_gtr bin_geq str_eql str_neq str_lss str_leq str_gtr str_geq retK_some endK_mk gcK_same gcK_int gcK_bool tupO_one tupO_agg rdy_self ib ii Option.map_none Option.map_some Option.some.injEq exists_eq_left' exists_eq_left ne_eq not_false_eq_true if_true if_false List.map_cons List.map_nil List.getElem?_cons_zero List.getElem?_cons_succ List.length_cons List.length_nil List.take_succ_cons List.take_zero List.take_nil List.drop_succ_cons List.drop_zero List.drop_nil List.cons_append List.nil_append List.append_nil List.set_cons_zero List.set_cons_succ Nat.zero_add forall_const true_and and_true and_self Bool.false_eq_true false_implies true_implies implies_true Bool.not_true Bool.not_false Bool.not_eq_true' Bool.not_eq_false' beq_self_eq_true Bool.bne_true Bool.bne_false
attribute [local go_sem] lenI lenS lenP lenQ lenB lenL lenT encI_0 encS_0 encP_0 encP_1 encQ_0 encQ_1 encQ_2 encQ_3 encB_0 encB_1 encL_0 encL_1 encT_0 encT_1
attribute [local go_sem low] whenA_bool guardH_bool
attribute [local go_sem] lenC encC_0 encC_1 encC_2 encC_3
attribute [local go_sem] Bool.and_true Bool.true_and Bool.and_false Bool.false_and
theorem Pair.smP {l : List Pair} (h : l.length ≤ 1048576) (k : ∀ x ∈ l, x.name.size ≤ 1048576) : smP l := ⟨Nat.le_trans h (by decide), fun x hx => Nat.le_trans (k x hx) (by decide)⟩
/-! spec.validArg -/
def L133_0 : List AStep := [⟨.box 64 (.t 0), (some 1), none, []⟩, ⟨.mov (.c (.bool false)), (some 2), none, []⟩]
theorem v133_0 : VS L133_0.eq_1 := rfl
def L133_1 : List AStep := [⟨.faddr 0 (.t 1), (some 3), none, []⟩, ⟨.load 1 false (.t 3), (some 4), none, []⟩]
theorem v133_1 : VS L133_1.eq_1 := rfl
def L133_2 : List AStep := [⟨.bin .eql (.t 4) (.c (.int .i64 0)), (some 6), none, []⟩, ⟨.mov (.t 6), (some 5), none, []⟩]
theorem v133_2 : VS L133_2.eq_1 := rfl
def L133_3 : List AStep := [⟨.mov (.t 26), (some 2), none, []⟩]
theorem v133_3 : VS L133_3.eq_1 := rfl
def L133_4 : List AStep := ⟨.bin .eql (.t 24) (.c (.int .i64 0)), (some 25), (some (21, true)), []⟩ :: ⟨.pick (.t 21) (.t 25) (.c (.bool false)), (some 26), none, []⟩ :: L133_3
theorem v133_4 : VS L133_4.eq_1 := rfl
def L133_5 : List AStep := ⟨.load 1 false (.t 22), (some 23), (some (21, true)), []⟩ :: ⟨.len (.t 23), (some 24), (some (21, true)), []⟩ :: L133_4
theorem v133_5 : VS L133_5.eq_1 := rfl
def L133_6 : List AStep := ⟨.mov (.t 20), (some 21), none, []⟩ :: ⟨.faddr 3 (.t 1), (some 22), (some (21, true)), []⟩ :: L133_5
theorem v133_6 : VS L133_6.eq_1 := rfl
def L133_7 : List AStep := ⟨.call 115 [(.t 18)], (some 19), (some (16, true)), []⟩ :: ⟨.pick (.t 16) (.t 19) (.c (.bool false)), (some 20), none, []⟩ :: L133_6
theorem v133_7 : VS L133_7.eq_1 := rfl
def L133_8 : List AStep := ⟨.faddr 2 (.t 1), (some 17), (some (16, true)), []⟩ :: ⟨.load 1 false (.t 17), (some 18), (some (16, true)), []⟩ :: L133_7
theorem v133_8 : VS L133_8.eq_1 := rfl
def L133_9 : List AStep := ⟨.pick (.t 10) (.t 14) (.c (.bool false)), (some 15), none, []⟩ :: ⟨.mov (.t 15), (some 16), none, []⟩ :: L133_8
theorem v133_9 : VS L133_9.eq_1 := rfl
def L133_10 : List AStep := ⟨.len (.t 12), (some 13), (some (10, true)), []⟩ :: ⟨.bin .eql (.t 13) (.c (.int .i64 1)), (some 14), (some (10, true)), []⟩ :: L133_9
theorem v133_10 : VS L133_10.eq_1 := rfl
def L133_11 : List AStep := ⟨.faddr 2 (.t 1), (some 11), (some (10, true)), []⟩ :: ⟨.load 1 false (.t 11), (some 12), (some (10, true)), []⟩ :: L133_10
theorem v133_11 : VS L133_11.eq_1 := rfl
def L133_12 : List AStep := ⟨.bin .eql (.t 8) (.c (.str (strOfNums []))), (some 9), none, []⟩ :: ⟨.mov (.t 9), (some 10), none, []⟩ :: L133_11
theorem v133_12 : VS L133_12.eq_1 := rfl
def L133_13 : List AStep := ⟨.faddr 1 (.t 1), (some 7), none, []⟩ :: ⟨.load 1 false (.t 7), (some 8), none, []⟩ :: L133_12
theorem v133_13 : VS L133_13.eq_1 := rfl
def L133_14 : List AStep := [⟨.bin .eql (.t 4) (.c (.int .i64 1)), (some 28), none, []⟩, ⟨.mov (.t 28), (some 27), none, []⟩]
theorem v133_14 : VS L133_14.eq_1 := rfl
def L133_15 : List AStep := [⟨.mov (.t 48), (some 2), none, []⟩]
theorem v133_15 : VS L133_15.eq_1 := rfl
def L133_16 : List AStep := ⟨.bin .eql (.t 46) (.c (.int .i64 0)), (some 47), (some (43, true)), []⟩ :: ⟨.pick (.t 43) (.t 47) (.c (.bool false)), (some 48), none, []⟩ :: L133_15
theorem v133_16 : VS L133_16.eq_1 := rfl
def L133_17 : List AStep := ⟨.load 1 false (.t 44), (some 45), (some (43, true)), []⟩ :: ⟨.len (.t 45), (some 46), (some (43, true)), []⟩ :: L133_16
theorem v133_17 : VS L133_17.eq_1 := rfl
def L133_18 : List AStep := ⟨.mov (.t 42), (some 43), none, []⟩ :: ⟨.faddr 3 (.t 1), (some 44), (some (43, true)), []⟩ :: L133_17
theorem v133_18 : VS L133_18.eq_1 := rfl
def L133_19 : List AStep := ⟨.call 115 [(.t 40)], (some 41), (some (38, true)), []⟩ :: ⟨.pick (.t 38) (.t 41) (.c (.bool false)), (some 42), none, []⟩ :: L133_18
theorem v133_19 : VS L133_19.eq_1 := rfl
def L133_20 : List AStep := ⟨.faddr 2 (.t 1), (some 39), (some (38, true)), []⟩ :: ⟨.load 1 false (.t 39), (some 40), (some (38, true)), []⟩ :: L133_19
theorem v133_20 : VS L133_20.eq_1 := rfl
def L133_21 : List AStep := ⟨.pick (.t 32) (.t 36) (.c (.bool false)), (some 37), none, []⟩ :: ⟨.mov (.t 37), (some 38), none, []⟩ :: L133_20
theorem v133_21 : VS L133_21.eq_1 := rfl
def L133_22 : List AStep := ⟨.len (.t 34), (some 35), (some (32, true)), []⟩ :: ⟨.bin .leq (.t 35) (.c (.int .i64 8)), (some 36), (some (32, true)), []⟩ :: L133_21
theorem v133_22 : VS L133_22.eq_1 := rfl
def L133_23 : List AStep := ⟨.faddr 2 (.t 1), (some 33), (some (32, true)), []⟩ :: ⟨.load 1 false (.t 33), (some 34), (some (32, true)), []⟩ :: L133_22
theorem v133_23 : VS L133_23.eq_1 := rfl
def L133_24 : List AStep := ⟨.bin .eql (.t 30) (.c (.str (strOfNums []))), (some 31), none, []⟩ :: ⟨.mov (.t 31), (some 32), none, []⟩ :: L133_23
theorem v133_24 : VS L133_24.eq_1 := rfl
def L133_25 : List AStep := ⟨.faddr 1 (.t 1), (some 29), none, []⟩ :: ⟨.load 1 false (.t 29), (some 30), none, []⟩ :: L133_24
theorem v133_25 : VS L133_25.eq_1 := rfl
def L133_26 : List AStep := [⟨.bin .eql (.t 4) (.c (.int .i64 2)), (some 50), none, []⟩, ⟨.mov (.t 50), (some 49), none, []⟩]
theorem v133_26 : VS L133_26.eq_1 := rfl
def L133_27 : List AStep := [⟨.mov (.t 70), (some 2), none, []⟩]
theorem v133_27 : VS L133_27.eq_1 := rfl
def L133_28 : List AStep := ⟨.bin .eql (.t 68) (.c (.int .i64 0)), (some 69), (some (65, true)), []⟩ :: ⟨.pick (.t 65) (.t 69) (.c (.bool false)), (some 70), none, []⟩ :: L133_27
theorem v133_28 : VS L133_28.eq_1 := rfl
def L133_29 : List AStep := ⟨.load 1 false (.t 66), (some 67), (some (65, true)), []⟩ :: ⟨.len (.t 67), (some 68), (some (65, true)), []⟩ :: L133_28
theorem v133_29 : VS L133_29.eq_1 := rfl
def L133_30 : List AStep := ⟨.mov (.t 64), (some 65), none, []⟩ :: ⟨.faddr 3 (.t 1), (some 66), (some (65, true)), []⟩ :: L133_29
theorem v133_30 : VS L133_30.eq_1 := rfl
def L133_31 : List AStep := ⟨.call 115 [(.t 62)], (some 63), (some (60, true)), []⟩ :: ⟨.pick (.t 60) (.t 63) (.c (.bool false)), (some 64), none, []⟩ :: L133_30
theorem v133_31 : VS L133_31.eq_1 := rfl
def L133_32 : List AStep := ⟨.faddr 2 (.t 1), (some 61), (some (60, true)), []⟩ :: ⟨.load 1 false (.t 61), (some 62), (some (60, true)), []⟩ :: L133_31
theorem v133_32 : VS L133_32.eq_1 := rfl
def L133_33 : List AStep := ⟨.pick (.t 54) (.t 58) (.c (.bool false)), (some 59), none, []⟩ :: ⟨.mov (.t 59), (some 60), none, []⟩ :: L133_32
theorem v133_33 : VS L133_33.eq_1 := rfl
def L133_34 : List AStep := ⟨.len (.t 56), (some 57), (some (54, true)), []⟩ :: ⟨.bin .eql (.t 57) (.c (.int .i64 1)), (some 58), (some (54, true)), []⟩ :: L133_33
theorem v133_34 : VS L133_34.eq_1 := rfl
def L133_35 : List AStep := ⟨.faddr 2 (.t 1), (some 55), (some (54, true)), []⟩ :: ⟨.load 1 false (.t 55), (some 56), (some (54, true)), []⟩ :: L133_34
theorem v133_35 : VS L133_35.eq_1 := rfl
def L133_36 : List AStep := ⟨.call 112 [(.t 52)], (some 53), none, []⟩ :: ⟨.mov (.t 53), (some 54), none, []⟩ :: L133_35
theorem v133_36 : VS L133_36.eq_1 := rfl
def L133_37 : List AStep := ⟨.faddr 1 (.t 1), (some 51), none, []⟩ :: ⟨.load 1 false (.t 51), (some 52), none, []⟩ :: L133_36
theorem v133_37 : VS L133_37.eq_1 := rfl
def L133_38 : List AStep := [⟨.bin .eql (.t 4) (.c (.int .i64 3)), (some 72), none, []⟩, ⟨.mov (.t 72), (some 71), none, []⟩]
theorem v133_38 : VS L133_38.eq_1 := rfl
def L133_39 : List AStep := [⟨.mov (.t 92), (some 2), none, []⟩]
theorem v133_39 : VS L133_39.eq_1 := rfl
def L133_40 : List AStep := ⟨.call 116 [(.t 90)], (some 91), (some (88, true)), []⟩ :: ⟨.pick (.t 88) (.t 91) (.c (.bool false)), (some 92), none, []⟩ :: L133_39
theorem v133_40 : VS L133_40.eq_1 := rfl
def L133_41 : List AStep := ⟨.faddr 3 (.t 1), (some 89), (some (88, true)), []⟩ :: ⟨.load 1 false (.t 89), (some 90), (some (88, true)), []⟩ :: L133_40
theorem v133_41 : VS L133_41.eq_1 := rfl
def L133_42 : List AStep := ⟨.pick (.t 82) (.t 86) (.c (.bool false)), (some 87), none, []⟩ :: ⟨.mov (.t 87), (some 88), none, []⟩ :: L133_41
theorem v133_42 : VS L133_42.eq_1 := rfl
def L133_43 : List AStep := ⟨.len (.t 84), (some 85), (some (82, true)), []⟩ :: ⟨.bin .leq (.t 85) (.c (.int .i64 8)), (some 86), (some (82, true)), []⟩ :: L133_42
theorem v133_43 : VS L133_43.eq_1 := rfl
def L133_44 : List AStep := ⟨.faddr 3 (.t 1), (some 83), (some (82, true)), []⟩ :: ⟨.load 1 false (.t 83), (some 84), (some (82, true)), []⟩ :: L133_43
theorem v133_44 : VS L133_44.eq_1 := rfl
def L133_45 : List AStep := ⟨.pick (.t 76) (.t 80) (.c (.bool false)), (some 81), none, []⟩ :: ⟨.mov (.t 81), (some 82), none, []⟩ :: L133_44
theorem v133_45 : VS L133_45.eq_1 := rfl
def L133_46 : List AStep := ⟨.len (.t 78), (some 79), (some (76, true)), []⟩ :: ⟨.bin .eql (.t 79) (.c (.int .i64 0)), (some 80), (some (76, true)), []⟩ :: L133_45
theorem v133_46 : VS L133_46.eq_1 := rfl
def L133_47 : List AStep := ⟨.faddr 2 (.t 1), (some 77), (some (76, true)), []⟩ :: ⟨.load 1 false (.t 77), (some 78), (some (76, true)), []⟩ :: L133_46
theorem v133_47 : VS L133_47.eq_1 := rfl
def L133_48 : List AStep := ⟨.bin .eql (.t 74) (.c (.str (strOfNums []))), (some 75), none, []⟩ :: ⟨.mov (.t 75), (some 76), none, []⟩ :: L133_47
theorem v133_48 : VS L133_48.eq_1 := rfl
def L133_49 : List AStep := ⟨.faddr 1 (.t 1), (some 73), none, []⟩ :: ⟨.load 1 false (.t 73), (some 74), none, []⟩ :: L133_48
theorem v133_49 : VS L133_49.eq_1 := rfl
def L133_50 : List AStep := [⟨.mov (.c (.bool false)), (some 2), none, []⟩]
theorem v133_50 : VS L133_50.eq_1 := rfl
def C133_0 : ACode := .seq (.reg L133_13) .ret
theorem u133_0 : VC C133_0.eq_1 := rfl
def C133_1 : ACode := .seq (.reg L133_25) .ret
theorem u133_1 : VC C133_1.eq_1 := rfl
def C133_2 : ACode := .seq (.reg L133_37) .ret
theorem u133_2 : VC C133_2.eq_1 := rfl
def C133_3 : ACode := .seq (.reg L133_49) .ret
theorem u133_3 : VC C133_3.eq_1 := rfl
def C133_4 : ACode := .cond (.t 71) C133_3 .skip
theorem u133_4 : VC C133_4.eq_1 := rfl
def C133_5 : ACode := .seq (.reg L133_38) C133_4
theorem u133_5 : VC C133_5.eq_1 := rfl
def C133_6 : ACode := .cond (.t 49) C133_2 C133_5
theorem u133_6 : VC C133_6.eq_1 := rfl
def C133_7 : ACode := .seq (.reg L133_26) C133_6
theorem u133_7 : VC C133_7.eq_1 := rfl
def C133_8 : ACode := .cond (.t 27) C133_1 C133_7
theorem u133_8 : VC C133_8.eq_1 := rfl
def C133_9 : ACode := .seq (.reg L133_14) C133_8
theorem u133_9 : VC C133_9.eq_1 := rfl
def C133_10 : ACode := .cond (.t 5) C133_0 C133_9
theorem u133_10 : VC C133_10.eq_1 := rfl
def C133_11 : ACode := .seq (.reg L133_2) C133_10
theorem u133_11 : VC C133_11.eq_1 := rfl
def C133_12 : ACode := .block 0 C133_11
theorem u133_12 : VC C133_12.eq_1 := rfl
def C133_13 : ACode := .seq (.reg L133_1) C133_12
theorem u133_13 : VC C133_13.eq_1 := rfl
def C133_14 : ACode := .seq (.reg L133_50) .ret
theorem u133_14 : VC C133_14.eq_1 := rfl
def C133_15 : ACode := .seq C133_13 C133_14
theorem u133_15 : VC C133_15.eq_1 := rfl
def C133_16 : ACode := .seq (.reg L133_0) C133_15
theorem u133_16 : VC C133_16.eq_1 := rfl
def F133 : AFunc := ⟨93, [.tmp 2], C133_16⟩
theorem cF133 : compB Try.prog 133 = some F133 := by kernel_rfl
attribute [local go_sem ↓] u133_0 u133_1 u133_2 u133_3 u133_4 u133_5 u133_6 u133_7 u133_8 u133_9 u133_10 u133_11 u133_12 u133_13 u133_14 u133_15 u133_16 v133_0 v133_1 v133_2 v133_3 v133_4 v133_5 v133_6 v133_7 v133_8 v133_9 v133_10 v133_11 v133_12 v133_13 v133_14 v133_15 v133_16 v133_17 v133_18 v133_19 v133_20 v133_21 v133_22 v133_23 v133_24 v133_25 v133_26 v133_27 v133_28 v133_29 v133_30 v133_31 v133_32 v133_33 v133_34 v133_35 v133_36 v133_37 v133_38 v133_39 v133_40 v133_41 v133_42 v133_43 v133_44 v133_45 v133_46 v133_47 v133_48 v133_49 v133_50
theorem c_validArg (r : RArg) (a : Arg) (h : H) (y : AtC 3 53 h r a) (k0 : a.name.size ≤ 1048576) (k1 : a.list.length ≤ 1048576) (k2 : a.pairs.length ≤ 1048576) (k3 : ∀ x ∈ a.pairs, x.name.size ≤ 1048576) : bm Try.prog 133 [.agg (encC r)] h = some (ib (okArg a), h) := by
  refine bm_eq cF133 ?_
  have ek := y.kind
  have en := y.name
  have kb : a.list.length ≤ big := Nat.le_trans k1 (by decide)
  have nl := c_validNumbers a.list _ h y.list kb
  have nn := c_validName a.name h (Nat.lt_of_le_of_lt k0 (by decide))
  have np := c_validPairs a.pairs _ h y.pairs (Pair.smP k2 k3)
  unfold okArg
  by_cases q0 : a.kind = 0
  · rw [if_pos q0]
    cases b_nm : noNm a with
    | false =>
      have r_nm : decide (a.name = strOfNums []) = false := b_nm
      simp +contextual (maxSteps := 2000000) only [go_sem, Nat.reduceEqDiff, reduceCtorEq, Nat.reduceAdd, Nat.reduceLeDiff, F133, encC, ek, en, y.list.len, y.pairs.len, nl, nn, np, Bool.not_not, decide_eq_true q0, r_nm, b_nm]
    | true =>
    have r_nm : decide (a.name = strOfNums []) = true := b_nm
    cases b_l1 : len1 a.list with
    | false =>
      have r_l1 : decide ((a.list.length : Int) = 1) = false := b_l1
      simp +contextual (maxSteps := 2000000) only [go_sem, Nat.reduceEqDiff, reduceCtorEq, Nat.reduceAdd, Nat.reduceLeDiff, F133, encC, ek, en, y.list.len, y.pairs.len, nl, nn, np, Bool.not_not, decide_eq_true q0, r_nm, b_nm, r_l1, b_l1]
    | true =>
    have r_l1 : decide ((a.list.length : Int) = 1) = true := b_l1
    cases b_nums : a.list.all okNum with
    | false =>
      simp +contextual (maxSteps := 2000000) only [go_sem, Nat.reduceEqDiff, reduceCtorEq, Nat.reduceAdd, Nat.reduceLeDiff, F133, encC, ek, en, y.list.len, y.pairs.len, nl, nn, np, Bool.not_not, decide_eq_true q0, r_nm, b_nm, r_l1, b_l1, b_nums, b_nums]
    | true =>
    cases b_p0 : len0 a.pairs with
    | false =>
      have r_p0 : decide ((a.pairs.length : Int) = 0) = false := b_p0
      simp +contextual (maxSteps := 2000000) only [go_sem, Nat.reduceEqDiff, reduceCtorEq, Nat.reduceAdd, Nat.reduceLeDiff, F133, encC, ek, en, y.list.len, y.pairs.len, nl, nn, np, Bool.not_not, decide_eq_true q0, r_nm, b_nm, r_l1, b_l1, b_nums, b_nums, r_p0, b_p0]
    | true =>
    have r_p0 : decide ((a.pairs.length : Int) = 0) = true := b_p0
    simp +contextual (maxSteps := 2000000) only [go_sem, Nat.reduceEqDiff, reduceCtorEq, Nat.reduceAdd, Nat.reduceLeDiff, F133, encC, ek, en, y.list.len, y.pairs.len, nl, nn, np, Bool.not_not, decide_eq_true q0, r_nm, b_nm, r_l1, b_l1, b_nums, b_nums, r_p0, b_p0]
  by_cases q1 : a.kind = 1
  · rw [if_neg q0, if_pos q1]
    cases b_nm : noNm a with
    | false =>
      have r_nm : decide (a.name = strOfNums []) = false := b_nm
      simp +contextual (maxSteps := 2000000) only [go_sem, Nat.reduceEqDiff, reduceCtorEq, Nat.reduceAdd, Nat.reduceLeDiff, F133, encC, ek, en, y.list.len, y.pairs.len, nl, nn, np, Bool.not_not, decide_eq_false q0, decide_eq_true q1, r_nm, b_nm]
    | true =>
    have r_nm : decide (a.name = strOfNums []) = true := b_nm
    cases b_l8 : le8 a.list with
    | false =>
      have r_l8 : decide ((a.list.length : Int) ≤ 8) = false := b_l8
      simp +contextual (maxSteps := 2000000) only [go_sem, Nat.reduceEqDiff, reduceCtorEq, Nat.reduceAdd, Nat.reduceLeDiff, F133, encC, ek, en, y.list.len, y.pairs.len, nl, nn, np, Bool.not_not, decide_eq_false q0, decide_eq_true q1, r_nm, b_nm, r_l8, b_l8]
    | true =>
    have r_l8 : decide ((a.list.length : Int) ≤ 8) = true := b_l8
    cases b_nums : a.list.all okNum with
    | false =>
      simp +contextual (maxSteps := 2000000) only [go_sem, Nat.reduceEqDiff, reduceCtorEq, Nat.reduceAdd, Nat.reduceLeDiff, F133, encC, ek, en, y.list.len, y.pairs.len, nl, nn, np, Bool.not_not, decide_eq_false q0, decide_eq_true q1, r_nm, b_nm, r_l8, b_l8, b_nums, b_nums]
    | true =>
    cases b_p0 : len0 a.pairs with
    | false =>
      have r_p0 : decide ((a.pairs.length : Int) = 0) = false := b_p0
      simp +contextual (maxSteps := 2000000) only [go_sem, Nat.reduceEqDiff, reduceCtorEq, Nat.reduceAdd, Nat.reduceLeDiff, F133, encC, ek, en, y.list.len, y.pairs.len, nl, nn, np, Bool.not_not, decide_eq_false q0, decide_eq_true q1, r_nm, b_nm, r_l8, b_l8, b_nums, b_nums, r_p0, b_p0]
    | true =>
    have r_p0 : decide ((a.pairs.length : Int) = 0) = true := b_p0
    simp +contextual (maxSteps := 2000000) only [go_sem, Nat.reduceEqDiff, reduceCtorEq, Nat.reduceAdd, Nat.reduceLeDiff, F133, encC, ek, en, y.list.len, y.pairs.len, nl, nn, np, Bool.not_not, decide_eq_false q0, decide_eq_true q1, r_nm, b_nm, r_l8, b_l8, b_nums, b_nums, r_p0, b_p0]
  by_cases q2 : a.kind = 2
  · rw [if_neg q0, if_neg q1, if_pos q2]
    cases b_on : okName a.name with
    | false =>
      simp +contextual (maxSteps := 2000000) only [go_sem, Nat.reduceEqDiff, reduceCtorEq, Nat.reduceAdd, Nat.reduceLeDiff, F133, encC, ek, en, y.list.len, y.pairs.len, nl, nn, np, Bool.not_not, decide_eq_false q0, decide_eq_false q1, decide_eq_true q2, b_on, b_on]
    | true =>
    cases b_l1 : len1 a.list with
    | false =>
      have r_l1 : decide ((a.list.length : Int) = 1) = false := b_l1
      simp +contextual (maxSteps := 2000000) only [go_sem, Nat.reduceEqDiff, reduceCtorEq, Nat.reduceAdd, Nat.reduceLeDiff, F133, encC, ek, en, y.list.len, y.pairs.len, nl, nn, np, Bool.not_not, decide_eq_false q0, decide_eq_false q1, decide_eq_true q2, b_on, b_on, r_l1, b_l1]
    | true =>
    have r_l1 : decide ((a.list.length : Int) = 1) = true := b_l1
    cases b_nums : a.list.all okNum with
    | false =>
      simp +contextual (maxSteps := 2000000) only [go_sem, Nat.reduceEqDiff, reduceCtorEq, Nat.reduceAdd, Nat.reduceLeDiff, F133, encC, ek, en, y.list.len, y.pairs.len, nl, nn, np, Bool.not_not, decide_eq_false q0, decide_eq_false q1, decide_eq_true q2, b_on, b_on, r_l1, b_l1, b_nums, b_nums]
    | true =>
    cases b_p0 : len0 a.pairs with
    | false =>
      have r_p0 : decide ((a.pairs.length : Int) = 0) = false := b_p0
      simp +contextual (maxSteps := 2000000) only [go_sem, Nat.reduceEqDiff, reduceCtorEq, Nat.reduceAdd, Nat.reduceLeDiff, F133, encC, ek, en, y.list.len, y.pairs.len, nl, nn, np, Bool.not_not, decide_eq_false q0, decide_eq_false q1, decide_eq_true q2, b_on, b_on, r_l1, b_l1, b_nums, b_nums, r_p0, b_p0]
    | true =>
    have r_p0 : decide ((a.pairs.length : Int) = 0) = true := b_p0
    simp +contextual (maxSteps := 2000000) only [go_sem, Nat.reduceEqDiff, reduceCtorEq, Nat.reduceAdd, Nat.reduceLeDiff, F133, encC, ek, en, y.list.len, y.pairs.len, nl, nn, np, Bool.not_not, decide_eq_false q0, decide_eq_false q1, decide_eq_true q2, b_on, b_on, r_l1, b_l1, b_nums, b_nums, r_p0, b_p0]
  by_cases q3 : a.kind = 3
  · rw [if_neg q0, if_neg q1, if_neg q2, if_pos q3]
    cases b_nm : noNm a with
    | false =>
      have r_nm : decide (a.name = strOfNums []) = false := b_nm
      simp +contextual (maxSteps := 2000000) only [go_sem, Nat.reduceEqDiff, reduceCtorEq, Nat.reduceAdd, Nat.reduceLeDiff, F133, encC, ek, en, y.list.len, y.pairs.len, nl, nn, np, Bool.not_not, decide_eq_false q0, decide_eq_false q1, decide_eq_false q2, decide_eq_true q3, r_nm, b_nm]
    | true =>
    have r_nm : decide (a.name = strOfNums []) = true := b_nm
    cases b_l0 : len0 a.list with
    | false =>
      have r_l0 : decide ((a.list.length : Int) = 0) = false := b_l0
      simp +contextual (maxSteps := 2000000) only [go_sem, Nat.reduceEqDiff, reduceCtorEq, Nat.reduceAdd, Nat.reduceLeDiff, F133, encC, ek, en, y.list.len, y.pairs.len, nl, nn, np, Bool.not_not, decide_eq_false q0, decide_eq_false q1, decide_eq_false q2, decide_eq_true q3, r_nm, b_nm, r_l0, b_l0]
    | true =>
    have r_l0 : decide ((a.list.length : Int) = 0) = true := b_l0
    cases b_p8 : le8 a.pairs with
    | false =>
      have r_p8 : decide ((a.pairs.length : Int) ≤ 8) = false := b_p8
      simp +contextual (maxSteps := 2000000) only [go_sem, Nat.reduceEqDiff, reduceCtorEq, Nat.reduceAdd, Nat.reduceLeDiff, F133, encC, ek, en, y.list.len, y.pairs.len, nl, nn, np, Bool.not_not, decide_eq_false q0, decide_eq_false q1, decide_eq_false q2, decide_eq_true q3, r_nm, b_nm, r_l0, b_l0, r_p8, b_p8]
    | true =>
    have r_p8 : decide ((a.pairs.length : Int) ≤ 8) = true := b_p8
    cases b_prs : a.pairs.all okPair with
    | false =>
      simp +contextual (maxSteps := 2000000) only [go_sem, Nat.reduceEqDiff, reduceCtorEq, Nat.reduceAdd, Nat.reduceLeDiff, F133, encC, ek, en, y.list.len, y.pairs.len, nl, nn, np, Bool.not_not, decide_eq_false q0, decide_eq_false q1, decide_eq_false q2, decide_eq_true q3, r_nm, b_nm, r_l0, b_l0, r_p8, b_p8, b_prs, b_prs]
    | true =>
    simp +contextual (maxSteps := 2000000) only [go_sem, Nat.reduceEqDiff, reduceCtorEq, Nat.reduceAdd, Nat.reduceLeDiff, F133, encC, ek, en, y.list.len, y.pairs.len, nl, nn, np, Bool.not_not, decide_eq_false q0, decide_eq_false q1, decide_eq_false q2, decide_eq_true q3, r_nm, b_nm, r_l0, b_l0, r_p8, b_p8, b_prs, b_prs]
  rw [if_neg q0, if_neg q1, if_neg q2, if_neg q3]
  simp +contextual (maxSteps := 2000000) only [go_sem, Nat.reduceEqDiff, reduceCtorEq, Nat.reduceAdd, Nat.reduceLeDiff, F133, encC, ek, en, y.list.len, y.pairs.len, nl, nn, np, Bool.not_not, decide_eq_false q0, decide_eq_false q1, decide_eq_false q2, decide_eq_false q3]
/-! (impl.Arg).valid$1 -/
def L158_0 : List AStep := [⟨.box 53 (.t 0), (some 1), none, []⟩, ⟨.mov (.c (.bool false)), (some 2), none, []⟩]
theorem v158_0 : VS L158_0.eq_1 := rfl
def L158_1 : List AStep := [⟨.not (.t 4), (some 5), none, []⟩, ⟨.mov (.t 5), (some 2), none, []⟩]
theorem v158_1 : VS L158_1.eq_1 := rfl
def L158_2 : List AStep := ⟨.load 2 true (.t 1), (some 3), none, []⟩ :: ⟨.call 65 [(.t 3)], (some 4), none, []⟩ :: L158_1
theorem v158_2 : VS L158_2.eq_1 := rfl
def C158_0 : ACode := .seq (.reg L158_2) .ret
theorem u158_0 : VC C158_0.eq_1 := rfl
def C158_1 : ACode := .seq (.reg L158_0) C158_0
theorem u158_1 : VC C158_1.eq_1 := rfl
def F158 : AFunc := ⟨6, [.tmp 2], C158_1⟩
theorem cF158 : compB Try.prog 158 = some F158 := by kernel_rfl
attribute [local go_sem ↓] u158_0 u158_1 v158_0 v158_1 v158_2
theorem c_validArg1 (x : Pair) (h : H) (hn : x.name.size < 2 ^ 62) : bm Try.prog 158 [.agg (encP x)] h = some (ib (!(okPair x)), h) := by
  refine bm_eq cF158 ?_
  have e := c_okPair x h hn
  simp only [encP] at e
  simp +contextual (maxSteps := 2000000) only [go_sem, Nat.reduceEqDiff, reduceCtorEq, Nat.reduceAdd, Nat.reduceLeDiff, F158, e, encP]
/-! (impl.Arg).valid -/
def L132_0 : List AStep := [⟨.box 64 (.t 0), (some 1), none, []⟩, ⟨.mov (.c (.bool false)), (some 2), none, []⟩]
theorem v132_0 : VS L132_0.eq_1 := rfl
def L132_1 : List AStep := [⟨.faddr 0 (.t 1), (some 3), none, []⟩, ⟨.load 1 false (.t 3), (some 4), none, []⟩]
theorem v132_1 : VS L132_1.eq_1 := rfl
def L132_2 : List AStep := [⟨.bin .eql (.t 4) (.c (.int .i64 0)), (some 6), none, []⟩, ⟨.mov (.t 6), (some 5), none, []⟩]
theorem v132_2 : VS L132_2.eq_1 := rfl
def L132_3 : List AStep := [⟨.mov (.t 26), (some 2), none, []⟩]
theorem v132_3 : VS L132_3.eq_1 := rfl
def L132_4 : List AStep := ⟨.call 67 [(.t 24)], (some 25), (some (22, true)), []⟩ :: ⟨.pick (.t 22) (.t 25) (.c (.bool false)), (some 26), none, []⟩ :: L132_3
theorem v132_4 : VS L132_4.eq_1 := rfl
def L132_5 : List AStep := ⟨.faddr 2 (.t 1), (some 23), (some (22, true)), []⟩ :: ⟨.load 1 false (.t 23), (some 24), (some (22, true)), []⟩ :: L132_4
theorem v132_5 : VS L132_5.eq_1 := rfl
def L132_6 : List AStep := ⟨.pick (.t 16) (.t 20) (.c (.bool false)), (some 21), none, []⟩ :: ⟨.mov (.t 21), (some 22), none, []⟩ :: L132_5
theorem v132_6 : VS L132_6.eq_1 := rfl
def L132_7 : List AStep := ⟨.len (.t 18), (some 19), (some (16, true)), []⟩ :: ⟨.bin .eql (.t 19) (.c (.int .i64 0)), (some 20), (some (16, true)), []⟩ :: L132_6
theorem v132_7 : VS L132_7.eq_1 := rfl
def L132_8 : List AStep := ⟨.faddr 3 (.t 1), (some 17), (some (16, true)), []⟩ :: ⟨.load 1 false (.t 17), (some 18), (some (16, true)), []⟩ :: L132_7
theorem v132_8 : VS L132_8.eq_1 := rfl
def L132_9 : List AStep := ⟨.pick (.t 10) (.t 14) (.c (.bool false)), (some 15), none, []⟩ :: ⟨.mov (.t 15), (some 16), none, []⟩ :: L132_8
theorem v132_9 : VS L132_9.eq_1 := rfl
def L132_10 : List AStep := ⟨.len (.t 12), (some 13), (some (10, true)), []⟩ :: ⟨.bin .eql (.t 13) (.c (.int .i64 1)), (some 14), (some (10, true)), []⟩ :: L132_9
theorem v132_10 : VS L132_10.eq_1 := rfl
def L132_11 : List AStep := ⟨.faddr 2 (.t 1), (some 11), (some (10, true)), []⟩ :: ⟨.load 1 false (.t 11), (some 12), (some (10, true)), []⟩ :: L132_10
theorem v132_11 : VS L132_11.eq_1 := rfl
def L132_12 : List AStep := ⟨.bin .eql (.t 8) (.c (.str (strOfNums []))), (some 9), none, []⟩ :: ⟨.mov (.t 9), (some 10), none, []⟩ :: L132_11
theorem v132_12 : VS L132_12.eq_1 := rfl
def L132_13 : List AStep := ⟨.faddr 1 (.t 1), (some 7), none, []⟩ :: ⟨.load 1 false (.t 7), (some 8), none, []⟩ :: L132_12
theorem v132_13 : VS L132_13.eq_1 := rfl
def L132_14 : List AStep := [⟨.bin .eql (.t 4) (.c (.int .i64 1)), (some 28), none, []⟩, ⟨.mov (.t 28), (some 27), none, []⟩]
theorem v132_14 : VS L132_14.eq_1 := rfl
def L132_15 : List AStep := [⟨.mov (.t 48), (some 2), none, []⟩]
theorem v132_15 : VS L132_15.eq_1 := rfl
def L132_16 : List AStep := ⟨.call 67 [(.t 46)], (some 47), (some (44, true)), []⟩ :: ⟨.pick (.t 44) (.t 47) (.c (.bool false)), (some 48), none, []⟩ :: L132_15
theorem v132_16 : VS L132_16.eq_1 := rfl
def L132_17 : List AStep := ⟨.faddr 2 (.t 1), (some 45), (some (44, true)), []⟩ :: ⟨.load 1 false (.t 45), (some 46), (some (44, true)), []⟩ :: L132_16
theorem v132_17 : VS L132_17.eq_1 := rfl
def L132_18 : List AStep := ⟨.pick (.t 38) (.t 42) (.c (.bool false)), (some 43), none, []⟩ :: ⟨.mov (.t 43), (some 44), none, []⟩ :: L132_17
theorem v132_18 : VS L132_18.eq_1 := rfl
def L132_19 : List AStep := ⟨.len (.t 40), (some 41), (some (38, true)), []⟩ :: ⟨.bin .eql (.t 41) (.c (.int .i64 0)), (some 42), (some (38, true)), []⟩ :: L132_18
theorem v132_19 : VS L132_19.eq_1 := rfl
def L132_20 : List AStep := ⟨.faddr 3 (.t 1), (some 39), (some (38, true)), []⟩ :: ⟨.load 1 false (.t 39), (some 40), (some (38, true)), []⟩ :: L132_19
theorem v132_20 : VS L132_20.eq_1 := rfl
def L132_21 : List AStep := ⟨.pick (.t 32) (.t 36) (.c (.bool false)), (some 37), none, []⟩ :: ⟨.mov (.t 37), (some 38), none, []⟩ :: L132_20
theorem v132_21 : VS L132_21.eq_1 := rfl
def L132_22 : List AStep := ⟨.len (.t 34), (some 35), (some (32, true)), []⟩ :: ⟨.bin .leq (.t 35) (.c (.int .i64 8)), (some 36), (some (32, true)), []⟩ :: L132_21
theorem v132_22 : VS L132_22.eq_1 := rfl
def L132_23 : List AStep := ⟨.faddr 2 (.t 1), (some 33), (some (32, true)), []⟩ :: ⟨.load 1 false (.t 33), (some 34), (some (32, true)), []⟩ :: L132_22
theorem v132_23 : VS L132_23.eq_1 := rfl
def L132_24 : List AStep := ⟨.bin .eql (.t 30) (.c (.str (strOfNums []))), (some 31), none, []⟩ :: ⟨.mov (.t 31), (some 32), none, []⟩ :: L132_23
theorem v132_24 : VS L132_24.eq_1 := rfl
def L132_25 : List AStep := ⟨.faddr 1 (.t 1), (some 29), none, []⟩ :: ⟨.load 1 false (.t 29), (some 30), none, []⟩ :: L132_24
theorem v132_25 : VS L132_25.eq_1 := rfl
def L132_26 : List AStep := [⟨.bin .eql (.t 4) (.c (.int .i64 2)), (some 50), none, []⟩, ⟨.mov (.t 50), (some 49), none, []⟩]
theorem v132_26 : VS L132_26.eq_1 := rfl
def L132_27 : List AStep := [⟨.mov (.t 70), (some 2), none, []⟩]
theorem v132_27 : VS L132_27.eq_1 := rfl
def L132_28 : List AStep := ⟨.call 67 [(.t 68)], (some 69), (some (66, true)), []⟩ :: ⟨.pick (.t 66) (.t 69) (.c (.bool false)), (some 70), none, []⟩ :: L132_27
theorem v132_28 : VS L132_28.eq_1 := rfl
def L132_29 : List AStep := ⟨.faddr 2 (.t 1), (some 67), (some (66, true)), []⟩ :: ⟨.load 1 false (.t 67), (some 68), (some (66, true)), []⟩ :: L132_28
theorem v132_29 : VS L132_29.eq_1 := rfl
def L132_30 : List AStep := ⟨.pick (.t 60) (.t 64) (.c (.bool false)), (some 65), none, []⟩ :: ⟨.mov (.t 65), (some 66), none, []⟩ :: L132_29
theorem v132_30 : VS L132_30.eq_1 := rfl
def L132_31 : List AStep := ⟨.len (.t 62), (some 63), (some (60, true)), []⟩ :: ⟨.bin .eql (.t 63) (.c (.int .i64 0)), (some 64), (some (60, true)), []⟩ :: L132_30
theorem v132_31 : VS L132_31.eq_1 := rfl
def L132_32 : List AStep := ⟨.faddr 3 (.t 1), (some 61), (some (60, true)), []⟩ :: ⟨.load 1 false (.t 61), (some 62), (some (60, true)), []⟩ :: L132_31
theorem v132_32 : VS L132_32.eq_1 := rfl
def L132_33 : List AStep := ⟨.pick (.t 54) (.t 58) (.c (.bool false)), (some 59), none, []⟩ :: ⟨.mov (.t 59), (some 60), none, []⟩ :: L132_32
theorem v132_33 : VS L132_33.eq_1 := rfl
def L132_34 : List AStep := ⟨.len (.t 56), (some 57), (some (54, true)), []⟩ :: ⟨.bin .eql (.t 57) (.c (.int .i64 1)), (some 58), (some (54, true)), []⟩ :: L132_33
theorem v132_34 : VS L132_34.eq_1 := rfl
def L132_35 : List AStep := ⟨.faddr 2 (.t 1), (some 55), (some (54, true)), []⟩ :: ⟨.load 1 false (.t 55), (some 56), (some (54, true)), []⟩ :: L132_34
theorem v132_35 : VS L132_35.eq_1 := rfl
def L132_36 : List AStep := ⟨.call 61 [(.t 52)], (some 53), none, []⟩ :: ⟨.mov (.t 53), (some 54), none, []⟩ :: L132_35
theorem v132_36 : VS L132_36.eq_1 := rfl
def L132_37 : List AStep := ⟨.faddr 1 (.t 1), (some 51), none, []⟩ :: ⟨.load 1 false (.t 51), (some 52), none, []⟩ :: L132_36
theorem v132_37 : VS L132_37.eq_1 := rfl
def L132_38 : List AStep := [⟨.bin .eql (.t 4) (.c (.int .i64 3)), (some 72), none, []⟩, ⟨.mov (.t 72), (some 71), none, []⟩]
theorem v132_38 : VS L132_38.eq_1 := rfl
def L132_39 : List AStep := [⟨.pick (.t 88) (.t 92) (.c (.bool false)), (some 93), none, []⟩, ⟨.mov (.t 93), (some 2), none, []⟩]
theorem v132_39 : VS L132_39.eq_1 := rfl
def L132_40 : List AStep := ⟨.call 157 [(.t 90), (.c (.fn 158 []))], (some 91), (some (88, true)), []⟩ :: ⟨.not (.t 91), (some 92), (some (88, true)), []⟩ :: L132_39
theorem v132_40 : VS L132_40.eq_1 := rfl
def L132_41 : List AStep := ⟨.faddr 3 (.t 1), (some 89), (some (88, true)), []⟩ :: ⟨.load 1 false (.t 89), (some 90), (some (88, true)), []⟩ :: L132_40
theorem v132_41 : VS L132_41.eq_1 := rfl
def L132_42 : List AStep := ⟨.pick (.t 82) (.t 86) (.c (.bool false)), (some 87), none, []⟩ :: ⟨.mov (.t 87), (some 88), none, []⟩ :: L132_41
theorem v132_42 : VS L132_42.eq_1 := rfl
def L132_43 : List AStep := ⟨.len (.t 84), (some 85), (some (82, true)), []⟩ :: ⟨.bin .leq (.t 85) (.c (.int .i64 8)), (some 86), (some (82, true)), []⟩ :: L132_42
theorem v132_43 : VS L132_43.eq_1 := rfl
def L132_44 : List AStep := ⟨.faddr 3 (.t 1), (some 83), (some (82, true)), []⟩ :: ⟨.load 1 false (.t 83), (some 84), (some (82, true)), []⟩ :: L132_43
theorem v132_44 : VS L132_44.eq_1 := rfl
def L132_45 : List AStep := ⟨.pick (.t 76) (.t 80) (.c (.bool false)), (some 81), none, []⟩ :: ⟨.mov (.t 81), (some 82), none, []⟩ :: L132_44
theorem v132_45 : VS L132_45.eq_1 := rfl
def L132_46 : List AStep := ⟨.len (.t 78), (some 79), (some (76, true)), []⟩ :: ⟨.bin .eql (.t 79) (.c (.int .i64 0)), (some 80), (some (76, true)), []⟩ :: L132_45
theorem v132_46 : VS L132_46.eq_1 := rfl
def L132_47 : List AStep := ⟨.faddr 2 (.t 1), (some 77), (some (76, true)), []⟩ :: ⟨.load 1 false (.t 77), (some 78), (some (76, true)), []⟩ :: L132_46
theorem v132_47 : VS L132_47.eq_1 := rfl
def L132_48 : List AStep := ⟨.bin .eql (.t 74) (.c (.str (strOfNums []))), (some 75), none, []⟩ :: ⟨.mov (.t 75), (some 76), none, []⟩ :: L132_47
theorem v132_48 : VS L132_48.eq_1 := rfl
def L132_49 : List AStep := ⟨.faddr 1 (.t 1), (some 73), none, []⟩ :: ⟨.load 1 false (.t 73), (some 74), none, []⟩ :: L132_48
theorem v132_49 : VS L132_49.eq_1 := rfl
def L132_50 : List AStep := [⟨.mov (.c (.bool false)), (some 2), none, []⟩]
theorem v132_50 : VS L132_50.eq_1 := rfl
def C132_0 : ACode := .seq (.reg L132_13) .ret
theorem u132_0 : VC C132_0.eq_1 := rfl
def C132_1 : ACode := .seq (.reg L132_25) .ret
theorem u132_1 : VC C132_1.eq_1 := rfl
def C132_2 : ACode := .seq (.reg L132_37) .ret
theorem u132_2 : VC C132_2.eq_1 := rfl
def C132_3 : ACode := .seq (.reg L132_49) .ret
theorem u132_3 : VC C132_3.eq_1 := rfl
def C132_4 : ACode := .cond (.t 71) C132_3 .skip
theorem u132_4 : VC C132_4.eq_1 := rfl
def C132_5 : ACode := .seq (.reg L132_38) C132_4
theorem u132_5 : VC C132_5.eq_1 := rfl
def C132_6 : ACode := .cond (.t 49) C132_2 C132_5
theorem u132_6 : VC C132_6.eq_1 := rfl
def C132_7 : ACode := .seq (.reg L132_26) C132_6
theorem u132_7 : VC C132_7.eq_1 := rfl
def C132_8 : ACode := .cond (.t 27) C132_1 C132_7
theorem u132_8 : VC C132_8.eq_1 := rfl
def C132_9 : ACode := .seq (.reg L132_14) C132_8
theorem u132_9 : VC C132_9.eq_1 := rfl
def C132_10 : ACode := .cond (.t 5) C132_0 C132_9
theorem u132_10 : VC C132_10.eq_1 := rfl
def C132_11 : ACode := .seq (.reg L132_2) C132_10
theorem u132_11 : VC C132_11.eq_1 := rfl
def C132_12 : ACode := .block 0 C132_11
theorem u132_12 : VC C132_12.eq_1 := rfl
def C132_13 : ACode := .seq (.reg L132_1) C132_12
theorem u132_13 : VC C132_13.eq_1 := rfl
def C132_14 : ACode := .seq (.reg L132_50) .ret
theorem u132_14 : VC C132_14.eq_1 := rfl
def C132_15 : ACode := .seq C132_13 C132_14
theorem u132_15 : VC C132_15.eq_1 := rfl
def C132_16 : ACode := .seq (.reg L132_0) C132_15
theorem u132_16 : VC C132_16.eq_1 := rfl
def F132 : AFunc := ⟨94, [.tmp 2], C132_16⟩
theorem cF132 : compB Try.prog 132 = some F132 := by kernel_rfl
attribute [local go_sem ↓] u132_0 u132_1 u132_2 u132_3 u132_4 u132_5 u132_6 u132_7 u132_8 u132_9 u132_10 u132_11 u132_12 u132_13 u132_14 u132_15 u132_16 v132_0 v132_1 v132_2 v132_3 v132_4 v132_5 v132_6 v132_7 v132_8 v132_9 v132_10 v132_11 v132_12 v132_13 v132_14 v132_15 v132_16 v132_17 v132_18 v132_19 v132_20 v132_21 v132_22 v132_23 v132_24 v132_25 v132_26 v132_27 v132_28 v132_29 v132_30 v132_31 v132_32 v132_33 v132_34 v132_35 v132_36 v132_37 v132_38 v132_39 v132_40 v132_41 v132_42 v132_43 v132_44 v132_45 v132_46 v132_47 v132_48 v132_49 v132_50
theorem c_argValid (r : RArg) (a : Arg) (h : H) (y : AtC 3 53 h r a) (k0 : a.name.size ≤ 1048576) (k1 : a.list.length ≤ 1048576) (k2 : a.pairs.length ≤ 1048576) (k3 : ∀ x ∈ a.pairs, x.name.size ≤ 1048576) : bm Try.prog 132 [.agg (encC r)] h = some (ib (okArg a), h) := by
  refine bm_eq cF132 ?_
  have ek := y.kind
  have en := y.name
  have kb : a.list.length ≤ big := Nat.le_trans k1 (by decide)
  have nl := c_areValues a.list _ h y.list kb
  have nn := c_isName a.name h (Nat.lt_of_le_of_lt k0 (by decide))
  have np := c_hasP a.pairs _ 158 [] (fun p => !(okPair p)) h y.pairs (Nat.le_trans k2 (by decide)) (fun i hi x hx => c_validArg1 x h (by rw [hx]; exact Nat.lt_of_le_of_lt (k3 _ (List.getElem_mem hi)) (by decide)))
  rw [show a.pairs.any (fun p => !(okPair p)) = !(a.pairs.all okPair) by rw [← List.not_all_eq_any_not]] at np
  unfold okArg
  by_cases q0 : a.kind = 0
  · rw [if_pos q0]
    cases b_nm : noNm a with
    | false =>
      have r_nm : decide (a.name = strOfNums []) = false := b_nm
      simp +contextual (maxSteps := 2000000) only [go_sem, Nat.reduceEqDiff, reduceCtorEq, Nat.reduceAdd, Nat.reduceLeDiff, F132, encC, ek, en, y.list.len, y.pairs.len, nl, nn, np, Bool.not_not, decide_eq_true q0, r_nm, b_nm]
    | true =>
    have r_nm : decide (a.name = strOfNums []) = true := b_nm
    cases b_l1 : len1 a.list with
    | false =>
      have r_l1 : decide ((a.list.length : Int) = 1) = false := b_l1
      simp +contextual (maxSteps := 2000000) only [go_sem, Nat.reduceEqDiff, reduceCtorEq, Nat.reduceAdd, Nat.reduceLeDiff, F132, encC, ek, en, y.list.len, y.pairs.len, nl, nn, np, Bool.not_not, decide_eq_true q0, r_nm, b_nm, r_l1, b_l1]
    | true =>
    have r_l1 : decide ((a.list.length : Int) = 1) = true := b_l1
    cases b_p0 : len0 a.pairs with
    | false =>
      have r_p0 : decide ((a.pairs.length : Int) = 0) = false := b_p0
      simp +contextual (maxSteps := 2000000) only [go_sem, Nat.reduceEqDiff, reduceCtorEq, Nat.reduceAdd, Nat.reduceLeDiff, F132, encC, ek, en, y.list.len, y.pairs.len, nl, nn, np, Bool.not_not, decide_eq_true q0, r_nm, b_nm, r_l1, b_l1, r_p0, b_p0]
    | true =>
    have r_p0 : decide ((a.pairs.length : Int) = 0) = true := b_p0
    cases b_nums : a.list.all okNum with
    | false =>
      simp +contextual (maxSteps := 2000000) only [go_sem, Nat.reduceEqDiff, reduceCtorEq, Nat.reduceAdd, Nat.reduceLeDiff, F132, encC, ek, en, y.list.len, y.pairs.len, nl, nn, np, Bool.not_not, decide_eq_true q0, r_nm, b_nm, r_l1, b_l1, r_p0, b_p0, b_nums, b_nums]
    | true =>
    simp +contextual (maxSteps := 2000000) only [go_sem, Nat.reduceEqDiff, reduceCtorEq, Nat.reduceAdd, Nat.reduceLeDiff, F132, encC, ek, en, y.list.len, y.pairs.len, nl, nn, np, Bool.not_not, decide_eq_true q0, r_nm, b_nm, r_l1, b_l1, r_p0, b_p0, b_nums, b_nums]
  by_cases q1 : a.kind = 1
  · rw [if_neg q0, if_pos q1]
    cases b_nm : noNm a with
    | false =>
      have r_nm : decide (a.name = strOfNums []) = false := b_nm
      simp +contextual (maxSteps := 2000000) only [go_sem, Nat.reduceEqDiff, reduceCtorEq, Nat.reduceAdd, Nat.reduceLeDiff, F132, encC, ek, en, y.list.len, y.pairs.len, nl, nn, np, Bool.not_not, decide_eq_false q0, decide_eq_true q1, r_nm, b_nm]
    | true =>
    have r_nm : decide (a.name = strOfNums []) = true := b_nm
    cases b_l8 : le8 a.list with
    | false =>
      have r_l8 : decide ((a.list.length : Int) ≤ 8) = false := b_l8
      simp +contextual (maxSteps := 2000000) only [go_sem, Nat.reduceEqDiff, reduceCtorEq, Nat.reduceAdd, Nat.reduceLeDiff, F132, encC, ek, en, y.list.len, y.pairs.len, nl, nn, np, Bool.not_not, decide_eq_false q0, decide_eq_true q1, r_nm, b_nm, r_l8, b_l8]
    | true =>
    have r_l8 : decide ((a.list.length : Int) ≤ 8) = true := b_l8
    cases b_p0 : len0 a.pairs with
    | false =>
      have r_p0 : decide ((a.pairs.length : Int) = 0) = false := b_p0
      simp +contextual (maxSteps := 2000000) only [go_sem, Nat.reduceEqDiff, reduceCtorEq, Nat.reduceAdd, Nat.reduceLeDiff, F132, encC, ek, en, y.list.len, y.pairs.len, nl, nn, np, Bool.not_not, decide_eq_false q0, decide_eq_true q1, r_nm, b_nm, r_l8, b_l8, r_p0, b_p0]
    | true =>
    have r_p0 : decide ((a.pairs.length : Int) = 0) = true := b_p0
    cases b_nums : a.list.all okNum with
    | false =>
      simp +contextual (maxSteps := 2000000) only [go_sem, Nat.reduceEqDiff, reduceCtorEq, Nat.reduceAdd, Nat.reduceLeDiff, F132, encC, ek, en, y.list.len, y.pairs.len, nl, nn, np, Bool.not_not, decide_eq_false q0, decide_eq_true q1, r_nm, b_nm, r_l8, b_l8, r_p0, b_p0, b_nums, b_nums]
    | true =>
    simp +contextual (maxSteps := 2000000) only [go_sem, Nat.reduceEqDiff, reduceCtorEq, Nat.reduceAdd, Nat.reduceLeDiff, F132, encC, ek, en, y.list.len, y.pairs.len, nl, nn, np, Bool.not_not, decide_eq_false q0, decide_eq_true q1, r_nm, b_nm, r_l8, b_l8, r_p0, b_p0, b_nums, b_nums]
  by_cases q2 : a.kind = 2
  · rw [if_neg q0, if_neg q1, if_pos q2]
    cases b_on : okName a.name with
    | false =>
      simp +contextual (maxSteps := 2000000) only [go_sem, Nat.reduceEqDiff, reduceCtorEq, Nat.reduceAdd, Nat.reduceLeDiff, F132, encC, ek, en, y.list.len, y.pairs.len, nl, nn, np, Bool.not_not, decide_eq_false q0, decide_eq_false q1, decide_eq_true q2, b_on, b_on]
    | true =>
    cases b_l1 : len1 a.list with
    | false =>
      have r_l1 : decide ((a.list.length : Int) = 1) = false := b_l1
      simp +contextual (maxSteps := 2000000) only [go_sem, Nat.reduceEqDiff, reduceCtorEq, Nat.reduceAdd, Nat.reduceLeDiff, F132, encC, ek, en, y.list.len, y.pairs.len, nl, nn, np, Bool.not_not, decide_eq_false q0, decide_eq_false q1, decide_eq_true q2, b_on, b_on, r_l1, b_l1]
    | true =>
    have r_l1 : decide ((a.list.length : Int) = 1) = true := b_l1
    cases b_p0 : len0 a.pairs with
    | false =>
      have r_p0 : decide ((a.pairs.length : Int) = 0) = false := b_p0
      simp +contextual (maxSteps := 2000000) only [go_sem, Nat.reduceEqDiff, reduceCtorEq, Nat.reduceAdd, Nat.reduceLeDiff, F132, encC, ek, en, y.list.len, y.pairs.len, nl, nn, np, Bool.not_not, decide_eq_false q0, decide_eq_false q1, decide_eq_true q2, b_on, b_on, r_l1, b_l1, r_p0, b_p0]
    | true =>
    have r_p0 : decide ((a.pairs.length : Int) = 0) = true := b_p0
    cases b_nums : a.list.all okNum with
    | false =>
      simp +contextual (maxSteps := 2000000) only [go_sem, Nat.reduceEqDiff, reduceCtorEq, Nat.reduceAdd, Nat.reduceLeDiff, F132, encC, ek, en, y.list.len, y.pairs.len, nl, nn, np, Bool.not_not, decide_eq_false q0, decide_eq_false q1, decide_eq_true q2, b_on, b_on, r_l1, b_l1, r_p0, b_p0, b_nums, b_nums]
    | true =>
    simp +contextual (maxSteps := 2000000) only [go_sem, Nat.reduceEqDiff, reduceCtorEq, Nat.reduceAdd, Nat.reduceLeDiff, F132, encC, ek, en, y.list.len, y.pairs.len, nl, nn, np, Bool.not_not, decide_eq_false q0, decide_eq_false q1, decide_eq_true q2, b_on, b_on, r_l1, b_l1, r_p0, b_p0, b_nums, b_nums]
  by_cases q3 : a.kind = 3
  · rw [if_neg q0, if_neg q1, if_neg q2, if_pos q3]
    cases b_nm : noNm a with
    | false =>
      have r_nm : decide (a.name = strOfNums []) = false := b_nm
      simp +contextual (maxSteps := 2000000) only [go_sem, Nat.reduceEqDiff, reduceCtorEq, Nat.reduceAdd, Nat.reduceLeDiff, F132, encC, ek, en, y.list.len, y.pairs.len, nl, nn, np, Bool.not_not, decide_eq_false q0, decide_eq_false q1, decide_eq_false q2, decide_eq_true q3, r_nm, b_nm]
    | true =>
    have r_nm : decide (a.name = strOfNums []) = true := b_nm
    cases b_l0 : len0 a.list with
    | false =>
      have r_l0 : decide ((a.list.length : Int) = 0) = false := b_l0
      simp +contextual (maxSteps := 2000000) only [go_sem, Nat.reduceEqDiff, reduceCtorEq, Nat.reduceAdd, Nat.reduceLeDiff, F132, encC, ek, en, y.list.len, y.pairs.len, nl, nn, np, Bool.not_not, decide_eq_false q0, decide_eq_false q1, decide_eq_false q2, decide_eq_true q3, r_nm, b_nm, r_l0, b_l0]
    | true =>
    have r_l0 : decide ((a.list.length : Int) = 0) = true := b_l0
    cases b_p8 : le8 a.pairs with
    | false =>
      have r_p8 : decide ((a.pairs.length : Int) ≤ 8) = false := b_p8
      simp +contextual (maxSteps := 2000000) only [go_sem, Nat.reduceEqDiff, reduceCtorEq, Nat.reduceAdd, Nat.reduceLeDiff, F132, encC, ek, en, y.list.len, y.pairs.len, nl, nn, np, Bool.not_not, decide_eq_false q0, decide_eq_false q1, decide_eq_false q2, decide_eq_true q3, r_nm, b_nm, r_l0, b_l0, r_p8, b_p8]
    | true =>
    have r_p8 : decide ((a.pairs.length : Int) ≤ 8) = true := b_p8
    cases b_prs : a.pairs.all okPair with
    | false =>
      simp +contextual (maxSteps := 2000000) only [go_sem, Nat.reduceEqDiff, reduceCtorEq, Nat.reduceAdd, Nat.reduceLeDiff, F132, encC, ek, en, y.list.len, y.pairs.len, nl, nn, np, Bool.not_not, decide_eq_false q0, decide_eq_false q1, decide_eq_false q2, decide_eq_true q3, r_nm, b_nm, r_l0, b_l0, r_p8, b_p8, b_prs, b_prs]
    | true =>
    simp +contextual (maxSteps := 2000000) only [go_sem, Nat.reduceEqDiff, reduceCtorEq, Nat.reduceAdd, Nat.reduceLeDiff, F132, encC, ek, en, y.list.len, y.pairs.len, nl, nn, np, Bool.not_not, decide_eq_false q0, decide_eq_false q1, decide_eq_false q2, decide_eq_true q3, r_nm, b_nm, r_l0, b_l0, r_p8, b_p8, b_prs, b_prs]
  rw [if_neg q0, if_neg q1, if_neg q2, if_neg q3]
  simp +contextual (maxSteps := 2000000) only [go_sem, Nat.reduceEqDiff, reduceCtorEq, Nat.reduceAdd, Nat.reduceLeDiff, F132, encC, ek, en, y.list.len, y.pairs.len, nl, nn, np, Bool.not_not, decide_eq_false q0, decide_eq_false q1, decide_eq_false q2, decide_eq_false q3]
/-! spec.validCall -/
def L80_0 : List AStep := [⟨.box 58 (.t 0), (some 1), none, []⟩, ⟨.mov (.c (.bool false)), (some 2), none, []⟩]
theorem v80_0 : VS L80_0.eq_1 := rfl
def L80_1 : List AStep := [⟨.mov (.c (.int .i64 0)), (some 3), none, []⟩]
theorem v80_1 : VS L80_1.eq_1 := rfl
def L80_2 : List AStep := [⟨.bin .lss (.t 4) (.t 7), (some 8), none, []⟩]
theorem v80_2 : VS L80_2.eq_1 := rfl
def L80_3 : List AStep := ⟨.load 1 false (.t 5), (some 6), none, []⟩ :: ⟨.len (.t 6), (some 7), none, []⟩ :: L80_2
theorem v80_3 : VS L80_3.eq_1 := rfl
def L80_4 : List AStep := ⟨.mov (.t 3), (some 4), none, []⟩ :: ⟨.faddr 0 (.t 1), (some 5), none, []⟩ :: L80_3
theorem v80_4 : VS L80_4.eq_1 := rfl
def L80_5 : List AStep := [⟨.pick (.t 30) (.t 38) (.c (.bool false)), (some 39), (some (18, false)), []⟩, ⟨.pick (.t 18) (.c (.bool true)) (.t 39), (some 40), none, []⟩]
theorem v80_5 : VS L80_5.eq_1 := rfl
def L80_6 : List AStep := ⟨.load 1 false (.t 36), (some 37), (some (30, true)), []⟩ :: ⟨.bin .geq (.t 37) (.c (.int .i64 2)), (some 38), (some (30, true)), []⟩ :: L80_5
theorem v80_6 : VS L80_6.eq_1 := rfl
def L80_7 : List AStep := ⟨.iaddr 4 (.t 32) (.t 34), (some 35), (some (30, true)), []⟩ :: ⟨.faddr 0 (.t 35), (some 36), (some (30, true)), []⟩ :: L80_6
theorem v80_7 : VS L80_7.eq_1 := rfl
def L80_8 : List AStep := ⟨.mov (.t 3), (some 33), (some (30, true)), []⟩ :: ⟨.bin .sub (.t 33) (.c (.int .i64 1)), (some 34), (some (30, true)), []⟩ :: L80_7
theorem v80_8 : VS L80_8.eq_1 := rfl
def L80_9 : List AStep := ⟨.faddr 0 (.t 1), (some 31), (some (30, true)), []⟩ :: ⟨.load 1 false (.t 31), (some 32), (some (30, true)), []⟩ :: L80_8
theorem v80_9 : VS L80_9.eq_1 := rfl
def L80_10 : List AStep := ⟨.pick (.t 21) (.t 28) (.c (.bool false)), (some 29), (some (18, false)), []⟩ :: ⟨.mov (.t 29), (some 30), (some (18, false)), []⟩ :: L80_9
theorem v80_10 : VS L80_10.eq_1 := rfl
def L80_11 : List AStep := ⟨.load 1 false (.t 26), (some 27), (some (21, true)), []⟩ :: ⟨.bin .lss (.t 27) (.c (.int .i64 2)), (some 28), (some (21, true)), []⟩ :: L80_10
theorem v80_11 : VS L80_11.eq_1 := rfl
def L80_12 : List AStep := ⟨.iaddr 4 (.t 23) (.t 24), (some 25), (some (21, true)), []⟩ :: ⟨.faddr 0 (.t 25), (some 26), (some (21, true)), []⟩ :: L80_11
theorem v80_12 : VS L80_12.eq_1 := rfl
def L80_13 : List AStep := ⟨.load 1 false (.t 22), (some 23), (some (21, true)), []⟩ :: ⟨.mov (.t 3), (some 24), (some (21, true)), []⟩ :: L80_12
theorem v80_13 : VS L80_13.eq_1 := rfl
def L80_14 : List AStep := ⟨.mov (.t 20), (some 21), (some (18, false)), []⟩ :: ⟨.faddr 0 (.t 1), (some 22), (some (21, true)), []⟩ :: L80_13
theorem v80_14 : VS L80_14.eq_1 := rfl
def L80_15 : List AStep := ⟨.mov (.t 3), (some 19), (some (18, false)), []⟩ :: ⟨.bin .gtr (.t 19) (.c (.int .i64 0)), (some 20), (some (18, false)), []⟩ :: L80_14
theorem v80_15 : VS L80_15.eq_1 := rfl
def L80_16 : List AStep := ⟨.not (.t 16), (some 17), none, []⟩ :: ⟨.mov (.t 17), (some 18), none, []⟩ :: L80_15
theorem v80_16 : VS L80_16.eq_1 := rfl
def L80_17 : List AStep := ⟨.load 4 true (.t 14), (some 15), none, []⟩ :: ⟨.call 133 [(.t 15)], (some 16), none, []⟩ :: L80_16
theorem v80_17 : VS L80_17.eq_1 := rfl
def L80_18 : List AStep := ⟨.mov (.t 3), (some 13), none, []⟩ :: ⟨.iaddr 4 (.t 12) (.t 13), (some 14), none, []⟩ :: L80_17
theorem v80_18 : VS L80_18.eq_1 := rfl
def L80_19 : List AStep := ⟨.faddr 0 (.t 1), (some 11), none, []⟩ :: ⟨.load 1 false (.t 11), (some 12), none, []⟩ :: L80_18
theorem v80_19 : VS L80_19.eq_1 := rfl
def L80_20 : List AStep := [⟨.mov (.c (.bool false)), (some 2), none, []⟩]
theorem v80_20 : VS L80_20.eq_1 := rfl
def L80_21 : List AStep := [⟨.mov (.t 10), (some 3), none, []⟩]
theorem v80_21 : VS L80_21.eq_1 := rfl
def L80_22 : List AStep := ⟨.mov (.t 3), (some 9), none, []⟩ :: ⟨.bin .add (.t 9) (.c (.int .i64 1)), (some 10), none, []⟩ :: L80_21
theorem v80_22 : VS L80_22.eq_1 := rfl
def L80_23 : List AStep := [⟨.mov (.t 44), (some 2), none, []⟩]
theorem v80_23 : VS L80_23.eq_1 := rfl
def L80_24 : List AStep := ⟨.len (.t 42), (some 43), none, []⟩ :: ⟨.bin .leq (.t 43) (.c (.int .i64 16)), (some 44), none, []⟩ :: L80_23
theorem v80_24 : VS L80_24.eq_1 := rfl
def L80_25 : List AStep := ⟨.faddr 0 (.t 1), (some 41), none, []⟩ :: ⟨.load 1 false (.t 41), (some 42), none, []⟩ :: L80_24
theorem v80_25 : VS L80_25.eq_1 := rfl
def C80_0 : ACode := .cond (.t 8) .skip (.exit 0)
theorem u80_0 : VC C80_0.eq_1 := rfl
def C80_1 : ACode := .seq (.reg L80_4) C80_0
theorem u80_1 : VC C80_1.eq_1 := rfl
def C80_2 : ACode := .seq (.reg L80_20) .ret
theorem u80_2 : VC C80_2.eq_1 := rfl
def C80_3 : ACode := .cond (.t 40) C80_2 .skip
theorem u80_3 : VC C80_3.eq_1 := rfl
def C80_4 : ACode := .seq (.reg L80_19) C80_3
theorem u80_4 : VC C80_4.eq_1 := rfl
def C80_5 : ACode := .block 1 C80_4
theorem u80_5 : VC C80_5.eq_1 := rfl
def C80_6 : ACode := .seq C80_5 (.reg L80_22)
theorem u80_6 : VC C80_6.eq_1 := rfl
def C80_7 : ACode := .seq C80_1 C80_6
theorem u80_7 : VC C80_7.eq_1 := rfl
def C80_8 : ACode := .block 0 (.loop C80_7)
theorem u80_8 : VC C80_8.eq_1 := rfl
def C80_9 : ACode := .seq (.reg L80_1) C80_8
theorem u80_9 : VC C80_9.eq_1 := rfl
def C80_10 : ACode := .seq (.reg L80_25) .ret
theorem u80_10 : VC C80_10.eq_1 := rfl
def C80_11 : ACode := .seq C80_9 C80_10
theorem u80_11 : VC C80_11.eq_1 := rfl
def C80_12 : ACode := .seq (.reg L80_0) C80_11
theorem u80_12 : VC C80_12.eq_1 := rfl
def F80 : AFunc := ⟨45, [.tmp 2], C80_12⟩
theorem cF80 : compB Try.prog 80 = some F80 := by kernel_rfl
attribute [local go_sem ↓] u80_0 u80_1 u80_2 u80_3 u80_4 u80_5 u80_6 u80_7 u80_8 u80_9 u80_10 u80_11 u80_12 v80_0 v80_1 v80_2 v80_3 v80_4 v80_5 v80_6 v80_7 v80_8 v80_9 v80_10 v80_11 v80_12 v80_13 v80_14 v80_15 v80_16 v80_17 v80_18 v80_19 v80_20 v80_21 v80_22 v80_23 v80_24 v80_25
theorem c_validCall (l : List Arg) (p : CV) (h : H) (hl : SlC h p l) (m : miniC l) : bm Try.prog 80 [.agg [p]] h = some (ib (okCall l), h) := by
  refine bm_eq cF80 ?_
  obtain ⟨rs, y⟩ := hl.ex
  have hn := m.len
  have yl : lenO (.one p) = some (ii l.length) := by rw [y.out.len, y.len]
  simp +contextual (maxSteps := 2000000) only [go_sem, Nat.reduceEqDiff, reduceCtorEq, Nat.reduceAdd, Nat.reduceLeDiff, F80]
  refine wpC_loop (fun i T L h' => h' = h ∧ T 1 = .lp 1 0 ∧ (L 1).2 = [p] ∧ T 3 = .v (.one (.int .i64 i)) ∧ Upto (stepC l) i) l.length ?_ ?_ (Nat.zero_le _) ?_
  · rintro i T L h' hi ⟨rfl, t1, l1, t3, hu⟩
    have hr : i < rs.length := by rw [y.len]; exact hi
    have hm := List.getElem_mem hi
    have ye := y.el i hr
    rw [getC_eq hi] at ye
    have va := c_validArg rs[i] l[i] h' ye (m.name _ hm) (m.list _ hm) (m.pairs _ hm) (m.npairs _ hm)
    have f0 := y.out.fieldO (off := 0) hr (by omega)
    rw [encC_0, ye.kind] at f0
    cases b1 : okArg l[i] with
    | false =>
      rw [b1] at va
      have bad : okCall l = false := okCall_not hi (by cases h2 : stepC l i with | false => rfl | true => rw [stepC_ok hi h2] at b1; simp at b1)
      simp +contextual (maxSteps := 2000000) only [go_sem, Nat.reduceEqDiff, reduceCtorEq, Nat.reduceAdd, Nat.reduceLeDiff, t1, l1, t3, yl, y.out.iaddr hr, y.out.whole hr, va, lt_true hi, bad]
    | true =>
      rw [b1] at va
      cases i with
      | zero =>
        have e3 := stepC_zero hi
        have e4 : decide (((0 : Nat) : Int) > 0) = false := rfl
        simp +contextual (maxSteps := 2000000) only [go_sem, Nat.reduceEqDiff, reduceCtorEq, Nat.reduceAdd, Nat.reduceLeDiff, t1, l1, t3, yl, y.out.iaddr hr, y.out.whole hr, va, lt_true hi, e4]
        exact ⟨by rw [wrap_next hi (by omega)], hu.next (by rw [e3, b1])⟩
      | succ j =>
        have e3 := stepC_succ hi
        rw [b1, Bool.true_and] at e3
        have hj : j < l.length := by omega
        have hrj : j < rs.length := by omega
        have e4 : decide (((j + 1 : Nat) : Int) > 0) = true := decide_eq_true (by omega)
        have yj := y.el j hrj
        rw [getC_eq hj] at yj
        have f1 := y.out.fieldO (off := 0) hrj (by omega)
        rw [encC_0, yj.kind] at f1
        cases b2 : decide (l[j + 1].kind < 2) with
        | false =>
          rw [b2] at e3
          simp +contextual (maxSteps := 2000000) only [go_sem, Nat.reduceEqDiff, reduceCtorEq, Nat.reduceAdd, Nat.reduceLeDiff, t1, l1, t3, yl, y.out.iaddr hr, y.out.whole hr, va, lt_true hi, e4, f0, b2]
          exact ⟨by rw [wrap_next hi (by omega)], hu.next (by rw [e3]; rfl)⟩
        | true =>
        cases b3 : decide (l[j].kind ≥ 2) with
        | false =>
          rw [b2, b3] at e3
          simp +contextual (maxSteps := 2000000) only [go_sem, Nat.reduceEqDiff, reduceCtorEq, Nat.reduceAdd, Nat.reduceLeDiff, t1, l1, t3, yl, y.out.iaddr hr, y.out.whole hr, va, lt_true hi, e4, f0, b2, wrap_pred (show j < 2 ^ 62 by omega), y.out.iaddr hrj, f1, b3]
          exact ⟨by rw [wrap_next hi (by omega)], hu.next (by rw [e3]; rfl)⟩
        | true =>
          rw [b2, b3] at e3
          have bad : okCall l = false := okCall_not hi (by rw [e3]; rfl)
          simp +contextual (maxSteps := 2000000) only [go_sem, Nat.reduceEqDiff, reduceCtorEq, Nat.reduceAdd, Nat.reduceLeDiff, t1, l1, t3, yl, y.out.iaddr hr, y.out.whole hr, va, lt_true hi, e4, f0, b2, wrap_pred (show j < 2 ^ 62 by omega), y.out.iaddr hrj, f1, b3, bad]
  · rintro T L h' ⟨rfl, t1, l1, t3, hu⟩
    simp +contextual (maxSteps := 2000000) only [go_sem, Nat.reduceEqDiff, reduceCtorEq, Nat.reduceAdd, Nat.reduceLeDiff, t1, l1, t3, yl, lt_false, okCall_of hu]
  · simp +contextual (maxSteps := 2000000) only [go_sem, Nat.reduceEqDiff, reduceCtorEq, Nat.reduceAdd, Nat.reduceLeDiff]
    (repeat' (first | refine And.intro ?_ ?_ | intro _)) <;> first | rfl | exact Upto.zero
/-! impl.ValidCall -/
def L79_0 : List AStep := [⟨.box 58 (.t 0), (some 1), none, []⟩, ⟨.mov (.c (.bool false)), (some 2), none, []⟩]
theorem v79_0 : VS L79_0.eq_1 := rfl
def L79_1 : List AStep := [⟨.mov (.c (.bool false)), (some 3), none, []⟩]
theorem v79_1 : VS L79_1.eq_1 := rfl
def L79_2 : List AStep := [⟨.len (.t 8), (some 9), none, []⟩, ⟨.mov (.c (.int .i64 0)), (some 10), none, []⟩]
theorem v79_2 : VS L79_2.eq_1 := rfl
def L79_3 : List AStep := ⟨.faddr 0 (.t 1), (some 7), none, []⟩ :: ⟨.load 1 false (.t 7), (some 8), none, []⟩ :: L79_2
theorem v79_3 : VS L79_3.eq_1 := rfl
def L79_4 : List AStep := [⟨.bin .lss (.t 10) (.t 9), (some 11), none, []⟩]
theorem v79_4 : VS L79_4.eq_1 := rfl
def L79_5 : List AStep := [⟨.alloc 64 [(.int .i64 0), (.str (strOfNums [])), (.sl none 0 (some 0)), (.sl none 0 (some 0))], (some 5), none, []⟩, ⟨.store 4 (.t 5) (.t 13), none, none, []⟩]
theorem v79_5 : VS L79_5.eq_1 := rfl
def L79_6 : List AStep := ⟨.iaddr 4 (.t 8) (.t 10), (some 12), none, []⟩ :: ⟨.load 4 true (.t 12), (some 13), none, []⟩ :: L79_5
theorem v79_6 : VS L79_6.eq_1 := rfl
def L79_7 : List AStep := [⟨.mov (.t 21), (some 6), none, []⟩]
theorem v79_7 : VS L79_7.eq_1 := rfl
def L79_8 : List AStep := ⟨.bin .eql (.t 19) (.c (.int .i64 3)), (some 20), (some (17, false)), []⟩ :: ⟨.pick (.t 17) (.c (.bool true)) (.t 20), (some 21), none, []⟩ :: L79_7
theorem v79_8 : VS L79_8.eq_1 := rfl
def L79_9 : List AStep := ⟨.faddr 0 (.t 5), (some 18), (some (17, false)), []⟩ :: ⟨.load 1 false (.t 18), (some 19), (some (17, false)), []⟩ :: L79_8
theorem v79_9 : VS L79_9.eq_1 := rfl
def L79_10 : List AStep := ⟨.bin .eql (.t 15) (.c (.int .i64 2)), (some 16), none, []⟩ :: ⟨.mov (.t 16), (some 17), none, []⟩ :: L79_9
theorem v79_10 : VS L79_10.eq_1 := rfl
def L79_11 : List AStep := ⟨.faddr 0 (.t 5), (some 14), none, []⟩ :: ⟨.load 1 false (.t 14), (some 15), none, []⟩ :: L79_10
theorem v79_11 : VS L79_11.eq_1 := rfl
def L79_12 : List AStep := [⟨.pick (.t 27) (.t 29) (.c (.bool false)), (some 30), (some (25, false)), []⟩, ⟨.pick (.t 25) (.c (.bool true)) (.t 30), (some 31), none, []⟩]
theorem v79_12 : VS L79_12.eq_1 := rfl
def L79_13 : List AStep := ⟨.mov (.t 6), (some 28), (some (27, true)), []⟩ :: ⟨.not (.t 28), (some 29), (some (27, true)), []⟩ :: L79_12
theorem v79_13 : VS L79_13.eq_1 := rfl
def L79_14 : List AStep := ⟨.mov (.t 3), (some 26), (some (25, false)), []⟩ :: ⟨.mov (.t 26), (some 27), (some (25, false)), []⟩ :: L79_13
theorem v79_14 : VS L79_14.eq_1 := rfl
def L79_15 : List AStep := ⟨.not (.t 23), (some 24), none, []⟩ :: ⟨.mov (.t 24), (some 25), none, []⟩ :: L79_14
theorem v79_15 : VS L79_15.eq_1 := rfl
def L79_16 : List AStep := ⟨.load 4 true (.t 5), (some 22), none, []⟩ :: ⟨.call 132 [(.t 22)], (some 23), none, []⟩ :: L79_15
theorem v79_16 : VS L79_16.eq_1 := rfl
def L79_17 : List AStep := [⟨.mov (.c (.bool false)), (some 2), none, []⟩]
theorem v79_17 : VS L79_17.eq_1 := rfl
def L79_18 : List AStep := [⟨.mov (.t 6), (some 32), none, []⟩, ⟨.mov (.t 32), (some 3), none, []⟩]
theorem v79_18 : VS L79_18.eq_1 := rfl
def L79_19 : List AStep := [⟨.bin .add (.t 10) (.c (.int .i64 1)), (some 33), none, []⟩, ⟨.mov (.t 33), (some 10), none, []⟩]
theorem v79_19 : VS L79_19.eq_1 := rfl
def L79_20 : List AStep := [⟨.mov (.t 37), (some 2), none, []⟩]
theorem v79_20 : VS L79_20.eq_1 := rfl
def L79_21 : List AStep := ⟨.len (.t 35), (some 36), none, []⟩ :: ⟨.bin .leq (.t 36) (.c (.int .i64 16)), (some 37), none, []⟩ :: L79_20
theorem v79_21 : VS L79_21.eq_1 := rfl
def L79_22 : List AStep := ⟨.faddr 0 (.t 1), (some 34), none, []⟩ :: ⟨.load 1 false (.t 34), (some 35), none, []⟩ :: L79_21
theorem v79_22 : VS L79_22.eq_1 := rfl
def C79_0 : ACode := .cond (.t 11) .skip (.exit 0)
theorem u79_0 : VC C79_0.eq_1 := rfl
def C79_1 : ACode := .seq (.reg L79_17) .ret
theorem u79_1 : VC C79_1.eq_1 := rfl
def C79_2 : ACode := .cond (.t 31) C79_1 .skip
theorem u79_2 : VC C79_2.eq_1 := rfl
def C79_3 : ACode := .seq (.reg L79_16) C79_2
theorem u79_3 : VC C79_3.eq_1 := rfl
def C79_4 : ACode := .seq C79_3 (.reg L79_18)
theorem u79_4 : VC C79_4.eq_1 := rfl
def C79_5 : ACode := .seq (.reg L79_11) C79_4
theorem u79_5 : VC C79_5.eq_1 := rfl
def C79_6 : ACode := .seq (.reg L79_6) C79_5
theorem u79_6 : VC C79_6.eq_1 := rfl
def C79_7 : ACode := .block 1 C79_6
theorem u79_7 : VC C79_7.eq_1 := rfl
def C79_8 : ACode := .seq C79_7 (.reg L79_19)
theorem u79_8 : VC C79_8.eq_1 := rfl
def C79_9 : ACode := .seq C79_0 C79_8
theorem u79_9 : VC C79_9.eq_1 := rfl
def C79_10 : ACode := .seq (.reg L79_4) C79_9
theorem u79_10 : VC C79_10.eq_1 := rfl
def C79_11 : ACode := .block 0 (.loop C79_10)
theorem u79_11 : VC C79_11.eq_1 := rfl
def C79_12 : ACode := .seq (.reg L79_3) C79_11
theorem u79_12 : VC C79_12.eq_1 := rfl
def C79_13 : ACode := .seq (.reg L79_22) .ret
theorem u79_13 : VC C79_13.eq_1 := rfl
def C79_14 : ACode := .seq C79_12 C79_13
theorem u79_14 : VC C79_14.eq_1 := rfl
def C79_15 : ACode := .seq (.reg L79_1) C79_14
theorem u79_15 : VC C79_15.eq_1 := rfl
def C79_16 : ACode := .seq (.reg L79_0) C79_15
theorem u79_16 : VC C79_16.eq_1 := rfl
def F79 : AFunc := ⟨38, [.tmp 2], C79_16⟩
theorem cF79 : compB Try.prog 79 = some F79 := by kernel_rfl
attribute [local go_sem ↓] u79_0 u79_1 u79_2 u79_3 u79_4 u79_5 u79_6 u79_7 u79_8 u79_9 u79_10 u79_11 u79_12 u79_13 u79_14 u79_15 u79_16 v79_0 v79_1 v79_2 v79_3 v79_4 v79_5 v79_6 v79_7 v79_8 v79_9 v79_10 v79_11 v79_12 v79_13 v79_14 v79_15 v79_16 v79_17 v79_18 v79_19 v79_20 v79_21 v79_22
theorem c_ValidCall (l : List Arg) (p : CV) (h : H) (hl : SlC h p l) (m : miniC l) : bm Try.prog 79 [.agg [p]] h = some (ib (okCall l), h) := by
  refine bm_eq cF79 ?_
  obtain ⟨rs, y⟩ := hl.ex
  have hn := m.len
  have yl : lenO (.one p) = some (ii l.length) := by rw [y.out.len, y.len]
  simp +contextual (maxSteps := 2000000) only [go_sem, Nat.reduceEqDiff, reduceCtorEq, Nat.reduceAdd, Nat.reduceLeDiff, F79, yl]
  refine wpC_loop (fun i T L h' => h' = h ∧ T 1 = .lp 1 0 ∧ (L 1).2 = [p] ∧ T 3 = .v (.one (.bool (namedAt l i))) ∧ T 8 = .v (.one p) ∧ T 9 = .v (.one (.int .i64 l.length)) ∧ T 10 = .v (.one (.int .i64 i)) ∧ Upto (stepC l) i) l.length ?_ ?_ (Nat.zero_le _) ?_
  · rintro i T L h' hi ⟨rfl, t1, l1, t3, t8, t9, t10, hu⟩
    have hr : i < rs.length := by rw [y.len]; exact hi
    have hm := List.getElem_mem hi
    have ye := y.el i hr
    rw [getC_eq hi] at ye
    have va := c_argValid rs[i] l[i] h' ye (m.name _ hm) (m.list _ hm) (m.pairs _ hm) (m.npairs _ hm)
    simp only [encC] at va
    have ek := ye.kind
    have e5 := namedAt_succ hi
    cases b1 : okArg l[i] with
    | false =>
      rw [b1] at va
      have bad : okCall l = false := okCall_not hi (by cases h2 : stepC l i with | false => rfl | true => rw [stepC_ok hi h2] at b1; simp at b1)
      cases b2 : decide (rs[i].kind = 2) with
      | true => simp +contextual (maxSteps := 2000000) only [go_sem, Nat.reduceEqDiff, reduceCtorEq, Nat.reduceAdd, Nat.reduceLeDiff, t1, l1, t3, t8, t9, t10, y.out.iaddr hr, y.out.whole hr, encC, va, lt_true hi, bad, b2]
      | false => simp +contextual (maxSteps := 2000000) only [go_sem, Nat.reduceEqDiff, reduceCtorEq, Nat.reduceAdd, Nat.reduceLeDiff, t1, l1, t3, t8, t9, t10, y.out.iaddr hr, y.out.whole hr, encC, va, lt_true hi, bad, b2]
    | true =>
      rw [b1] at va
      have e3 := stepC_named hi hu b1
      rw [← ek] at e3 e5
      cases b2 : decide (rs[i].kind = 2) with
      | true =>
        rw [b2, Bool.true_or] at e3 e5
        cases b4 : namedAt l i with
        | false =>
          rw [b4] at t3
          simp +contextual (maxSteps := 2000000) only [go_sem, Nat.reduceEqDiff, reduceCtorEq, Nat.reduceAdd, Nat.reduceLeDiff, t1, l1, t3, t8, t9, t10, y.out.iaddr hr, y.out.whole hr, encC, va, lt_true hi, b2]
          exact ⟨by rw [e5], by rw [wrap_next hi (by omega)], hu.next (by rw [e3, b4]; rfl)⟩
        | true =>
          rw [b4] at t3
          simp +contextual (maxSteps := 2000000) only [go_sem, Nat.reduceEqDiff, reduceCtorEq, Nat.reduceAdd, Nat.reduceLeDiff, t1, l1, t3, t8, t9, t10, y.out.iaddr hr, y.out.whole hr, encC, va, lt_true hi, b2]
          exact ⟨by rw [e5], by rw [wrap_next hi (by omega)], hu.next (by rw [e3, b4]; rfl)⟩
      | false =>
      rw [b2, Bool.false_or] at e3 e5
      cases b3 : decide (rs[i].kind = 3) with
      | true =>
        rw [b3] at e3 e5
        cases b4 : namedAt l i with
        | false =>
          rw [b4] at t3
          simp +contextual (maxSteps := 2000000) only [go_sem, Nat.reduceEqDiff, reduceCtorEq, Nat.reduceAdd, Nat.reduceLeDiff, t1, l1, t3, t8, t9, t10, y.out.iaddr hr, y.out.whole hr, encC, va, lt_true hi, b2, b3]
          exact ⟨by rw [e5], by rw [wrap_next hi (by omega)], hu.next (by rw [e3, b4]; rfl)⟩
        | true =>
          rw [b4] at t3
          simp +contextual (maxSteps := 2000000) only [go_sem, Nat.reduceEqDiff, reduceCtorEq, Nat.reduceAdd, Nat.reduceLeDiff, t1, l1, t3, t8, t9, t10, y.out.iaddr hr, y.out.whole hr, encC, va, lt_true hi, b2, b3]
          exact ⟨by rw [e5], by rw [wrap_next hi (by omega)], hu.next (by rw [e3, b4]; rfl)⟩
      | false =>
        rw [b3] at e3 e5
        cases b4 : namedAt l i with
        | false =>
          rw [b4] at t3
          simp +contextual (maxSteps := 2000000) only [go_sem, Nat.reduceEqDiff, reduceCtorEq, Nat.reduceAdd, Nat.reduceLeDiff, t1, l1, t3, t8, t9, t10, y.out.iaddr hr, y.out.whole hr, encC, va, lt_true hi, b2, b3]
          exact ⟨by rw [e5], by rw [wrap_next hi (by omega)], hu.next (by rw [e3, b4]; rfl)⟩
        | true =>
          rw [b4] at t3
          have bad : okCall l = false := okCall_not hi (by rw [e3, b4]; rfl)
          simp +contextual (maxSteps := 2000000) only [go_sem, Nat.reduceEqDiff, reduceCtorEq, Nat.reduceAdd, Nat.reduceLeDiff, t1, l1, t3, t8, t9, t10, y.out.iaddr hr, y.out.whole hr, encC, va, lt_true hi, b2, b3, bad]
  · rintro T L h' ⟨rfl, t1, l1, t3, t8, t9, t10, hu⟩
    simp +contextual (maxSteps := 2000000) only [go_sem, Nat.reduceEqDiff, reduceCtorEq, Nat.reduceAdd, Nat.reduceLeDiff, t1, l1, t3, t8, t9, t10, yl, lt_false, okCall_of hu]
  · simp +contextual (maxSteps := 2000000) only [go_sem, Nat.reduceEqDiff, reduceCtorEq, Nat.reduceAdd, Nat.reduceLeDiff]
    (repeat' (first | refine And.intro ?_ ?_ | intro _)) <;> first | rfl | exact Upto.zero
/-! spec.flatten -/
def L81_0 : List AStep := [⟨.mov (.c (.bool false)), (some 3), none, []⟩]
theorem v81_0 : VS L81_0.eq_1 := rfl
def L81_1 : List AStep := ⟨.box 58 (.t 0), (some 1), none, []⟩ :: ⟨.alloc 27 [(.sl none 0 (some 0)), (.sl none 0 (some 0))], (some 2), none, []⟩ :: L81_0
theorem v81_1 : VS L81_1.eq_1 := rfl
def L81_2 : List AStep := [⟨.store 2 (.t 4) (.t 9), none, none, []⟩]
theorem v81_2 : VS L81_2.eq_1 := rfl
def L81_3 : List AStep := ⟨.build [(.sl none 0 (some 0)), (.sl none 0 (some 0))] [(0, 1, (.t 7)), (1, 1, (.t 8))], (some 9), none, []⟩ :: ⟨.alloc 27 [(.sl none 0 (some 0)), (.sl none 0 (some 0))], (some 4), none, []⟩ :: L81_2
theorem v81_3 : VS L81_3.eq_1 := rfl
def L81_4 : List AStep := ⟨.buildSlice 3 0 [(.int .i64 0)] [], (some 7), none, []⟩ :: ⟨.buildSlice 53 0 [(.str (strOfNums [])), (.int .i64 0)] [], (some 8), none, []⟩ :: L81_3
theorem v81_4 : VS L81_4.eq_1 := rfl
def L81_5 : List AStep := [⟨.mov (.c (.int .i64 0)), (some 5), none, []⟩]
theorem v81_5 : VS L81_5.eq_1 := rfl
def L81_6 : List AStep := [⟨.bin .lss (.t 10) (.t 13), (some 14), none, []⟩]
theorem v81_6 : VS L81_6.eq_1 := rfl
def L81_7 : List AStep := ⟨.load 1 false (.t 11), (some 12), none, []⟩ :: ⟨.len (.t 12), (some 13), none, []⟩ :: L81_6
theorem v81_7 : VS L81_7.eq_1 := rfl
def L81_8 : List AStep := ⟨.mov (.t 5), (some 10), none, []⟩ :: ⟨.faddr 0 (.t 1), (some 11), none, []⟩ :: L81_7
theorem v81_8 : VS L81_8.eq_1 := rfl
def L81_9 : List AStep := [⟨.store 4 (.t 6) (.t 21), none, none, []⟩]
theorem v81_9 : VS L81_9.eq_1 := rfl
def L81_10 : List AStep := ⟨.load 4 true (.t 20), (some 21), none, []⟩ :: ⟨.alloc 64 [(.int .i64 0), (.str (strOfNums [])), (.sl none 0 (some 0)), (.sl none 0 (some 0))], (some 6), none, []⟩ :: L81_9
theorem v81_10 : VS L81_10.eq_1 := rfl
def L81_11 : List AStep := ⟨.mov (.t 5), (some 19), none, []⟩ :: ⟨.iaddr 4 (.t 18) (.t 19), (some 20), none, []⟩ :: L81_10
theorem v81_11 : VS L81_11.eq_1 := rfl
def L81_12 : List AStep := ⟨.faddr 0 (.t 1), (some 17), none, []⟩ :: ⟨.load 1 false (.t 17), (some 18), none, []⟩ :: L81_11
theorem v81_12 : VS L81_12.eq_1 := rfl
def L81_13 : List AStep := [⟨.faddr 0 (.t 6), (some 22), none, []⟩, ⟨.load 1 false (.t 22), (some 23), none, []⟩]
theorem v81_13 : VS L81_13.eq_1 := rfl
def L81_14 : List AStep := [⟨.bin .eql (.t 23) (.c (.int .i64 2)), (some 31), none, []⟩, ⟨.mov (.t 31), (some 30), none, []⟩]
theorem v81_14 : VS L81_14.eq_1 := rfl
def L81_15 : List AStep := [⟨.store 1 (.t 43) (.t 42), none, none, []⟩]
theorem v81_15 : VS L81_15.eq_1 := rfl
def L81_16 : List AStep := ⟨.append 53 2 24 (.t 33) (.t 41), (some 42), none, []⟩ :: ⟨.faddr 1 (.t 4), (some 43), none, []⟩ :: L81_15
theorem v81_16 : VS L81_16.eq_1 := rfl
def L81_17 : List AStep := ⟨.build [(.str (strOfNums [])), (.int .i64 0)] [(0, 1, (.t 35)), (1, 1, (.t 39))], (some 40), none, []⟩ :: ⟨.buildSlice 53 1 [(.str (strOfNums [])), (.int .i64 0)] [(0, 2, (.t 40))], (some 41), none, []⟩ :: L81_16
theorem v81_17 : VS L81_17.eq_1 := rfl
def L81_18 : List AStep := ⟨.iaddr 1 (.t 37) (.c (.int .i64 0)), (some 38), none, []⟩ :: ⟨.load 1 false (.t 38), (some 39), none, []⟩ :: L81_17
theorem v81_18 : VS L81_18.eq_1 := rfl
def L81_19 : List AStep := ⟨.faddr 2 (.t 6), (some 36), none, []⟩ :: ⟨.load 1 false (.t 36), (some 37), none, []⟩ :: L81_18
theorem v81_19 : VS L81_19.eq_1 := rfl
def L81_20 : List AStep := ⟨.faddr 1 (.t 6), (some 34), none, []⟩ :: ⟨.load 1 false (.t 34), (some 35), none, []⟩ :: L81_19
theorem v81_20 : VS L81_20.eq_1 := rfl
def L81_21 : List AStep := ⟨.faddr 1 (.t 4), (some 32), none, []⟩ :: ⟨.load 1 false (.t 32), (some 33), none, []⟩ :: L81_20
theorem v81_21 : VS L81_21.eq_1 := rfl
def L81_22 : List AStep := [⟨.bin .eql (.t 23) (.c (.int .i64 3)), (some 45), none, []⟩, ⟨.mov (.t 45), (some 44), none, []⟩]
theorem v81_22 : VS L81_22.eq_1 := rfl
def L81_23 : List AStep := [⟨.store 1 (.t 51) (.t 50), none, none, []⟩]
theorem v81_23 : VS L81_23.eq_1 := rfl
def L81_24 : List AStep := ⟨.append 53 2 24 (.t 47) (.t 49), (some 50), none, []⟩ :: ⟨.faddr 1 (.t 4), (some 51), none, []⟩ :: L81_23
theorem v81_24 : VS L81_24.eq_1 := rfl
def L81_25 : List AStep := ⟨.faddr 3 (.t 6), (some 48), none, []⟩ :: ⟨.load 1 false (.t 48), (some 49), none, []⟩ :: L81_24
theorem v81_25 : VS L81_25.eq_1 := rfl
def L81_26 : List AStep := ⟨.faddr 1 (.t 4), (some 46), none, []⟩ :: ⟨.load 1 false (.t 46), (some 47), none, []⟩ :: L81_25
theorem v81_26 : VS L81_26.eq_1 := rfl
def L81_27 : List AStep := [⟨.store 1 (.t 29) (.t 28), none, none, []⟩]
theorem v81_27 : VS L81_27.eq_1 := rfl
def L81_28 : List AStep := ⟨.append 3 1 8 (.t 25) (.t 27), (some 28), none, []⟩ :: ⟨.faddr 0 (.t 4), (some 29), none, []⟩ :: L81_27
theorem v81_28 : VS L81_28.eq_1 := rfl
def L81_29 : List AStep := ⟨.faddr 2 (.t 6), (some 26), none, []⟩ :: ⟨.load 1 false (.t 26), (some 27), none, []⟩ :: L81_28
theorem v81_29 : VS L81_29.eq_1 := rfl
def L81_30 : List AStep := ⟨.faddr 0 (.t 4), (some 24), none, []⟩ :: ⟨.load 1 false (.t 24), (some 25), none, []⟩ :: L81_29
theorem v81_30 : VS L81_30.eq_1 := rfl
def L81_31 : List AStep := [⟨.mov (.t 16), (some 5), none, []⟩]
theorem v81_31 : VS L81_31.eq_1 := rfl
def L81_32 : List AStep := ⟨.mov (.t 5), (some 15), none, []⟩ :: ⟨.bin .add (.t 15) (.c (.int .i64 1)), (some 16), none, []⟩ :: L81_31
theorem v81_32 : VS L81_32.eq_1 := rfl
def L81_33 : List AStep := [⟨.mov (.t 54), (some 3), none, []⟩]
theorem v81_33 : VS L81_33.eq_1 := rfl
def L81_34 : List AStep := ⟨.call 58 [(.t 53)], (some 54), none, [(.load 2 true (.t 4), (some 52), none)]⟩ :: ⟨.store 2 (.t 2) (.t 52), none, none, []⟩ :: L81_33
theorem v81_34 : VS L81_34.eq_1 := rfl
def L81_35 : List AStep := ⟨.load 2 true (.t 4), (some 52), none, []⟩ :: ⟨.load 2 true (.t 4), (some 53), none, []⟩ :: L81_34
theorem v81_35 : VS L81_35.eq_1 := rfl
def C81_0 : ACode := .cond (.t 14) .skip (.exit 0)
theorem u81_0 : VC C81_0.eq_1 := rfl
def C81_1 : ACode := .seq (.reg L81_8) C81_0
theorem u81_1 : VC C81_1.eq_1 := rfl
def C81_2 : ACode := .cond (.t 44) (.reg L81_26) (.reg L81_30)
theorem u81_2 : VC C81_2.eq_1 := rfl
def C81_3 : ACode := .seq (.reg L81_22) C81_2
theorem u81_3 : VC C81_3.eq_1 := rfl
def C81_4 : ACode := .cond (.t 30) (.reg L81_21) C81_3
theorem u81_4 : VC C81_4.eq_1 := rfl
def C81_5 : ACode := .seq (.reg L81_14) C81_4
theorem u81_5 : VC C81_5.eq_1 := rfl
def C81_6 : ACode := .block 2 C81_5
theorem u81_6 : VC C81_6.eq_1 := rfl
def C81_7 : ACode := .seq (.reg L81_13) C81_6
theorem u81_7 : VC C81_7.eq_1 := rfl
def C81_8 : ACode := .seq (.reg L81_12) C81_7
theorem u81_8 : VC C81_8.eq_1 := rfl
def C81_9 : ACode := .block 1 C81_8
theorem u81_9 : VC C81_9.eq_1 := rfl
def C81_10 : ACode := .seq C81_9 (.reg L81_32)
theorem u81_10 : VC C81_10.eq_1 := rfl
def C81_11 : ACode := .seq C81_1 C81_10
theorem u81_11 : VC C81_11.eq_1 := rfl
def C81_12 : ACode := .block 0 (.loop C81_11)
theorem u81_12 : VC C81_12.eq_1 := rfl
def C81_13 : ACode := .seq (.reg L81_5) C81_12
theorem u81_13 : VC C81_13.eq_1 := rfl
def C81_14 : ACode := .seq (.reg L81_35) .ret
theorem u81_14 : VC C81_14.eq_1 := rfl
def C81_15 : ACode := .seq C81_13 C81_14
theorem u81_15 : VC C81_15.eq_1 := rfl
def C81_16 : ACode := .seq (.reg L81_4) C81_15
theorem u81_16 : VC C81_16.eq_1 := rfl
def C81_17 : ACode := .seq (.reg L81_1) C81_16
theorem u81_17 : VC C81_17.eq_1 := rfl
def F81 : AFunc := ⟨55, [.cell 2 2 true, .tmp 3], C81_17⟩
theorem cF81 : compB Try.prog 81 = some F81 := by kernel_rfl
attribute [local go_sem ↓] u81_0 u81_1 u81_2 u81_3 u81_4 u81_5 u81_6 u81_7 u81_8 u81_9 u81_10 u81_11 u81_12 u81_13 u81_14 u81_15 u81_16 u81_17 v81_0 v81_1 v81_2 v81_3 v81_4 v81_5 v81_6 v81_7 v81_8 v81_9 v81_10 v81_11 v81_12 v81_13 v81_14 v81_15 v81_16 v81_17 v81_18 v81_19 v81_20 v81_21 v81_22 v81_23 v81_24 v81_25 v81_26 v81_27 v81_28 v81_29 v81_30 v81_31 v81_32 v81_33 v81_34 v81_35
theorem c_flatten (l : List Arg) (p : CV) (h : H) (hl : SlC h p l) (m : miniC l) (ok : okCall l = true) : callK (bm Try.prog 81 [.agg [p]] h) fun r h' => Grow h h' ∧ ∃ p' n', r = .tup [.agg [p', n'], .one (.bool (okFlat (flatC l)))] ∧ NwF h h' p' n' (flatC l) := by
  refine bm_of cF81 ?_
  obtain ⟨rs, y0⟩ := hl.ex
  have hn := (okCall_at ok).1
  have yl : lenO (.one p) = some (ii l.length) := by rw [y0.out.len, y0.len]
  simp +contextual (maxSteps := 2000000) only [go_sem, Nat.reduceEqDiff, reduceCtorEq, Nat.reduceAdd, Nat.reduceLeDiff, F81]
  refine wp_lit (enc := encI) (k := 1) (l := []) rfl rfl ?_
  intro h1 w1 g1 n1 _
  obtain ⟨c, rfl⟩ := n1.one
  simp +contextual (maxSteps := 2000000) only [go_sem, Nat.reduceEqDiff, reduceCtorEq, Nat.reduceAdd, Nat.reduceLeDiff]
  refine wp_lit (enc := encP) (k := 2) (l := []) rfl rfl ?_
  intro h2 w2 g2 n2 _
  obtain ⟨d, rfl⟩ := n2.one
  have z0 : NwF h h2 c d (flatT l 0) := by rw [flatT_zero]; exact ⟨n1.grow g2, n2.from g1.n, n1.apart n2⟩
  have gz := g1.trans g2
  simp +contextual (maxSteps := 2000000) only [go_sem, Nat.reduceEqDiff, reduceCtorEq, Nat.reduceAdd, Nat.reduceLeDiff]
  refine wpC_loop (fun i T L h' => Grow h h' ∧ T 1 = .lp 1 0 ∧ (L 1).2 = [p] ∧ T 2 = .lp 2 0 ∧ (L 2).2 = [.sl none 0 (some 0), .sl none 0 (some 0)] ∧ T 4 = .lp 4 0 ∧ (∃ c d, (L 4).2 = [c, d] ∧ NwF h h' c d (flatT l i)) ∧ T 5 = .v (.one (.int .i64 i))) l.length ?_ ?_ (Nat.zero_le _) ?_
  · rintro i T L h' hi ⟨g, t1, l1, t2, l2, t4, ⟨c, d, l4, x⟩, tx⟩
    have y := y0.grow g
    have hr : i < rs.length := by rw [y.len]; exact hi
    have ye := y.el i hr
    rw [getC_eq hi] at ye
    have ek := ye.kind
    have en := ye.name
    have oa := (okCall_at ok).2 i hi
    have kd := okArg_kind oa
    obtain ⟨m1, m2, m3, m4⟩ := okArg_sm oa
    have fo := FOk.flatT ok (i := i) (by omega)
    have a1 := fo.pl
    have a2 := fo.nl
    rw [flatT_next hi]
    have nx : IntKind.i64.wrap ((i : Int) + 1) = ((i + 1 : Nat) : Int) := wrap_next hi (by omega)
    by_cases k2 : l[i].kind = 2
    · have e1 : plOf l[i] = [] := if_pos (.inl k2)
      have e2 : nlOf l[i] = [⟨l[i].name, l[i].list.headD 0⟩] := if_pos k2
      rw [e1, e2, List.append_nil]
      have hz : 0 < l[i].list.length := by have := (m3 k2).1; omega
      have li : iaddrO 1 (.one rs[i].lv) (.one (.int .i64 0)) = some (.one (.ptr (some (elem 1 (.one rs[i].lv) 0)))) := ye.list.iaddr hz
      have lo : loadO 1 false h' (.one (.ptr (some (elem 1 (.one rs[i].lv) 0)))) = some (.one (.int .i64 (l[i].list.headD 0))) := by
        rw [ye.list.oneO hz, encI_0, headC (m3 k2).1 hz]
        rfl
      have d0 : decide (l[i].kind = 0) = false := decide_eq_false (by omega)
      have d1 : decide (l[i].kind = 1) = false := decide_eq_false (by omega)
      simp +contextual (maxSteps := 2000000) only [go_sem, Nat.reduceEqDiff, reduceCtorEq, Nat.reduceAdd, Nat.reduceLeDiff, t1, l1, t2, l2, t4, l4, tx, yl, y.out.iaddr hr, y.out.whole hr, encC, ek, en, lt_true hi, d0, d1, decide_eq_true k2, li, lo]
      refine wp_lit (enc := encP) (k := 2) (l := [⟨l[i].name, l[i].list.headD 0⟩]) rfl rfl ?_
      intro h3 w3 g3 n3 _
      simp +contextual (maxSteps := 2000000) only [go_sem, Nat.reduceEqDiff, reduceCtorEq, Nat.reduceAdd, Nat.reduceLeDiff, t1, l1, t2, l2, t4, l4, tx]
      refine wp_append lenP (x.nl.grow g3) (n3.sl lenP) (g.trans g3) (by simp; omega) ?_
      intro h4 s4 g4 n4 st4 hb4
      obtain ⟨d4, rfl⟩ := n4.one
      have x4 := (x.grow g3).appNl n4 st4 hb4
      simp +contextual (maxSteps := 2000000) only [go_sem, Nat.reduceEqDiff, reduceCtorEq, Nat.reduceAdd, Nat.reduceLeDiff, t1, l1, t2, l2, t4, l4, tx]
      exact ⟨g4, ⟨c, d4, rfl, x4⟩, by rw [nx]⟩
    by_cases k3 : l[i].kind = 3
    · have e1 : plOf l[i] = [] := if_pos (.inr k3)
      have e2 : nlOf l[i] = l[i].pairs := (if_neg k2).trans (if_pos k3)
      rw [e1, e2, List.append_nil]
      have d0 : decide (l[i].kind = 0) = false := decide_eq_false (by omega)
      have d1 : decide (l[i].kind = 1) = false := decide_eq_false (by omega)
      simp +contextual (maxSteps := 2000000) only [go_sem, Nat.reduceEqDiff, reduceCtorEq, Nat.reduceAdd, Nat.reduceLeDiff, t1, l1, t2, l2, t4, l4, tx, yl, y.out.iaddr hr, y.out.whole hr, encC, ek, en, lt_true hi, d0, d1, decide_eq_false k2, decide_eq_true k3]
      refine wp_append lenP x.nl ye.pairs g (by omega) ?_
      intro h4 s4 g4 n4 st4 hb4
      obtain ⟨d4, rfl⟩ := n4.one
      have x4 := x.appNl n4 st4 hb4
      simp +contextual (maxSteps := 2000000) only [go_sem, Nat.reduceEqDiff, reduceCtorEq, Nat.reduceAdd, Nat.reduceLeDiff, t1, l1, t2, l2, t4, l4, tx]
      exact ⟨g4, ⟨c, d4, rfl, x4⟩, by rw [nx]⟩
    have e1 : plOf l[i] = l[i].list := if_neg (by omega)
    have e2 : nlOf l[i] = [] := (if_neg k2).trans (if_neg k3)
    rw [e1, e2, List.append_nil]
    by_cases k0 : l[i].kind = 0
    · simp +contextual (maxSteps := 2000000) only [go_sem, Nat.reduceEqDiff, reduceCtorEq, Nat.reduceAdd, Nat.reduceLeDiff, t1, l1, t2, l2, t4, l4, tx, yl, y.out.iaddr hr, y.out.whole hr, encC, ek, en, lt_true hi, decide_eq_true k0, decide_eq_false k2, decide_eq_false k3]
      refine wp_append lenI x.pl ye.list g (by omega) ?_
      intro h4 s4 g4 n4 st4 hb4
      obtain ⟨c4, rfl⟩ := n4.one
      have x4 := x.appPl n4 st4 hb4
      simp +contextual (maxSteps := 2000000) only [go_sem, Nat.reduceEqDiff, reduceCtorEq, Nat.reduceAdd, Nat.reduceLeDiff, t1, l1, t2, l2, t4, l4, tx]
      exact ⟨g4, ⟨c4, d, rfl, x4⟩, by rw [nx]⟩
    · have k1 : l[i].kind = 1 := by omega
      simp +contextual (maxSteps := 2000000) only [go_sem, Nat.reduceEqDiff, reduceCtorEq, Nat.reduceAdd, Nat.reduceLeDiff, t1, l1, t2, l2, t4, l4, tx, yl, y.out.iaddr hr, y.out.whole hr, encC, ek, en, lt_true hi, decide_eq_false k0, decide_eq_true k1, decide_eq_false k2, decide_eq_false k3]
      refine wp_append lenI x.pl ye.list g (by omega) ?_
      intro h4 s4 g4 n4 st4 hb4
      obtain ⟨c4, rfl⟩ := n4.one
      have x4 := x.appPl n4 st4 hb4
      simp +contextual (maxSteps := 2000000) only [go_sem, Nat.reduceEqDiff, reduceCtorEq, Nat.reduceAdd, Nat.reduceLeDiff, t1, l1, t2, l2, t4, l4, tx]
      exact ⟨g4, ⟨c4, d, rfl, x4⟩, by rw [nx]⟩
  · rintro T L h' ⟨g, t1, l1, t2, l2, t4, ⟨c, d, l4, x⟩, tx⟩
    rw [flatT_all] at x
    have fo := FOk.flatT ok (i := l.length) (Nat.le_refl _)
    rw [flatT_all] at fo
    have sm : smF (flatC l) := ⟨by have := fo.pl; unfold big; omega, by have := fo.nl; unfold big; omega, fun x hx => by have := fo.nm x hx; unfold big; omega⟩
    simp +contextual (maxSteps := 2000000) only [go_sem, Nat.reduceEqDiff, reduceCtorEq, Nat.reduceAdd, Nat.reduceLeDiff, t1, l1, t2, l2, t4, l4, tx, yl, lt_false, c_validFlat _ _ _ _ x.sl.pl x.sl.nl sm]
    exact gcK_of ⟨g, _, _, rfl, x⟩ (fun hs _ => ⟨Grow.refl h, _, _, rfl, x.scalar (by simpa [AV.scalar, AV.scalars, CV.scalar] using hs) h⟩)
  · simp +contextual (maxSteps := 2000000) only [go_sem, Nat.reduceEqDiff, reduceCtorEq, Nat.reduceAdd, Nat.reduceLeDiff]
    exact ⟨gz, ⟨_, _, rfl, z0⟩, rfl⟩
/-! impl.FlattenCall -/
def L29_0 : List AStep := [⟨.mov (.c (.bool false)), (some 3), none, []⟩]
theorem v29_0 : VS L29_0.eq_1 := rfl
def L29_1 : List AStep := ⟨.box 58 (.t 0), (some 1), none, []⟩ :: ⟨.alloc 27 [(.sl none 0 (some 0)), (.sl none 0 (some 0))], (some 2), none, []⟩ :: L29_0
theorem v29_1 : VS L29_1.eq_1 := rfl
def L29_2 : List AStep := [⟨.not (.t 8), (some 9), none, []⟩]
theorem v29_2 : VS L29_2.eq_1 := rfl
def L29_3 : List AStep := ⟨.load 1 true (.t 1), (some 7), none, []⟩ :: ⟨.call 79 [(.t 7)], (some 8), none, []⟩ :: L29_2
theorem v29_3 : VS L29_3.eq_1 := rfl
def L29_4 : List AStep := [⟨.mov (.c (.bool false)), (some 3), none, []⟩]
theorem v29_4 : VS L29_4.eq_1 := rfl
def L29_5 : List AStep := ⟨.build [(.sl none 0 (some 0)), (.sl none 0 (some 0))] [], (some 10), none, []⟩ :: ⟨.store 2 (.t 2) (.t 10), none, none, []⟩ :: L29_4
theorem v29_5 : VS L29_5.eq_1 := rfl
def L29_6 : List AStep := [⟨.alloc 27 [(.sl none 0 (some 0)), (.sl none 0 (some 0))], (some 4), none, []⟩]
theorem v29_6 : VS L29_6.eq_1 := rfl
def L29_7 : List AStep := [⟨.len (.t 12), (some 13), none, []⟩, ⟨.mov (.c (.int .i64 0)), (some 14), none, []⟩]
theorem v29_7 : VS L29_7.eq_1 := rfl
def L29_8 : List AStep := ⟨.faddr 0 (.t 1), (some 11), none, []⟩ :: ⟨.load 1 false (.t 11), (some 12), none, []⟩ :: L29_7
theorem v29_8 : VS L29_8.eq_1 := rfl
def L29_9 : List AStep := [⟨.bin .lss (.t 14) (.t 13), (some 15), none, []⟩]
theorem v29_9 : VS L29_9.eq_1 := rfl
def L29_10 : List AStep := [⟨.alloc 64 [(.int .i64 0), (.str (strOfNums [])), (.sl none 0 (some 0)), (.sl none 0 (some 0))], (some 6), none, []⟩, ⟨.store 4 (.t 6) (.t 17), none, none, []⟩]
theorem v29_10 : VS L29_10.eq_1 := rfl
def L29_11 : List AStep := ⟨.iaddr 4 (.t 12) (.t 14), (some 16), none, []⟩ :: ⟨.load 4 true (.t 16), (some 17), none, []⟩ :: L29_10
theorem v29_11 : VS L29_11.eq_1 := rfl
def L29_12 : List AStep := [⟨.faddr 0 (.t 6), (some 18), none, []⟩, ⟨.load 1 false (.t 18), (some 19), none, []⟩]
theorem v29_12 : VS L29_12.eq_1 := rfl
def L29_13 : List AStep := [⟨.bin .eql (.t 19) (.c (.int .i64 0)), (some 21), none, []⟩, ⟨.mov (.t 21), (some 20), none, []⟩]
theorem v29_13 : VS L29_13.eq_1 := rfl
def L29_14 : List AStep := [⟨.bin .eql (.t 19) (.c (.int .i64 1)), (some 22), none, []⟩, ⟨.mov (.t 22), (some 20), none, []⟩]
theorem v29_14 : VS L29_14.eq_1 := rfl
def L29_15 : List AStep := [⟨.store 1 (.t 28) (.t 27), none, none, []⟩]
theorem v29_15 : VS L29_15.eq_1 := rfl
def L29_16 : List AStep := ⟨.append 3 1 8 (.t 24) (.t 26), (some 27), none, []⟩ :: ⟨.faddr 0 (.t 4), (some 28), none, []⟩ :: L29_15
theorem v29_16 : VS L29_16.eq_1 := rfl
def L29_17 : List AStep := ⟨.faddr 2 (.t 6), (some 25), none, []⟩ :: ⟨.load 1 false (.t 25), (some 26), none, []⟩ :: L29_16
theorem v29_17 : VS L29_17.eq_1 := rfl
def L29_18 : List AStep := ⟨.faddr 0 (.t 4), (some 23), none, []⟩ :: ⟨.load 1 false (.t 23), (some 24), none, []⟩ :: L29_17
theorem v29_18 : VS L29_18.eq_1 := rfl
def L29_19 : List AStep := [⟨.bin .eql (.t 19) (.c (.int .i64 2)), (some 30), none, []⟩, ⟨.mov (.t 30), (some 29), none, []⟩]
theorem v29_19 : VS L29_19.eq_1 := rfl
def L29_20 : List AStep := [⟨.store 1 (.t 42) (.t 41), none, none, []⟩]
theorem v29_20 : VS L29_20.eq_1 := rfl
def L29_21 : List AStep := ⟨.append 53 2 24 (.t 32) (.t 40), (some 41), none, []⟩ :: ⟨.faddr 1 (.t 4), (some 42), none, []⟩ :: L29_20
theorem v29_21 : VS L29_21.eq_1 := rfl
def L29_22 : List AStep := ⟨.build [(.str (strOfNums [])), (.int .i64 0)] [(0, 1, (.t 34)), (1, 1, (.t 38))], (some 39), none, []⟩ :: ⟨.buildSlice 53 1 [(.str (strOfNums [])), (.int .i64 0)] [(0, 2, (.t 39))], (some 40), none, []⟩ :: L29_21
theorem v29_22 : VS L29_22.eq_1 := rfl
def L29_23 : List AStep := ⟨.iaddr 1 (.t 36) (.c (.int .i64 0)), (some 37), none, []⟩ :: ⟨.load 1 false (.t 37), (some 38), none, []⟩ :: L29_22
theorem v29_23 : VS L29_23.eq_1 := rfl
def L29_24 : List AStep := ⟨.faddr 2 (.t 6), (some 35), none, []⟩ :: ⟨.load 1 false (.t 35), (some 36), none, []⟩ :: L29_23
theorem v29_24 : VS L29_24.eq_1 := rfl
def L29_25 : List AStep := ⟨.faddr 1 (.t 6), (some 33), none, []⟩ :: ⟨.load 1 false (.t 33), (some 34), none, []⟩ :: L29_24
theorem v29_25 : VS L29_25.eq_1 := rfl
def L29_26 : List AStep := ⟨.faddr 1 (.t 4), (some 31), none, []⟩ :: ⟨.load 1 false (.t 31), (some 32), none, []⟩ :: L29_25
theorem v29_26 : VS L29_26.eq_1 := rfl
def L29_27 : List AStep := [⟨.bin .eql (.t 19) (.c (.int .i64 3)), (some 44), none, []⟩, ⟨.mov (.t 44), (some 43), none, []⟩]
theorem v29_27 : VS L29_27.eq_1 := rfl
def L29_28 : List AStep := [⟨.store 1 (.t 50) (.t 49), none, none, []⟩]
theorem v29_28 : VS L29_28.eq_1 := rfl
def L29_29 : List AStep := ⟨.append 53 2 24 (.t 46) (.t 48), (some 49), none, []⟩ :: ⟨.faddr 1 (.t 4), (some 50), none, []⟩ :: L29_28
theorem v29_29 : VS L29_29.eq_1 := rfl
def L29_30 : List AStep := ⟨.faddr 3 (.t 6), (some 47), none, []⟩ :: ⟨.load 1 false (.t 47), (some 48), none, []⟩ :: L29_29
theorem v29_30 : VS L29_30.eq_1 := rfl
def L29_31 : List AStep := ⟨.faddr 1 (.t 4), (some 45), none, []⟩ :: ⟨.load 1 false (.t 45), (some 46), none, []⟩ :: L29_30
theorem v29_31 : VS L29_31.eq_1 := rfl
def L29_32 : List AStep := [⟨.bin .add (.t 14) (.c (.int .i64 1)), (some 51), none, []⟩, ⟨.mov (.t 51), (some 14), none, []⟩]
theorem v29_32 : VS L29_32.eq_1 := rfl
def L29_33 : List AStep := [⟨.not (.t 53), (some 54), none, []⟩]
theorem v29_33 : VS L29_33.eq_1 := rfl
def L29_34 : List AStep := ⟨.load 2 true (.t 4), (some 52), none, []⟩ :: ⟨.call 17 [(.t 52)], (some 53), none, []⟩ :: L29_33
theorem v29_34 : VS L29_34.eq_1 := rfl
def L29_35 : List AStep := [⟨.mov (.c (.bool false)), (some 3), none, []⟩]
theorem v29_35 : VS L29_35.eq_1 := rfl
def L29_36 : List AStep := ⟨.build [(.sl none 0 (some 0)), (.sl none 0 (some 0))] [], (some 55), none, []⟩ :: ⟨.store 2 (.t 2) (.t 55), none, none, []⟩ :: L29_35
theorem v29_36 : VS L29_36.eq_1 := rfl
def L29_37 : List AStep := [⟨.store 2 (.t 2) (.t 57), none, none, []⟩, ⟨.mov (.c (.bool true)), (some 3), none, []⟩]
theorem v29_37 : VS L29_37.eq_1 := rfl
def L29_38 : List AStep := ⟨.load 2 true (.t 4), (some 56), none, []⟩ :: ⟨.call 54 [(.t 56)], (some 57), none, []⟩ :: L29_37
theorem v29_38 : VS L29_38.eq_1 := rfl
def C29_0 : ACode := .seq (.reg L29_5) .ret
theorem u29_0 : VC C29_0.eq_1 := rfl
def C29_1 : ACode := .cond (.t 9) C29_0 .skip
theorem u29_1 : VC C29_1.eq_1 := rfl
def C29_2 : ACode := .seq (.reg L29_3) C29_1
theorem u29_2 : VC C29_2.eq_1 := rfl
def C29_3 : ACode := .cond (.t 15) .skip (.exit 0)
theorem u29_3 : VC C29_3.eq_1 := rfl
def C29_4 : ACode := .cond (.t 20) .skip (.reg L29_14)
theorem u29_4 : VC C29_4.eq_1 := rfl
def C29_5 : ACode := .seq (.reg L29_13) C29_4
theorem u29_5 : VC C29_5.eq_1 := rfl
def C29_6 : ACode := .cond (.t 43) (.reg L29_31) .skip
theorem u29_6 : VC C29_6.eq_1 := rfl
def C29_7 : ACode := .seq (.reg L29_27) C29_6
theorem u29_7 : VC C29_7.eq_1 := rfl
def C29_8 : ACode := .cond (.t 29) (.reg L29_26) C29_7
theorem u29_8 : VC C29_8.eq_1 := rfl
def C29_9 : ACode := .seq (.reg L29_19) C29_8
theorem u29_9 : VC C29_9.eq_1 := rfl
def C29_10 : ACode := .cond (.t 20) (.reg L29_18) C29_9
theorem u29_10 : VC C29_10.eq_1 := rfl
def C29_11 : ACode := .seq C29_5 C29_10
theorem u29_11 : VC C29_11.eq_1 := rfl
def C29_12 : ACode := .block 2 C29_11
theorem u29_12 : VC C29_12.eq_1 := rfl
def C29_13 : ACode := .seq (.reg L29_12) C29_12
theorem u29_13 : VC C29_13.eq_1 := rfl
def C29_14 : ACode := .seq (.reg L29_11) C29_13
theorem u29_14 : VC C29_14.eq_1 := rfl
def C29_15 : ACode := .block 1 C29_14
theorem u29_15 : VC C29_15.eq_1 := rfl
def C29_16 : ACode := .seq C29_15 (.reg L29_32)
theorem u29_16 : VC C29_16.eq_1 := rfl
def C29_17 : ACode := .seq C29_3 C29_16
theorem u29_17 : VC C29_17.eq_1 := rfl
def C29_18 : ACode := .seq (.reg L29_9) C29_17
theorem u29_18 : VC C29_18.eq_1 := rfl
def C29_19 : ACode := .block 0 (.loop C29_18)
theorem u29_19 : VC C29_19.eq_1 := rfl
def C29_20 : ACode := .seq (.reg L29_8) C29_19
theorem u29_20 : VC C29_20.eq_1 := rfl
def C29_21 : ACode := .seq (.reg L29_36) .ret
theorem u29_21 : VC C29_21.eq_1 := rfl
def C29_22 : ACode := .cond (.t 54) C29_21 .skip
theorem u29_22 : VC C29_22.eq_1 := rfl
def C29_23 : ACode := .seq (.reg L29_34) C29_22
theorem u29_23 : VC C29_23.eq_1 := rfl
def C29_24 : ACode := .seq (.reg L29_38) .ret
theorem u29_24 : VC C29_24.eq_1 := rfl
def C29_25 : ACode := .seq C29_23 C29_24
theorem u29_25 : VC C29_25.eq_1 := rfl
def C29_26 : ACode := .seq C29_20 C29_25
theorem u29_26 : VC C29_26.eq_1 := rfl
def C29_27 : ACode := .seq (.reg L29_6) C29_26
theorem u29_27 : VC C29_27.eq_1 := rfl
def C29_28 : ACode := .seq C29_2 C29_27
theorem u29_28 : VC C29_28.eq_1 := rfl
def C29_29 : ACode := .seq (.reg L29_1) C29_28
theorem u29_29 : VC C29_29.eq_1 := rfl
def F29 : AFunc := ⟨58, [.cell 2 2 true, .tmp 3], C29_29⟩
theorem cF29 : compB Try.prog 29 = some F29 := by kernel_rfl
attribute [local go_sem ↓] u29_0 u29_1 u29_2 u29_3 u29_4 u29_5 u29_6 u29_7 u29_8 u29_9 u29_10 u29_11 u29_12 u29_13 u29_14 u29_15 u29_16 u29_17 u29_18 u29_19 u29_20 u29_21 u29_22 u29_23 u29_24 u29_25 u29_26 u29_27 u29_28 u29_29 v29_0 v29_1 v29_2 v29_3 v29_4 v29_5 v29_6 v29_7 v29_8 v29_9 v29_10 v29_11 v29_12 v29_13 v29_14 v29_15 v29_16 v29_17 v29_18 v29_19 v29_20 v29_21 v29_22 v29_23 v29_24 v29_25 v29_26 v29_27 v29_28 v29_29 v29_30 v29_31 v29_32 v29_33 v29_34 v29_35 v29_36 v29_37 v29_38
theorem k_iFlattenCall (l : List Arg) (p : CV) (h : H) (hl : SlC h p l) (m : miniC l) : callK (bm Try.prog 29 [.agg [p]] h) fun r h' => Grow h h' ∧ ∃ p' n', r = .tup [.agg [p', n'], .one (.bool (FlattenC l).isSome)] ∧ NwF h h' p' n' (orF (FlattenC l)) := by
  refine bm_of cF29 ?_
  have vc := c_ValidCall l p h hl m
  unfold FlattenC
  cases ok : okCall l with
  | false =>
    rw [ok] at vc
    simp +contextual (maxSteps := 2000000) only [go_sem, Nat.reduceEqDiff, reduceCtorEq, Nat.reduceAdd, Nat.reduceLeDiff, F29, vc, if_false]
    exact ⟨Grow.refl h, _, _, rfl, .nil⟩
  | true =>
  rw [ok] at vc
  obtain ⟨rs, y0⟩ := hl.ex
  have hn := (okCall_at ok).1
  have yl : lenO (.one p) = some (ii l.length) := by rw [y0.out.len, y0.len]
  have z0 : NwF h h (.sl none 0 (some 0)) (.sl none 0 (some 0)) (flatT l 0) := by rw [flatT_zero]; exact .nil
  have gz := Grow.refl h
  simp +contextual (maxSteps := 2000000) only [go_sem, Nat.reduceEqDiff, reduceCtorEq, Nat.reduceAdd, Nat.reduceLeDiff, F29, vc, yl, if_true]
  refine wpC_loop (fun i T L h' => Grow h h' ∧ T 1 = .lp 1 0 ∧ (L 1).2 = [p] ∧ T 2 = .lp 2 0 ∧ (L 2).2 = [.sl none 0 (some 0), .sl none 0 (some 0)] ∧ T 4 = .lp 4 0 ∧ (∃ c d, (L 4).2 = [c, d] ∧ NwF h h' c d (flatT l i)) ∧ T 12 = .v (.one p) ∧ T 13 = .v (.one (.int .i64 l.length)) ∧ T 14 = .v (.one (.int .i64 i))) l.length ?_ ?_ (Nat.zero_le _) ?_
  · rintro i T L h' hi ⟨g, t1, l1, t2, l2, t4, ⟨c, d, l4, x⟩, t12, t13, tx⟩
    have y := y0.grow g
    have hr : i < rs.length := by rw [y.len]; exact hi
    have ye := y.el i hr
    rw [getC_eq hi] at ye
    have ek := ye.kind
    have en := ye.name
    have oa := (okCall_at ok).2 i hi
    have kd := okArg_kind oa
    obtain ⟨m1, m2, m3, m4⟩ := okArg_sm oa
    have fo := FOk.flatT ok (i := i) (by omega)
    have a1 := fo.pl
    have a2 := fo.nl
    rw [flatT_next hi]
    have nx : IntKind.i64.wrap ((i : Int) + 1) = ((i + 1 : Nat) : Int) := wrap_next hi (by omega)
    by_cases k2 : l[i].kind = 2
    · have e1 : plOf l[i] = [] := if_pos (.inl k2)
      have e2 : nlOf l[i] = [⟨l[i].name, l[i].list.headD 0⟩] := if_pos k2
      rw [e1, e2, List.append_nil]
      have hz : 0 < l[i].list.length := by have := (m3 k2).1; omega
      have li : iaddrO 1 (.one rs[i].lv) (.one (.int .i64 0)) = some (.one (.ptr (some (elem 1 (.one rs[i].lv) 0)))) := ye.list.iaddr hz
      have lo : loadO 1 false h' (.one (.ptr (some (elem 1 (.one rs[i].lv) 0)))) = some (.one (.int .i64 (l[i].list.headD 0))) := by
        rw [ye.list.oneO hz, encI_0, headC (m3 k2).1 hz]
        rfl
      have d0 : decide (l[i].kind = 0) = false := decide_eq_false (by omega)
      have d1 : decide (l[i].kind = 1) = false := decide_eq_false (by omega)
      simp +contextual (maxSteps := 2000000) only [go_sem, Nat.reduceEqDiff, reduceCtorEq, Nat.reduceAdd, Nat.reduceLeDiff, t1, l1, t2, l2, t4, l4, t12, t13, tx, yl, y.out.iaddr hr, y.out.whole hr, encC, ek, en, lt_true hi, d0, d1, decide_eq_true k2, li, lo]
      refine wp_lit (enc := encP) (k := 2) (l := [⟨l[i].name, l[i].list.headD 0⟩]) rfl rfl ?_
      intro h3 w3 g3 n3 _
      simp +contextual (maxSteps := 2000000) only [go_sem, Nat.reduceEqDiff, reduceCtorEq, Nat.reduceAdd, Nat.reduceLeDiff, t1, l1, t2, l2, t4, l4, t12, t13, tx]
      refine wp_append lenP (x.nl.grow g3) (n3.sl lenP) (g.trans g3) (by simp; omega) ?_
      intro h4 s4 g4 n4 st4 hb4
      obtain ⟨d4, rfl⟩ := n4.one
      have x4 := (x.grow g3).appNl n4 st4 hb4
      simp +contextual (maxSteps := 2000000) only [go_sem, Nat.reduceEqDiff, reduceCtorEq, Nat.reduceAdd, Nat.reduceLeDiff, t1, l1, t2, l2, t4, l4, t12, t13, tx]
      exact ⟨g4, ⟨c, d4, rfl, x4⟩, by rw [nx]⟩
    by_cases k3 : l[i].kind = 3
    · have e1 : plOf l[i] = [] := if_pos (.inr k3)
      have e2 : nlOf l[i] = l[i].pairs := (if_neg k2).trans (if_pos k3)
      rw [e1, e2, List.append_nil]
      have d0 : decide (l[i].kind = 0) = false := decide_eq_false (by omega)
      have d1 : decide (l[i].kind = 1) = false := decide_eq_false (by omega)
      simp +contextual (maxSteps := 2000000) only [go_sem, Nat.reduceEqDiff, reduceCtorEq, Nat.reduceAdd, Nat.reduceLeDiff, t1, l1, t2, l2, t4, l4, t12, t13, tx, yl, y.out.iaddr hr, y.out.whole hr, encC, ek, en, lt_true hi, d0, d1, decide_eq_false k2, decide_eq_true k3]
      refine wp_append lenP x.nl ye.pairs g (by omega) ?_
      intro h4 s4 g4 n4 st4 hb4
      obtain ⟨d4, rfl⟩ := n4.one
      have x4 := x.appNl n4 st4 hb4
      simp +contextual (maxSteps := 2000000) only [go_sem, Nat.reduceEqDiff, reduceCtorEq, Nat.reduceAdd, Nat.reduceLeDiff, t1, l1, t2, l2, t4, l4, t12, t13, tx]
      exact ⟨g4, ⟨c, d4, rfl, x4⟩, by rw [nx]⟩
    have e1 : plOf l[i] = l[i].list := if_neg (by omega)
    have e2 : nlOf l[i] = [] := (if_neg k2).trans (if_neg k3)
    rw [e1, e2, List.append_nil]
    by_cases k0 : l[i].kind = 0
    · simp +contextual (maxSteps := 2000000) only [go_sem, Nat.reduceEqDiff, reduceCtorEq, Nat.reduceAdd, Nat.reduceLeDiff, t1, l1, t2, l2, t4, l4, t12, t13, tx, yl, y.out.iaddr hr, y.out.whole hr, encC, ek, en, lt_true hi, decide_eq_true k0, decide_eq_false k2, decide_eq_false k3]
      refine wp_append lenI x.pl ye.list g (by omega) ?_
      intro h4 s4 g4 n4 st4 hb4
      obtain ⟨c4, rfl⟩ := n4.one
      have x4 := x.appPl n4 st4 hb4
      simp +contextual (maxSteps := 2000000) only [go_sem, Nat.reduceEqDiff, reduceCtorEq, Nat.reduceAdd, Nat.reduceLeDiff, t1, l1, t2, l2, t4, l4, t12, t13, tx]
      exact ⟨g4, ⟨c4, d, rfl, x4⟩, by rw [nx]⟩
    · have k1 : l[i].kind = 1 := by omega
      simp +contextual (maxSteps := 2000000) only [go_sem, Nat.reduceEqDiff, reduceCtorEq, Nat.reduceAdd, Nat.reduceLeDiff, t1, l1, t2, l2, t4, l4, t12, t13, tx, yl, y.out.iaddr hr, y.out.whole hr, encC, ek, en, lt_true hi, decide_eq_false k0, decide_eq_true k1, decide_eq_false k2, decide_eq_false k3]
      refine wp_append lenI x.pl ye.list g (by omega) ?_
      intro h4 s4 g4 n4 st4 hb4
      obtain ⟨c4, rfl⟩ := n4.one
      have x4 := x.appPl n4 st4 hb4
      simp +contextual (maxSteps := 2000000) only [go_sem, Nat.reduceEqDiff, reduceCtorEq, Nat.reduceAdd, Nat.reduceLeDiff, t1, l1, t2, l2, t4, l4, t12, t13, tx]
      exact ⟨g4, ⟨c4, d, rfl, x4⟩, by rw [nx]⟩
  · rintro T L h' ⟨g, t1, l1, t2, l2, t4, ⟨c, d, l4, x⟩, t12, t13, tx⟩
    rw [flatT_all] at x
    have fo := FOk.flatT ok (i := l.length) (Nat.le_refl _)
    rw [flatT_all] at fo
    have sm : smF (flatC l) := ⟨by have := fo.pl; unfold big; omega, by have := fo.nl; unfold big; omega, fun x hx => by have := fo.nm x hx; unfold big; omega⟩
    have vf := c_ValidFlat (flatC l) c d h' x.sl.pl x.sl.nl sm
    unfold okF
    cases b5 : okFlat (flatC l) with
    | false =>
      rw [b5] at vf
      simp +contextual (maxSteps := 2000000) only [go_sem, Nat.reduceEqDiff, reduceCtorEq, Nat.reduceAdd, Nat.reduceLeDiff, t1, l1, t2, l2, t4, l4, t12, t13, tx, lt_false, vf, if_false]
      exact gcK_of ⟨g, _, _, rfl, .nil⟩ (fun hs _ => ⟨Grow.refl h, _, _, rfl, .nil⟩)
    | true =>
      rw [b5] at vf
      simp +contextual (maxSteps := 2000000) only [go_sem, Nat.reduceEqDiff, reduceCtorEq, Nat.reduceAdd, Nat.reduceLeDiff, t1, l1, t2, l2, t4, l4, t12, t13, tx, lt_false, vf, if_true]
      refine wp_call (c_copyOfF (flatC l) c d h' x.sl sm) ?_
      rintro r h5 ⟨g5, p', n', rfl, x5⟩
      have x6 := x5.from g.n
      simp +contextual (maxSteps := 2000000) only [go_sem, Nat.reduceEqDiff, reduceCtorEq, Nat.reduceAdd, Nat.reduceLeDiff, t1, l1, t2, l2, t4, l4, t12, t13, tx]
      exact gcK_of ⟨g.trans g5, _, _, rfl, x6⟩ (fun hs _ => ⟨Grow.refl h, _, _, rfl, x6.scalar (by simpa [AV.scalar, AV.scalars, CV.scalar] using hs) h⟩)
  · simp +contextual (maxSteps := 2000000) only [go_sem, Nat.reduceEqDiff, reduceCtorEq, Nat.reduceAdd, Nat.reduceLeDiff]
    exact ⟨gz, ⟨_, _, rfl, z0⟩, rfl⟩
/-! spec.FlattenCall -/
def L30_0 : List AStep := [⟨.mov (.c (.bool false)), (some 3), none, []⟩]
theorem v30_0 : VS L30_0.eq_1 := rfl
def L30_1 : List AStep := ⟨.box 58 (.t 0), (some 1), none, []⟩ :: ⟨.alloc 27 [(.sl none 0 (some 0)), (.sl none 0 (some 0))], (some 2), none, []⟩ :: L30_0
theorem v30_1 : VS L30_1.eq_1 := rfl
def L30_2 : List AStep := [⟨.not (.t 7), (some 8), none, []⟩]
theorem v30_2 : VS L30_2.eq_1 := rfl
def L30_3 : List AStep := ⟨.load 1 true (.t 1), (some 6), none, []⟩ :: ⟨.call 80 [(.t 6)], (some 7), none, []⟩ :: L30_2
theorem v30_3 : VS L30_3.eq_1 := rfl
def L30_4 : List AStep := [⟨.mov (.c (.bool false)), (some 3), none, []⟩]
theorem v30_4 : VS L30_4.eq_1 := rfl
def L30_5 : List AStep := ⟨.build [(.sl none 0 (some 0)), (.sl none 0 (some 0))] [], (some 9), none, []⟩ :: ⟨.store 2 (.t 2) (.t 9), none, none, []⟩ :: L30_4
theorem v30_5 : VS L30_5.eq_1 := rfl
def L30_6 : List AStep := [⟨.store 2 (.t 4) (.t 13), none, none, []⟩, ⟨.mov (.t 14), (some 5), none, []⟩]
theorem v30_6 : VS L30_6.eq_1 := rfl
def L30_7 : List AStep := ⟨.extract (.t 10) 1, (some 14), none, []⟩ :: ⟨.alloc 27 [(.sl none 0 (some 0)), (.sl none 0 (some 0))], (some 4), none, []⟩ :: L30_6
theorem v30_7 : VS L30_7.eq_1 := rfl
def L30_8 : List AStep := ⟨.mov (.t 12), (some 10), none, []⟩ :: ⟨.extract (.t 10) 0, (some 13), none, []⟩ :: L30_7
theorem v30_8 : VS L30_8.eq_1 := rfl
def L30_9 : List AStep := ⟨.load 1 true (.t 1), (some 11), none, []⟩ :: ⟨.call 81 [(.t 11)], (some 12), none, []⟩ :: L30_8
theorem v30_9 : VS L30_9.eq_1 := rfl
def L30_10 : List AStep := [⟨.mov (.t 5), (some 15), none, []⟩, ⟨.not (.t 15), (some 16), none, []⟩]
theorem v30_10 : VS L30_10.eq_1 := rfl
def L30_11 : List AStep := [⟨.mov (.c (.bool false)), (some 3), none, []⟩]
theorem v30_11 : VS L30_11.eq_1 := rfl
def L30_12 : List AStep := ⟨.build [(.sl none 0 (some 0)), (.sl none 0 (some 0))] [], (some 17), none, []⟩ :: ⟨.store 2 (.t 2) (.t 17), none, none, []⟩ :: L30_11
theorem v30_12 : VS L30_12.eq_1 := rfl
def L30_13 : List AStep := [⟨.mov (.c (.bool true)), (some 3), none, []⟩]
theorem v30_13 : VS L30_13.eq_1 := rfl
def L30_14 : List AStep := ⟨.load 2 true (.t 4), (some 18), none, []⟩ :: ⟨.store 2 (.t 2) (.t 18), none, none, []⟩ :: L30_13
theorem v30_14 : VS L30_14.eq_1 := rfl
def C30_0 : ACode := .seq (.reg L30_5) .ret
theorem u30_0 : VC C30_0.eq_1 := rfl
def C30_1 : ACode := .cond (.t 8) C30_0 .skip
theorem u30_1 : VC C30_1.eq_1 := rfl
def C30_2 : ACode := .seq (.reg L30_3) C30_1
theorem u30_2 : VC C30_2.eq_1 := rfl
def C30_3 : ACode := .seq (.reg L30_12) .ret
theorem u30_3 : VC C30_3.eq_1 := rfl
def C30_4 : ACode := .cond (.t 16) C30_3 .skip
theorem u30_4 : VC C30_4.eq_1 := rfl
def C30_5 : ACode := .seq (.reg L30_10) C30_4
theorem u30_5 : VC C30_5.eq_1 := rfl
def C30_6 : ACode := .seq (.reg L30_14) .ret
theorem u30_6 : VC C30_6.eq_1 := rfl
def C30_7 : ACode := .seq C30_5 C30_6
theorem u30_7 : VC C30_7.eq_1 := rfl
def C30_8 : ACode := .seq (.reg L30_9) C30_7
theorem u30_8 : VC C30_8.eq_1 := rfl
def C30_9 : ACode := .seq C30_2 C30_8
theorem u30_9 : VC C30_9.eq_1 := rfl
def C30_10 : ACode := .seq (.reg L30_1) C30_9
theorem u30_10 : VC C30_10.eq_1 := rfl
def F30 : AFunc := ⟨19, [.cell 2 2 true, .tmp 3], C30_10⟩
theorem cF30 : compB Try.prog 30 = some F30 := by kernel_rfl
attribute [local go_sem ↓] u30_0 u30_1 u30_2 u30_3 u30_4 u30_5 u30_6 u30_7 u30_8 u30_9 u30_10 v30_0 v30_1 v30_2 v30_3 v30_4 v30_5 v30_6 v30_7 v30_8 v30_9 v30_10 v30_11 v30_12 v30_13 v30_14
theorem k_sFlattenCall (l : List Arg) (p : CV) (h : H) (hl : SlC h p l) (m : miniC l) : callK (bm Try.prog 30 [.agg [p]] h) fun r h' => Grow h h' ∧ ∃ p' n', r = .tup [.agg [p', n'], .one (.bool (FlattenC l).isSome)] ∧ NwF h h' p' n' (orF (FlattenC l)) := by
  refine bm_of cF30 ?_
  have vc := c_validCall l p h hl m
  unfold FlattenC
  cases ok : okCall l with
  | false =>
    rw [ok] at vc
    simp +contextual (maxSteps := 2000000) only [go_sem, Nat.reduceEqDiff, reduceCtorEq, Nat.reduceAdd, Nat.reduceLeDiff, F30, vc, if_false]
    exact ⟨Grow.refl h, _, _, rfl, .nil⟩
  | true =>
  rw [ok] at vc
  simp +contextual (maxSteps := 2000000) only [go_sem, Nat.reduceEqDiff, reduceCtorEq, Nat.reduceAdd, Nat.reduceLeDiff, F30, vc, if_true]
  refine wp_call (c_flatten l p h hl m ok) ?_
  rintro r h1 ⟨g1, p', n', rfl, x⟩
  unfold okF
  cases b5 : okFlat (flatC l) with
  | false =>
    simp +contextual (maxSteps := 2000000) only [go_sem, Nat.reduceEqDiff, reduceCtorEq, Nat.reduceAdd, Nat.reduceLeDiff, if_false]
    exact gcK_of ⟨g1, _, _, rfl, .nil⟩ (fun hs _ => ⟨Grow.refl h, _, _, rfl, .nil⟩)
  | true =>
    simp +contextual (maxSteps := 2000000) only [go_sem, Nat.reduceEqDiff, reduceCtorEq, Nat.reduceAdd, Nat.reduceLeDiff, if_true]
    exact gcK_of ⟨g1, _, _, rfl, x⟩ (fun hs _ => ⟨Grow.refl h, _, _, rfl, x.scalar (by simpa [AV.scalar, AV.scalars, CV.scalar] using hs) h⟩)
end Go.Proofs.Ytekkimfdcbgcoaa.Am
