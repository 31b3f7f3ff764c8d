/- Contracts: calls that are made flat, of both sides. -/
import Derived.Test.YtoeceafibmafpaaDoorA1
import Derived.Test.YtoeceafibmafpaaDoorA3
import Derived.Test.YtoeceafibmafpaaDoorB1
import Derived.Test.YtoeceafibmafpaaDoorDN
import Derived.Test.YtoeceafibmafpaaDoorFD
namespace Go.Proofs.YtoeceafibmafpaaDoor.Am
open Go
set_option maxRecDepth 100000
set_option maxHeartbeats 4000000
set_option linter.unusedSimpArgs false
set_option linter.unusedVariables false
attribute [local go_sem ↓] bv_t bv_c ev_t ev_c put_same put_ne put_none kill_at pro_at lb_same lb_ne start_zero start_succ wpC_seq wpC_reg wpC_cond wpC_block wpC_skip wpC_exit wpC_ret thenQ_normal thenQ_exit thenQ_ret inBlk_normal inBlk_exit inBlk_ret wpS_nil wpS_step wpS_again wpS_guard wpO_mov wpO_load wpO_faddr wpO_nilCheck wpO_pick wpO_build wpO_bin wpO_eqb wpO_eqst wpO_eqnil wpO_not wpO_conv wpO_bytesStr wpO_iaddr wpO_idxStr wpO_field wpO_extract wpO_len wpO_lenStr wpO_cap wpO_min wpO_slice wpO_sliceStr wpO_alloc wpO_box wpO_store wpO_call wpO_callv wpO_mkfn wpO_buildSlice wpO_mkslice wpO_append wpO_appz proA_nil proA_cons tmpX_nil tmpX_tmp tmpX_cell doneB_normal doneB_ret agK_cons agK_nil agK_guard agG_tt agG_ff agG_tf agG_ft agG_undef pureB_load results_one results_two results_nil resBs_cons resBs_nil resB_tmp resB_cell
attribute [local go_sem] kill_v kill_lp_ne kill_lp_same pro_v pro_lp_same pro_lp_ne av_v av_lp optB_some optX_some valX_eq ldX_lp ldX_v faX_lp faX_v ncX_lp ncX_ptr ncX_fn boxK_one boxK_agg stL_some stK_lp_one stK_lp_agg stK_v_one stK_v_agg proM_v proM_lp callG_mk callVG_mk callvK_fn fnG_mk ptrsA_nil ptrsA_cons callH_some whenA_true whenA_false guardH_tt guardH_ff guardH_tf guardH_ft guardH_undef agV_one agV_agg lenO_sl lenStrO_str notO_bool pickO_bool convO_int eqbO_bool eqnilO_sl extractO_tup capO_sl minO_int loadL_one loadL_all storeL_eq fillA_nil fillA_one fillA_agg nat_ge neg_ge nat_lt neg_lt buildO bin_add bin_sub bin_mul bin_eql bin_neq bin_lss bin_leq bin_gtr bin_geq str_eql str_neq str_lss str_leq str_gtr str_geq retK_some endK_mk gcK_same gcK_int gcK_bool tupO_one tupO_agg rdy_self ib ii Option.map_none Option.map_some Option.some.injEq exists_eq_left' exists_eq_left ne_eq not_false_eq_true if_true if_false List.map_cons List.map_nil List.getElem?_cons_zero List.getElem?_cons_succ List.length_cons List.length_nil List.take_succ_cons List.take_zero List.take_nil List.drop_succ_cons List.drop_zero List.drop_nil List.cons_append List.nil_append List.append_nil List.set_cons_zero List.set_cons_succ Nat.zero_add forall_const true_and and_true and_self Bool.false_eq_true false_implies true_implies implies_true Bool.not_true Bool.not_false Bool.not_eq_true' Bool.not_eq_false' beq_self_eq_true Bool.bne_true Bool.bne_false
attribute [local go_sem] lenI lenS lenP lenQ lenB lenL lenT encI_0 encS_0 encP_0 encP_1 encQ_0 encQ_1 encQ_2 encQ_3 encB_0 encB_1 encL_0 encL_1 encT_0 encT_1
attribute [local go_sem low] whenA_bool guardH_bool
attribute [local go_sem] lenC encC_0 encC_1 encC_2 encC_3
attribute [local go_sem] Bool.and_true Bool.true_and Bool.and_false Bool.false_and
theorem Pair.smP {l : List Pair} (h : l.length ≤ 1048576) (k : ∀ x ∈ l, x.name.size ≤ 1048576) : smP l := ⟨Nat.le_trans h (by decide), fun x hx => Nat.le_trans (k x hx) (by decide)⟩
/-! spec.validArg -/
def L95_0 : List AStep := [⟨.box 99 (.t 0), (some 1), none, []⟩, ⟨.mov (.c (.bool false)), (some 2), none, []⟩]
theorem v95_0 : VS L95_0.eq_1 := rfl
def L95_1 : List AStep := [⟨.faddr 0 (.t 1), (some 3), none, []⟩, ⟨.load 1 false (.t 3), (some 4), none, []⟩]
theorem v95_1 : VS L95_1.eq_1 := rfl
def L95_2 : List AStep := [⟨.bin .eql (.t 4) (.c (.int .i64 0)), (some 6), none, []⟩, ⟨.mov (.t 6), (some 5), none, []⟩]
theorem v95_2 : VS L95_2.eq_1 := rfl
def L95_3 : List AStep := [⟨.mov (.t 26), (some 2), none, []⟩]
theorem v95_3 : VS L95_3.eq_1 := rfl
def L95_4 : List AStep := ⟨.bin .eql (.t 24) (.c (.int .i64 0)), (some 25), (some (21, true)), []⟩ :: ⟨.pick (.t 21) (.t 25) (.c (.bool false)), (some 26), none, []⟩ :: L95_3
theorem v95_4 : VS L95_4.eq_1 := rfl
def L95_5 : List AStep := ⟨.load 1 false (.t 22), (some 23), (some (21, true)), []⟩ :: ⟨.len (.t 23), (some 24), (some (21, true)), []⟩ :: L95_4
theorem v95_5 : VS L95_5.eq_1 := rfl
def L95_6 : List AStep := ⟨.mov (.t 20), (some 21), none, []⟩ :: ⟨.faddr 3 (.t 1), (some 22), (some (21, true)), []⟩ :: L95_5
theorem v95_6 : VS L95_6.eq_1 := rfl
def L95_7 : List AStep := ⟨.call 118 [(.t 18)], (some 19), (some (16, true)), []⟩ :: ⟨.pick (.t 16) (.t 19) (.c (.bool false)), (some 20), none, []⟩ :: L95_6
theorem v95_7 : VS L95_7.eq_1 := rfl
def L95_8 : List AStep := ⟨.faddr 2 (.t 1), (some 17), (some (16, true)), []⟩ :: ⟨.load 1 false (.t 17), (some 18), (some (16, true)), []⟩ :: L95_7
theorem v95_8 : VS L95_8.eq_1 := rfl
def L95_9 : List AStep := ⟨.pick (.t 10) (.t 14) (.c (.bool false)), (some 15), none, []⟩ :: ⟨.mov (.t 15), (some 16), none, []⟩ :: L95_8
theorem v95_9 : VS L95_9.eq_1 := rfl
def L95_10 : List AStep := ⟨.len (.t 12), (some 13), (some (10, true)), []⟩ :: ⟨.bin .eql (.t 13) (.c (.int .i64 1)), (some 14), (some (10, true)), []⟩ :: L95_9
theorem v95_10 : VS L95_10.eq_1 := rfl
def L95_11 : List AStep := ⟨.faddr 2 (.t 1), (some 11), (some (10, true)), []⟩ :: ⟨.load 1 false (.t 11), (some 12), (some (10, true)), []⟩ :: L95_10
theorem v95_11 : VS L95_11.eq_1 := rfl
def L95_12 : List AStep := ⟨.bin .eql (.t 8) (.c (.str (strOfNums []))), (some 9), none, []⟩ :: ⟨.mov (.t 9), (some 10), none, []⟩ :: L95_11
theorem v95_12 : VS L95_12.eq_1 := rfl
def L95_13 : List AStep := ⟨.faddr 1 (.t 1), (some 7), none, []⟩ :: ⟨.load 1 false (.t 7), (some 8), none, []⟩ :: L95_12
theorem v95_13 : VS L95_13.eq_1 := rfl
def L95_14 : List AStep := [⟨.bin .eql (.t 4) (.c (.int .i64 1)), (some 28), none, []⟩, ⟨.mov (.t 28), (some 27), none, []⟩]
theorem v95_14 : VS L95_14.eq_1 := rfl
def L95_15 : List AStep := [⟨.mov (.t 48), (some 2), none, []⟩]
theorem v95_15 : VS L95_15.eq_1 := rfl
def L95_16 : List AStep := ⟨.bin .eql (.t 46) (.c (.int .i64 0)), (some 47), (some (43, true)), []⟩ :: ⟨.pick (.t 43) (.t 47) (.c (.bool false)), (some 48), none, []⟩ :: L95_15
theorem v95_16 : VS L95_16.eq_1 := rfl
def L95_17 : List AStep := ⟨.load 1 false (.t 44), (some 45), (some (43, true)), []⟩ :: ⟨.len (.t 45), (some 46), (some (43, true)), []⟩ :: L95_16
theorem v95_17 : VS L95_17.eq_1 := rfl
def L95_18 : List AStep := ⟨.mov (.t 42), (some 43), none, []⟩ :: ⟨.faddr 3 (.t 1), (some 44), (some (43, true)), []⟩ :: L95_17
theorem v95_18 : VS L95_18.eq_1 := rfl
def L95_19 : List AStep := ⟨.call 118 [(.t 40)], (some 41), (some (38, true)), []⟩ :: ⟨.pick (.t 38) (.t 41) (.c (.bool false)), (some 42), none, []⟩ :: L95_18
theorem v95_19 : VS L95_19.eq_1 := rfl
def L95_20 : List AStep := ⟨.faddr 2 (.t 1), (some 39), (some (38, true)), []⟩ :: ⟨.load 1 false (.t 39), (some 40), (some (38, true)), []⟩ :: L95_19
theorem v95_20 : VS L95_20.eq_1 := rfl
def L95_21 : List AStep := ⟨.pick (.t 32) (.t 36) (.c (.bool false)), (some 37), none, []⟩ :: ⟨.mov (.t 37), (some 38), none, []⟩ :: L95_20
theorem v95_21 : VS L95_21.eq_1 := rfl
def L95_22 : List AStep := ⟨.len (.t 34), (some 35), (some (32, true)), []⟩ :: ⟨.bin .leq (.t 35) (.c (.int .i64 8)), (some 36), (some (32, true)), []⟩ :: L95_21
theorem v95_22 : VS L95_22.eq_1 := rfl
def L95_23 : List AStep := ⟨.faddr 2 (.t 1), (some 33), (some (32, true)), []⟩ :: ⟨.load 1 false (.t 33), (some 34), (some (32, true)), []⟩ :: L95_22
theorem v95_23 : VS L95_23.eq_1 := rfl
def L95_24 : List AStep := ⟨.bin .eql (.t 30) (.c (.str (strOfNums []))), (some 31), none, []⟩ :: ⟨.mov (.t 31), (some 32), none, []⟩ :: L95_23
theorem v95_24 : VS L95_24.eq_1 := rfl
def L95_25 : List AStep := ⟨.faddr 1 (.t 1), (some 29), none, []⟩ :: ⟨.load 1 false (.t 29), (some 30), none, []⟩ :: L95_24
theorem v95_25 : VS L95_25.eq_1 := rfl
def L95_26 : List AStep := [⟨.bin .eql (.t 4) (.c (.int .i64 2)), (some 50), none, []⟩, ⟨.mov (.t 50), (some 49), none, []⟩]
theorem v95_26 : VS L95_26.eq_1 := rfl
def L95_27 : List AStep := [⟨.mov (.t 70), (some 2), none, []⟩]
theorem v95_27 : VS L95_27.eq_1 := rfl
def L95_28 : List AStep := ⟨.bin .eql (.t 68) (.c (.int .i64 0)), (some 69), (some (65, true)), []⟩ :: ⟨.pick (.t 65) (.t 69) (.c (.bool false)), (some 70), none, []⟩ :: L95_27
theorem v95_28 : VS L95_28.eq_1 := rfl
def L95_29 : List AStep := ⟨.load 1 false (.t 66), (some 67), (some (65, true)), []⟩ :: ⟨.len (.t 67), (some 68), (some (65, true)), []⟩ :: L95_28
theorem v95_29 : VS L95_29.eq_1 := rfl
def L95_30 : List AStep := ⟨.mov (.t 64), (some 65), none, []⟩ :: ⟨.faddr 3 (.t 1), (some 66), (some (65, true)), []⟩ :: L95_29
theorem v95_30 : VS L95_30.eq_1 := rfl
def L95_31 : List AStep := ⟨.call 118 [(.t 62)], (some 63), (some (60, true)), []⟩ :: ⟨.pick (.t 60) (.t 63) (.c (.bool false)), (some 64), none, []⟩ :: L95_30
theorem v95_31 : VS L95_31.eq_1 := rfl
def L95_32 : List AStep := ⟨.faddr 2 (.t 1), (some 61), (some (60, true)), []⟩ :: ⟨.load 1 false (.t 61), (some 62), (some (60, true)), []⟩ :: L95_31
theorem v95_32 : VS L95_32.eq_1 := rfl
def L95_33 : List AStep := ⟨.pick (.t 54) (.t 58) (.c (.bool false)), (some 59), none, []⟩ :: ⟨.mov (.t 59), (some 60), none, []⟩ :: L95_32
theorem v95_33 : VS L95_33.eq_1 := rfl
def L95_34 : List AStep := ⟨.len (.t 56), (some 57), (some (54, true)), []⟩ :: ⟨.bin .eql (.t 57) (.c (.int .i64 1)), (some 58), (some (54, true)), []⟩ :: L95_33
theorem v95_34 : VS L95_34.eq_1 := rfl
def L95_35 : List AStep := ⟨.faddr 2 (.t 1), (some 55), (some (54, true)), []⟩ :: ⟨.load 1 false (.t 55), (some 56), (some (54, true)), []⟩ :: L95_34
theorem v95_35 : VS L95_35.eq_1 := rfl
def L95_36 : List AStep := ⟨.call 66 [(.t 52)], (some 53), none, []⟩ :: ⟨.mov (.t 53), (some 54), none, []⟩ :: L95_35
theorem v95_36 : VS L95_36.eq_1 := rfl
def L95_37 : List AStep := ⟨.faddr 1 (.t 1), (some 51), none, []⟩ :: ⟨.load 1 false (.t 51), (some 52), none, []⟩ :: L95_36
theorem v95_37 : VS L95_37.eq_1 := rfl
def L95_38 : List AStep := [⟨.bin .eql (.t 4) (.c (.int .i64 3)), (some 72), none, []⟩, ⟨.mov (.t 72), (some 71), none, []⟩]
theorem v95_38 : VS L95_38.eq_1 := rfl
def L95_39 : List AStep := [⟨.mov (.t 92), (some 2), none, []⟩]
theorem v95_39 : VS L95_39.eq_1 := rfl
def L95_40 : List AStep := ⟨.call 119 [(.t 90)], (some 91), (some (88, true)), []⟩ :: ⟨.pick (.t 88) (.t 91) (.c (.bool false)), (some 92), none, []⟩ :: L95_39
theorem v95_40 : VS L95_40.eq_1 := rfl
def L95_41 : List AStep := ⟨.faddr 3 (.t 1), (some 89), (some (88, true)), []⟩ :: ⟨.load 1 false (.t 89), (some 90), (some (88, true)), []⟩ :: L95_40
theorem v95_41 : VS L95_41.eq_1 := rfl
def L95_42 : List AStep := ⟨.pick (.t 82) (.t 86) (.c (.bool false)), (some 87), none, []⟩ :: ⟨.mov (.t 87), (some 88), none, []⟩ :: L95_41
theorem v95_42 : VS L95_42.eq_1 := rfl
def L95_43 : List AStep := ⟨.len (.t 84), (some 85), (some (82, true)), []⟩ :: ⟨.bin .leq (.t 85) (.c (.int .i64 8)), (some 86), (some (82, true)), []⟩ :: L95_42
theorem v95_43 : VS L95_43.eq_1 := rfl
def L95_44 : List AStep := ⟨.faddr 3 (.t 1), (some 83), (some (82, true)), []⟩ :: ⟨.load 1 false (.t 83), (some 84), (some (82, true)), []⟩ :: L95_43
theorem v95_44 : VS L95_44.eq_1 := rfl
def L95_45 : List AStep := ⟨.pick (.t 76) (.t 80) (.c (.bool false)), (some 81), none, []⟩ :: ⟨.mov (.t 81), (some 82), none, []⟩ :: L95_44
theorem v95_45 : VS L95_45.eq_1 := rfl
def L95_46 : List AStep := ⟨.len (.t 78), (some 79), (some (76, true)), []⟩ :: ⟨.bin .eql (.t 79) (.c (.int .i64 0)), (some 80), (some (76, true)), []⟩ :: L95_45
theorem v95_46 : VS L95_46.eq_1 := rfl
def L95_47 : List AStep := ⟨.faddr 2 (.t 1), (some 77), (some (76, true)), []⟩ :: ⟨.load 1 false (.t 77), (some 78), (some (76, true)), []⟩ :: L95_46
theorem v95_47 : VS L95_47.eq_1 := rfl
def L95_48 : List AStep := ⟨.bin .eql (.t 74) (.c (.str (strOfNums []))), (some 75), none, []⟩ :: ⟨.mov (.t 75), (some 76), none, []⟩ :: L95_47
theorem v95_48 : VS L95_48.eq_1 := rfl
def L95_49 : List AStep := ⟨.faddr 1 (.t 1), (some 73), none, []⟩ :: ⟨.load 1 false (.t 73), (some 74), none, []⟩ :: L95_48
theorem v95_49 : VS L95_49.eq_1 := rfl
def L95_50 : List AStep := [⟨.mov (.c (.bool false)), (some 2), none, []⟩]
theorem v95_50 : VS L95_50.eq_1 := rfl
def C95_0 : ACode := .seq (.reg L95_13) .ret
theorem u95_0 : VC C95_0.eq_1 := rfl
def C95_1 : ACode := .seq (.reg L95_25) .ret
theorem u95_1 : VC C95_1.eq_1 := rfl
def C95_2 : ACode := .seq (.reg L95_37) .ret
theorem u95_2 : VC C95_2.eq_1 := rfl
def C95_3 : ACode := .seq (.reg L95_49) .ret
theorem u95_3 : VC C95_3.eq_1 := rfl
def C95_4 : ACode := .cond (.t 71) C95_3 .skip
theorem u95_4 : VC C95_4.eq_1 := rfl
def C95_5 : ACode := .seq (.reg L95_38) C95_4
theorem u95_5 : VC C95_5.eq_1 := rfl
def C95_6 : ACode := .cond (.t 49) C95_2 C95_5
theorem u95_6 : VC C95_6.eq_1 := rfl
def C95_7 : ACode := .seq (.reg L95_26) C95_6
theorem u95_7 : VC C95_7.eq_1 := rfl
def C95_8 : ACode := .cond (.t 27) C95_1 C95_7
theorem u95_8 : VC C95_8.eq_1 := rfl
def C95_9 : ACode := .seq (.reg L95_14) C95_8
theorem u95_9 : VC C95_9.eq_1 := rfl
def C95_10 : ACode := .cond (.t 5) C95_0 C95_9
theorem u95_10 : VC C95_10.eq_1 := rfl
def C95_11 : ACode := .seq (.reg L95_2) C95_10
theorem u95_11 : VC C95_11.eq_1 := rfl
def C95_12 : ACode := .block 0 C95_11
theorem u95_12 : VC C95_12.eq_1 := rfl
def C95_13 : ACode := .seq (.reg L95_1) C95_12
theorem u95_13 : VC C95_13.eq_1 := rfl
def C95_14 : ACode := .seq (.reg L95_50) .ret
theorem u95_14 : VC C95_14.eq_1 := rfl
def C95_15 : ACode := .seq C95_13 C95_14
theorem u95_15 : VC C95_15.eq_1 := rfl
def C95_16 : ACode := .seq (.reg L95_0) C95_15
theorem u95_16 : VC C95_16.eq_1 := rfl
def F95 : AFunc := ⟨93, [.tmp 2], C95_16⟩
theorem cF95 : compB Tryd.prog 95 = some F95 := by kernel_rfl
attribute [local go_sem ↓] u95_0 u95_1 u95_2 u95_3 u95_4 u95_5 u95_6 u95_7 u95_8 u95_9 u95_10 u95_11 u95_12 u95_13 u95_14 u95_15 u95_16 v95_0 v95_1 v95_2 v95_3 v95_4 v95_5 v95_6 v95_7 v95_8 v95_9 v95_10 v95_11 v95_12 v95_13 v95_14 v95_15 v95_16 v95_17 v95_18 v95_19 v95_20 v95_21 v95_22 v95_23 v95_24 v95_25 v95_26 v95_27 v95_28 v95_29 v95_30 v95_31 v95_32 v95_33 v95_34 v95_35 v95_36 v95_37 v95_38 v95_39 v95_40 v95_41 v95_42 v95_43 v95_44 v95_45 v95_46 v95_47 v95_48 v95_49 v95_50
theorem c_validArg (r : RArg) (a : Arg) (h : H) (y : AtC 3 151 h r a) (k0 : a.name.size ≤ 1048576) (k1 : a.list.length ≤ 1048576) (k2 : a.pairs.length ≤ 1048576) (k3 : ∀ x ∈ a.pairs, x.name.size ≤ 1048576) : bm Tryd.prog 95 [.agg (encC r)] h = some (ib (okArg a), h) := by
  refine bm_eq cF95 ?_
  have ek := y.kind
  have en := y.name
  have kb : a.list.length ≤ big := Nat.le_trans k1 (by decide)
  have nl := c_validNumbers a.list _ h y.list kb
  have nn := c_validName a.name h (Nat.lt_of_le_of_lt k0 (by decide))
  have np := c_validPairs a.pairs _ h y.pairs (Pair.smP k2 k3)
  unfold okArg
  by_cases q0 : a.kind = 0
  · rw [if_pos q0]
    cases b_nm : noNm a with
    | false =>
      have r_nm : decide (a.name = strOfNums []) = false := b_nm
      simp +contextual (maxSteps := 2000000) only [go_sem, Nat.reduceEqDiff, reduceCtorEq, Nat.reduceAdd, Nat.reduceLeDiff, F95, encC, ek, en, y.list.len, y.pairs.len, nl, nn, np, Bool.not_not, decide_eq_true q0, r_nm, b_nm]
    | true =>
    have r_nm : decide (a.name = strOfNums []) = true := b_nm
    cases b_l1 : len1 a.list with
    | false =>
      have r_l1 : decide ((a.list.length : Int) = 1) = false := b_l1
      simp +contextual (maxSteps := 2000000) only [go_sem, Nat.reduceEqDiff, reduceCtorEq, Nat.reduceAdd, Nat.reduceLeDiff, F95, encC, ek, en, y.list.len, y.pairs.len, nl, nn, np, Bool.not_not, decide_eq_true q0, r_nm, b_nm, r_l1, b_l1]
    | true =>
    have r_l1 : decide ((a.list.length : Int) = 1) = true := b_l1
    cases b_nums : a.list.all okNum with
    | false =>
      simp +contextual (maxSteps := 2000000) only [go_sem, Nat.reduceEqDiff, reduceCtorEq, Nat.reduceAdd, Nat.reduceLeDiff, F95, encC, ek, en, y.list.len, y.pairs.len, nl, nn, np, Bool.not_not, decide_eq_true q0, r_nm, b_nm, r_l1, b_l1, b_nums, b_nums]
    | true =>
    cases b_p0 : len0 a.pairs with
    | false =>
      have r_p0 : decide ((a.pairs.length : Int) = 0) = false := b_p0
      simp +contextual (maxSteps := 2000000) only [go_sem, Nat.reduceEqDiff, reduceCtorEq, Nat.reduceAdd, Nat.reduceLeDiff, F95, encC, ek, en, y.list.len, y.pairs.len, nl, nn, np, Bool.not_not, decide_eq_true q0, r_nm, b_nm, r_l1, b_l1, b_nums, b_nums, r_p0, b_p0]
    | true =>
    have r_p0 : decide ((a.pairs.length : Int) = 0) = true := b_p0
    simp +contextual (maxSteps := 2000000) only [go_sem, Nat.reduceEqDiff, reduceCtorEq, Nat.reduceAdd, Nat.reduceLeDiff, F95, encC, ek, en, y.list.len, y.pairs.len, nl, nn, np, Bool.not_not, decide_eq_true q0, r_nm, b_nm, r_l1, b_l1, b_nums, b_nums, r_p0, b_p0]
  by_cases q1 : a.kind = 1
  · rw [if_neg q0, if_pos q1]
    cases b_nm : noNm a with
    | false =>
      have r_nm : decide (a.name = strOfNums []) = false := b_nm
      simp +contextual (maxSteps := 2000000) only [go_sem, Nat.reduceEqDiff, reduceCtorEq, Nat.reduceAdd, Nat.reduceLeDiff, F95, encC, ek, en, y.list.len, y.pairs.len, nl, nn, np, Bool.not_not, decide_eq_false q0, decide_eq_true q1, r_nm, b_nm]
    | true =>
    have r_nm : decide (a.name = strOfNums []) = true := b_nm
    cases b_l8 : le8 a.list with
    | false =>
      have r_l8 : decide ((a.list.length : Int) ≤ 8) = false := b_l8
      simp +contextual (maxSteps := 2000000) only [go_sem, Nat.reduceEqDiff, reduceCtorEq, Nat.reduceAdd, Nat.reduceLeDiff, F95, encC, ek, en, y.list.len, y.pairs.len, nl, nn, np, Bool.not_not, decide_eq_false q0, decide_eq_true q1, r_nm, b_nm, r_l8, b_l8]
    | true =>
    have r_l8 : decide ((a.list.length : Int) ≤ 8) = true := b_l8
    cases b_nums : a.list.all okNum with
    | false =>
      simp +contextual (maxSteps := 2000000) only [go_sem, Nat.reduceEqDiff, reduceCtorEq, Nat.reduceAdd, Nat.reduceLeDiff, F95, encC, ek, en, y.list.len, y.pairs.len, nl, nn, np, Bool.not_not, decide_eq_false q0, decide_eq_true q1, r_nm, b_nm, r_l8, b_l8, b_nums, b_nums]
    | true =>
    cases b_p0 : len0 a.pairs with
    | false =>
      have r_p0 : decide ((a.pairs.length : Int) = 0) = false := b_p0
      simp +contextual (maxSteps := 2000000) only [go_sem, Nat.reduceEqDiff, reduceCtorEq, Nat.reduceAdd, Nat.reduceLeDiff, F95, encC, ek, en, y.list.len, y.pairs.len, nl, nn, np, Bool.not_not, decide_eq_false q0, decide_eq_true q1, r_nm, b_nm, r_l8, b_l8, b_nums, b_nums, r_p0, b_p0]
    | true =>
    have r_p0 : decide ((a.pairs.length : Int) = 0) = true := b_p0
    simp +contextual (maxSteps := 2000000) only [go_sem, Nat.reduceEqDiff, reduceCtorEq, Nat.reduceAdd, Nat.reduceLeDiff, F95, encC, ek, en, y.list.len, y.pairs.len, nl, nn, np, Bool.not_not, decide_eq_false q0, decide_eq_true q1, r_nm, b_nm, r_l8, b_l8, b_nums, b_nums, r_p0, b_p0]
  by_cases q2 : a.kind = 2
  · rw [if_neg q0, if_neg q1, if_pos q2]
    cases b_on : okName a.name with
    | false =>
      simp +contextual (maxSteps := 2000000) only [go_sem, Nat.reduceEqDiff, reduceCtorEq, Nat.reduceAdd, Nat.reduceLeDiff, F95, encC, ek, en, y.list.len, y.pairs.len, nl, nn, np, Bool.not_not, decide_eq_false q0, decide_eq_false q1, decide_eq_true q2, b_on, b_on]
    | true =>
    cases b_l1 : len1 a.list with
    | false =>
      have r_l1 : decide ((a.list.length : Int) = 1) = false := b_l1
      simp +contextual (maxSteps := 2000000) only [go_sem, Nat.reduceEqDiff, reduceCtorEq, Nat.reduceAdd, Nat.reduceLeDiff, F95, encC, ek, en, y.list.len, y.pairs.len, nl, nn, np, Bool.not_not, decide_eq_false q0, decide_eq_false q1, decide_eq_true q2, b_on, b_on, r_l1, b_l1]
    | true =>
    have r_l1 : decide ((a.list.length : Int) = 1) = true := b_l1
    cases b_nums : a.list.all okNum with
    | false =>
      simp +contextual (maxSteps := 2000000) only [go_sem, Nat.reduceEqDiff, reduceCtorEq, Nat.reduceAdd, Nat.reduceLeDiff, F95, encC, ek, en, y.list.len, y.pairs.len, nl, nn, np, Bool.not_not, decide_eq_false q0, decide_eq_false q1, decide_eq_true q2, b_on, b_on, r_l1, b_l1, b_nums, b_nums]
    | true =>
    cases b_p0 : len0 a.pairs with
    | false =>
      have r_p0 : decide ((a.pairs.length : Int) = 0) = false := b_p0
      simp +contextual (maxSteps := 2000000) only [go_sem, Nat.reduceEqDiff, reduceCtorEq, Nat.reduceAdd, Nat.reduceLeDiff, F95, encC, ek, en, y.list.len, y.pairs.len, nl, nn, np, Bool.not_not, decide_eq_false q0, decide_eq_false q1, decide_eq_true q2, b_on, b_on, r_l1, b_l1, b_nums, b_nums, r_p0, b_p0]
    | true =>
    have r_p0 : decide ((a.pairs.length : Int) = 0) = true := b_p0
    simp +contextual (maxSteps := 2000000) only [go_sem, Nat.reduceEqDiff, reduceCtorEq, Nat.reduceAdd, Nat.reduceLeDiff, F95, encC, ek, en, y.list.len, y.pairs.len, nl, nn, np, Bool.not_not, decide_eq_false q0, decide_eq_false q1, decide_eq_true q2, b_on, b_on, r_l1, b_l1, b_nums, b_nums, r_p0, b_p0]
  by_cases q3 : a.kind = 3
  · rw [if_neg q0, if_neg q1, if_neg q2, if_pos q3]
    cases b_nm : noNm a with
    | false =>
      have r_nm : decide (a.name = strOfNums []) = false := b_nm
      simp +contextual (maxSteps := 2000000) only [go_sem, Nat.reduceEqDiff, reduceCtorEq, Nat.reduceAdd, Nat.reduceLeDiff, F95, encC, ek, en, y.list.len, y.pairs.len, nl, nn, np, Bool.not_not, decide_eq_false q0, decide_eq_false q1, decide_eq_false q2, decide_eq_true q3, r_nm, b_nm]
    | true =>
    have r_nm : decide (a.name = strOfNums []) = true := b_nm
    cases b_l0 : len0 a.list with
    | false =>
      have r_l0 : decide ((a.list.length : Int) = 0) = false := b_l0
      simp +contextual (maxSteps := 2000000) only [go_sem, Nat.reduceEqDiff, reduceCtorEq, Nat.reduceAdd, Nat.reduceLeDiff, F95, encC, ek, en, y.list.len, y.pairs.len, nl, nn, np, Bool.not_not, decide_eq_false q0, decide_eq_false q1, decide_eq_false q2, decide_eq_true q3, r_nm, b_nm, r_l0, b_l0]
    | true =>
    have r_l0 : decide ((a.list.length : Int) = 0) = true := b_l0
    cases b_p8 : le8 a.pairs with
    | false =>
      have r_p8 : decide ((a.pairs.length : Int) ≤ 8) = false := b_p8
      simp +contextual (maxSteps := 2000000) only [go_sem, Nat.reduceEqDiff, reduceCtorEq, Nat.reduceAdd, Nat.reduceLeDiff, F95, encC, ek, en, y.list.len, y.pairs.len, nl, nn, np, Bool.not_not, decide_eq_false q0, decide_eq_false q1, decide_eq_false q2, decide_eq_true q3, r_nm, b_nm, r_l0, b_l0, r_p8, b_p8]
    | true =>
    have r_p8 : decide ((a.pairs.length : Int) ≤ 8) = true := b_p8
    cases b_prs : a.pairs.all okPair with
    | false =>
      simp +contextual (maxSteps := 2000000) only [go_sem, Nat.reduceEqDiff, reduceCtorEq, Nat.reduceAdd, Nat.reduceLeDiff, F95, encC, ek, en, y.list.len, y.pairs.len, nl, nn, np, Bool.not_not, decide_eq_false q0, decide_eq_false q1, decide_eq_false q2, decide_eq_true q3, r_nm, b_nm, r_l0, b_l0, r_p8, b_p8, b_prs, b_prs]
    | true =>
    simp +contextual (maxSteps := 2000000) only [go_sem, Nat.reduceEqDiff, reduceCtorEq, Nat.reduceAdd, Nat.reduceLeDiff, F95, encC, ek, en, y.list.len, y.pairs.len, nl, nn, np, Bool.not_not, decide_eq_false q0, decide_eq_false q1, decide_eq_false q2, decide_eq_true q3, r_nm, b_nm, r_l0, b_l0, r_p8, b_p8, b_prs, b_prs]
  rw [if_neg q0, if_neg q1, if_neg q2, if_neg q3]
  simp +contextual (maxSteps := 2000000) only [go_sem, Nat.reduceEqDiff, reduceCtorEq, Nat.reduceAdd, Nat.reduceLeDiff, F95, encC, ek, en, y.list.len, y.pairs.len, nl, nn, np, Bool.not_not, decide_eq_false q0, decide_eq_false q1, decide_eq_false q2, decide_eq_false q3]
/-! (impl.Arg).valid$1 -/
def L125_0 : List AStep := [⟨.box 151 (.t 0), (some 1), none, []⟩, ⟨.mov (.c (.bool false)), (some 2), none, []⟩]
theorem v125_0 : VS L125_0.eq_1 := rfl
def L125_1 : List AStep := [⟨.not (.t 4), (some 5), none, []⟩, ⟨.mov (.t 5), (some 2), none, []⟩]
theorem v125_1 : VS L125_1.eq_1 := rfl
def L125_2 : List AStep := ⟨.load 2 true (.t 1), (some 3), none, []⟩ :: ⟨.call 126 [(.t 3)], (some 4), none, []⟩ :: L125_1
theorem v125_2 : VS L125_2.eq_1 := rfl
def C125_0 : ACode := .seq (.reg L125_2) .ret
theorem u125_0 : VC C125_0.eq_1 := rfl
def C125_1 : ACode := .seq (.reg L125_0) C125_0
theorem u125_1 : VC C125_1.eq_1 := rfl
def F125 : AFunc := ⟨6, [.tmp 2], C125_1⟩
theorem cF125 : compB Tryd.prog 125 = some F125 := by kernel_rfl
attribute [local go_sem ↓] u125_0 u125_1 v125_0 v125_1 v125_2
theorem c_validArg1 (x : Pair) (h : H) (hn : x.name.size < 2 ^ 62) : bm Tryd.prog 125 [.agg (encP x)] h = some (ib (!(okPair x)), h) := by
  refine bm_eq cF125 ?_
  have e := c_okPair x h hn
  simp only [encP] at e
  simp +contextual (maxSteps := 2000000) only [go_sem, Nat.reduceEqDiff, reduceCtorEq, Nat.reduceAdd, Nat.reduceLeDiff, F125, e, encP]
/-! (impl.Arg).valid -/
def L98_0 : List AStep := [⟨.box 99 (.t 0), (some 1), none, []⟩, ⟨.mov (.c (.bool false)), (some 2), none, []⟩]
theorem v98_0 : VS L98_0.eq_1 := rfl
def L98_1 : List AStep := [⟨.faddr 0 (.t 1), (some 3), none, []⟩, ⟨.load 1 false (.t 3), (some 4), none, []⟩]
theorem v98_1 : VS L98_1.eq_1 := rfl
def L98_2 : List AStep := [⟨.bin .eql (.t 4) (.c (.int .i64 0)), (some 6), none, []⟩, ⟨.mov (.t 6), (some 5), none, []⟩]
theorem v98_2 : VS L98_2.eq_1 := rfl
def L98_3 : List AStep := [⟨.mov (.t 26), (some 2), none, []⟩]
theorem v98_3 : VS L98_3.eq_1 := rfl
def L98_4 : List AStep := ⟨.call 123 [(.t 24)], (some 25), (some (22, true)), []⟩ :: ⟨.pick (.t 22) (.t 25) (.c (.bool false)), (some 26), none, []⟩ :: L98_3
theorem v98_4 : VS L98_4.eq_1 := rfl
def L98_5 : List AStep := ⟨.faddr 2 (.t 1), (some 23), (some (22, true)), []⟩ :: ⟨.load 1 false (.t 23), (some 24), (some (22, true)), []⟩ :: L98_4
theorem v98_5 : VS L98_5.eq_1 := rfl
def L98_6 : List AStep := ⟨.pick (.t 16) (.t 20) (.c (.bool false)), (some 21), none, []⟩ :: ⟨.mov (.t 21), (some 22), none, []⟩ :: L98_5
theorem v98_6 : VS L98_6.eq_1 := rfl
def L98_7 : List AStep := ⟨.len (.t 18), (some 19), (some (16, true)), []⟩ :: ⟨.bin .eql (.t 19) (.c (.int .i64 0)), (some 20), (some (16, true)), []⟩ :: L98_6
theorem v98_7 : VS L98_7.eq_1 := rfl
def L98_8 : List AStep := ⟨.faddr 3 (.t 1), (some 17), (some (16, true)), []⟩ :: ⟨.load 1 false (.t 17), (some 18), (some (16, true)), []⟩ :: L98_7
theorem v98_8 : VS L98_8.eq_1 := rfl
def L98_9 : List AStep := ⟨.pick (.t 10) (.t 14) (.c (.bool false)), (some 15), none, []⟩ :: ⟨.mov (.t 15), (some 16), none, []⟩ :: L98_8
theorem v98_9 : VS L98_9.eq_1 := rfl
def L98_10 : List AStep := ⟨.len (.t 12), (some 13), (some (10, true)), []⟩ :: ⟨.bin .eql (.t 13) (.c (.int .i64 1)), (some 14), (some (10, true)), []⟩ :: L98_9
theorem v98_10 : VS L98_10.eq_1 := rfl
def L98_11 : List AStep := ⟨.faddr 2 (.t 1), (some 11), (some (10, true)), []⟩ :: ⟨.load 1 false (.t 11), (some 12), (some (10, true)), []⟩ :: L98_10
theorem v98_11 : VS L98_11.eq_1 := rfl
def L98_12 : List AStep := ⟨.bin .eql (.t 8) (.c (.str (strOfNums []))), (some 9), none, []⟩ :: ⟨.mov (.t 9), (some 10), none, []⟩ :: L98_11
theorem v98_12 : VS L98_12.eq_1 := rfl
def L98_13 : List AStep := ⟨.faddr 1 (.t 1), (some 7), none, []⟩ :: ⟨.load 1 false (.t 7), (some 8), none, []⟩ :: L98_12
theorem v98_13 : VS L98_13.eq_1 := rfl
def L98_14 : List AStep := [⟨.bin .eql (.t 4) (.c (.int .i64 1)), (some 28), none, []⟩, ⟨.mov (.t 28), (some 27), none, []⟩]
theorem v98_14 : VS L98_14.eq_1 := rfl
def L98_15 : List AStep := [⟨.mov (.t 48), (some 2), none, []⟩]
theorem v98_15 : VS L98_15.eq_1 := rfl
def L98_16 : List AStep := ⟨.call 123 [(.t 46)], (some 47), (some (44, true)), []⟩ :: ⟨.pick (.t 44) (.t 47) (.c (.bool false)), (some 48), none, []⟩ :: L98_15
theorem v98_16 : VS L98_16.eq_1 := rfl
def L98_17 : List AStep := ⟨.faddr 2 (.t 1), (some 45), (some (44, true)), []⟩ :: ⟨.load 1 false (.t 45), (some 46), (some (44, true)), []⟩ :: L98_16
theorem v98_17 : VS L98_17.eq_1 := rfl
def L98_18 : List AStep := ⟨.pick (.t 38) (.t 42) (.c (.bool false)), (some 43), none, []⟩ :: ⟨.mov (.t 43), (some 44), none, []⟩ :: L98_17
theorem v98_18 : VS L98_18.eq_1 := rfl
def L98_19 : List AStep := ⟨.len (.t 40), (some 41), (some (38, true)), []⟩ :: ⟨.bin .eql (.t 41) (.c (.int .i64 0)), (some 42), (some (38, true)), []⟩ :: L98_18
theorem v98_19 : VS L98_19.eq_1 := rfl
def L98_20 : List AStep := ⟨.faddr 3 (.t 1), (some 39), (some (38, true)), []⟩ :: ⟨.load 1 false (.t 39), (some 40), (some (38, true)), []⟩ :: L98_19
theorem v98_20 : VS L98_20.eq_1 := rfl
def L98_21 : List AStep := ⟨.pick (.t 32) (.t 36) (.c (.bool false)), (some 37), none, []⟩ :: ⟨.mov (.t 37), (some 38), none, []⟩ :: L98_20
theorem v98_21 : VS L98_21.eq_1 := rfl
def L98_22 : List AStep := ⟨.len (.t 34), (some 35), (some (32, true)), []⟩ :: ⟨.bin .leq (.t 35) (.c (.int .i64 8)), (some 36), (some (32, true)), []⟩ :: L98_21
theorem v98_22 : VS L98_22.eq_1 := rfl
def L98_23 : List AStep := ⟨.faddr 2 (.t 1), (some 33), (some (32, true)), []⟩ :: ⟨.load 1 false (.t 33), (some 34), (some (32, true)), []⟩ :: L98_22
theorem v98_23 : VS L98_23.eq_1 := rfl
def L98_24 : List AStep := ⟨.bin .eql (.t 30) (.c (.str (strOfNums []))), (some 31), none, []⟩ :: ⟨.mov (.t 31), (some 32), none, []⟩ :: L98_23
theorem v98_24 : VS L98_24.eq_1 := rfl
def L98_25 : List AStep := ⟨.faddr 1 (.t 1), (some 29), none, []⟩ :: ⟨.load 1 false (.t 29), (some 30), none, []⟩ :: L98_24
theorem v98_25 : VS L98_25.eq_1 := rfl
def L98_26 : List AStep := [⟨.bin .eql (.t 4) (.c (.int .i64 2)), (some 50), none, []⟩, ⟨.mov (.t 50), (some 49), none, []⟩]
theorem v98_26 : VS L98_26.eq_1 := rfl
def L98_27 : List AStep := [⟨.mov (.t 70), (some 2), none, []⟩]
theorem v98_27 : VS L98_27.eq_1 := rfl
def L98_28 : List AStep := ⟨.call 123 [(.t 68)], (some 69), (some (66, true)), []⟩ :: ⟨.pick (.t 66) (.t 69) (.c (.bool false)), (some 70), none, []⟩ :: L98_27
theorem v98_28 : VS L98_28.eq_1 := rfl
def L98_29 : List AStep := ⟨.faddr 2 (.t 1), (some 67), (some (66, true)), []⟩ :: ⟨.load 1 false (.t 67), (some 68), (some (66, true)), []⟩ :: L98_28
theorem v98_29 : VS L98_29.eq_1 := rfl
def L98_30 : List AStep := ⟨.pick (.t 60) (.t 64) (.c (.bool false)), (some 65), none, []⟩ :: ⟨.mov (.t 65), (some 66), none, []⟩ :: L98_29
theorem v98_30 : VS L98_30.eq_1 := rfl
def L98_31 : List AStep := ⟨.len (.t 62), (some 63), (some (60, true)), []⟩ :: ⟨.bin .eql (.t 63) (.c (.int .i64 0)), (some 64), (some (60, true)), []⟩ :: L98_30
theorem v98_31 : VS L98_31.eq_1 := rfl
def L98_32 : List AStep := ⟨.faddr 3 (.t 1), (some 61), (some (60, true)), []⟩ :: ⟨.load 1 false (.t 61), (some 62), (some (60, true)), []⟩ :: L98_31
theorem v98_32 : VS L98_32.eq_1 := rfl
def L98_33 : List AStep := ⟨.pick (.t 54) (.t 58) (.c (.bool false)), (some 59), none, []⟩ :: ⟨.mov (.t 59), (some 60), none, []⟩ :: L98_32
theorem v98_33 : VS L98_33.eq_1 := rfl
def L98_34 : List AStep := ⟨.len (.t 56), (some 57), (some (54, true)), []⟩ :: ⟨.bin .eql (.t 57) (.c (.int .i64 1)), (some 58), (some (54, true)), []⟩ :: L98_33
theorem v98_34 : VS L98_34.eq_1 := rfl
def L98_35 : List AStep := ⟨.faddr 2 (.t 1), (some 55), (some (54, true)), []⟩ :: ⟨.load 1 false (.t 55), (some 56), (some (54, true)), []⟩ :: L98_34
theorem v98_35 : VS L98_35.eq_1 := rfl
def L98_36 : List AStep := ⟨.call 56 [(.t 52)], (some 53), none, []⟩ :: ⟨.mov (.t 53), (some 54), none, []⟩ :: L98_35
theorem v98_36 : VS L98_36.eq_1 := rfl
def L98_37 : List AStep := ⟨.faddr 1 (.t 1), (some 51), none, []⟩ :: ⟨.load 1 false (.t 51), (some 52), none, []⟩ :: L98_36
theorem v98_37 : VS L98_37.eq_1 := rfl
def L98_38 : List AStep := [⟨.bin .eql (.t 4) (.c (.int .i64 3)), (some 72), none, []⟩, ⟨.mov (.t 72), (some 71), none, []⟩]
theorem v98_38 : VS L98_38.eq_1 := rfl
def L98_39 : List AStep := [⟨.pick (.t 88) (.t 92) (.c (.bool false)), (some 93), none, []⟩, ⟨.mov (.t 93), (some 2), none, []⟩]
theorem v98_39 : VS L98_39.eq_1 := rfl
def L98_40 : List AStep := ⟨.call 124 [(.t 90), (.c (.fn 125 []))], (some 91), (some (88, true)), []⟩ :: ⟨.not (.t 91), (some 92), (some (88, true)), []⟩ :: L98_39
theorem v98_40 : VS L98_40.eq_1 := rfl
def L98_41 : List AStep := ⟨.faddr 3 (.t 1), (some 89), (some (88, true)), []⟩ :: ⟨.load 1 false (.t 89), (some 90), (some (88, true)), []⟩ :: L98_40
theorem v98_41 : VS L98_41.eq_1 := rfl
def L98_42 : List AStep := ⟨.pick (.t 82) (.t 86) (.c (.bool false)), (some 87), none, []⟩ :: ⟨.mov (.t 87), (some 88), none, []⟩ :: L98_41
theorem v98_42 : VS L98_42.eq_1 := rfl
def L98_43 : List AStep := ⟨.len (.t 84), (some 85), (some (82, true)), []⟩ :: ⟨.bin .leq (.t 85) (.c (.int .i64 8)), (some 86), (some (82, true)), []⟩ :: L98_42
theorem v98_43 : VS L98_43.eq_1 := rfl
def L98_44 : List AStep := ⟨.faddr 3 (.t 1), (some 83), (some (82, true)), []⟩ :: ⟨.load 1 false (.t 83), (some 84), (some (82, true)), []⟩ :: L98_43
theorem v98_44 : VS L98_44.eq_1 := rfl
def L98_45 : List AStep := ⟨.pick (.t 76) (.t 80) (.c (.bool false)), (some 81), none, []⟩ :: ⟨.mov (.t 81), (some 82), none, []⟩ :: L98_44
theorem v98_45 : VS L98_45.eq_1 := rfl
def L98_46 : List AStep := ⟨.len (.t 78), (some 79), (some (76, true)), []⟩ :: ⟨.bin .eql (.t 79) (.c (.int .i64 0)), (some 80), (some (76, true)), []⟩ :: L98_45
theorem v98_46 : VS L98_46.eq_1 := rfl
def L98_47 : List AStep := ⟨.faddr 2 (.t 1), (some 77), (some (76, true)), []⟩ :: ⟨.load 1 false (.t 77), (some 78), (some (76, true)), []⟩ :: L98_46
theorem v98_47 : VS L98_47.eq_1 := rfl
def L98_48 : List AStep := ⟨.bin .eql (.t 74) (.c (.str (strOfNums []))), (some 75), none, []⟩ :: ⟨.mov (.t 75), (some 76), none, []⟩ :: L98_47
theorem v98_48 : VS L98_48.eq_1 := rfl
def L98_49 : List AStep := ⟨.faddr 1 (.t 1), (some 73), none, []⟩ :: ⟨.load 1 false (.t 73), (some 74), none, []⟩ :: L98_48
theorem v98_49 : VS L98_49.eq_1 := rfl
def L98_50 : List AStep := [⟨.mov (.c (.bool false)), (some 2), none, []⟩]
theorem v98_50 : VS L98_50.eq_1 := rfl
def C98_0 : ACode := .seq (.reg L98_13) .ret
theorem u98_0 : VC C98_0.eq_1 := rfl
def C98_1 : ACode := .seq (.reg L98_25) .ret
theorem u98_1 : VC C98_1.eq_1 := rfl
def C98_2 : ACode := .seq (.reg L98_37) .ret
theorem u98_2 : VC C98_2.eq_1 := rfl
def C98_3 : ACode := .seq (.reg L98_49) .ret
theorem u98_3 : VC C98_3.eq_1 := rfl
def C98_4 : ACode := .cond (.t 71) C98_3 .skip
theorem u98_4 : VC C98_4.eq_1 := rfl
def C98_5 : ACode := .seq (.reg L98_38) C98_4
theorem u98_5 : VC C98_5.eq_1 := rfl
def C98_6 : ACode := .cond (.t 49) C98_2 C98_5
theorem u98_6 : VC C98_6.eq_1 := rfl
def C98_7 : ACode := .seq (.reg L98_26) C98_6
theorem u98_7 : VC C98_7.eq_1 := rfl
def C98_8 : ACode := .cond (.t 27) C98_1 C98_7
theorem u98_8 : VC C98_8.eq_1 := rfl
def C98_9 : ACode := .seq (.reg L98_14) C98_8
theorem u98_9 : VC C98_9.eq_1 := rfl
def C98_10 : ACode := .cond (.t 5) C98_0 C98_9
theorem u98_10 : VC C98_10.eq_1 := rfl
def C98_11 : ACode := .seq (.reg L98_2) C98_10
theorem u98_11 : VC C98_11.eq_1 := rfl
def C98_12 : ACode := .block 0 C98_11
theorem u98_12 : VC C98_12.eq_1 := rfl
def C98_13 : ACode := .seq (.reg L98_1) C98_12
theorem u98_13 : VC C98_13.eq_1 := rfl
def C98_14 : ACode := .seq (.reg L98_50) .ret
theorem u98_14 : VC C98_14.eq_1 := rfl
def C98_15 : ACode := .seq C98_13 C98_14
theorem u98_15 : VC C98_15.eq_1 := rfl
def C98_16 : ACode := .seq (.reg L98_0) C98_15
theorem u98_16 : VC C98_16.eq_1 := rfl
def F98 : AFunc := ⟨94, [.tmp 2], C98_16⟩
theorem cF98 : compB Tryd.prog 98 = some F98 := by kernel_rfl
attribute [local go_sem ↓] u98_0 u98_1 u98_2 u98_3 u98_4 u98_5 u98_6 u98_7 u98_8 u98_9 u98_10 u98_11 u98_12 u98_13 u98_14 u98_15 u98_16 v98_0 v98_1 v98_2 v98_3 v98_4 v98_5 v98_6 v98_7 v98_8 v98_9 v98_10 v98_11 v98_12 v98_13 v98_14 v98_15 v98_16 v98_17 v98_18 v98_19 v98_20 v98_21 v98_22 v98_23 v98_24 v98_25 v98_26 v98_27 v98_28 v98_29 v98_30 v98_31 v98_32 v98_33 v98_34 v98_35 v98_36 v98_37 v98_38 v98_39 v98_40 v98_41 v98_42 v98_43 v98_44 v98_45 v98_46 v98_47 v98_48 v98_49 v98_50
theorem c_argValid (r : RArg) (a : Arg) (h : H) (y : AtC 3 151 h r a) (k0 : a.name.size ≤ 1048576) (k1 : a.list.length ≤ 1048576) (k2 : a.pairs.length ≤ 1048576) (k3 : ∀ x ∈ a.pairs, x.name.size ≤ 1048576) : bm Tryd.prog 98 [.agg (encC r)] h = some (ib (okArg a), h) := by
  refine bm_eq cF98 ?_
  have ek := y.kind
  have en := y.name
  have kb : a.list.length ≤ big := Nat.le_trans k1 (by decide)
  have nl := c_areValues a.list _ h y.list kb
  have nn := c_isName a.name h (Nat.lt_of_le_of_lt k0 (by decide))
  have np := c_hasP a.pairs _ 125 [] (fun p => !(okPair p)) h y.pairs (Nat.le_trans k2 (by decide)) (fun i hi x hx => c_validArg1 x h (by rw [hx]; exact Nat.lt_of_le_of_lt (k3 _ (List.getElem_mem hi)) (by decide)))
  rw [show a.pairs.any (fun p => !(okPair p)) = !(a.pairs.all okPair) by rw [← List.not_all_eq_any_not]] at np
  unfold okArg
  by_cases q0 : a.kind = 0
  · rw [if_pos q0]
    cases b_nm : noNm a with
    | false =>
      have r_nm : decide (a.name = strOfNums []) = false := b_nm
      simp +contextual (maxSteps := 2000000) only [go_sem, Nat.reduceEqDiff, reduceCtorEq, Nat.reduceAdd, Nat.reduceLeDiff, F98, encC, ek, en, y.list.len, y.pairs.len, nl, nn, np, Bool.not_not, decide_eq_true q0, r_nm, b_nm]
    | true =>
    have r_nm : decide (a.name = strOfNums []) = true := b_nm
    cases b_l1 : len1 a.list with
    | false =>
      have r_l1 : decide ((a.list.length : Int) = 1) = false := b_l1
      simp +contextual (maxSteps := 2000000) only [go_sem, Nat.reduceEqDiff, reduceCtorEq, Nat.reduceAdd, Nat.reduceLeDiff, F98, encC, ek, en, y.list.len, y.pairs.len, nl, nn, np, Bool.not_not, decide_eq_true q0, r_nm, b_nm, r_l1, b_l1]
    | true =>
    have r_l1 : decide ((a.list.length : Int) = 1) = true := b_l1
    cases b_p0 : len0 a.pairs with
    | false =>
      have r_p0 : decide ((a.pairs.length : Int) = 0) = false := b_p0
      simp +contextual (maxSteps := 2000000) only [go_sem, Nat.reduceEqDiff, reduceCtorEq, Nat.reduceAdd, Nat.reduceLeDiff, F98, encC, ek, en, y.list.len, y.pairs.len, nl, nn, np, Bool.not_not, decide_eq_true q0, r_nm, b_nm, r_l1, b_l1, r_p0, b_p0]
    | true =>
    have r_p0 : decide ((a.pairs.length : Int) = 0) = true := b_p0
    cases b_nums : a.list.all okNum with
    | false =>
      simp +contextual (maxSteps := 2000000) only [go_sem, Nat.reduceEqDiff, reduceCtorEq, Nat.reduceAdd, Nat.reduceLeDiff, F98, encC, ek, en, y.list.len, y.pairs.len, nl, nn, np, Bool.not_not, decide_eq_true q0, r_nm, b_nm, r_l1, b_l1, r_p0, b_p0, b_nums, b_nums]
    | true =>
    simp +contextual (maxSteps := 2000000) only [go_sem, Nat.reduceEqDiff, reduceCtorEq, Nat.reduceAdd, Nat.reduceLeDiff, F98, encC, ek, en, y.list.len, y.pairs.len, nl, nn, np, Bool.not_not, decide_eq_true q0, r_nm, b_nm, r_l1, b_l1, r_p0, b_p0, b_nums, b_nums]
  by_cases q1 : a.kind = 1
  · rw [if_neg q0, if_pos q1]
    cases b_nm : noNm a with
    | false =>
      have r_nm : decide (a.name = strOfNums []) = false := b_nm
      simp +contextual (maxSteps := 2000000) only [go_sem, Nat.reduceEqDiff, reduceCtorEq, Nat.reduceAdd, Nat.reduceLeDiff, F98, encC, ek, en, y.list.len, y.pairs.len, nl, nn, np, Bool.not_not, decide_eq_false q0, decide_eq_true q1, r_nm, b_nm]
    | true =>
    have r_nm : decide (a.name = strOfNums []) = true := b_nm
    cases b_l8 : le8 a.list with
    | false =>
      have r_l8 : decide ((a.list.length : Int) ≤ 8) = false := b_l8
      simp +contextual (maxSteps := 2000000) only [go_sem, Nat.reduceEqDiff, reduceCtorEq, Nat.reduceAdd, Nat.reduceLeDiff, F98, encC, ek, en, y.list.len, y.pairs.len, nl, nn, np, Bool.not_not, decide_eq_false q0, decide_eq_true q1, r_nm, b_nm, r_l8, b_l8]
    | true =>
    have r_l8 : decide ((a.list.length : Int) ≤ 8) = true := b_l8
    cases b_p0 : len0 a.pairs with
    | false =>
      have r_p0 : decide ((a.pairs.length : Int) = 0) = false := b_p0
      simp +contextual (maxSteps := 2000000) only [go_sem, Nat.reduceEqDiff, reduceCtorEq, Nat.reduceAdd, Nat.reduceLeDiff, F98, encC, ek, en, y.list.len, y.pairs.len, nl, nn, np, Bool.not_not, decide_eq_false q0, decide_eq_true q1, r_nm, b_nm, r_l8, b_l8, r_p0, b_p0]
    | true =>
    have r_p0 : decide ((a.pairs.length : Int) = 0) = true := b_p0
    cases b_nums : a.list.all okNum with
    | false =>
      simp +contextual (maxSteps := 2000000) only [go_sem, Nat.reduceEqDiff, reduceCtorEq, Nat.reduceAdd, Nat.reduceLeDiff, F98, encC, ek, en, y.list.len, y.pairs.len, nl, nn, np, Bool.not_not, decide_eq_false q0, decide_eq_true q1, r_nm, b_nm, r_l8, b_l8, r_p0, b_p0, b_nums, b_nums]
    | true =>
    simp +contextual (maxSteps := 2000000) only [go_sem, Nat.reduceEqDiff, reduceCtorEq, Nat.reduceAdd, Nat.reduceLeDiff, F98, encC, ek, en, y.list.len, y.pairs.len, nl, nn, np, Bool.not_not, decide_eq_false q0, decide_eq_true q1, r_nm, b_nm, r_l8, b_l8, r_p0, b_p0, b_nums, b_nums]
  by_cases q2 : a.kind = 2
  · rw [if_neg q0, if_neg q1, if_pos q2]
    cases b_on : okName a.name with
    | false =>
      simp +contextual (maxSteps := 2000000) only [go_sem, Nat.reduceEqDiff, reduceCtorEq, Nat.reduceAdd, Nat.reduceLeDiff, F98, encC, ek, en, y.list.len, y.pairs.len, nl, nn, np, Bool.not_not, decide_eq_false q0, decide_eq_false q1, decide_eq_true q2, b_on, b_on]
    | true =>
    cases b_l1 : len1 a.list with
    | false =>
      have r_l1 : decide ((a.list.length : Int) = 1) = false := b_l1
      simp +contextual (maxSteps := 2000000) only [go_sem, Nat.reduceEqDiff, reduceCtorEq, Nat.reduceAdd, Nat.reduceLeDiff, F98, encC, ek, en, y.list.len, y.pairs.len, nl, nn, np, Bool.not_not, decide_eq_false q0, decide_eq_false q1, decide_eq_true q2, b_on, b_on, r_l1, b_l1]
    | true =>
    have r_l1 : decide ((a.list.length : Int) = 1) = true := b_l1
    cases b_p0 : len0 a.pairs with
    | false =>
      have r_p0 : decide ((a.pairs.length : Int) = 0) = false := b_p0
      simp +contextual (maxSteps := 2000000) only [go_sem, Nat.reduceEqDiff, reduceCtorEq, Nat.reduceAdd, Nat.reduceLeDiff, F98, encC, ek, en, y.list.len, y.pairs.len, nl, nn, np, Bool.not_not, decide_eq_false q0, decide_eq_false q1, decide_eq_true q2, b_on, b_on, r_l1, b_l1, r_p0, b_p0]
    | true =>
    have r_p0 : decide ((a.pairs.length : Int) = 0) = true := b_p0
    cases b_nums : a.list.all okNum with
    | false =>
      simp +contextual (maxSteps := 2000000) only [go_sem, Nat.reduceEqDiff, reduceCtorEq, Nat.reduceAdd, Nat.reduceLeDiff, F98, encC, ek, en, y.list.len, y.pairs.len, nl, nn, np, Bool.not_not, decide_eq_false q0, decide_eq_false q1, decide_eq_true q2, b_on, b_on, r_l1, b_l1, r_p0, b_p0, b_nums, b_nums]
    | true =>
    simp +contextual (maxSteps := 2000000) only [go_sem, Nat.reduceEqDiff, reduceCtorEq, Nat.reduceAdd, Nat.reduceLeDiff, F98, encC, ek, en, y.list.len, y.pairs.len, nl, nn, np, Bool.not_not, decide_eq_false q0, decide_eq_false q1, decide_eq_true q2, b_on, b_on, r_l1, b_l1, r_p0, b_p0, b_nums, b_nums]
  by_cases q3 : a.kind = 3
  · rw [if_neg q0, if_neg q1, if_neg q2, if_pos q3]
    cases b_nm : noNm a with
    | false =>
      have r_nm : decide (a.name = strOfNums []) = false := b_nm
      simp +contextual (maxSteps := 2000000) only [go_sem, Nat.reduceEqDiff, reduceCtorEq, Nat.reduceAdd, Nat.reduceLeDiff, F98, encC, ek, en, y.list.len, y.pairs.len, nl, nn, np, Bool.not_not, decide_eq_false q0, decide_eq_false q1, decide_eq_false q2, decide_eq_true q3, r_nm, b_nm]
    | true =>
    have r_nm : decide (a.name = strOfNums []) = true := b_nm
    cases b_l0 : len0 a.list with
    | false =>
      have r_l0 : decide ((a.list.length : Int) = 0) = false := b_l0
      simp +contextual (maxSteps := 2000000) only [go_sem, Nat.reduceEqDiff, reduceCtorEq, Nat.reduceAdd, Nat.reduceLeDiff, F98, encC, ek, en, y.list.len, y.pairs.len, nl, nn, np, Bool.not_not, decide_eq_false q0, decide_eq_false q1, decide_eq_false q2, decide_eq_true q3, r_nm, b_nm, r_l0, b_l0]
    | true =>
    have r_l0 : decide ((a.list.length : Int) = 0) = true := b_l0
    cases b_p8 : le8 a.pairs with
    | false =>
      have r_p8 : decide ((a.pairs.length : Int) ≤ 8) = false := b_p8
      simp +contextual (maxSteps := 2000000) only [go_sem, Nat.reduceEqDiff, reduceCtorEq, Nat.reduceAdd, Nat.reduceLeDiff, F98, encC, ek, en, y.list.len, y.pairs.len, nl, nn, np, Bool.not_not, decide_eq_false q0, decide_eq_false q1, decide_eq_false q2, decide_eq_true q3, r_nm, b_nm, r_l0, b_l0, r_p8, b_p8]
    | true =>
    have r_p8 : decide ((a.pairs.length : Int) ≤ 8) = true := b_p8
    cases b_prs : a.pairs.all okPair with
    | false =>
      simp +contextual (maxSteps := 2000000) only [go_sem, Nat.reduceEqDiff, reduceCtorEq, Nat.reduceAdd, Nat.reduceLeDiff, F98, encC, ek, en, y.list.len, y.pairs.len, nl, nn, np, Bool.not_not, decide_eq_false q0, decide_eq_false q1, decide_eq_false q2, decide_eq_true q3, r_nm, b_nm, r_l0, b_l0, r_p8, b_p8, b_prs, b_prs]
    | true =>
    simp +contextual (maxSteps := 2000000) only [go_sem, Nat.reduceEqDiff, reduceCtorEq, Nat.reduceAdd, Nat.reduceLeDiff, F98, encC, ek, en, y.list.len, y.pairs.len, nl, nn, np, Bool.not_not, decide_eq_false q0, decide_eq_false q1, decide_eq_false q2, decide_eq_true q3, r_nm, b_nm, r_l0, b_l0, r_p8, b_p8, b_prs, b_prs]
  rw [if_neg q0, if_neg q1, if_neg q2, if_neg q3]
  simp +contextual (maxSteps := 2000000) only [go_sem, Nat.reduceEqDiff, reduceCtorEq, Nat.reduceAdd, Nat.reduceLeDiff, F98, encC, ek, en, y.list.len, y.pairs.len, nl, nn, np, Bool.not_not, decide_eq_false q0, decide_eq_false q1, decide_eq_false q2, decide_eq_false q3]
/-! spec.validCall -/
def L60_0 : List AStep := [⟨.box 68 (.t 0), (some 1), none, []⟩, ⟨.mov (.c (.bool false)), (some 2), none, []⟩]
theorem v60_0 : VS L60_0.eq_1 := rfl
def L60_1 : List AStep := [⟨.mov (.c (.int .i64 0)), (some 3), none, []⟩]
theorem v60_1 : VS L60_1.eq_1 := rfl
def L60_2 : List AStep := [⟨.bin .lss (.t 4) (.t 7), (some 8), none, []⟩]
theorem v60_2 : VS L60_2.eq_1 := rfl
def L60_3 : List AStep := ⟨.load 1 false (.t 5), (some 6), none, []⟩ :: ⟨.len (.t 6), (some 7), none, []⟩ :: L60_2
theorem v60_3 : VS L60_3.eq_1 := rfl
def L60_4 : List AStep := ⟨.mov (.t 3), (some 4), none, []⟩ :: ⟨.faddr 0 (.t 1), (some 5), none, []⟩ :: L60_3
theorem v60_4 : VS L60_4.eq_1 := rfl
def L60_5 : List AStep := [⟨.pick (.t 30) (.t 38) (.c (.bool false)), (some 39), (some (18, false)), []⟩, ⟨.pick (.t 18) (.c (.bool true)) (.t 39), (some 40), none, []⟩]
theorem v60_5 : VS L60_5.eq_1 := rfl
def L60_6 : List AStep := ⟨.load 1 false (.t 36), (some 37), (some (30, true)), []⟩ :: ⟨.bin .geq (.t 37) (.c (.int .i64 2)), (some 38), (some (30, true)), []⟩ :: L60_5
theorem v60_6 : VS L60_6.eq_1 := rfl
def L60_7 : List AStep := ⟨.iaddr 4 (.t 32) (.t 34), (some 35), (some (30, true)), []⟩ :: ⟨.faddr 0 (.t 35), (some 36), (some (30, true)), []⟩ :: L60_6
theorem v60_7 : VS L60_7.eq_1 := rfl
def L60_8 : List AStep := ⟨.mov (.t 3), (some 33), (some (30, true)), []⟩ :: ⟨.bin .sub (.t 33) (.c (.int .i64 1)), (some 34), (some (30, true)), []⟩ :: L60_7
theorem v60_8 : VS L60_8.eq_1 := rfl
def L60_9 : List AStep := ⟨.faddr 0 (.t 1), (some 31), (some (30, true)), []⟩ :: ⟨.load 1 false (.t 31), (some 32), (some (30, true)), []⟩ :: L60_8
theorem v60_9 : VS L60_9.eq_1 := rfl
def L60_10 : List AStep := ⟨.pick (.t 21) (.t 28) (.c (.bool false)), (some 29), (some (18, false)), []⟩ :: ⟨.mov (.t 29), (some 30), (some (18, false)), []⟩ :: L60_9
theorem v60_10 : VS L60_10.eq_1 := rfl
def L60_11 : List AStep := ⟨.load 1 false (.t 26), (some 27), (some (21, true)), []⟩ :: ⟨.bin .lss (.t 27) (.c (.int .i64 2)), (some 28), (some (21, true)), []⟩ :: L60_10
theorem v60_11 : VS L60_11.eq_1 := rfl
def L60_12 : List AStep := ⟨.iaddr 4 (.t 23) (.t 24), (some 25), (some (21, true)), []⟩ :: ⟨.faddr 0 (.t 25), (some 26), (some (21, true)), []⟩ :: L60_11
theorem v60_12 : VS L60_12.eq_1 := rfl
def L60_13 : List AStep := ⟨.load 1 false (.t 22), (some 23), (some (21, true)), []⟩ :: ⟨.mov (.t 3), (some 24), (some (21, true)), []⟩ :: L60_12
theorem v60_13 : VS L60_13.eq_1 := rfl
def L60_14 : List AStep := ⟨.mov (.t 20), (some 21), (some (18, false)), []⟩ :: ⟨.faddr 0 (.t 1), (some 22), (some (21, true)), []⟩ :: L60_13
theorem v60_14 : VS L60_14.eq_1 := rfl
def L60_15 : List AStep := ⟨.mov (.t 3), (some 19), (some (18, false)), []⟩ :: ⟨.bin .gtr (.t 19) (.c (.int .i64 0)), (some 20), (some (18, false)), []⟩ :: L60_14
theorem v60_15 : VS L60_15.eq_1 := rfl
def L60_16 : List AStep := ⟨.not (.t 16), (some 17), none, []⟩ :: ⟨.mov (.t 17), (some 18), none, []⟩ :: L60_15
theorem v60_16 : VS L60_16.eq_1 := rfl
def L60_17 : List AStep := ⟨.load 4 true (.t 14), (some 15), none, []⟩ :: ⟨.call 95 [(.t 15)], (some 16), none, []⟩ :: L60_16
theorem v60_17 : VS L60_17.eq_1 := rfl
def L60_18 : List AStep := ⟨.mov (.t 3), (some 13), none, []⟩ :: ⟨.iaddr 4 (.t 12) (.t 13), (some 14), none, []⟩ :: L60_17
theorem v60_18 : VS L60_18.eq_1 := rfl
def L60_19 : List AStep := ⟨.faddr 0 (.t 1), (some 11), none, []⟩ :: ⟨.load 1 false (.t 11), (some 12), none, []⟩ :: L60_18
theorem v60_19 : VS L60_19.eq_1 := rfl
def L60_20 : List AStep := [⟨.mov (.c (.bool false)), (some 2), none, []⟩]
theorem v60_20 : VS L60_20.eq_1 := rfl
def L60_21 : List AStep := [⟨.mov (.t 10), (some 3), none, []⟩]
theorem v60_21 : VS L60_21.eq_1 := rfl
def L60_22 : List AStep := ⟨.mov (.t 3), (some 9), none, []⟩ :: ⟨.bin .add (.t 9) (.c (.int .i64 1)), (some 10), none, []⟩ :: L60_21
theorem v60_22 : VS L60_22.eq_1 := rfl
def L60_23 : List AStep := [⟨.mov (.t 44), (some 2), none, []⟩]
theorem v60_23 : VS L60_23.eq_1 := rfl
def L60_24 : List AStep := ⟨.len (.t 42), (some 43), none, []⟩ :: ⟨.bin .leq (.t 43) (.c (.int .i64 16)), (some 44), none, []⟩ :: L60_23
theorem v60_24 : VS L60_24.eq_1 := rfl
def L60_25 : List AStep := ⟨.faddr 0 (.t 1), (some 41), none, []⟩ :: ⟨.load 1 false (.t 41), (some 42), none, []⟩ :: L60_24
theorem v60_25 : VS L60_25.eq_1 := rfl
def C60_0 : ACode := .cond (.t 8) .skip (.exit 0)
theorem u60_0 : VC C60_0.eq_1 := rfl
def C60_1 : ACode := .seq (.reg L60_4) C60_0
theorem u60_1 : VC C60_1.eq_1 := rfl
def C60_2 : ACode := .seq (.reg L60_20) .ret
theorem u60_2 : VC C60_2.eq_1 := rfl
def C60_3 : ACode := .cond (.t 40) C60_2 .skip
theorem u60_3 : VC C60_3.eq_1 := rfl
def C60_4 : ACode := .seq (.reg L60_19) C60_3
theorem u60_4 : VC C60_4.eq_1 := rfl
def C60_5 : ACode := .block 1 C60_4
theorem u60_5 : VC C60_5.eq_1 := rfl
def C60_6 : ACode := .seq C60_5 (.reg L60_22)
theorem u60_6 : VC C60_6.eq_1 := rfl
def C60_7 : ACode := .seq C60_1 C60_6
theorem u60_7 : VC C60_7.eq_1 := rfl
def C60_8 : ACode := .block 0 (.loop C60_7)
theorem u60_8 : VC C60_8.eq_1 := rfl
def C60_9 : ACode := .seq (.reg L60_1) C60_8
theorem u60_9 : VC C60_9.eq_1 := rfl
def C60_10 : ACode := .seq (.reg L60_25) .ret
theorem u60_10 : VC C60_10.eq_1 := rfl
def C60_11 : ACode := .seq C60_9 C60_10
theorem u60_11 : VC C60_11.eq_1 := rfl
def C60_12 : ACode := .seq (.reg L60_0) C60_11
theorem u60_12 : VC C60_12.eq_1 := rfl
def F60 : AFunc := ⟨45, [.tmp 2], C60_12⟩
theorem cF60 : compB Tryd.prog 60 = some F60 := by kernel_rfl
attribute [local go_sem ↓] u60_0 u60_1 u60_2 u60_3 u60_4 u60_5 u60_6 u60_7 u60_8 u60_9 u60_10 u60_11 u60_12 v60_0 v60_1 v60_2 v60_3 v60_4 v60_5 v60_6 v60_7 v60_8 v60_9 v60_10 v60_11 v60_12 v60_13 v60_14 v60_15 v60_16 v60_17 v60_18 v60_19 v60_20 v60_21 v60_22 v60_23 v60_24 v60_25
theorem c_validCall (l : List Arg) (p : CV) (h : H) (hl : SlC h p l) (m : miniC l) : bm Tryd.prog 60 [.agg [p]] h = some (ib (okCall l), h) := by
  refine bm_eq cF60 ?_
  obtain ⟨rs, y⟩ := hl.ex
  have hn := m.len
  have yl : lenO (.one p) = some (ii l.length) := by rw [y.out.len, y.len]
  simp +contextual (maxSteps := 2000000) only [go_sem, Nat.reduceEqDiff, reduceCtorEq, Nat.reduceAdd, Nat.reduceLeDiff, F60]
  refine wpC_loop (fun i T L h' => h' = h ∧ T 1 = .lp 1 0 ∧ (L 1).2 = [p] ∧ T 3 = .v (.one (.int .i64 i)) ∧ Upto (stepC l) i) l.length ?_ ?_ (Nat.zero_le _) ?_
  · rintro i T L h' hi ⟨rfl, t1, l1, t3, hu⟩
    have hr : i < rs.length := by rw [y.len]; exact hi
    have hm := List.getElem_mem hi
    have ye := y.el i hr
    rw [getC_eq hi] at ye
    have va := c_validArg rs[i] l[i] h' ye (m.name _ hm) (m.list _ hm) (m.pairs _ hm) (m.npairs _ hm)
    have f0 := y.out.fieldO (off := 0) hr (by omega)
    rw [encC_0, ye.kind] at f0
    cases b1 : okArg l[i] with
    | false =>
      rw [b1] at va
      have bad : okCall l = false := okCall_not hi (by cases h2 : stepC l i with | false => rfl | true => rw [stepC_ok hi h2] at b1; simp at b1)
      simp +contextual (maxSteps := 2000000) only [go_sem, Nat.reduceEqDiff, reduceCtorEq, Nat.reduceAdd, Nat.reduceLeDiff, t1, l1, t3, yl, y.out.iaddr hr, y.out.whole hr, va, lt_true hi, bad]
    | true =>
      rw [b1] at va
      cases i with
      | zero =>
        have e3 := stepC_zero hi
        have e4 : decide (((0 : Nat) : Int) > 0) = false := rfl
        simp +contextual (maxSteps := 2000000) only [go_sem, Nat.reduceEqDiff, reduceCtorEq, Nat.reduceAdd, Nat.reduceLeDiff, t1, l1, t3, yl, y.out.iaddr hr, y.out.whole hr, va, lt_true hi, e4]
        exact ⟨by rw [wrap_next hi (by omega)], hu.next (by rw [e3, b1])⟩
      | succ j =>
        have e3 := stepC_succ hi
        rw [b1, Bool.true_and] at e3
        have hj : j < l.length := by omega
        have hrj : j < rs.length := by omega
        have e4 : decide (((j + 1 : Nat) : Int) > 0) = true := decide_eq_true (by omega)
        have yj := y.el j hrj
        rw [getC_eq hj] at yj
        have f1 := y.out.fieldO (off := 0) hrj (by omega)
        rw [encC_0, yj.kind] at f1
        cases b2 : decide (l[j + 1].kind < 2) with
        | false =>
          rw [b2] at e3
          simp +contextual (maxSteps := 2000000) only [go_sem, Nat.reduceEqDiff, reduceCtorEq, Nat.reduceAdd, Nat.reduceLeDiff, t1, l1, t3, yl, y.out.iaddr hr, y.out.whole hr, va, lt_true hi, e4, f0, b2]
          exact ⟨by rw [wrap_next hi (by omega)], hu.next (by rw [e3]; rfl)⟩
        | true =>
        cases b3 : decide (l[j].kind ≥ 2) with
        | false =>
          rw [b2, b3] at e3
          simp +contextual (maxSteps := 2000000) only [go_sem, Nat.reduceEqDiff, reduceCtorEq, Nat.reduceAdd, Nat.reduceLeDiff, t1, l1, t3, yl, y.out.iaddr hr, y.out.whole hr, va, lt_true hi, e4, f0, b2, wrap_pred (show j < 2 ^ 62 by omega), y.out.iaddr hrj, f1, b3]
          exact ⟨by rw [wrap_next hi (by omega)], hu.next (by rw [e3]; rfl)⟩
        | true =>
          rw [b2, b3] at e3
          have bad : okCall l = false := okCall_not hi (by rw [e3]; rfl)
          simp +contextual (maxSteps := 2000000) only [go_sem, Nat.reduceEqDiff, reduceCtorEq, Nat.reduceAdd, Nat.reduceLeDiff, t1, l1, t3, yl, y.out.iaddr hr, y.out.whole hr, va, lt_true hi, e4, f0, b2, wrap_pred (show j < 2 ^ 62 by omega), y.out.iaddr hrj, f1, b3, bad]
  · rintro T L h' ⟨rfl, t1, l1, t3, hu⟩
    simp +contextual (maxSteps := 2000000) only [go_sem, Nat.reduceEqDiff, reduceCtorEq, Nat.reduceAdd, Nat.reduceLeDiff, t1, l1, t3, yl, lt_false, okCall_of hu]
  · simp +contextual (maxSteps := 2000000) only [go_sem, Nat.reduceEqDiff, reduceCtorEq, Nat.reduceAdd, Nat.reduceLeDiff]
    (repeat' (first | refine And.intro ?_ ?_ | intro _)) <;> first | rfl | exact Upto.zero
/-! impl.ValidCall -/
def L63_0 : List AStep := [⟨.box 68 (.t 0), (some 1), none, []⟩, ⟨.mov (.c (.bool false)), (some 2), none, []⟩]
theorem v63_0 : VS L63_0.eq_1 := rfl
def L63_1 : List AStep := [⟨.mov (.c (.bool false)), (some 3), none, []⟩]
theorem v63_1 : VS L63_1.eq_1 := rfl
def L63_2 : List AStep := [⟨.len (.t 8), (some 9), none, []⟩, ⟨.mov (.c (.int .i64 0)), (some 10), none, []⟩]
theorem v63_2 : VS L63_2.eq_1 := rfl
def L63_3 : List AStep := ⟨.faddr 0 (.t 1), (some 7), none, []⟩ :: ⟨.load 1 false (.t 7), (some 8), none, []⟩ :: L63_2
theorem v63_3 : VS L63_3.eq_1 := rfl
def L63_4 : List AStep := [⟨.bin .lss (.t 10) (.t 9), (some 11), none, []⟩]
theorem v63_4 : VS L63_4.eq_1 := rfl
def L63_5 : List AStep := [⟨.alloc 99 [(.int .i64 0), (.str (strOfNums [])), (.sl none 0 (some 0)), (.sl none 0 (some 0))], (some 5), none, []⟩, ⟨.store 4 (.t 5) (.t 13), none, none, []⟩]
theorem v63_5 : VS L63_5.eq_1 := rfl
def L63_6 : List AStep := ⟨.iaddr 4 (.t 8) (.t 10), (some 12), none, []⟩ :: ⟨.load 4 true (.t 12), (some 13), none, []⟩ :: L63_5
theorem v63_6 : VS L63_6.eq_1 := rfl
def L63_7 : List AStep := [⟨.mov (.t 21), (some 6), none, []⟩]
theorem v63_7 : VS L63_7.eq_1 := rfl
def L63_8 : List AStep := ⟨.bin .eql (.t 19) (.c (.int .i64 3)), (some 20), (some (17, false)), []⟩ :: ⟨.pick (.t 17) (.c (.bool true)) (.t 20), (some 21), none, []⟩ :: L63_7
theorem v63_8 : VS L63_8.eq_1 := rfl
def L63_9 : List AStep := ⟨.faddr 0 (.t 5), (some 18), (some (17, false)), []⟩ :: ⟨.load 1 false (.t 18), (some 19), (some (17, false)), []⟩ :: L63_8
theorem v63_9 : VS L63_9.eq_1 := rfl
def L63_10 : List AStep := ⟨.bin .eql (.t 15) (.c (.int .i64 2)), (some 16), none, []⟩ :: ⟨.mov (.t 16), (some 17), none, []⟩ :: L63_9
theorem v63_10 : VS L63_10.eq_1 := rfl
def L63_11 : List AStep := ⟨.faddr 0 (.t 5), (some 14), none, []⟩ :: ⟨.load 1 false (.t 14), (some 15), none, []⟩ :: L63_10
theorem v63_11 : VS L63_11.eq_1 := rfl
def L63_12 : List AStep := [⟨.pick (.t 27) (.t 29) (.c (.bool false)), (some 30), (some (25, false)), []⟩, ⟨.pick (.t 25) (.c (.bool true)) (.t 30), (some 31), none, []⟩]
theorem v63_12 : VS L63_12.eq_1 := rfl
def L63_13 : List AStep := ⟨.mov (.t 6), (some 28), (some (27, true)), []⟩ :: ⟨.not (.t 28), (some 29), (some (27, true)), []⟩ :: L63_12
theorem v63_13 : VS L63_13.eq_1 := rfl
def L63_14 : List AStep := ⟨.mov (.t 3), (some 26), (some (25, false)), []⟩ :: ⟨.mov (.t 26), (some 27), (some (25, false)), []⟩ :: L63_13
theorem v63_14 : VS L63_14.eq_1 := rfl
def L63_15 : List AStep := ⟨.not (.t 23), (some 24), none, []⟩ :: ⟨.mov (.t 24), (some 25), none, []⟩ :: L63_14
theorem v63_15 : VS L63_15.eq_1 := rfl
def L63_16 : List AStep := ⟨.load 4 true (.t 5), (some 22), none, []⟩ :: ⟨.call 98 [(.t 22)], (some 23), none, []⟩ :: L63_15
theorem v63_16 : VS L63_16.eq_1 := rfl
def L63_17 : List AStep := [⟨.mov (.c (.bool false)), (some 2), none, []⟩]
theorem v63_17 : VS L63_17.eq_1 := rfl
def L63_18 : List AStep := [⟨.mov (.t 6), (some 32), none, []⟩, ⟨.mov (.t 32), (some 3), none, []⟩]
theorem v63_18 : VS L63_18.eq_1 := rfl
def L63_19 : List AStep := [⟨.bin .add (.t 10) (.c (.int .i64 1)), (some 33), none, []⟩, ⟨.mov (.t 33), (some 10), none, []⟩]
theorem v63_19 : VS L63_19.eq_1 := rfl
def L63_20 : List AStep := [⟨.mov (.t 37), (some 2), none, []⟩]
theorem v63_20 : VS L63_20.eq_1 := rfl
def L63_21 : List AStep := ⟨.len (.t 35), (some 36), none, []⟩ :: ⟨.bin .leq (.t 36) (.c (.int .i64 16)), (some 37), none, []⟩ :: L63_20
theorem v63_21 : VS L63_21.eq_1 := rfl
def L63_22 : List AStep := ⟨.faddr 0 (.t 1), (some 34), none, []⟩ :: ⟨.load 1 false (.t 34), (some 35), none, []⟩ :: L63_21
theorem v63_22 : VS L63_22.eq_1 := rfl
def C63_0 : ACode := .cond (.t 11) .skip (.exit 0)
theorem u63_0 : VC C63_0.eq_1 := rfl
def C63_1 : ACode := .seq (.reg L63_17) .ret
theorem u63_1 : VC C63_1.eq_1 := rfl
def C63_2 : ACode := .cond (.t 31) C63_1 .skip
theorem u63_2 : VC C63_2.eq_1 := rfl
def C63_3 : ACode := .seq (.reg L63_16) C63_2
theorem u63_3 : VC C63_3.eq_1 := rfl
def C63_4 : ACode := .seq C63_3 (.reg L63_18)
theorem u63_4 : VC C63_4.eq_1 := rfl
def C63_5 : ACode := .seq (.reg L63_11) C63_4
theorem u63_5 : VC C63_5.eq_1 := rfl
def C63_6 : ACode := .seq (.reg L63_6) C63_5
theorem u63_6 : VC C63_6.eq_1 := rfl
def C63_7 : ACode := .block 1 C63_6
theorem u63_7 : VC C63_7.eq_1 := rfl
def C63_8 : ACode := .seq C63_7 (.reg L63_19)
theorem u63_8 : VC C63_8.eq_1 := rfl
def C63_9 : ACode := .seq C63_0 C63_8
theorem u63_9 : VC C63_9.eq_1 := rfl
def C63_10 : ACode := .seq (.reg L63_4) C63_9
theorem u63_10 : VC C63_10.eq_1 := rfl
def C63_11 : ACode := .block 0 (.loop C63_10)
theorem u63_11 : VC C63_11.eq_1 := rfl
def C63_12 : ACode := .seq (.reg L63_3) C63_11
theorem u63_12 : VC C63_12.eq_1 := rfl
def C63_13 : ACode := .seq (.reg L63_22) .ret
theorem u63_13 : VC C63_13.eq_1 := rfl
def C63_14 : ACode := .seq C63_12 C63_13
theorem u63_14 : VC C63_14.eq_1 := rfl
def C63_15 : ACode := .seq (.reg L63_1) C63_14
theorem u63_15 : VC C63_15.eq_1 := rfl
def C63_16 : ACode := .seq (.reg L63_0) C63_15
theorem u63_16 : VC C63_16.eq_1 := rfl
def F63 : AFunc := ⟨38, [.tmp 2], C63_16⟩
theorem cF63 : compB Tryd.prog 63 = some F63 := by kernel_rfl
attribute [local go_sem ↓] u63_0 u63_1 u63_2 u63_3 u63_4 u63_5 u63_6 u63_7 u63_8 u63_9 u63_10 u63_11 u63_12 u63_13 u63_14 u63_15 u63_16 v63_0 v63_1 v63_2 v63_3 v63_4 v63_5 v63_6 v63_7 v63_8 v63_9 v63_10 v63_11 v63_12 v63_13 v63_14 v63_15 v63_16 v63_17 v63_18 v63_19 v63_20 v63_21 v63_22
theorem c_ValidCall (l : List Arg) (p : CV) (h : H) (hl : SlC h p l) (m : miniC l) : bm Tryd.prog 63 [.agg [p]] h = some (ib (okCall l), h) := by
  refine bm_eq cF63 ?_
  obtain ⟨rs, y⟩ := hl.ex
  have hn := m.len
  have yl : lenO (.one p) = some (ii l.length) := by rw [y.out.len, y.len]
  simp +contextual (maxSteps := 2000000) only [go_sem, Nat.reduceEqDiff, reduceCtorEq, Nat.reduceAdd, Nat.reduceLeDiff, F63, yl]
  refine wpC_loop (fun i T L h' => h' = h ∧ T 1 = .lp 1 0 ∧ (L 1).2 = [p] ∧ T 3 = .v (.one (.bool (namedAt l i))) ∧ T 8 = .v (.one p) ∧ T 9 = .v (.one (.int .i64 l.length)) ∧ T 10 = .v (.one (.int .i64 i)) ∧ Upto (stepC l) i) l.length ?_ ?_ (Nat.zero_le _) ?_
  · rintro i T L h' hi ⟨rfl, t1, l1, t3, t8, t9, t10, hu⟩
    have hr : i < rs.length := by rw [y.len]; exact hi
    have hm := List.getElem_mem hi
    have ye := y.el i hr
    rw [getC_eq hi] at ye
    have va := c_argValid rs[i] l[i] h' ye (m.name _ hm) (m.list _ hm) (m.pairs _ hm) (m.npairs _ hm)
    simp only [encC] at va
    have ek := ye.kind
    have e5 := namedAt_succ hi
    cases b1 : okArg l[i] with
    | false =>
      rw [b1] at va
      have bad : okCall l = false := okCall_not hi (by cases h2 : stepC l i with | false => rfl | true => rw [stepC_ok hi h2] at b1; simp at b1)
      cases b2 : decide (rs[i].kind = 2) with
      | true => simp +contextual (maxSteps := 2000000) only [go_sem, Nat.reduceEqDiff, reduceCtorEq, Nat.reduceAdd, Nat.reduceLeDiff, t1, l1, t3, t8, t9, t10, y.out.iaddr hr, y.out.whole hr, encC, va, lt_true hi, bad, b2]
      | false => simp +contextual (maxSteps := 2000000) only [go_sem, Nat.reduceEqDiff, reduceCtorEq, Nat.reduceAdd, Nat.reduceLeDiff, t1, l1, t3, t8, t9, t10, y.out.iaddr hr, y.out.whole hr, encC, va, lt_true hi, bad, b2]
    | true =>
      rw [b1] at va
      have e3 := stepC_named hi hu b1
      rw [← ek] at e3 e5
      cases b2 : decide (rs[i].kind = 2) with
      | true =>
        rw [b2, Bool.true_or] at e3 e5
        cases b4 : namedAt l i with
        | false =>
          rw [b4] at t3
          simp +contextual (maxSteps := 2000000) only [go_sem, Nat.reduceEqDiff, reduceCtorEq, Nat.reduceAdd, Nat.reduceLeDiff, t1, l1, t3, t8, t9, t10, y.out.iaddr hr, y.out.whole hr, encC, va, lt_true hi, b2]
          exact ⟨by rw [e5], by rw [wrap_next hi (by omega)], hu.next (by rw [e3, b4]; rfl)⟩
        | true =>
          rw [b4] at t3
          simp +contextual (maxSteps := 2000000) only [go_sem, Nat.reduceEqDiff, reduceCtorEq, Nat.reduceAdd, Nat.reduceLeDiff, t1, l1, t3, t8, t9, t10, y.out.iaddr hr, y.out.whole hr, encC, va, lt_true hi, b2]
          exact ⟨by rw [e5], by rw [wrap_next hi (by omega)], hu.next (by rw [e3, b4]; rfl)⟩
      | false =>
      rw [b2, Bool.false_or] at e3 e5
      cases b3 : decide (rs[i].kind = 3) with
      | true =>
        rw [b3] at e3 e5
        cases b4 : namedAt l i with
        | false =>
          rw [b4] at t3
          simp +contextual (maxSteps := 2000000) only [go_sem, Nat.reduceEqDiff, reduceCtorEq, Nat.reduceAdd, Nat.reduceLeDiff, t1, l1, t3, t8, t9, t10, y.out.iaddr hr, y.out.whole hr, encC, va, lt_true hi, b2, b3]
          exact ⟨by rw [e5], by rw [wrap_next hi (by omega)], hu.next (by rw [e3, b4]; rfl)⟩
        | true =>
          rw [b4] at t3
          simp +contextual (maxSteps := 2000000) only [go_sem, Nat.reduceEqDiff, reduceCtorEq, Nat.reduceAdd, Nat.reduceLeDiff, t1, l1, t3, t8, t9, t10, y.out.iaddr hr, y.out.whole hr, encC, va, lt_true hi, b2, b3]
          exact ⟨by rw [e5], by rw [wrap_next hi (by omega)], hu.next (by rw [e3, b4]; rfl)⟩
      | false =>
        rw [b3] at e3 e5
        cases b4 : namedAt l i with
        | false =>
          rw [b4] at t3
          simp +contextual (maxSteps := 2000000) only [go_sem, Nat.reduceEqDiff, reduceCtorEq, Nat.reduceAdd, Nat.reduceLeDiff, t1, l1, t3, t8, t9, t10, y.out.iaddr hr, y.out.whole hr, encC, va, lt_true hi, b2, b3]
          exact ⟨by rw [e5], by rw [wrap_next hi (by omega)], hu.next (by rw [e3, b4]; rfl)⟩
        | true =>
          rw [b4] at t3
          have bad : okCall l = false := okCall_not hi (by rw [e3, b4]; rfl)
          simp +contextual (maxSteps := 2000000) only [go_sem, Nat.reduceEqDiff, reduceCtorEq, Nat.reduceAdd, Nat.reduceLeDiff, t1, l1, t3, t8, t9, t10, y.out.iaddr hr, y.out.whole hr, encC, va, lt_true hi, b2, b3, bad]
  · rintro T L h' ⟨rfl, t1, l1, t3, t8, t9, t10, hu⟩
    simp +contextual (maxSteps := 2000000) only [go_sem, Nat.reduceEqDiff, reduceCtorEq, Nat.reduceAdd, Nat.reduceLeDiff, t1, l1, t3, t8, t9, t10, yl, lt_false, okCall_of hu]
  · simp +contextual (maxSteps := 2000000) only [go_sem, Nat.reduceEqDiff, reduceCtorEq, Nat.reduceAdd, Nat.reduceLeDiff]
    (repeat' (first | refine And.intro ?_ ?_ | intro _)) <;> first | rfl | exact Upto.zero
end Go.Proofs.YtoeceafibmafpaaDoor.Am
