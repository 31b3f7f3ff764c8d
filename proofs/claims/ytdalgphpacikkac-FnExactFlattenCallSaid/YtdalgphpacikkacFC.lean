/- Contracts: calls that are made flat, of both sides. -/
import Derived.Test.YtdalgphpacikkacA1
import Derived.Test.YtdalgphpacikkacA3
import Derived.Test.YtdalgphpacikkacB1
import Derived.Test.YtdalgphpacikkacDN
import Derived.Test.YtdalgphpacikkacFD
import Derived.Test.YtdalgphpacikkacBY
namespace Go.Proofs.Ytdalgphpacikkac.Am
open Go
set_option maxRecDepth 100000
set_option maxHeartbeats 4000000
set_option linter.unusedSimpArgs false
set_option linter.unusedVariables false
attribute [local go_sem ↓] bv_t bv_c ev_t ev_c put_same put_ne put_none kill_at pro_at lb_same lb_ne start_zero start_succ wpC_seq wpC_reg wpC_cond wpC_block wpC_skip wpC_exit wpC_ret thenQ_normal thenQ_exit thenQ_ret inBlk_normal inBlk_exit inBlk_ret wpS_nil wpS_step wpS_again wpS_guard wpO_mov wpO_load wpO_faddr wpO_nilCheck wpO_pick wpO_build wpO_bin wpO_eqb wpO_eqst wpO_eqnil wpO_not wpO_conv wpO_bytesStr wpO_iaddr wpO_idxStr wpO_field wpO_extract wpO_len wpO_lenStr wpO_cap wpO_min wpO_slice wpO_sliceStr wpO_alloc wpO_box wpO_store wpO_call wpO_callv wpO_mkfn wpO_buildSlice wpO_mkslice wpO_append wpO_appz proA_nil proA_cons tmpX_nil tmpX_tmp tmpX_cell doneB_normal doneB_ret agK_cons agK_nil agK_guard agG_tt agG_ff agG_tf agG_ft agG_undef pureB_load results_one results_two results_nil resBs_cons resBs_nil resB_tmp resB_cell
attribute [local go_sem] kill_v kill_lp_ne kill_lp_same pro_v pro_lp_same pro_lp_ne av_v av_lp optB_some optX_some valX_eq ldX_lp ldX_v faX_lp faX_v ncX_lp ncX_ptr ncX_fn boxK_one boxK_agg stL_some stK_lp_one stK_lp_agg stK_v_one stK_v_agg proM_v proM_lp callG_mk callVG_mk callvK_fn fnG_mk ptrsA_nil ptrsA_cons callH_some whenA_true whenA_false guardH_tt guardH_ff guardH_tf guardH_ft guardH_undef agV_one agV_agg lenO_sl lenStrO_str notO_bool pickO_bool convO_int eqbO_bool eqnilO_sl extractO_tup capO_sl minO_int loadL_one loadL_all storeL_eq fillA_nil fillA_one fillA_agg nat_ge neg_ge nat_lt neg_lt buildO bin_add bin_sub bin_mul bin_eql bin_neq bin_lss bin_leq bin_gtr bin_geq str_eql str_neq str_lss str_leq str_gtr str_geq retK_some endK_mk gcK_same gcK_int gcK_bool tupO_one tupO_agg rdy_self ib ii Option.map_none Option.map_some Option.some.injEq exists_eq_left' exists_eq_left ne_eq not_false_eq_true if_true if_false List.map_cons List.map_nil List.getElem?_cons_zero List.getElem?_cons_succ List.length_cons List.length_nil List.take_succ_cons List.take_zero List.take_nil List.drop_succ_cons List.drop_zero List.drop_nil List.cons_append List.nil_append List.append_nil List.set_cons_zero List.set_cons_succ Nat.zero_add forall_const true_and and_true and_self Bool.false_eq_true false_implies true_implies implies_true Bool.not_true Bool.not_false Bool.not_eq_true' Bool.not_eq_false' beq_self_eq_true Bool.bne_true Bool.bne_false
attribute [local go_sem] lenI lenS lenP lenQ lenB lenL lenT encI_0 encS_0 encP_0 encP_1 encQ_0 encQ_1 encQ_2 encQ_3 encB_0 encB_1 encL_0 encL_1 encT_0 encT_1
attribute [local go_sem low] whenA_bool guardH_bool
attribute [local go_sem] lenC encC_0 encC_1 encC_2 encC_3
attribute [local go_sem] Bool.and_true Bool.true_and Bool.and_false Bool.false_and
theorem Pair.smP {l : List Pair} (h : l.length ≤ 1048576) (k : ∀ x ∈ l, x.name.size ≤ 1048576) : smP l := ⟨Nat.le_trans h (by decide), fun x hx => Nat.le_trans (k x hx) (by decide)⟩
/-! spec.validArg -/
def L107_0 : List AStep := [⟨.box 104 (.t 0), (some 1), none, []⟩, ⟨.mov (.c (.bool false)), (some 2), none, []⟩]
theorem v107_0 : VS L107_0.eq_1 := rfl
def L107_1 : List AStep := [⟨.faddr 0 (.t 1), (some 3), none, []⟩, ⟨.load 1 false (.t 3), (some 4), none, []⟩]
theorem v107_1 : VS L107_1.eq_1 := rfl
def L107_2 : List AStep := [⟨.bin .eql (.t 4) (.c (.int .i64 0)), (some 6), none, []⟩, ⟨.mov (.t 6), (some 5), none, []⟩]
theorem v107_2 : VS L107_2.eq_1 := rfl
def L107_3 : List AStep := [⟨.mov (.t 26), (some 2), none, []⟩]
theorem v107_3 : VS L107_3.eq_1 := rfl
def L107_4 : List AStep := ⟨.bin .eql (.t 24) (.c (.int .i64 0)), (some 25), (some (21, true)), []⟩ :: ⟨.pick (.t 21) (.t 25) (.c (.bool false)), (some 26), none, []⟩ :: L107_3
theorem v107_4 : VS L107_4.eq_1 := rfl
def L107_5 : List AStep := ⟨.load 1 false (.t 22), (some 23), (some (21, true)), []⟩ :: ⟨.len (.t 23), (some 24), (some (21, true)), []⟩ :: L107_4
theorem v107_5 : VS L107_5.eq_1 := rfl
def L107_6 : List AStep := ⟨.mov (.t 20), (some 21), none, []⟩ :: ⟨.faddr 3 (.t 1), (some 22), (some (21, true)), []⟩ :: L107_5
theorem v107_6 : VS L107_6.eq_1 := rfl
def L107_7 : List AStep := ⟨.call 89 [(.t 18)], (some 19), (some (16, true)), []⟩ :: ⟨.pick (.t 16) (.t 19) (.c (.bool false)), (some 20), none, []⟩ :: L107_6
theorem v107_7 : VS L107_7.eq_1 := rfl
def L107_8 : List AStep := ⟨.faddr 2 (.t 1), (some 17), (some (16, true)), []⟩ :: ⟨.load 1 false (.t 17), (some 18), (some (16, true)), []⟩ :: L107_7
theorem v107_8 : VS L107_8.eq_1 := rfl
def L107_9 : List AStep := ⟨.pick (.t 10) (.t 14) (.c (.bool false)), (some 15), none, []⟩ :: ⟨.mov (.t 15), (some 16), none, []⟩ :: L107_8
theorem v107_9 : VS L107_9.eq_1 := rfl
def L107_10 : List AStep := ⟨.len (.t 12), (some 13), (some (10, true)), []⟩ :: ⟨.bin .eql (.t 13) (.c (.int .i64 1)), (some 14), (some (10, true)), []⟩ :: L107_9
theorem v107_10 : VS L107_10.eq_1 := rfl
def L107_11 : List AStep := ⟨.faddr 2 (.t 1), (some 11), (some (10, true)), []⟩ :: ⟨.load 1 false (.t 11), (some 12), (some (10, true)), []⟩ :: L107_10
theorem v107_11 : VS L107_11.eq_1 := rfl
def L107_12 : List AStep := ⟨.bin .eql (.t 8) (.c (.str (strOfNums []))), (some 9), none, []⟩ :: ⟨.mov (.t 9), (some 10), none, []⟩ :: L107_11
theorem v107_12 : VS L107_12.eq_1 := rfl
def L107_13 : List AStep := ⟨.faddr 1 (.t 1), (some 7), none, []⟩ :: ⟨.load 1 false (.t 7), (some 8), none, []⟩ :: L107_12
theorem v107_13 : VS L107_13.eq_1 := rfl
def L107_14 : List AStep := [⟨.bin .eql (.t 4) (.c (.int .i64 1)), (some 28), none, []⟩, ⟨.mov (.t 28), (some 27), none, []⟩]
theorem v107_14 : VS L107_14.eq_1 := rfl
def L107_15 : List AStep := [⟨.mov (.t 48), (some 2), none, []⟩]
theorem v107_15 : VS L107_15.eq_1 := rfl
def L107_16 : List AStep := ⟨.bin .eql (.t 46) (.c (.int .i64 0)), (some 47), (some (43, true)), []⟩ :: ⟨.pick (.t 43) (.t 47) (.c (.bool false)), (some 48), none, []⟩ :: L107_15
theorem v107_16 : VS L107_16.eq_1 := rfl
def L107_17 : List AStep := ⟨.load 1 false (.t 44), (some 45), (some (43, true)), []⟩ :: ⟨.len (.t 45), (some 46), (some (43, true)), []⟩ :: L107_16
theorem v107_17 : VS L107_17.eq_1 := rfl
def L107_18 : List AStep := ⟨.mov (.t 42), (some 43), none, []⟩ :: ⟨.faddr 3 (.t 1), (some 44), (some (43, true)), []⟩ :: L107_17
theorem v107_18 : VS L107_18.eq_1 := rfl
def L107_19 : List AStep := ⟨.call 89 [(.t 40)], (some 41), (some (38, true)), []⟩ :: ⟨.pick (.t 38) (.t 41) (.c (.bool false)), (some 42), none, []⟩ :: L107_18
theorem v107_19 : VS L107_19.eq_1 := rfl
def L107_20 : List AStep := ⟨.faddr 2 (.t 1), (some 39), (some (38, true)), []⟩ :: ⟨.load 1 false (.t 39), (some 40), (some (38, true)), []⟩ :: L107_19
theorem v107_20 : VS L107_20.eq_1 := rfl
def L107_21 : List AStep := ⟨.pick (.t 32) (.t 36) (.c (.bool false)), (some 37), none, []⟩ :: ⟨.mov (.t 37), (some 38), none, []⟩ :: L107_20
theorem v107_21 : VS L107_21.eq_1 := rfl
def L107_22 : List AStep := ⟨.len (.t 34), (some 35), (some (32, true)), []⟩ :: ⟨.bin .leq (.t 35) (.c (.int .i64 8)), (some 36), (some (32, true)), []⟩ :: L107_21
theorem v107_22 : VS L107_22.eq_1 := rfl
def L107_23 : List AStep := ⟨.faddr 2 (.t 1), (some 33), (some (32, true)), []⟩ :: ⟨.load 1 false (.t 33), (some 34), (some (32, true)), []⟩ :: L107_22
theorem v107_23 : VS L107_23.eq_1 := rfl
def L107_24 : List AStep := ⟨.bin .eql (.t 30) (.c (.str (strOfNums []))), (some 31), none, []⟩ :: ⟨.mov (.t 31), (some 32), none, []⟩ :: L107_23
theorem v107_24 : VS L107_24.eq_1 := rfl
def L107_25 : List AStep := ⟨.faddr 1 (.t 1), (some 29), none, []⟩ :: ⟨.load 1 false (.t 29), (some 30), none, []⟩ :: L107_24
theorem v107_25 : VS L107_25.eq_1 := rfl
def L107_26 : List AStep := [⟨.bin .eql (.t 4) (.c (.int .i64 2)), (some 50), none, []⟩, ⟨.mov (.t 50), (some 49), none, []⟩]
theorem v107_26 : VS L107_26.eq_1 := rfl
def L107_27 : List AStep := [⟨.mov (.t 70), (some 2), none, []⟩]
theorem v107_27 : VS L107_27.eq_1 := rfl
def L107_28 : List AStep := ⟨.bin .eql (.t 68) (.c (.int .i64 0)), (some 69), (some (65, true)), []⟩ :: ⟨.pick (.t 65) (.t 69) (.c (.bool false)), (some 70), none, []⟩ :: L107_27
theorem v107_28 : VS L107_28.eq_1 := rfl
def L107_29 : List AStep := ⟨.load 1 false (.t 66), (some 67), (some (65, true)), []⟩ :: ⟨.len (.t 67), (some 68), (some (65, true)), []⟩ :: L107_28
theorem v107_29 : VS L107_29.eq_1 := rfl
def L107_30 : List AStep := ⟨.mov (.t 64), (some 65), none, []⟩ :: ⟨.faddr 3 (.t 1), (some 66), (some (65, true)), []⟩ :: L107_29
theorem v107_30 : VS L107_30.eq_1 := rfl
def L107_31 : List AStep := ⟨.call 89 [(.t 62)], (some 63), (some (60, true)), []⟩ :: ⟨.pick (.t 60) (.t 63) (.c (.bool false)), (some 64), none, []⟩ :: L107_30
theorem v107_31 : VS L107_31.eq_1 := rfl
def L107_32 : List AStep := ⟨.faddr 2 (.t 1), (some 61), (some (60, true)), []⟩ :: ⟨.load 1 false (.t 61), (some 62), (some (60, true)), []⟩ :: L107_31
theorem v107_32 : VS L107_32.eq_1 := rfl
def L107_33 : List AStep := ⟨.pick (.t 54) (.t 58) (.c (.bool false)), (some 59), none, []⟩ :: ⟨.mov (.t 59), (some 60), none, []⟩ :: L107_32
theorem v107_33 : VS L107_33.eq_1 := rfl
def L107_34 : List AStep := ⟨.len (.t 56), (some 57), (some (54, true)), []⟩ :: ⟨.bin .eql (.t 57) (.c (.int .i64 1)), (some 58), (some (54, true)), []⟩ :: L107_33
theorem v107_34 : VS L107_34.eq_1 := rfl
def L107_35 : List AStep := ⟨.faddr 2 (.t 1), (some 55), (some (54, true)), []⟩ :: ⟨.load 1 false (.t 55), (some 56), (some (54, true)), []⟩ :: L107_34
theorem v107_35 : VS L107_35.eq_1 := rfl
def L107_36 : List AStep := ⟨.call 114 [(.t 52)], (some 53), none, []⟩ :: ⟨.mov (.t 53), (some 54), none, []⟩ :: L107_35
theorem v107_36 : VS L107_36.eq_1 := rfl
def L107_37 : List AStep := ⟨.faddr 1 (.t 1), (some 51), none, []⟩ :: ⟨.load 1 false (.t 51), (some 52), none, []⟩ :: L107_36
theorem v107_37 : VS L107_37.eq_1 := rfl
def L107_38 : List AStep := [⟨.bin .eql (.t 4) (.c (.int .i64 3)), (some 72), none, []⟩, ⟨.mov (.t 72), (some 71), none, []⟩]
theorem v107_38 : VS L107_38.eq_1 := rfl
def L107_39 : List AStep := [⟨.mov (.t 92), (some 2), none, []⟩]
theorem v107_39 : VS L107_39.eq_1 := rfl
def L107_40 : List AStep := ⟨.call 90 [(.t 90)], (some 91), (some (88, true)), []⟩ :: ⟨.pick (.t 88) (.t 91) (.c (.bool false)), (some 92), none, []⟩ :: L107_39
theorem v107_40 : VS L107_40.eq_1 := rfl
def L107_41 : List AStep := ⟨.faddr 3 (.t 1), (some 89), (some (88, true)), []⟩ :: ⟨.load 1 false (.t 89), (some 90), (some (88, true)), []⟩ :: L107_40
theorem v107_41 : VS L107_41.eq_1 := rfl
def L107_42 : List AStep := ⟨.pick (.t 82) (.t 86) (.c (.bool false)), (some 87), none, []⟩ :: ⟨.mov (.t 87), (some 88), none, []⟩ :: L107_41
theorem v107_42 : VS L107_42.eq_1 := rfl
def L107_43 : List AStep := ⟨.len (.t 84), (some 85), (some (82, true)), []⟩ :: ⟨.bin .leq (.t 85) (.c (.int .i64 8)), (some 86), (some (82, true)), []⟩ :: L107_42
theorem v107_43 : VS L107_43.eq_1 := rfl
def L107_44 : List AStep := ⟨.faddr 3 (.t 1), (some 83), (some (82, true)), []⟩ :: ⟨.load 1 false (.t 83), (some 84), (some (82, true)), []⟩ :: L107_43
theorem v107_44 : VS L107_44.eq_1 := rfl
def L107_45 : List AStep := ⟨.pick (.t 76) (.t 80) (.c (.bool false)), (some 81), none, []⟩ :: ⟨.mov (.t 81), (some 82), none, []⟩ :: L107_44
theorem v107_45 : VS L107_45.eq_1 := rfl
def L107_46 : List AStep := ⟨.len (.t 78), (some 79), (some (76, true)), []⟩ :: ⟨.bin .eql (.t 79) (.c (.int .i64 0)), (some 80), (some (76, true)), []⟩ :: L107_45
theorem v107_46 : VS L107_46.eq_1 := rfl
def L107_47 : List AStep := ⟨.faddr 2 (.t 1), (some 77), (some (76, true)), []⟩ :: ⟨.load 1 false (.t 77), (some 78), (some (76, true)), []⟩ :: L107_46
theorem v107_47 : VS L107_47.eq_1 := rfl
def L107_48 : List AStep := ⟨.bin .eql (.t 74) (.c (.str (strOfNums []))), (some 75), none, []⟩ :: ⟨.mov (.t 75), (some 76), none, []⟩ :: L107_47
theorem v107_48 : VS L107_48.eq_1 := rfl
def L107_49 : List AStep := ⟨.faddr 1 (.t 1), (some 73), none, []⟩ :: ⟨.load 1 false (.t 73), (some 74), none, []⟩ :: L107_48
theorem v107_49 : VS L107_49.eq_1 := rfl
def L107_50 : List AStep := [⟨.mov (.c (.bool false)), (some 2), none, []⟩]
theorem v107_50 : VS L107_50.eq_1 := rfl
def C107_0 : ACode := .seq (.reg L107_13) .ret
theorem u107_0 : VC C107_0.eq_1 := rfl
def C107_1 : ACode := .seq (.reg L107_25) .ret
theorem u107_1 : VC C107_1.eq_1 := rfl
def C107_2 : ACode := .seq (.reg L107_37) .ret
theorem u107_2 : VC C107_2.eq_1 := rfl
def C107_3 : ACode := .seq (.reg L107_49) .ret
theorem u107_3 : VC C107_3.eq_1 := rfl
def C107_4 : ACode := .cond (.t 71) C107_3 .skip
theorem u107_4 : VC C107_4.eq_1 := rfl
def C107_5 : ACode := .seq (.reg L107_38) C107_4
theorem u107_5 : VC C107_5.eq_1 := rfl
def C107_6 : ACode := .cond (.t 49) C107_2 C107_5
theorem u107_6 : VC C107_6.eq_1 := rfl
def C107_7 : ACode := .seq (.reg L107_26) C107_6
theorem u107_7 : VC C107_7.eq_1 := rfl
def C107_8 : ACode := .cond (.t 27) C107_1 C107_7
theorem u107_8 : VC C107_8.eq_1 := rfl
def C107_9 : ACode := .seq (.reg L107_14) C107_8
theorem u107_9 : VC C107_9.eq_1 := rfl
def C107_10 : ACode := .cond (.t 5) C107_0 C107_9
theorem u107_10 : VC C107_10.eq_1 := rfl
def C107_11 : ACode := .seq (.reg L107_2) C107_10
theorem u107_11 : VC C107_11.eq_1 := rfl
def C107_12 : ACode := .block 0 C107_11
theorem u107_12 : VC C107_12.eq_1 := rfl
def C107_13 : ACode := .seq (.reg L107_1) C107_12
theorem u107_13 : VC C107_13.eq_1 := rfl
def C107_14 : ACode := .seq (.reg L107_50) .ret
theorem u107_14 : VC C107_14.eq_1 := rfl
def C107_15 : ACode := .seq C107_13 C107_14
theorem u107_15 : VC C107_15.eq_1 := rfl
def C107_16 : ACode := .seq (.reg L107_0) C107_15
theorem u107_16 : VC C107_16.eq_1 := rfl
def F107 : AFunc := ⟨93, [.tmp 2], C107_16⟩
theorem cF107 : compB Try.prog 107 = some F107 := by kernel_rfl
attribute [local go_sem ↓] u107_0 u107_1 u107_2 u107_3 u107_4 u107_5 u107_6 u107_7 u107_8 u107_9 u107_10 u107_11 u107_12 u107_13 u107_14 u107_15 u107_16 v107_0 v107_1 v107_2 v107_3 v107_4 v107_5 v107_6 v107_7 v107_8 v107_9 v107_10 v107_11 v107_12 v107_13 v107_14 v107_15 v107_16 v107_17 v107_18 v107_19 v107_20 v107_21 v107_22 v107_23 v107_24 v107_25 v107_26 v107_27 v107_28 v107_29 v107_30 v107_31 v107_32 v107_33 v107_34 v107_35 v107_36 v107_37 v107_38 v107_39 v107_40 v107_41 v107_42 v107_43 v107_44 v107_45 v107_46 v107_47 v107_48 v107_49 v107_50
theorem c_validArg (r : RArg) (a : Arg) (h : H) (y : AtC 3 106 h r a) (k0 : a.name.size ≤ 1048576) (k1 : a.list.length ≤ 1048576) (k2 : a.pairs.length ≤ 1048576) (k3 : ∀ x ∈ a.pairs, x.name.size ≤ 1048576) : bm Try.prog 107 [.agg (encC r)] h = some (ib (okArg a), h) := by
  refine bm_eq cF107 ?_
  have ek := y.kind
  have en := y.name
  have kb : a.list.length ≤ big := Nat.le_trans k1 (by decide)
  have nl := c_validNumbers a.list _ h y.list kb
  have nn := c_validName a.name h (Nat.lt_of_le_of_lt k0 (by decide))
  have np := c_validPairs a.pairs _ h y.pairs (Pair.smP k2 k3)
  unfold okArg
  by_cases q0 : a.kind = 0
  · rw [if_pos q0]
    cases b_nm : noNm a with
    | false =>
      have r_nm : decide (a.name = strOfNums []) = false := b_nm
      simp +contextual (maxSteps := 2000000) only [go_sem, Nat.reduceEqDiff, reduceCtorEq, Nat.reduceAdd, Nat.reduceLeDiff, F107, encC, ek, en, y.list.len, y.pairs.len, nl, nn, np, Bool.not_not, decide_eq_true q0, r_nm, b_nm]
    | true =>
    have r_nm : decide (a.name = strOfNums []) = true := b_nm
    cases b_l1 : len1 a.list with
    | false =>
      have r_l1 : decide ((a.list.length : Int) = 1) = false := b_l1
      simp +contextual (maxSteps := 2000000) only [go_sem, Nat.reduceEqDiff, reduceCtorEq, Nat.reduceAdd, Nat.reduceLeDiff, F107, encC, ek, en, y.list.len, y.pairs.len, nl, nn, np, Bool.not_not, decide_eq_true q0, r_nm, b_nm, r_l1, b_l1]
    | true =>
    have r_l1 : decide ((a.list.length : Int) = 1) = true := b_l1
    cases b_nums : a.list.all okNum with
    | false =>
      simp +contextual (maxSteps := 2000000) only [go_sem, Nat.reduceEqDiff, reduceCtorEq, Nat.reduceAdd, Nat.reduceLeDiff, F107, encC, ek, en, y.list.len, y.pairs.len, nl, nn, np, Bool.not_not, decide_eq_true q0, r_nm, b_nm, r_l1, b_l1, b_nums, b_nums]
    | true =>
    cases b_p0 : len0 a.pairs with
    | false =>
      have r_p0 : decide ((a.pairs.length : Int) = 0) = false := b_p0
      simp +contextual (maxSteps := 2000000) only [go_sem, Nat.reduceEqDiff, reduceCtorEq, Nat.reduceAdd, Nat.reduceLeDiff, F107, encC, ek, en, y.list.len, y.pairs.len, nl, nn, np, Bool.not_not, decide_eq_true q0, r_nm, b_nm, r_l1, b_l1, b_nums, b_nums, r_p0, b_p0]
    | true =>
    have r_p0 : decide ((a.pairs.length : Int) = 0) = true := b_p0
    simp +contextual (maxSteps := 2000000) only [go_sem, Nat.reduceEqDiff, reduceCtorEq, Nat.reduceAdd, Nat.reduceLeDiff, F107, encC, ek, en, y.list.len, y.pairs.len, nl, nn, np, Bool.not_not, decide_eq_true q0, r_nm, b_nm, r_l1, b_l1, b_nums, b_nums, r_p0, b_p0]
  by_cases q1 : a.kind = 1
  · rw [if_neg q0, if_pos q1]
    cases b_nm : noNm a with
    | false =>
      have r_nm : decide (a.name = strOfNums []) = false := b_nm
      simp +contextual (maxSteps := 2000000) only [go_sem, Nat.reduceEqDiff, reduceCtorEq, Nat.reduceAdd, Nat.reduceLeDiff, F107, encC, ek, en, y.list.len, y.pairs.len, nl, nn, np, Bool.not_not, decide_eq_false q0, decide_eq_true q1, r_nm, b_nm]
    | true =>
    have r_nm : decide (a.name = strOfNums []) = true := b_nm
    cases b_l8 : le8 a.list with
    | false =>
      have r_l8 : decide ((a.list.length : Int) ≤ 8) = false := b_l8
      simp +contextual (maxSteps := 2000000) only [go_sem, Nat.reduceEqDiff, reduceCtorEq, Nat.reduceAdd, Nat.reduceLeDiff, F107, encC, ek, en, y.list.len, y.pairs.len, nl, nn, np, Bool.not_not, decide_eq_false q0, decide_eq_true q1, r_nm, b_nm, r_l8, b_l8]
    | true =>
    have r_l8 : decide ((a.list.length : Int) ≤ 8) = true := b_l8
    cases b_nums : a.list.all okNum with
    | false =>
      simp +contextual (maxSteps := 2000000) only [go_sem, Nat.reduceEqDiff, reduceCtorEq, Nat.reduceAdd, Nat.reduceLeDiff, F107, encC, ek, en, y.list.len, y.pairs.len, nl, nn, np, Bool.not_not, decide_eq_false q0, decide_eq_true q1, r_nm, b_nm, r_l8, b_l8, b_nums, b_nums]
    | true =>
    cases b_p0 : len0 a.pairs with
    | false =>
      have r_p0 : decide ((a.pairs.length : Int) = 0) = false := b_p0
      simp +contextual (maxSteps := 2000000) only [go_sem, Nat.reduceEqDiff, reduceCtorEq, Nat.reduceAdd, Nat.reduceLeDiff, F107, encC, ek, en, y.list.len, y.pairs.len, nl, nn, np, Bool.not_not, decide_eq_false q0, decide_eq_true q1, r_nm, b_nm, r_l8, b_l8, b_nums, b_nums, r_p0, b_p0]
    | true =>
    have r_p0 : decide ((a.pairs.length : Int) = 0) = true := b_p0
    simp +contextual (maxSteps := 2000000) only [go_sem, Nat.reduceEqDiff, reduceCtorEq, Nat.reduceAdd, Nat.reduceLeDiff, F107, encC, ek, en, y.list.len, y.pairs.len, nl, nn, np, Bool.not_not, decide_eq_false q0, decide_eq_true q1, r_nm, b_nm, r_l8, b_l8, b_nums, b_nums, r_p0, b_p0]
  by_cases q2 : a.kind = 2
  · rw [if_neg q0, if_neg q1, if_pos q2]
    cases b_on : okName a.name with
    | false =>
      simp +contextual (maxSteps := 2000000) only [go_sem, Nat.reduceEqDiff, reduceCtorEq, Nat.reduceAdd, Nat.reduceLeDiff, F107, encC, ek, en, y.list.len, y.pairs.len, nl, nn, np, Bool.not_not, decide_eq_false q0, decide_eq_false q1, decide_eq_true q2, b_on, b_on]
    | true =>
    cases b_l1 : len1 a.list with
    | false =>
      have r_l1 : decide ((a.list.length : Int) = 1) = false := b_l1
      simp +contextual (maxSteps := 2000000) only [go_sem, Nat.reduceEqDiff, reduceCtorEq, Nat.reduceAdd, Nat.reduceLeDiff, F107, encC, ek, en, y.list.len, y.pairs.len, nl, nn, np, Bool.not_not, decide_eq_false q0, decide_eq_false q1, decide_eq_true q2, b_on, b_on, r_l1, b_l1]
    | true =>
    have r_l1 : decide ((a.list.length : Int) = 1) = true := b_l1
    cases b_nums : a.list.all okNum with
    | false =>
      simp +contextual (maxSteps := 2000000) only [go_sem, Nat.reduceEqDiff, reduceCtorEq, Nat.reduceAdd, Nat.reduceLeDiff, F107, encC, ek, en, y.list.len, y.pairs.len, nl, nn, np, Bool.not_not, decide_eq_false q0, decide_eq_false q1, decide_eq_true q2, b_on, b_on, r_l1, b_l1, b_nums, b_nums]
    | true =>
    cases b_p0 : len0 a.pairs with
    | false =>
      have r_p0 : decide ((a.pairs.length : Int) = 0) = false := b_p0
      simp +contextual (maxSteps := 2000000) only [go_sem, Nat.reduceEqDiff, reduceCtorEq, Nat.reduceAdd, Nat.reduceLeDiff, F107, encC, ek, en, y.list.len, y.pairs.len, nl, nn, np, Bool.not_not, decide_eq_false q0, decide_eq_false q1, decide_eq_true q2, b_on, b_on, r_l1, b_l1, b_nums, b_nums, r_p0, b_p0]
    | true =>
    have r_p0 : decide ((a.pairs.length : Int) = 0) = true := b_p0
    simp +contextual (maxSteps := 2000000) only [go_sem, Nat.reduceEqDiff, reduceCtorEq, Nat.reduceAdd, Nat.reduceLeDiff, F107, encC, ek, en, y.list.len, y.pairs.len, nl, nn, np, Bool.not_not, decide_eq_false q0, decide_eq_false q1, decide_eq_true q2, b_on, b_on, r_l1, b_l1, b_nums, b_nums, r_p0, b_p0]
  by_cases q3 : a.kind = 3
  · rw [if_neg q0, if_neg q1, if_neg q2, if_pos q3]
    cases b_nm : noNm a with
    | false =>
      have r_nm : decide (a.name = strOfNums []) = false := b_nm
      simp +contextual (maxSteps := 2000000) only [go_sem, Nat.reduceEqDiff, reduceCtorEq, Nat.reduceAdd, Nat.reduceLeDiff, F107, encC, ek, en, y.list.len, y.pairs.len, nl, nn, np, Bool.not_not, decide_eq_false q0, decide_eq_false q1, decide_eq_false q2, decide_eq_true q3, r_nm, b_nm]
    | true =>
    have r_nm : decide (a.name = strOfNums []) = true := b_nm
    cases b_l0 : len0 a.list with
    | false =>
      have r_l0 : decide ((a.list.length : Int) = 0) = false := b_l0
      simp +contextual (maxSteps := 2000000) only [go_sem, Nat.reduceEqDiff, reduceCtorEq, Nat.reduceAdd, Nat.reduceLeDiff, F107, encC, ek, en, y.list.len, y.pairs.len, nl, nn, np, Bool.not_not, decide_eq_false q0, decide_eq_false q1, decide_eq_false q2, decide_eq_true q3, r_nm, b_nm, r_l0, b_l0]
    | true =>
    have r_l0 : decide ((a.list.length : Int) = 0) = true := b_l0
    cases b_p8 : le8 a.pairs with
    | false =>
      have r_p8 : decide ((a.pairs.length : Int) ≤ 8) = false := b_p8
      simp +contextual (maxSteps := 2000000) only [go_sem, Nat.reduceEqDiff, reduceCtorEq, Nat.reduceAdd, Nat.reduceLeDiff, F107, encC, ek, en, y.list.len, y.pairs.len, nl, nn, np, Bool.not_not, decide_eq_false q0, decide_eq_false q1, decide_eq_false q2, decide_eq_true q3, r_nm, b_nm, r_l0, b_l0, r_p8, b_p8]
    | true =>
    have r_p8 : decide ((a.pairs.length : Int) ≤ 8) = true := b_p8
    cases b_prs : a.pairs.all okPair with
    | false =>
      simp +contextual (maxSteps := 2000000) only [go_sem, Nat.reduceEqDiff, reduceCtorEq, Nat.reduceAdd, Nat.reduceLeDiff, F107, encC, ek, en, y.list.len, y.pairs.len, nl, nn, np, Bool.not_not, decide_eq_false q0, decide_eq_false q1, decide_eq_false q2, decide_eq_true q3, r_nm, b_nm, r_l0, b_l0, r_p8, b_p8, b_prs, b_prs]
    | true =>
    simp +contextual (maxSteps := 2000000) only [go_sem, Nat.reduceEqDiff, reduceCtorEq, Nat.reduceAdd, Nat.reduceLeDiff, F107, encC, ek, en, y.list.len, y.pairs.len, nl, nn, np, Bool.not_not, decide_eq_false q0, decide_eq_false q1, decide_eq_false q2, decide_eq_true q3, r_nm, b_nm, r_l0, b_l0, r_p8, b_p8, b_prs, b_prs]
  rw [if_neg q0, if_neg q1, if_neg q2, if_neg q3]
  simp +contextual (maxSteps := 2000000) only [go_sem, Nat.reduceEqDiff, reduceCtorEq, Nat.reduceAdd, Nat.reduceLeDiff, F107, encC, ek, en, y.list.len, y.pairs.len, nl, nn, np, Bool.not_not, decide_eq_false q0, decide_eq_false q1, decide_eq_false q2, decide_eq_false q3]
/-! (impl.Arg).valid$1 -/
def L140_0 : List AStep := [⟨.box 106 (.t 0), (some 1), none, []⟩, ⟨.mov (.c (.bool false)), (some 2), none, []⟩]
theorem v140_0 : VS L140_0.eq_1 := rfl
def L140_1 : List AStep := [⟨.not (.t 4), (some 5), none, []⟩, ⟨.mov (.t 5), (some 2), none, []⟩]
theorem v140_1 : VS L140_1.eq_1 := rfl
def L140_2 : List AStep := ⟨.load 2 true (.t 1), (some 3), none, []⟩ :: ⟨.call 95 [(.t 3)], (some 4), none, []⟩ :: L140_1
theorem v140_2 : VS L140_2.eq_1 := rfl
def C140_0 : ACode := .seq (.reg L140_2) .ret
theorem u140_0 : VC C140_0.eq_1 := rfl
def C140_1 : ACode := .seq (.reg L140_0) C140_0
theorem u140_1 : VC C140_1.eq_1 := rfl
def F140 : AFunc := ⟨6, [.tmp 2], C140_1⟩
theorem cF140 : compB Try.prog 140 = some F140 := by kernel_rfl
attribute [local go_sem ↓] u140_0 u140_1 v140_0 v140_1 v140_2
theorem c_validArg1 (x : Pair) (h : H) (hn : x.name.size < 2 ^ 62) : bm Try.prog 140 [.agg (encP x)] h = some (ib (!(okPair x)), h) := by
  refine bm_eq cF140 ?_
  have e := c_okPair x h hn
  simp only [encP] at e
  simp +contextual (maxSteps := 2000000) only [go_sem, Nat.reduceEqDiff, reduceCtorEq, Nat.reduceAdd, Nat.reduceLeDiff, F140, e, encP]
/-! (impl.Arg).valid -/
def L109_0 : List AStep := [⟨.box 104 (.t 0), (some 1), none, []⟩, ⟨.mov (.c (.bool false)), (some 2), none, []⟩]
theorem v109_0 : VS L109_0.eq_1 := rfl
def L109_1 : List AStep := [⟨.faddr 0 (.t 1), (some 3), none, []⟩, ⟨.load 1 false (.t 3), (some 4), none, []⟩]
theorem v109_1 : VS L109_1.eq_1 := rfl
def L109_2 : List AStep := [⟨.bin .eql (.t 4) (.c (.int .i64 0)), (some 6), none, []⟩, ⟨.mov (.t 6), (some 5), none, []⟩]
theorem v109_2 : VS L109_2.eq_1 := rfl
def L109_3 : List AStep := [⟨.mov (.t 26), (some 2), none, []⟩]
theorem v109_3 : VS L109_3.eq_1 := rfl
def L109_4 : List AStep := ⟨.call 97 [(.t 24)], (some 25), (some (22, true)), []⟩ :: ⟨.pick (.t 22) (.t 25) (.c (.bool false)), (some 26), none, []⟩ :: L109_3
theorem v109_4 : VS L109_4.eq_1 := rfl
def L109_5 : List AStep := ⟨.faddr 2 (.t 1), (some 23), (some (22, true)), []⟩ :: ⟨.load 1 false (.t 23), (some 24), (some (22, true)), []⟩ :: L109_4
theorem v109_5 : VS L109_5.eq_1 := rfl
def L109_6 : List AStep := ⟨.pick (.t 16) (.t 20) (.c (.bool false)), (some 21), none, []⟩ :: ⟨.mov (.t 21), (some 22), none, []⟩ :: L109_5
theorem v109_6 : VS L109_6.eq_1 := rfl
def L109_7 : List AStep := ⟨.len (.t 18), (some 19), (some (16, true)), []⟩ :: ⟨.bin .eql (.t 19) (.c (.int .i64 0)), (some 20), (some (16, true)), []⟩ :: L109_6
theorem v109_7 : VS L109_7.eq_1 := rfl
def L109_8 : List AStep := ⟨.faddr 3 (.t 1), (some 17), (some (16, true)), []⟩ :: ⟨.load 1 false (.t 17), (some 18), (some (16, true)), []⟩ :: L109_7
theorem v109_8 : VS L109_8.eq_1 := rfl
def L109_9 : List AStep := ⟨.pick (.t 10) (.t 14) (.c (.bool false)), (some 15), none, []⟩ :: ⟨.mov (.t 15), (some 16), none, []⟩ :: L109_8
theorem v109_9 : VS L109_9.eq_1 := rfl
def L109_10 : List AStep := ⟨.len (.t 12), (some 13), (some (10, true)), []⟩ :: ⟨.bin .eql (.t 13) (.c (.int .i64 1)), (some 14), (some (10, true)), []⟩ :: L109_9
theorem v109_10 : VS L109_10.eq_1 := rfl
def L109_11 : List AStep := ⟨.faddr 2 (.t 1), (some 11), (some (10, true)), []⟩ :: ⟨.load 1 false (.t 11), (some 12), (some (10, true)), []⟩ :: L109_10
theorem v109_11 : VS L109_11.eq_1 := rfl
def L109_12 : List AStep := ⟨.bin .eql (.t 8) (.c (.str (strOfNums []))), (some 9), none, []⟩ :: ⟨.mov (.t 9), (some 10), none, []⟩ :: L109_11
theorem v109_12 : VS L109_12.eq_1 := rfl
def L109_13 : List AStep := ⟨.faddr 1 (.t 1), (some 7), none, []⟩ :: ⟨.load 1 false (.t 7), (some 8), none, []⟩ :: L109_12
theorem v109_13 : VS L109_13.eq_1 := rfl
def L109_14 : List AStep := [⟨.bin .eql (.t 4) (.c (.int .i64 1)), (some 28), none, []⟩, ⟨.mov (.t 28), (some 27), none, []⟩]
theorem v109_14 : VS L109_14.eq_1 := rfl
def L109_15 : List AStep := [⟨.mov (.t 48), (some 2), none, []⟩]
theorem v109_15 : VS L109_15.eq_1 := rfl
def L109_16 : List AStep := ⟨.call 97 [(.t 46)], (some 47), (some (44, true)), []⟩ :: ⟨.pick (.t 44) (.t 47) (.c (.bool false)), (some 48), none, []⟩ :: L109_15
theorem v109_16 : VS L109_16.eq_1 := rfl
def L109_17 : List AStep := ⟨.faddr 2 (.t 1), (some 45), (some (44, true)), []⟩ :: ⟨.load 1 false (.t 45), (some 46), (some (44, true)), []⟩ :: L109_16
theorem v109_17 : VS L109_17.eq_1 := rfl
def L109_18 : List AStep := ⟨.pick (.t 38) (.t 42) (.c (.bool false)), (some 43), none, []⟩ :: ⟨.mov (.t 43), (some 44), none, []⟩ :: L109_17
theorem v109_18 : VS L109_18.eq_1 := rfl
def L109_19 : List AStep := ⟨.len (.t 40), (some 41), (some (38, true)), []⟩ :: ⟨.bin .eql (.t 41) (.c (.int .i64 0)), (some 42), (some (38, true)), []⟩ :: L109_18
theorem v109_19 : VS L109_19.eq_1 := rfl
def L109_20 : List AStep := ⟨.faddr 3 (.t 1), (some 39), (some (38, true)), []⟩ :: ⟨.load 1 false (.t 39), (some 40), (some (38, true)), []⟩ :: L109_19
theorem v109_20 : VS L109_20.eq_1 := rfl
def L109_21 : List AStep := ⟨.pick (.t 32) (.t 36) (.c (.bool false)), (some 37), none, []⟩ :: ⟨.mov (.t 37), (some 38), none, []⟩ :: L109_20
theorem v109_21 : VS L109_21.eq_1 := rfl
def L109_22 : List AStep := ⟨.len (.t 34), (some 35), (some (32, true)), []⟩ :: ⟨.bin .leq (.t 35) (.c (.int .i64 8)), (some 36), (some (32, true)), []⟩ :: L109_21
theorem v109_22 : VS L109_22.eq_1 := rfl
def L109_23 : List AStep := ⟨.faddr 2 (.t 1), (some 33), (some (32, true)), []⟩ :: ⟨.load 1 false (.t 33), (some 34), (some (32, true)), []⟩ :: L109_22
theorem v109_23 : VS L109_23.eq_1 := rfl
def L109_24 : List AStep := ⟨.bin .eql (.t 30) (.c (.str (strOfNums []))), (some 31), none, []⟩ :: ⟨.mov (.t 31), (some 32), none, []⟩ :: L109_23
theorem v109_24 : VS L109_24.eq_1 := rfl
def L109_25 : List AStep := ⟨.faddr 1 (.t 1), (some 29), none, []⟩ :: ⟨.load 1 false (.t 29), (some 30), none, []⟩ :: L109_24
theorem v109_25 : VS L109_25.eq_1 := rfl
def L109_26 : List AStep := [⟨.bin .eql (.t 4) (.c (.int .i64 2)), (some 50), none, []⟩, ⟨.mov (.t 50), (some 49), none, []⟩]
theorem v109_26 : VS L109_26.eq_1 := rfl
def L109_27 : List AStep := [⟨.mov (.t 70), (some 2), none, []⟩]
theorem v109_27 : VS L109_27.eq_1 := rfl
def L109_28 : List AStep := ⟨.call 97 [(.t 68)], (some 69), (some (66, true)), []⟩ :: ⟨.pick (.t 66) (.t 69) (.c (.bool false)), (some 70), none, []⟩ :: L109_27
theorem v109_28 : VS L109_28.eq_1 := rfl
def L109_29 : List AStep := ⟨.faddr 2 (.t 1), (some 67), (some (66, true)), []⟩ :: ⟨.load 1 false (.t 67), (some 68), (some (66, true)), []⟩ :: L109_28
theorem v109_29 : VS L109_29.eq_1 := rfl
def L109_30 : List AStep := ⟨.pick (.t 60) (.t 64) (.c (.bool false)), (some 65), none, []⟩ :: ⟨.mov (.t 65), (some 66), none, []⟩ :: L109_29
theorem v109_30 : VS L109_30.eq_1 := rfl
def L109_31 : List AStep := ⟨.len (.t 62), (some 63), (some (60, true)), []⟩ :: ⟨.bin .eql (.t 63) (.c (.int .i64 0)), (some 64), (some (60, true)), []⟩ :: L109_30
theorem v109_31 : VS L109_31.eq_1 := rfl
def L109_32 : List AStep := ⟨.faddr 3 (.t 1), (some 61), (some (60, true)), []⟩ :: ⟨.load 1 false (.t 61), (some 62), (some (60, true)), []⟩ :: L109_31
theorem v109_32 : VS L109_32.eq_1 := rfl
def L109_33 : List AStep := ⟨.pick (.t 54) (.t 58) (.c (.bool false)), (some 59), none, []⟩ :: ⟨.mov (.t 59), (some 60), none, []⟩ :: L109_32
theorem v109_33 : VS L109_33.eq_1 := rfl
def L109_34 : List AStep := ⟨.len (.t 56), (some 57), (some (54, true)), []⟩ :: ⟨.bin .eql (.t 57) (.c (.int .i64 1)), (some 58), (some (54, true)), []⟩ :: L109_33
theorem v109_34 : VS L109_34.eq_1 := rfl
def L109_35 : List AStep := ⟨.faddr 2 (.t 1), (some 55), (some (54, true)), []⟩ :: ⟨.load 1 false (.t 55), (some 56), (some (54, true)), []⟩ :: L109_34
theorem v109_35 : VS L109_35.eq_1 := rfl
def L109_36 : List AStep := ⟨.call 118 [(.t 52)], (some 53), none, []⟩ :: ⟨.mov (.t 53), (some 54), none, []⟩ :: L109_35
theorem v109_36 : VS L109_36.eq_1 := rfl
def L109_37 : List AStep := ⟨.faddr 1 (.t 1), (some 51), none, []⟩ :: ⟨.load 1 false (.t 51), (some 52), none, []⟩ :: L109_36
theorem v109_37 : VS L109_37.eq_1 := rfl
def L109_38 : List AStep := [⟨.bin .eql (.t 4) (.c (.int .i64 3)), (some 72), none, []⟩, ⟨.mov (.t 72), (some 71), none, []⟩]
theorem v109_38 : VS L109_38.eq_1 := rfl
def L109_39 : List AStep := [⟨.pick (.t 88) (.t 92) (.c (.bool false)), (some 93), none, []⟩, ⟨.mov (.t 93), (some 2), none, []⟩]
theorem v109_39 : VS L109_39.eq_1 := rfl
def L109_40 : List AStep := ⟨.call 139 [(.t 90), (.c (.fn 140 []))], (some 91), (some (88, true)), []⟩ :: ⟨.not (.t 91), (some 92), (some (88, true)), []⟩ :: L109_39
theorem v109_40 : VS L109_40.eq_1 := rfl
def L109_41 : List AStep := ⟨.faddr 3 (.t 1), (some 89), (some (88, true)), []⟩ :: ⟨.load 1 false (.t 89), (some 90), (some (88, true)), []⟩ :: L109_40
theorem v109_41 : VS L109_41.eq_1 := rfl
def L109_42 : List AStep := ⟨.pick (.t 82) (.t 86) (.c (.bool false)), (some 87), none, []⟩ :: ⟨.mov (.t 87), (some 88), none, []⟩ :: L109_41
theorem v109_42 : VS L109_42.eq_1 := rfl
def L109_43 : List AStep := ⟨.len (.t 84), (some 85), (some (82, true)), []⟩ :: ⟨.bin .leq (.t 85) (.c (.int .i64 8)), (some 86), (some (82, true)), []⟩ :: L109_42
theorem v109_43 : VS L109_43.eq_1 := rfl
def L109_44 : List AStep := ⟨.faddr 3 (.t 1), (some 83), (some (82, true)), []⟩ :: ⟨.load 1 false (.t 83), (some 84), (some (82, true)), []⟩ :: L109_43
theorem v109_44 : VS L109_44.eq_1 := rfl
def L109_45 : List AStep := ⟨.pick (.t 76) (.t 80) (.c (.bool false)), (some 81), none, []⟩ :: ⟨.mov (.t 81), (some 82), none, []⟩ :: L109_44
theorem v109_45 : VS L109_45.eq_1 := rfl
def L109_46 : List AStep := ⟨.len (.t 78), (some 79), (some (76, true)), []⟩ :: ⟨.bin .eql (.t 79) (.c (.int .i64 0)), (some 80), (some (76, true)), []⟩ :: L109_45
theorem v109_46 : VS L109_46.eq_1 := rfl
def L109_47 : List AStep := ⟨.faddr 2 (.t 1), (some 77), (some (76, true)), []⟩ :: ⟨.load 1 false (.t 77), (some 78), (some (76, true)), []⟩ :: L109_46
theorem v109_47 : VS L109_47.eq_1 := rfl
def L109_48 : List AStep := ⟨.bin .eql (.t 74) (.c (.str (strOfNums []))), (some 75), none, []⟩ :: ⟨.mov (.t 75), (some 76), none, []⟩ :: L109_47
theorem v109_48 : VS L109_48.eq_1 := rfl
def L109_49 : List AStep := ⟨.faddr 1 (.t 1), (some 73), none, []⟩ :: ⟨.load 1 false (.t 73), (some 74), none, []⟩ :: L109_48
theorem v109_49 : VS L109_49.eq_1 := rfl
def L109_50 : List AStep := [⟨.mov (.c (.bool false)), (some 2), none, []⟩]
theorem v109_50 : VS L109_50.eq_1 := rfl
def C109_0 : ACode := .seq (.reg L109_13) .ret
theorem u109_0 : VC C109_0.eq_1 := rfl
def C109_1 : ACode := .seq (.reg L109_25) .ret
theorem u109_1 : VC C109_1.eq_1 := rfl
def C109_2 : ACode := .seq (.reg L109_37) .ret
theorem u109_2 : VC C109_2.eq_1 := rfl
def C109_3 : ACode := .seq (.reg L109_49) .ret
theorem u109_3 : VC C109_3.eq_1 := rfl
def C109_4 : ACode := .cond (.t 71) C109_3 .skip
theorem u109_4 : VC C109_4.eq_1 := rfl
def C109_5 : ACode := .seq (.reg L109_38) C109_4
theorem u109_5 : VC C109_5.eq_1 := rfl
def C109_6 : ACode := .cond (.t 49) C109_2 C109_5
theorem u109_6 : VC C109_6.eq_1 := rfl
def C109_7 : ACode := .seq (.reg L109_26) C109_6
theorem u109_7 : VC C109_7.eq_1 := rfl
def C109_8 : ACode := .cond (.t 27) C109_1 C109_7
theorem u109_8 : VC C109_8.eq_1 := rfl
def C109_9 : ACode := .seq (.reg L109_14) C109_8
theorem u109_9 : VC C109_9.eq_1 := rfl
def C109_10 : ACode := .cond (.t 5) C109_0 C109_9
theorem u109_10 : VC C109_10.eq_1 := rfl
def C109_11 : ACode := .seq (.reg L109_2) C109_10
theorem u109_11 : VC C109_11.eq_1 := rfl
def C109_12 : ACode := .block 0 C109_11
theorem u109_12 : VC C109_12.eq_1 := rfl
def C109_13 : ACode := .seq (.reg L109_1) C109_12
theorem u109_13 : VC C109_13.eq_1 := rfl
def C109_14 : ACode := .seq (.reg L109_50) .ret
theorem u109_14 : VC C109_14.eq_1 := rfl
def C109_15 : ACode := .seq C109_13 C109_14
theorem u109_15 : VC C109_15.eq_1 := rfl
def C109_16 : ACode := .seq (.reg L109_0) C109_15
theorem u109_16 : VC C109_16.eq_1 := rfl
def F109 : AFunc := ⟨94, [.tmp 2], C109_16⟩
theorem cF109 : compB Try.prog 109 = some F109 := by kernel_rfl
attribute [local go_sem ↓] u109_0 u109_1 u109_2 u109_3 u109_4 u109_5 u109_6 u109_7 u109_8 u109_9 u109_10 u109_11 u109_12 u109_13 u109_14 u109_15 u109_16 v109_0 v109_1 v109_2 v109_3 v109_4 v109_5 v109_6 v109_7 v109_8 v109_9 v109_10 v109_11 v109_12 v109_13 v109_14 v109_15 v109_16 v109_17 v109_18 v109_19 v109_20 v109_21 v109_22 v109_23 v109_24 v109_25 v109_26 v109_27 v109_28 v109_29 v109_30 v109_31 v109_32 v109_33 v109_34 v109_35 v109_36 v109_37 v109_38 v109_39 v109_40 v109_41 v109_42 v109_43 v109_44 v109_45 v109_46 v109_47 v109_48 v109_49 v109_50
theorem c_argValid (r : RArg) (a : Arg) (h : H) (y : AtC 3 106 h r a) (k0 : a.name.size ≤ 1048576) (k1 : a.list.length ≤ 1048576) (k2 : a.pairs.length ≤ 1048576) (k3 : ∀ x ∈ a.pairs, x.name.size ≤ 1048576) : bm Try.prog 109 [.agg (encC r)] h = some (ib (okArg a), h) := by
  refine bm_eq cF109 ?_
  have ek := y.kind
  have en := y.name
  have kb : a.list.length ≤ big := Nat.le_trans k1 (by decide)
  have nl := c_areValues a.list _ h y.list kb
  have nn := c_isName a.name h (Nat.lt_of_le_of_lt k0 (by decide))
  have np := c_hasP a.pairs _ 140 [] (fun p => !(okPair p)) h y.pairs (Nat.le_trans k2 (by decide)) (fun i hi x hx => c_validArg1 x h (by rw [hx]; exact Nat.lt_of_le_of_lt (k3 _ (List.getElem_mem hi)) (by decide)))
  rw [show a.pairs.any (fun p => !(okPair p)) = !(a.pairs.all okPair) by rw [← List.not_all_eq_any_not]] at np
  unfold okArg
  by_cases q0 : a.kind = 0
  · rw [if_pos q0]
    cases b_nm : noNm a with
    | false =>
      have r_nm : decide (a.name = strOfNums []) = false := b_nm
      simp +contextual (maxSteps := 2000000) only [go_sem, Nat.reduceEqDiff, reduceCtorEq, Nat.reduceAdd, Nat.reduceLeDiff, F109, encC, ek, en, y.list.len, y.pairs.len, nl, nn, np, Bool.not_not, decide_eq_true q0, r_nm, b_nm]
    | true =>
    have r_nm : decide (a.name = strOfNums []) = true := b_nm
    cases b_l1 : len1 a.list with
    | false =>
      have r_l1 : decide ((a.list.length : Int) = 1) = false := b_l1
      simp +contextual (maxSteps := 2000000) only [go_sem, Nat.reduceEqDiff, reduceCtorEq, Nat.reduceAdd, Nat.reduceLeDiff, F109, encC, ek, en, y.list.len, y.pairs.len, nl, nn, np, Bool.not_not, decide_eq_true q0, r_nm, b_nm, r_l1, b_l1]
    | true =>
    have r_l1 : decide ((a.list.length : Int) = 1) = true := b_l1
    cases b_p0 : len0 a.pairs with
    | false =>
      have r_p0 : decide ((a.pairs.length : Int) = 0) = false := b_p0
      simp +contextual (maxSteps := 2000000) only [go_sem, Nat.reduceEqDiff, reduceCtorEq, Nat.reduceAdd, Nat.reduceLeDiff, F109, encC, ek, en, y.list.len, y.pairs.len, nl, nn, np, Bool.not_not, decide_eq_true q0, r_nm, b_nm, r_l1, b_l1, r_p0, b_p0]
    | true =>
    have r_p0 : decide ((a.pairs.length : Int) = 0) = true := b_p0
    cases b_nums : a.list.all okNum with
    | false =>
      simp +contextual (maxSteps := 2000000) only [go_sem, Nat.reduceEqDiff, reduceCtorEq, Nat.reduceAdd, Nat.reduceLeDiff, F109, encC, ek, en, y.list.len, y.pairs.len, nl, nn, np, Bool.not_not, decide_eq_true q0, r_nm, b_nm, r_l1, b_l1, r_p0, b_p0, b_nums, b_nums]
    | true =>
    simp +contextual (maxSteps := 2000000) only [go_sem, Nat.reduceEqDiff, reduceCtorEq, Nat.reduceAdd, Nat.reduceLeDiff, F109, encC, ek, en, y.list.len, y.pairs.len, nl, nn, np, Bool.not_not, decide_eq_true q0, r_nm, b_nm, r_l1, b_l1, r_p0, b_p0, b_nums, b_nums]
  by_cases q1 : a.kind = 1
  · rw [if_neg q0, if_pos q1]
    cases b_nm : noNm a with
    | false =>
      have r_nm : decide (a.name = strOfNums []) = false := b_nm
      simp +contextual (maxSteps := 2000000) only [go_sem, Nat.reduceEqDiff, reduceCtorEq, Nat.reduceAdd, Nat.reduceLeDiff, F109, encC, ek, en, y.list.len, y.pairs.len, nl, nn, np, Bool.not_not, decide_eq_false q0, decide_eq_true q1, r_nm, b_nm]
    | true =>
    have r_nm : decide (a.name = strOfNums []) = true := b_nm
    cases b_l8 : le8 a.list with
    | false =>
      have r_l8 : decide ((a.list.length : Int) ≤ 8) = false := b_l8
      simp +contextual (maxSteps := 2000000) only [go_sem, Nat.reduceEqDiff, reduceCtorEq, Nat.reduceAdd, Nat.reduceLeDiff, F109, encC, ek, en, y.list.len, y.pairs.len, nl, nn, np, Bool.not_not, decide_eq_false q0, decide_eq_true q1, r_nm, b_nm, r_l8, b_l8]
    | true =>
    have r_l8 : decide ((a.list.length : Int) ≤ 8) = true := b_l8
    cases b_p0 : len0 a.pairs with
    | false =>
      have r_p0 : decide ((a.pairs.length : Int) = 0) = false := b_p0
      simp +contextual (maxSteps := 2000000) only [go_sem, Nat.reduceEqDiff, reduceCtorEq, Nat.reduceAdd, Nat.reduceLeDiff, F109, encC, ek, en, y.list.len, y.pairs.len, nl, nn, np, Bool.not_not, decide_eq_false q0, decide_eq_true q1, r_nm, b_nm, r_l8, b_l8, r_p0, b_p0]
    | true =>
    have r_p0 : decide ((a.pairs.length : Int) = 0) = true := b_p0
    cases b_nums : a.list.all okNum with
    | false =>
      simp +contextual (maxSteps := 2000000) only [go_sem, Nat.reduceEqDiff, reduceCtorEq, Nat.reduceAdd, Nat.reduceLeDiff, F109, encC, ek, en, y.list.len, y.pairs.len, nl, nn, np, Bool.not_not, decide_eq_false q0, decide_eq_true q1, r_nm, b_nm, r_l8, b_l8, r_p0, b_p0, b_nums, b_nums]
    | true =>
    simp +contextual (maxSteps := 2000000) only [go_sem, Nat.reduceEqDiff, reduceCtorEq, Nat.reduceAdd, Nat.reduceLeDiff, F109, encC, ek, en, y.list.len, y.pairs.len, nl, nn, np, Bool.not_not, decide_eq_false q0, decide_eq_true q1, r_nm, b_nm, r_l8, b_l8, r_p0, b_p0, b_nums, b_nums]
  by_cases q2 : a.kind = 2
  · rw [if_neg q0, if_neg q1, if_pos q2]
    cases b_on : okName a.name with
    | false =>
      simp +contextual (maxSteps := 2000000) only [go_sem, Nat.reduceEqDiff, reduceCtorEq, Nat.reduceAdd, Nat.reduceLeDiff, F109, encC, ek, en, y.list.len, y.pairs.len, nl, nn, np, Bool.not_not, decide_eq_false q0, decide_eq_false q1, decide_eq_true q2, b_on, b_on]
    | true =>
    cases b_l1 : len1 a.list with
    | false =>
      have r_l1 : decide ((a.list.length : Int) = 1) = false := b_l1
      simp +contextual (maxSteps := 2000000) only [go_sem, Nat.reduceEqDiff, reduceCtorEq, Nat.reduceAdd, Nat.reduceLeDiff, F109, encC, ek, en, y.list.len, y.pairs.len, nl, nn, np, Bool.not_not, decide_eq_false q0, decide_eq_false q1, decide_eq_true q2, b_on, b_on, r_l1, b_l1]
    | true =>
    have r_l1 : decide ((a.list.length : Int) = 1) = true := b_l1
    cases b_p0 : len0 a.pairs with
    | false =>
      have r_p0 : decide ((a.pairs.length : Int) = 0) = false := b_p0
      simp +contextual (maxSteps := 2000000) only [go_sem, Nat.reduceEqDiff, reduceCtorEq, Nat.reduceAdd, Nat.reduceLeDiff, F109, encC, ek, en, y.list.len, y.pairs.len, nl, nn, np, Bool.not_not, decide_eq_false q0, decide_eq_false q1, decide_eq_true q2, b_on, b_on, r_l1, b_l1, r_p0, b_p0]
    | true =>
    have r_p0 : decide ((a.pairs.length : Int) = 0) = true := b_p0
    cases b_nums : a.list.all okNum with
    | false =>
      simp +contextual (maxSteps := 2000000) only [go_sem, Nat.reduceEqDiff, reduceCtorEq, Nat.reduceAdd, Nat.reduceLeDiff, F109, encC, ek, en, y.list.len, y.pairs.len, nl, nn, np, Bool.not_not, decide_eq_false q0, decide_eq_false q1, decide_eq_true q2, b_on, b_on, r_l1, b_l1, r_p0, b_p0, b_nums, b_nums]
    | true =>
    simp +contextual (maxSteps := 2000000) only [go_sem, Nat.reduceEqDiff, reduceCtorEq, Nat.reduceAdd, Nat.reduceLeDiff, F109, encC, ek, en, y.list.len, y.pairs.len, nl, nn, np, Bool.not_not, decide_eq_false q0, decide_eq_false q1, decide_eq_true q2, b_on, b_on, r_l1, b_l1, r_p0, b_p0, b_nums, b_nums]
  by_cases q3 : a.kind = 3
  · rw [if_neg q0, if_neg q1, if_neg q2, if_pos q3]
    cases b_nm : noNm a with
    | false =>
      have r_nm : decide (a.name = strOfNums []) = false := b_nm
      simp +contextual (maxSteps := 2000000) only [go_sem, Nat.reduceEqDiff, reduceCtorEq, Nat.reduceAdd, Nat.reduceLeDiff, F109, encC, ek, en, y.list.len, y.pairs.len, nl, nn, np, Bool.not_not, decide_eq_false q0, decide_eq_false q1, decide_eq_false q2, decide_eq_true q3, r_nm, b_nm]
    | true =>
    have r_nm : decide (a.name = strOfNums []) = true := b_nm
    cases b_l0 : len0 a.list with
    | false =>
      have r_l0 : decide ((a.list.length : Int) = 0) = false := b_l0
      simp +contextual (maxSteps := 2000000) only [go_sem, Nat.reduceEqDiff, reduceCtorEq, Nat.reduceAdd, Nat.reduceLeDiff, F109, encC, ek, en, y.list.len, y.pairs.len, nl, nn, np, Bool.not_not, decide_eq_false q0, decide_eq_false q1, decide_eq_false q2, decide_eq_true q3, r_nm, b_nm, r_l0, b_l0]
    | true =>
    have r_l0 : decide ((a.list.length : Int) = 0) = true := b_l0
    cases b_p8 : le8 a.pairs with
    | false =>
      have r_p8 : decide ((a.pairs.length : Int) ≤ 8) = false := b_p8
      simp +contextual (maxSteps := 2000000) only [go_sem, Nat.reduceEqDiff, reduceCtorEq, Nat.reduceAdd, Nat.reduceLeDiff, F109, encC, ek, en, y.list.len, y.pairs.len, nl, nn, np, Bool.not_not, decide_eq_false q0, decide_eq_false q1, decide_eq_false q2, decide_eq_true q3, r_nm, b_nm, r_l0, b_l0, r_p8, b_p8]
    | true =>
    have r_p8 : decide ((a.pairs.length : Int) ≤ 8) = true := b_p8
    cases b_prs : a.pairs.all okPair with
    | false =>
      simp +contextual (maxSteps := 2000000) only [go_sem, Nat.reduceEqDiff, reduceCtorEq, Nat.reduceAdd, Nat.reduceLeDiff, F109, encC, ek, en, y.list.len, y.pairs.len, nl, nn, np, Bool.not_not, decide_eq_false q0, decide_eq_false q1, decide_eq_false q2, decide_eq_true q3, r_nm, b_nm, r_l0, b_l0, r_p8, b_p8, b_prs, b_prs]
    | true =>
    simp +contextual (maxSteps := 2000000) only [go_sem, Nat.reduceEqDiff, reduceCtorEq, Nat.reduceAdd, Nat.reduceLeDiff, F109, encC, ek, en, y.list.len, y.pairs.len, nl, nn, np, Bool.not_not, decide_eq_false q0, decide_eq_false q1, decide_eq_false q2, decide_eq_true q3, r_nm, b_nm, r_l0, b_l0, r_p8, b_p8, b_prs, b_prs]
  rw [if_neg q0, if_neg q1, if_neg q2, if_neg q3]
  simp +contextual (maxSteps := 2000000) only [go_sem, Nat.reduceEqDiff, reduceCtorEq, Nat.reduceAdd, Nat.reduceLeDiff, F109, encC, ek, en, y.list.len, y.pairs.len, nl, nn, np, Bool.not_not, decide_eq_false q0, decide_eq_false q1, decide_eq_false q2, decide_eq_false q3]
/-! spec.validCall -/
def L60_0 : List AStep := [⟨.box 53 (.t 0), (some 1), none, []⟩, ⟨.mov (.c (.bool false)), (some 2), none, []⟩]
theorem v60_0 : VS L60_0.eq_1 := rfl
def L60_1 : List AStep := [⟨.mov (.c (.int .i64 0)), (some 3), none, []⟩]
theorem v60_1 : VS L60_1.eq_1 := rfl
def L60_2 : List AStep := [⟨.bin .lss (.t 4) (.t 7), (some 8), none, []⟩]
theorem v60_2 : VS L60_2.eq_1 := rfl
def L60_3 : List AStep := ⟨.load 1 false (.t 5), (some 6), none, []⟩ :: ⟨.len (.t 6), (some 7), none, []⟩ :: L60_2
theorem v60_3 : VS L60_3.eq_1 := rfl
def L60_4 : List AStep := ⟨.mov (.t 3), (some 4), none, []⟩ :: ⟨.faddr 0 (.t 1), (some 5), none, []⟩ :: L60_3
theorem v60_4 : VS L60_4.eq_1 := rfl
def L60_5 : List AStep := [⟨.pick (.t 30) (.t 38) (.c (.bool false)), (some 39), (some (18, false)), []⟩, ⟨.pick (.t 18) (.c (.bool true)) (.t 39), (some 40), none, []⟩]
theorem v60_5 : VS L60_5.eq_1 := rfl
def L60_6 : List AStep := ⟨.load 1 false (.t 36), (some 37), (some (30, true)), []⟩ :: ⟨.bin .geq (.t 37) (.c (.int .i64 2)), (some 38), (some (30, true)), []⟩ :: L60_5
theorem v60_6 : VS L60_6.eq_1 := rfl
def L60_7 : List AStep := ⟨.iaddr 4 (.t 32) (.t 34), (some 35), (some (30, true)), []⟩ :: ⟨.faddr 0 (.t 35), (some 36), (some (30, true)), []⟩ :: L60_6
theorem v60_7 : VS L60_7.eq_1 := rfl
def L60_8 : List AStep := ⟨.mov (.t 3), (some 33), (some (30, true)), []⟩ :: ⟨.bin .sub (.t 33) (.c (.int .i64 1)), (some 34), (some (30, true)), []⟩ :: L60_7
theorem v60_8 : VS L60_8.eq_1 := rfl
def L60_9 : List AStep := ⟨.faddr 0 (.t 1), (some 31), (some (30, true)), []⟩ :: ⟨.load 1 false (.t 31), (some 32), (some (30, true)), []⟩ :: L60_8
theorem v60_9 : VS L60_9.eq_1 := rfl
def L60_10 : List AStep := ⟨.pick (.t 21) (.t 28) (.c (.bool false)), (some 29), (some (18, false)), []⟩ :: ⟨.mov (.t 29), (some 30), (some (18, false)), []⟩ :: L60_9
theorem v60_10 : VS L60_10.eq_1 := rfl
def L60_11 : List AStep := ⟨.load 1 false (.t 26), (some 27), (some (21, true)), []⟩ :: ⟨.bin .lss (.t 27) (.c (.int .i64 2)), (some 28), (some (21, true)), []⟩ :: L60_10
theorem v60_11 : VS L60_11.eq_1 := rfl
def L60_12 : List AStep := ⟨.iaddr 4 (.t 23) (.t 24), (some 25), (some (21, true)), []⟩ :: ⟨.faddr 0 (.t 25), (some 26), (some (21, true)), []⟩ :: L60_11
theorem v60_12 : VS L60_12.eq_1 := rfl
def L60_13 : List AStep := ⟨.load 1 false (.t 22), (some 23), (some (21, true)), []⟩ :: ⟨.mov (.t 3), (some 24), (some (21, true)), []⟩ :: L60_12
theorem v60_13 : VS L60_13.eq_1 := rfl
def L60_14 : List AStep := ⟨.mov (.t 20), (some 21), (some (18, false)), []⟩ :: ⟨.faddr 0 (.t 1), (some 22), (some (21, true)), []⟩ :: L60_13
theorem v60_14 : VS L60_14.eq_1 := rfl
def L60_15 : List AStep := ⟨.mov (.t 3), (some 19), (some (18, false)), []⟩ :: ⟨.bin .gtr (.t 19) (.c (.int .i64 0)), (some 20), (some (18, false)), []⟩ :: L60_14
theorem v60_15 : VS L60_15.eq_1 := rfl
def L60_16 : List AStep := ⟨.not (.t 16), (some 17), none, []⟩ :: ⟨.mov (.t 17), (some 18), none, []⟩ :: L60_15
theorem v60_16 : VS L60_16.eq_1 := rfl
def L60_17 : List AStep := ⟨.load 4 true (.t 14), (some 15), none, []⟩ :: ⟨.call 107 [(.t 15)], (some 16), none, []⟩ :: L60_16
theorem v60_17 : VS L60_17.eq_1 := rfl
def L60_18 : List AStep := ⟨.mov (.t 3), (some 13), none, []⟩ :: ⟨.iaddr 4 (.t 12) (.t 13), (some 14), none, []⟩ :: L60_17
theorem v60_18 : VS L60_18.eq_1 := rfl
def L60_19 : List AStep := ⟨.faddr 0 (.t 1), (some 11), none, []⟩ :: ⟨.load 1 false (.t 11), (some 12), none, []⟩ :: L60_18
theorem v60_19 : VS L60_19.eq_1 := rfl
def L60_20 : List AStep := [⟨.mov (.c (.bool false)), (some 2), none, []⟩]
theorem v60_20 : VS L60_20.eq_1 := rfl
def L60_21 : List AStep := [⟨.mov (.t 10), (some 3), none, []⟩]
theorem v60_21 : VS L60_21.eq_1 := rfl
def L60_22 : List AStep := ⟨.mov (.t 3), (some 9), none, []⟩ :: ⟨.bin .add (.t 9) (.c (.int .i64 1)), (some 10), none, []⟩ :: L60_21
theorem v60_22 : VS L60_22.eq_1 := rfl
def L60_23 : List AStep := [⟨.mov (.t 44), (some 2), none, []⟩]
theorem v60_23 : VS L60_23.eq_1 := rfl
def L60_24 : List AStep := ⟨.len (.t 42), (some 43), none, []⟩ :: ⟨.bin .leq (.t 43) (.c (.int .i64 16)), (some 44), none, []⟩ :: L60_23
theorem v60_24 : VS L60_24.eq_1 := rfl
def L60_25 : List AStep := ⟨.faddr 0 (.t 1), (some 41), none, []⟩ :: ⟨.load 1 false (.t 41), (some 42), none, []⟩ :: L60_24
theorem v60_25 : VS L60_25.eq_1 := rfl
def C60_0 : ACode := .cond (.t 8) .skip (.exit 0)
theorem u60_0 : VC C60_0.eq_1 := rfl
def C60_1 : ACode := .seq (.reg L60_4) C60_0
theorem u60_1 : VC C60_1.eq_1 := rfl
def C60_2 : ACode := .seq (.reg L60_20) .ret
theorem u60_2 : VC C60_2.eq_1 := rfl
def C60_3 : ACode := .cond (.t 40) C60_2 .skip
theorem u60_3 : VC C60_3.eq_1 := rfl
def C60_4 : ACode := .seq (.reg L60_19) C60_3
theorem u60_4 : VC C60_4.eq_1 := rfl
def C60_5 : ACode := .block 1 C60_4
theorem u60_5 : VC C60_5.eq_1 := rfl
def C60_6 : ACode := .seq C60_5 (.reg L60_22)
theorem u60_6 : VC C60_6.eq_1 := rfl
def C60_7 : ACode := .seq C60_1 C60_6
theorem u60_7 : VC C60_7.eq_1 := rfl
def C60_8 : ACode := .block 0 (.loop C60_7)
theorem u60_8 : VC C60_8.eq_1 := rfl
def C60_9 : ACode := .seq (.reg L60_1) C60_8
theorem u60_9 : VC C60_9.eq_1 := rfl
def C60_10 : ACode := .seq (.reg L60_25) .ret
theorem u60_10 : VC C60_10.eq_1 := rfl
def C60_11 : ACode := .seq C60_9 C60_10
theorem u60_11 : VC C60_11.eq_1 := rfl
def C60_12 : ACode := .seq (.reg L60_0) C60_11
theorem u60_12 : VC C60_12.eq_1 := rfl
def F60 : AFunc := ⟨45, [.tmp 2], C60_12⟩
theorem cF60 : compB Try.prog 60 = some F60 := by kernel_rfl
attribute [local go_sem ↓] u60_0 u60_1 u60_2 u60_3 u60_4 u60_5 u60_6 u60_7 u60_8 u60_9 u60_10 u60_11 u60_12 v60_0 v60_1 v60_2 v60_3 v60_4 v60_5 v60_6 v60_7 v60_8 v60_9 v60_10 v60_11 v60_12 v60_13 v60_14 v60_15 v60_16 v60_17 v60_18 v60_19 v60_20 v60_21 v60_22 v60_23 v60_24 v60_25
theorem c_validCall (l : List Arg) (p : CV) (h : H) (hl : SlC h p l) (m : miniC l) : bm Try.prog 60 [.agg [p]] h = some (ib (okCall l), h) := by
  refine bm_eq cF60 ?_
  obtain ⟨rs, y⟩ := hl.ex
  have hn := m.len
  have yl : lenO (.one p) = some (ii l.length) := by rw [y.out.len, y.len]
  simp +contextual (maxSteps := 2000000) only [go_sem, Nat.reduceEqDiff, reduceCtorEq, Nat.reduceAdd, Nat.reduceLeDiff, F60]
  refine wpC_loop (fun i T L h' => h' = h ∧ T 1 = .lp 1 0 ∧ (L 1).2 = [p] ∧ T 3 = .v (.one (.int .i64 i)) ∧ Upto (stepC l) i) l.length ?_ ?_ (Nat.zero_le _) ?_
  · rintro i T L h' hi ⟨rfl, t1, l1, t3, hu⟩
    have hr : i < rs.length := by rw [y.len]; exact hi
    have hm := List.getElem_mem hi
    have ye := y.el i hr
    rw [getC_eq hi] at ye
    have va := c_validArg rs[i] l[i] h' ye (m.name _ hm) (m.list _ hm) (m.pairs _ hm) (m.npairs _ hm)
    have f0 := y.out.fieldO (off := 0) hr (by omega)
    rw [encC_0, ye.kind] at f0
    cases b1 : okArg l[i] with
    | false =>
      rw [b1] at va
      have bad : okCall l = false := okCall_not hi (by cases h2 : stepC l i with | false => rfl | true => rw [stepC_ok hi h2] at b1; simp at b1)
      simp +contextual (maxSteps := 2000000) only [go_sem, Nat.reduceEqDiff, reduceCtorEq, Nat.reduceAdd, Nat.reduceLeDiff, t1, l1, t3, yl, y.out.iaddr hr, y.out.whole hr, va, lt_true hi, bad]
    | true =>
      rw [b1] at va
      cases i with
      | zero =>
        have e3 := stepC_zero hi
        have e4 : decide (((0 : Nat) : Int) > 0) = false := rfl
        simp +contextual (maxSteps := 2000000) only [go_sem, Nat.reduceEqDiff, reduceCtorEq, Nat.reduceAdd, Nat.reduceLeDiff, t1, l1, t3, yl, y.out.iaddr hr, y.out.whole hr, va, lt_true hi, e4]
        exact ⟨by rw [wrap_next hi (by omega)], hu.next (by rw [e3, b1])⟩
      | succ j =>
        have e3 := stepC_succ hi
        rw [b1, Bool.true_and] at e3
        have hj : j < l.length := by omega
        have hrj : j < rs.length := by omega
        have e4 : decide (((j + 1 : Nat) : Int) > 0) = true := decide_eq_true (by omega)
        have yj := y.el j hrj
        rw [getC_eq hj] at yj
        have f1 := y.out.fieldO (off := 0) hrj (by omega)
        rw [encC_0, yj.kind] at f1
        cases b2 : decide (l[j + 1].kind < 2) with
        | false =>
          rw [b2] at e3
          simp +contextual (maxSteps := 2000000) only [go_sem, Nat.reduceEqDiff, reduceCtorEq, Nat.reduceAdd, Nat.reduceLeDiff, t1, l1, t3, yl, y.out.iaddr hr, y.out.whole hr, va, lt_true hi, e4, f0, b2]
          exact ⟨by rw [wrap_next hi (by omega)], hu.next (by rw [e3]; rfl)⟩
        | true =>
        cases b3 : decide (l[j].kind ≥ 2) with
        | false =>
          rw [b2, b3] at e3
          simp +contextual (maxSteps := 2000000) only [go_sem, Nat.reduceEqDiff, reduceCtorEq, Nat.reduceAdd, Nat.reduceLeDiff, t1, l1, t3, yl, y.out.iaddr hr, y.out.whole hr, va, lt_true hi, e4, f0, b2, wrap_pred (show j < 2 ^ 62 by omega), y.out.iaddr hrj, f1, b3]
          exact ⟨by rw [wrap_next hi (by omega)], hu.next (by rw [e3]; rfl)⟩
        | true =>
          rw [b2, b3] at e3
          have bad : okCall l = false := okCall_not hi (by rw [e3]; rfl)
          simp +contextual (maxSteps := 2000000) only [go_sem, Nat.reduceEqDiff, reduceCtorEq, Nat.reduceAdd, Nat.reduceLeDiff, t1, l1, t3, yl, y.out.iaddr hr, y.out.whole hr, va, lt_true hi, e4, f0, b2, wrap_pred (show j < 2 ^ 62 by omega), y.out.iaddr hrj, f1, b3, bad]
  · rintro T L h' ⟨rfl, t1, l1, t3, hu⟩
    simp +contextual (maxSteps := 2000000) only [go_sem, Nat.reduceEqDiff, reduceCtorEq, Nat.reduceAdd, Nat.reduceLeDiff, t1, l1, t3, yl, lt_false, okCall_of hu]
  · simp +contextual (maxSteps := 2000000) only [go_sem, Nat.reduceEqDiff, reduceCtorEq, Nat.reduceAdd, Nat.reduceLeDiff]
    (repeat' (first | refine And.intro ?_ ?_ | intro _)) <;> first | rfl | exact Upto.zero
/-! impl.ValidCall -/
def L63_0 : List AStep := [⟨.box 53 (.t 0), (some 1), none, []⟩, ⟨.mov (.c (.bool false)), (some 2), none, []⟩]
theorem v63_0 : VS L63_0.eq_1 := rfl
def L63_1 : List AStep := [⟨.mov (.c (.bool false)), (some 3), none, []⟩]
theorem v63_1 : VS L63_1.eq_1 := rfl
def L63_2 : List AStep := [⟨.len (.t 8), (some 9), none, []⟩, ⟨.mov (.c (.int .i64 0)), (some 10), none, []⟩]
theorem v63_2 : VS L63_2.eq_1 := rfl
def L63_3 : List AStep := ⟨.faddr 0 (.t 1), (some 7), none, []⟩ :: ⟨.load 1 false (.t 7), (some 8), none, []⟩ :: L63_2
theorem v63_3 : VS L63_3.eq_1 := rfl
def L63_4 : List AStep := [⟨.bin .lss (.t 10) (.t 9), (some 11), none, []⟩]
theorem v63_4 : VS L63_4.eq_1 := rfl
def L63_5 : List AStep := [⟨.alloc 104 [(.int .i64 0), (.str (strOfNums [])), (.sl none 0 (some 0)), (.sl none 0 (some 0))], (some 5), none, []⟩, ⟨.store 4 (.t 5) (.t 13), none, none, []⟩]
theorem v63_5 : VS L63_5.eq_1 := rfl
def L63_6 : List AStep := ⟨.iaddr 4 (.t 8) (.t 10), (some 12), none, []⟩ :: ⟨.load 4 true (.t 12), (some 13), none, []⟩ :: L63_5
theorem v63_6 : VS L63_6.eq_1 := rfl
def L63_7 : List AStep := [⟨.mov (.t 21), (some 6), none, []⟩]
theorem v63_7 : VS L63_7.eq_1 := rfl
def L63_8 : List AStep := ⟨.bin .eql (.t 19) (.c (.int .i64 3)), (some 20), (some (17, false)), []⟩ :: ⟨.pick (.t 17) (.c (.bool true)) (.t 20), (some 21), none, []⟩ :: L63_7
theorem v63_8 : VS L63_8.eq_1 := rfl
def L63_9 : List AStep := ⟨.faddr 0 (.t 5), (some 18), (some (17, false)), []⟩ :: ⟨.load 1 false (.t 18), (some 19), (some (17, false)), []⟩ :: L63_8
theorem v63_9 : VS L63_9.eq_1 := rfl
def L63_10 : List AStep := ⟨.bin .eql (.t 15) (.c (.int .i64 2)), (some 16), none, []⟩ :: ⟨.mov (.t 16), (some 17), none, []⟩ :: L63_9
theorem v63_10 : VS L63_10.eq_1 := rfl
def L63_11 : List AStep := ⟨.faddr 0 (.t 5), (some 14), none, []⟩ :: ⟨.load 1 false (.t 14), (some 15), none, []⟩ :: L63_10
theorem v63_11 : VS L63_11.eq_1 := rfl
def L63_12 : List AStep := [⟨.pick (.t 27) (.t 29) (.c (.bool false)), (some 30), (some (25, false)), []⟩, ⟨.pick (.t 25) (.c (.bool true)) (.t 30), (some 31), none, []⟩]
theorem v63_12 : VS L63_12.eq_1 := rfl
def L63_13 : List AStep := ⟨.mov (.t 6), (some 28), (some (27, true)), []⟩ :: ⟨.not (.t 28), (some 29), (some (27, true)), []⟩ :: L63_12
theorem v63_13 : VS L63_13.eq_1 := rfl
def L63_14 : List AStep := ⟨.mov (.t 3), (some 26), (some (25, false)), []⟩ :: ⟨.mov (.t 26), (some 27), (some (25, false)), []⟩ :: L63_13
theorem v63_14 : VS L63_14.eq_1 := rfl
def L63_15 : List AStep := ⟨.not (.t 23), (some 24), none, []⟩ :: ⟨.mov (.t 24), (some 25), none, []⟩ :: L63_14
theorem v63_15 : VS L63_15.eq_1 := rfl
def L63_16 : List AStep := ⟨.load 4 true (.t 5), (some 22), none, []⟩ :: ⟨.call 109 [(.t 22)], (some 23), none, []⟩ :: L63_15
theorem v63_16 : VS L63_16.eq_1 := rfl
def L63_17 : List AStep := [⟨.mov (.c (.bool false)), (some 2), none, []⟩]
theorem v63_17 : VS L63_17.eq_1 := rfl
def L63_18 : List AStep := [⟨.mov (.t 6), (some 32), none, []⟩, ⟨.mov (.t 32), (some 3), none, []⟩]
theorem v63_18 : VS L63_18.eq_1 := rfl
def L63_19 : List AStep := [⟨.bin .add (.t 10) (.c (.int .i64 1)), (some 33), none, []⟩, ⟨.mov (.t 33), (some 10), none, []⟩]
theorem v63_19 : VS L63_19.eq_1 := rfl
def L63_20 : List AStep := [⟨.mov (.t 37), (some 2), none, []⟩]
theorem v63_20 : VS L63_20.eq_1 := rfl
def L63_21 : List AStep := ⟨.len (.t 35), (some 36), none, []⟩ :: ⟨.bin .leq (.t 36) (.c (.int .i64 16)), (some 37), none, []⟩ :: L63_20
theorem v63_21 : VS L63_21.eq_1 := rfl
def L63_22 : List AStep := ⟨.faddr 0 (.t 1), (some 34), none, []⟩ :: ⟨.load 1 false (.t 34), (some 35), none, []⟩ :: L63_21
theorem v63_22 : VS L63_22.eq_1 := rfl
def C63_0 : ACode := .cond (.t 11) .skip (.exit 0)
theorem u63_0 : VC C63_0.eq_1 := rfl
def C63_1 : ACode := .seq (.reg L63_17) .ret
theorem u63_1 : VC C63_1.eq_1 := rfl
def C63_2 : ACode := .cond (.t 31) C63_1 .skip
theorem u63_2 : VC C63_2.eq_1 := rfl
def C63_3 : ACode := .seq (.reg L63_16) C63_2
theorem u63_3 : VC C63_3.eq_1 := rfl
def C63_4 : ACode := .seq C63_3 (.reg L63_18)
theorem u63_4 : VC C63_4.eq_1 := rfl
def C63_5 : ACode := .seq (.reg L63_11) C63_4
theorem u63_5 : VC C63_5.eq_1 := rfl
def C63_6 : ACode := .seq (.reg L63_6) C63_5
theorem u63_6 : VC C63_6.eq_1 := rfl
def C63_7 : ACode := .block 1 C63_6
theorem u63_7 : VC C63_7.eq_1 := rfl
def C63_8 : ACode := .seq C63_7 (.reg L63_19)
theorem u63_8 : VC C63_8.eq_1 := rfl
def C63_9 : ACode := .seq C63_0 C63_8
theorem u63_9 : VC C63_9.eq_1 := rfl
def C63_10 : ACode := .seq (.reg L63_4) C63_9
theorem u63_10 : VC C63_10.eq_1 := rfl
def C63_11 : ACode := .block 0 (.loop C63_10)
theorem u63_11 : VC C63_11.eq_1 := rfl
def C63_12 : ACode := .seq (.reg L63_3) C63_11
theorem u63_12 : VC C63_12.eq_1 := rfl
def C63_13 : ACode := .seq (.reg L63_22) .ret
theorem u63_13 : VC C63_13.eq_1 := rfl
def C63_14 : ACode := .seq C63_12 C63_13
theorem u63_14 : VC C63_14.eq_1 := rfl
def C63_15 : ACode := .seq (.reg L63_1) C63_14
theorem u63_15 : VC C63_15.eq_1 := rfl
def C63_16 : ACode := .seq (.reg L63_0) C63_15
theorem u63_16 : VC C63_16.eq_1 := rfl
def F63 : AFunc := ⟨38, [.tmp 2], C63_16⟩
theorem cF63 : compB Try.prog 63 = some F63 := by kernel_rfl
attribute [local go_sem ↓] u63_0 u63_1 u63_2 u63_3 u63_4 u63_5 u63_6 u63_7 u63_8 u63_9 u63_10 u63_11 u63_12 u63_13 u63_14 u63_15 u63_16 v63_0 v63_1 v63_2 v63_3 v63_4 v63_5 v63_6 v63_7 v63_8 v63_9 v63_10 v63_11 v63_12 v63_13 v63_14 v63_15 v63_16 v63_17 v63_18 v63_19 v63_20 v63_21 v63_22
theorem c_ValidCall (l : List Arg) (p : CV) (h : H) (hl : SlC h p l) (m : miniC l) : bm Try.prog 63 [.agg [p]] h = some (ib (okCall l), h) := by
  refine bm_eq cF63 ?_
  obtain ⟨rs, y⟩ := hl.ex
  have hn := m.len
  have yl : lenO (.one p) = some (ii l.length) := by rw [y.out.len, y.len]
  simp +contextual (maxSteps := 2000000) only [go_sem, Nat.reduceEqDiff, reduceCtorEq, Nat.reduceAdd, Nat.reduceLeDiff, F63, yl]
  refine wpC_loop (fun i T L h' => h' = h ∧ T 1 = .lp 1 0 ∧ (L 1).2 = [p] ∧ T 3 = .v (.one (.bool (namedAt l i))) ∧ T 8 = .v (.one p) ∧ T 9 = .v (.one (.int .i64 l.length)) ∧ T 10 = .v (.one (.int .i64 i)) ∧ Upto (stepC l) i) l.length ?_ ?_ (Nat.zero_le _) ?_
  · rintro i T L h' hi ⟨rfl, t1, l1, t3, t8, t9, t10, hu⟩
    have hr : i < rs.length := by rw [y.len]; exact hi
    have hm := List.getElem_mem hi
    have ye := y.el i hr
    rw [getC_eq hi] at ye
    have va := c_argValid rs[i] l[i] h' ye (m.name _ hm) (m.list _ hm) (m.pairs _ hm) (m.npairs _ hm)
    simp only [encC] at va
    have ek := ye.kind
    have e5 := namedAt_succ hi
    cases b1 : okArg l[i] with
    | false =>
      rw [b1] at va
      have bad : okCall l = false := okCall_not hi (by cases h2 : stepC l i with | false => rfl | true => rw [stepC_ok hi h2] at b1; simp at b1)
      cases b2 : decide (rs[i].kind = 2) with
      | true => simp +contextual (maxSteps := 2000000) only [go_sem, Nat.reduceEqDiff, reduceCtorEq, Nat.reduceAdd, Nat.reduceLeDiff, t1, l1, t3, t8, t9, t10, y.out.iaddr hr, y.out.whole hr, encC, va, lt_true hi, bad, b2]
      | false => simp +contextual (maxSteps := 2000000) only [go_sem, Nat.reduceEqDiff, reduceCtorEq, Nat.reduceAdd, Nat.reduceLeDiff, t1, l1, t3, t8, t9, t10, y.out.iaddr hr, y.out.whole hr, encC, va, lt_true hi, bad, b2]
    | true =>
      rw [b1] at va
      have e3 := stepC_named hi hu b1
      rw [← ek] at e3 e5
      cases b2 : decide (rs[i].kind = 2) with
      | true =>
        rw [b2, Bool.true_or] at e3 e5
        cases b4 : namedAt l i with
        | false =>
          rw [b4] at t3
          simp +contextual (maxSteps := 2000000) only [go_sem, Nat.reduceEqDiff, reduceCtorEq, Nat.reduceAdd, Nat.reduceLeDiff, t1, l1, t3, t8, t9, t10, y.out.iaddr hr, y.out.whole hr, encC, va, lt_true hi, b2]
          exact ⟨by rw [e5], by rw [wrap_next hi (by omega)], hu.next (by rw [e3, b4]; rfl)⟩
        | true =>
          rw [b4] at t3
          simp +contextual (maxSteps := 2000000) only [go_sem, Nat.reduceEqDiff, reduceCtorEq, Nat.reduceAdd, Nat.reduceLeDiff, t1, l1, t3, t8, t9, t10, y.out.iaddr hr, y.out.whole hr, encC, va, lt_true hi, b2]
          exact ⟨by rw [e5], by rw [wrap_next hi (by omega)], hu.next (by rw [e3, b4]; rfl)⟩
      | false =>
      rw [b2, Bool.false_or] at e3 e5
      cases b3 : decide (rs[i].kind = 3) with
      | true =>
        rw [b3] at e3 e5
        cases b4 : namedAt l i with
        | false =>
          rw [b4] at t3
          simp +contextual (maxSteps := 2000000) only [go_sem, Nat.reduceEqDiff, reduceCtorEq, Nat.reduceAdd, Nat.reduceLeDiff, t1, l1, t3, t8, t9, t10, y.out.iaddr hr, y.out.whole hr, encC, va, lt_true hi, b2, b3]
          exact ⟨by rw [e5], by rw [wrap_next hi (by omega)], hu.next (by rw [e3, b4]; rfl)⟩
        | true =>
          rw [b4] at t3
          simp +contextual (maxSteps := 2000000) only [go_sem, Nat.reduceEqDiff, reduceCtorEq, Nat.reduceAdd, Nat.reduceLeDiff, t1, l1, t3, t8, t9, t10, y.out.iaddr hr, y.out.whole hr, encC, va, lt_true hi, b2, b3]
          exact ⟨by rw [e5], by rw [wrap_next hi (by omega)], hu.next (by rw [e3, b4]; rfl)⟩
      | false =>
        rw [b3] at e3 e5
        cases b4 : namedAt l i with
        | false =>
          rw [b4] at t3
          simp +contextual (maxSteps := 2000000) only [go_sem, Nat.reduceEqDiff, reduceCtorEq, Nat.reduceAdd, Nat.reduceLeDiff, t1, l1, t3, t8, t9, t10, y.out.iaddr hr, y.out.whole hr, encC, va, lt_true hi, b2, b3]
          exact ⟨by rw [e5], by rw [wrap_next hi (by omega)], hu.next (by rw [e3, b4]; rfl)⟩
        | true =>
          rw [b4] at t3
          have bad : okCall l = false := okCall_not hi (by rw [e3, b4]; rfl)
          simp +contextual (maxSteps := 2000000) only [go_sem, Nat.reduceEqDiff, reduceCtorEq, Nat.reduceAdd, Nat.reduceLeDiff, t1, l1, t3, t8, t9, t10, y.out.iaddr hr, y.out.whole hr, encC, va, lt_true hi, b2, b3, bad]
  · rintro T L h' ⟨rfl, t1, l1, t3, t8, t9, t10, hu⟩
    simp +contextual (maxSteps := 2000000) only [go_sem, Nat.reduceEqDiff, reduceCtorEq, Nat.reduceAdd, Nat.reduceLeDiff, t1, l1, t3, t8, t9, t10, yl, lt_false, okCall_of hu]
  · simp +contextual (maxSteps := 2000000) only [go_sem, Nat.reduceEqDiff, reduceCtorEq, Nat.reduceAdd, Nat.reduceLeDiff]
    (repeat' (first | refine And.intro ?_ ?_ | intro _)) <;> first | rfl | exact Upto.zero
/-! spec.flatten -/
def L61_0 : List AStep := [⟨.mov (.c (.bool false)), (some 3), none, []⟩]
theorem v61_0 : VS L61_0.eq_1 := rfl
def L61_1 : List AStep := ⟨.box 53 (.t 0), (some 1), none, []⟩ :: ⟨.alloc 33 [(.sl none 0 (some 0)), (.sl none 0 (some 0))], (some 2), none, []⟩ :: L61_0
theorem v61_1 : VS L61_1.eq_1 := rfl
def L61_2 : List AStep := [⟨.store 2 (.t 4) (.t 9), none, none, []⟩]
theorem v61_2 : VS L61_2.eq_1 := rfl
def L61_3 : List AStep := ⟨.build [(.sl none 0 (some 0)), (.sl none 0 (some 0))] [(0, 1, (.t 7)), (1, 1, (.t 8))], (some 9), none, []⟩ :: ⟨.alloc 33 [(.sl none 0 (some 0)), (.sl none 0 (some 0))], (some 4), none, []⟩ :: L61_2
theorem v61_3 : VS L61_3.eq_1 := rfl
def L61_4 : List AStep := ⟨.buildSlice 3 0 [(.int .i64 0)] [], (some 7), none, []⟩ :: ⟨.buildSlice 106 0 [(.str (strOfNums [])), (.int .i64 0)] [], (some 8), none, []⟩ :: L61_3
theorem v61_4 : VS L61_4.eq_1 := rfl
def L61_5 : List AStep := [⟨.mov (.c (.int .i64 0)), (some 5), none, []⟩]
theorem v61_5 : VS L61_5.eq_1 := rfl
def L61_6 : List AStep := [⟨.bin .lss (.t 10) (.t 13), (some 14), none, []⟩]
theorem v61_6 : VS L61_6.eq_1 := rfl
def L61_7 : List AStep := ⟨.load 1 false (.t 11), (some 12), none, []⟩ :: ⟨.len (.t 12), (some 13), none, []⟩ :: L61_6
theorem v61_7 : VS L61_7.eq_1 := rfl
def L61_8 : List AStep := ⟨.mov (.t 5), (some 10), none, []⟩ :: ⟨.faddr 0 (.t 1), (some 11), none, []⟩ :: L61_7
theorem v61_8 : VS L61_8.eq_1 := rfl
def L61_9 : List AStep := [⟨.store 4 (.t 6) (.t 21), none, none, []⟩]
theorem v61_9 : VS L61_9.eq_1 := rfl
def L61_10 : List AStep := ⟨.load 4 true (.t 20), (some 21), none, []⟩ :: ⟨.alloc 104 [(.int .i64 0), (.str (strOfNums [])), (.sl none 0 (some 0)), (.sl none 0 (some 0))], (some 6), none, []⟩ :: L61_9
theorem v61_10 : VS L61_10.eq_1 := rfl
def L61_11 : List AStep := ⟨.mov (.t 5), (some 19), none, []⟩ :: ⟨.iaddr 4 (.t 18) (.t 19), (some 20), none, []⟩ :: L61_10
theorem v61_11 : VS L61_11.eq_1 := rfl
def L61_12 : List AStep := ⟨.faddr 0 (.t 1), (some 17), none, []⟩ :: ⟨.load 1 false (.t 17), (some 18), none, []⟩ :: L61_11
theorem v61_12 : VS L61_12.eq_1 := rfl
def L61_13 : List AStep := [⟨.faddr 0 (.t 6), (some 22), none, []⟩, ⟨.load 1 false (.t 22), (some 23), none, []⟩]
theorem v61_13 : VS L61_13.eq_1 := rfl
def L61_14 : List AStep := [⟨.bin .eql (.t 23) (.c (.int .i64 2)), (some 31), none, []⟩, ⟨.mov (.t 31), (some 30), none, []⟩]
theorem v61_14 : VS L61_14.eq_1 := rfl
def L61_15 : List AStep := [⟨.store 1 (.t 43) (.t 42), none, none, []⟩]
theorem v61_15 : VS L61_15.eq_1 := rfl
def L61_16 : List AStep := ⟨.append 106 2 24 (.t 33) (.t 41), (some 42), none, []⟩ :: ⟨.faddr 1 (.t 4), (some 43), none, []⟩ :: L61_15
theorem v61_16 : VS L61_16.eq_1 := rfl
def L61_17 : List AStep := ⟨.build [(.str (strOfNums [])), (.int .i64 0)] [(0, 1, (.t 35)), (1, 1, (.t 39))], (some 40), none, []⟩ :: ⟨.buildSlice 106 1 [(.str (strOfNums [])), (.int .i64 0)] [(0, 2, (.t 40))], (some 41), none, []⟩ :: L61_16
theorem v61_17 : VS L61_17.eq_1 := rfl
def L61_18 : List AStep := ⟨.iaddr 1 (.t 37) (.c (.int .i64 0)), (some 38), none, []⟩ :: ⟨.load 1 false (.t 38), (some 39), none, []⟩ :: L61_17
theorem v61_18 : VS L61_18.eq_1 := rfl
def L61_19 : List AStep := ⟨.faddr 2 (.t 6), (some 36), none, []⟩ :: ⟨.load 1 false (.t 36), (some 37), none, []⟩ :: L61_18
theorem v61_19 : VS L61_19.eq_1 := rfl
def L61_20 : List AStep := ⟨.faddr 1 (.t 6), (some 34), none, []⟩ :: ⟨.load 1 false (.t 34), (some 35), none, []⟩ :: L61_19
theorem v61_20 : VS L61_20.eq_1 := rfl
def L61_21 : List AStep := ⟨.faddr 1 (.t 4), (some 32), none, []⟩ :: ⟨.load 1 false (.t 32), (some 33), none, []⟩ :: L61_20
theorem v61_21 : VS L61_21.eq_1 := rfl
def L61_22 : List AStep := [⟨.bin .eql (.t 23) (.c (.int .i64 3)), (some 45), none, []⟩, ⟨.mov (.t 45), (some 44), none, []⟩]
theorem v61_22 : VS L61_22.eq_1 := rfl
def L61_23 : List AStep := [⟨.store 1 (.t 51) (.t 50), none, none, []⟩]
theorem v61_23 : VS L61_23.eq_1 := rfl
def L61_24 : List AStep := ⟨.append 106 2 24 (.t 47) (.t 49), (some 50), none, []⟩ :: ⟨.faddr 1 (.t 4), (some 51), none, []⟩ :: L61_23
theorem v61_24 : VS L61_24.eq_1 := rfl
def L61_25 : List AStep := ⟨.faddr 3 (.t 6), (some 48), none, []⟩ :: ⟨.load 1 false (.t 48), (some 49), none, []⟩ :: L61_24
theorem v61_25 : VS L61_25.eq_1 := rfl
def L61_26 : List AStep := ⟨.faddr 1 (.t 4), (some 46), none, []⟩ :: ⟨.load 1 false (.t 46), (some 47), none, []⟩ :: L61_25
theorem v61_26 : VS L61_26.eq_1 := rfl
def L61_27 : List AStep := [⟨.store 1 (.t 29) (.t 28), none, none, []⟩]
theorem v61_27 : VS L61_27.eq_1 := rfl
def L61_28 : List AStep := ⟨.append 3 1 8 (.t 25) (.t 27), (some 28), none, []⟩ :: ⟨.faddr 0 (.t 4), (some 29), none, []⟩ :: L61_27
theorem v61_28 : VS L61_28.eq_1 := rfl
def L61_29 : List AStep := ⟨.faddr 2 (.t 6), (some 26), none, []⟩ :: ⟨.load 1 false (.t 26), (some 27), none, []⟩ :: L61_28
theorem v61_29 : VS L61_29.eq_1 := rfl
def L61_30 : List AStep := ⟨.faddr 0 (.t 4), (some 24), none, []⟩ :: ⟨.load 1 false (.t 24), (some 25), none, []⟩ :: L61_29
theorem v61_30 : VS L61_30.eq_1 := rfl
def L61_31 : List AStep := [⟨.mov (.t 16), (some 5), none, []⟩]
theorem v61_31 : VS L61_31.eq_1 := rfl
def L61_32 : List AStep := ⟨.mov (.t 5), (some 15), none, []⟩ :: ⟨.bin .add (.t 15) (.c (.int .i64 1)), (some 16), none, []⟩ :: L61_31
theorem v61_32 : VS L61_32.eq_1 := rfl
def L61_33 : List AStep := [⟨.mov (.t 54), (some 3), none, []⟩]
theorem v61_33 : VS L61_33.eq_1 := rfl
def L61_34 : List AStep := ⟨.call 41 [(.t 53)], (some 54), none, [(.load 2 true (.t 4), (some 52), none)]⟩ :: ⟨.store 2 (.t 2) (.t 52), none, none, []⟩ :: L61_33
theorem v61_34 : VS L61_34.eq_1 := rfl
def L61_35 : List AStep := ⟨.load 2 true (.t 4), (some 52), none, []⟩ :: ⟨.load 2 true (.t 4), (some 53), none, []⟩ :: L61_34
theorem v61_35 : VS L61_35.eq_1 := rfl
def C61_0 : ACode := .cond (.t 14) .skip (.exit 0)
theorem u61_0 : VC C61_0.eq_1 := rfl
def C61_1 : ACode := .seq (.reg L61_8) C61_0
theorem u61_1 : VC C61_1.eq_1 := rfl
def C61_2 : ACode := .cond (.t 44) (.reg L61_26) (.reg L61_30)
theorem u61_2 : VC C61_2.eq_1 := rfl
def C61_3 : ACode := .seq (.reg L61_22) C61_2
theorem u61_3 : VC C61_3.eq_1 := rfl
def C61_4 : ACode := .cond (.t 30) (.reg L61_21) C61_3
theorem u61_4 : VC C61_4.eq_1 := rfl
def C61_5 : ACode := .seq (.reg L61_14) C61_4
theorem u61_5 : VC C61_5.eq_1 := rfl
def C61_6 : ACode := .block 2 C61_5
theorem u61_6 : VC C61_6.eq_1 := rfl
def C61_7 : ACode := .seq (.reg L61_13) C61_6
theorem u61_7 : VC C61_7.eq_1 := rfl
def C61_8 : ACode := .seq (.reg L61_12) C61_7
theorem u61_8 : VC C61_8.eq_1 := rfl
def C61_9 : ACode := .block 1 C61_8
theorem u61_9 : VC C61_9.eq_1 := rfl
def C61_10 : ACode := .seq C61_9 (.reg L61_32)
theorem u61_10 : VC C61_10.eq_1 := rfl
def C61_11 : ACode := .seq C61_1 C61_10
theorem u61_11 : VC C61_11.eq_1 := rfl
def C61_12 : ACode := .block 0 (.loop C61_11)
theorem u61_12 : VC C61_12.eq_1 := rfl
def C61_13 : ACode := .seq (.reg L61_5) C61_12
theorem u61_13 : VC C61_13.eq_1 := rfl
def C61_14 : ACode := .seq (.reg L61_35) .ret
theorem u61_14 : VC C61_14.eq_1 := rfl
def C61_15 : ACode := .seq C61_13 C61_14
theorem u61_15 : VC C61_15.eq_1 := rfl
def C61_16 : ACode := .seq (.reg L61_4) C61_15
theorem u61_16 : VC C61_16.eq_1 := rfl
def C61_17 : ACode := .seq (.reg L61_1) C61_16
theorem u61_17 : VC C61_17.eq_1 := rfl
def F61 : AFunc := ⟨55, [.cell 2 2 true, .tmp 3], C61_17⟩
theorem cF61 : compB Try.prog 61 = some F61 := by kernel_rfl
attribute [local go_sem ↓] u61_0 u61_1 u61_2 u61_3 u61_4 u61_5 u61_6 u61_7 u61_8 u61_9 u61_10 u61_11 u61_12 u61_13 u61_14 u61_15 u61_16 u61_17 v61_0 v61_1 v61_2 v61_3 v61_4 v61_5 v61_6 v61_7 v61_8 v61_9 v61_10 v61_11 v61_12 v61_13 v61_14 v61_15 v61_16 v61_17 v61_18 v61_19 v61_20 v61_21 v61_22 v61_23 v61_24 v61_25 v61_26 v61_27 v61_28 v61_29 v61_30 v61_31 v61_32 v61_33 v61_34 v61_35
theorem c_flatten (l : List Arg) (p : CV) (h : H) (hl : SlC h p l) (m : miniC l) (ok : okCall l = true) : callK (bm Try.prog 61 [.agg [p]] h) fun r h' => Grow h h' ∧ ∃ p' n', r = .tup [.agg [p', n'], .one (.bool (okFlat (flatC l)))] ∧ NwF h h' p' n' (flatC l) := by
  refine bm_of cF61 ?_
  obtain ⟨rs, y0⟩ := hl.ex
  have hn := (okCall_at ok).1
  have yl : lenO (.one p) = some (ii l.length) := by rw [y0.out.len, y0.len]
  simp +contextual (maxSteps := 2000000) only [go_sem, Nat.reduceEqDiff, reduceCtorEq, Nat.reduceAdd, Nat.reduceLeDiff, F61]
  refine wp_lit (enc := encI) (k := 1) (l := []) rfl rfl ?_
  intro h1 w1 g1 n1 _
  obtain ⟨c, rfl⟩ := n1.one
  simp +contextual (maxSteps := 2000000) only [go_sem, Nat.reduceEqDiff, reduceCtorEq, Nat.reduceAdd, Nat.reduceLeDiff]
  refine wp_lit (enc := encP) (k := 2) (l := []) rfl rfl ?_
  intro h2 w2 g2 n2 _
  obtain ⟨d, rfl⟩ := n2.one
  have z0 : NwF h h2 c d (flatT l 0) := by rw [flatT_zero]; exact ⟨n1.grow g2, n2.from g1.n, n1.apart n2⟩
  have gz := g1.trans g2
  simp +contextual (maxSteps := 2000000) only [go_sem, Nat.reduceEqDiff, reduceCtorEq, Nat.reduceAdd, Nat.reduceLeDiff]
  refine wpC_loop (fun i T L h' => Grow h h' ∧ T 1 = .lp 1 0 ∧ (L 1).2 = [p] ∧ T 2 = .lp 2 0 ∧ (L 2).2 = [.sl none 0 (some 0), .sl none 0 (some 0)] ∧ T 4 = .lp 4 0 ∧ (∃ c d, (L 4).2 = [c, d] ∧ NwF h h' c d (flatT l i)) ∧ T 5 = .v (.one (.int .i64 i))) l.length ?_ ?_ (Nat.zero_le _) ?_
  · rintro i T L h' hi ⟨g, t1, l1, t2, l2, t4, ⟨c, d, l4, x⟩, tx⟩
    have y := y0.grow g
    have hr : i < rs.length := by rw [y.len]; exact hi
    have ye := y.el i hr
    rw [getC_eq hi] at ye
    have ek := ye.kind
    have en := ye.name
    have oa := (okCall_at ok).2 i hi
    have kd := okArg_kind oa
    obtain ⟨m1, m2, m3, m4⟩ := okArg_sm oa
    have fo := FOk.flatT ok (i := i) (by omega)
    have a1 := fo.pl
    have a2 := fo.nl
    rw [flatT_next hi]
    have nx : IntKind.i64.wrap ((i : Int) + 1) = ((i + 1 : Nat) : Int) := wrap_next hi (by omega)
    by_cases k2 : l[i].kind = 2
    · have e1 : plOf l[i] = [] := if_pos (.inl k2)
      have e2 : nlOf l[i] = [⟨l[i].name, l[i].list.headD 0⟩] := if_pos k2
      rw [e1, e2, List.append_nil]
      have hz : 0 < l[i].list.length := by have := (m3 k2).1; omega
      have li : iaddrO 1 (.one rs[i].lv) (.one (.int .i64 0)) = some (.one (.ptr (some (elem 1 (.one rs[i].lv) 0)))) := ye.list.iaddr hz
      have lo : loadO 1 false h' (.one (.ptr (some (elem 1 (.one rs[i].lv) 0)))) = some (.one (.int .i64 (l[i].list.headD 0))) := by
        rw [ye.list.oneO hz, encI_0, headC (m3 k2).1 hz]
        rfl
      have d0 : decide (l[i].kind = 0) = false := decide_eq_false (by omega)
      have d1 : decide (l[i].kind = 1) = false := decide_eq_false (by omega)
      simp +contextual (maxSteps := 2000000) only [go_sem, Nat.reduceEqDiff, reduceCtorEq, Nat.reduceAdd, Nat.reduceLeDiff, t1, l1, t2, l2, t4, l4, tx, yl, y.out.iaddr hr, y.out.whole hr, encC, ek, en, lt_true hi, d0, d1, decide_eq_true k2, li, lo]
      refine wp_lit (enc := encP) (k := 2) (l := [⟨l[i].name, l[i].list.headD 0⟩]) rfl rfl ?_
      intro h3 w3 g3 n3 _
      simp +contextual (maxSteps := 2000000) only [go_sem, Nat.reduceEqDiff, reduceCtorEq, Nat.reduceAdd, Nat.reduceLeDiff, t1, l1, t2, l2, t4, l4, tx]
      refine wp_append lenP (x.nl.grow g3) (n3.sl lenP) (g.trans g3) (by simp; omega) ?_
      intro h4 s4 g4 n4 st4 hb4
      obtain ⟨d4, rfl⟩ := n4.one
      have x4 := (x.grow g3).appNl n4 st4 hb4
      simp +contextual (maxSteps := 2000000) only [go_sem, Nat.reduceEqDiff, reduceCtorEq, Nat.reduceAdd, Nat.reduceLeDiff, t1, l1, t2, l2, t4, l4, tx]
      exact ⟨g4, ⟨c, d4, rfl, x4⟩, by rw [nx]⟩
    by_cases k3 : l[i].kind = 3
    · have e1 : plOf l[i] = [] := if_pos (.inr k3)
      have e2 : nlOf l[i] = l[i].pairs := (if_neg k2).trans (if_pos k3)
      rw [e1, e2, List.append_nil]
      have d0 : decide (l[i].kind = 0) = false := decide_eq_false (by omega)
      have d1 : decide (l[i].kind = 1) = false := decide_eq_false (by omega)
      simp +contextual (maxSteps := 2000000) only [go_sem, Nat.reduceEqDiff, reduceCtorEq, Nat.reduceAdd, Nat.reduceLeDiff, t1, l1, t2, l2, t4, l4, tx, yl, y.out.iaddr hr, y.out.whole hr, encC, ek, en, lt_true hi, d0, d1, decide_eq_false k2, decide_eq_true k3]
      refine wp_append lenP x.nl ye.pairs g (by omega) ?_
      intro h4 s4 g4 n4 st4 hb4
      obtain ⟨d4, rfl⟩ := n4.one
      have x4 := x.appNl n4 st4 hb4
      simp +contextual (maxSteps := 2000000) only [go_sem, Nat.reduceEqDiff, reduceCtorEq, Nat.reduceAdd, Nat.reduceLeDiff, t1, l1, t2, l2, t4, l4, tx]
      exact ⟨g4, ⟨c, d4, rfl, x4⟩, by rw [nx]⟩
    have e1 : plOf l[i] = l[i].list := if_neg (by omega)
    have e2 : nlOf l[i] = [] := (if_neg k2).trans (if_neg k3)
    rw [e1, e2, List.append_nil]
    by_cases k0 : l[i].kind = 0
    · simp +contextual (maxSteps := 2000000) only [go_sem, Nat.reduceEqDiff, reduceCtorEq, Nat.reduceAdd, Nat.reduceLeDiff, t1, l1, t2, l2, t4, l4, tx, yl, y.out.iaddr hr, y.out.whole hr, encC, ek, en, lt_true hi, decide_eq_true k0, decide_eq_false k2, decide_eq_false k3]
      refine wp_append lenI x.pl ye.list g (by omega) ?_
      intro h4 s4 g4 n4 st4 hb4
      obtain ⟨c4, rfl⟩ := n4.one
      have x4 := x.appPl n4 st4 hb4
      simp +contextual (maxSteps := 2000000) only [go_sem, Nat.reduceEqDiff, reduceCtorEq, Nat.reduceAdd, Nat.reduceLeDiff, t1, l1, t2, l2, t4, l4, tx]
      exact ⟨g4, ⟨c4, d, rfl, x4⟩, by rw [nx]⟩
    · have k1 : l[i].kind = 1 := by omega
      simp +contextual (maxSteps := 2000000) only [go_sem, Nat.reduceEqDiff, reduceCtorEq, Nat.reduceAdd, Nat.reduceLeDiff, t1, l1, t2, l2, t4, l4, tx, yl, y.out.iaddr hr, y.out.whole hr, encC, ek, en, lt_true hi, decide_eq_false k0, decide_eq_true k1, decide_eq_false k2, decide_eq_false k3]
      refine wp_append lenI x.pl ye.list g (by omega) ?_
      intro h4 s4 g4 n4 st4 hb4
      obtain ⟨c4, rfl⟩ := n4.one
      have x4 := x.appPl n4 st4 hb4
      simp +contextual (maxSteps := 2000000) only [go_sem, Nat.reduceEqDiff, reduceCtorEq, Nat.reduceAdd, Nat.reduceLeDiff, t1, l1, t2, l2, t4, l4, tx]
      exact ⟨g4, ⟨c4, d, rfl, x4⟩, by rw [nx]⟩
  · rintro T L h' ⟨g, t1, l1, t2, l2, t4, ⟨c, d, l4, x⟩, tx⟩
    rw [flatT_all] at x
    have fo := FOk.flatT ok (i := l.length) (Nat.le_refl _)
    rw [flatT_all] at fo
    have sm : smF (flatC l) := ⟨by have := fo.pl; unfold big; omega, by have := fo.nl; unfold big; omega, fun x hx => by have := fo.nm x hx; unfold big; omega⟩
    simp +contextual (maxSteps := 2000000) only [go_sem, Nat.reduceEqDiff, reduceCtorEq, Nat.reduceAdd, Nat.reduceLeDiff, t1, l1, t2, l2, t4, l4, tx, yl, lt_false, c_validFlat _ _ _ _ x.sl.pl x.sl.nl sm]
    exact gcK_of ⟨g, _, _, rfl, x⟩ (fun hs _ => ⟨Grow.refl h, _, _, rfl, x.scalar (by simpa [AV.scalar, AV.scalars, CV.scalar] using hs) h⟩)
  · simp +contextual (maxSteps := 2000000) only [go_sem, Nat.reduceEqDiff, reduceCtorEq, Nat.reduceAdd, Nat.reduceLeDiff]
    exact ⟨gz, ⟨_, _, rfl, z0⟩, rfl⟩
/-! impl.FlattenCall -/
def L22_0 : List AStep := [⟨.mov (.c (.bool false)), (some 3), none, []⟩]
theorem v22_0 : VS L22_0.eq_1 := rfl
def L22_1 : List AStep := ⟨.box 53 (.t 0), (some 1), none, []⟩ :: ⟨.alloc 33 [(.sl none 0 (some 0)), (.sl none 0 (some 0))], (some 2), none, []⟩ :: L22_0
theorem v22_1 : VS L22_1.eq_1 := rfl
def L22_2 : List AStep := [⟨.not (.t 8), (some 9), none, []⟩]
theorem v22_2 : VS L22_2.eq_1 := rfl
def L22_3 : List AStep := ⟨.load 1 true (.t 1), (some 7), none, []⟩ :: ⟨.call 63 [(.t 7)], (some 8), none, []⟩ :: L22_2
theorem v22_3 : VS L22_3.eq_1 := rfl
def L22_4 : List AStep := [⟨.mov (.c (.bool false)), (some 3), none, []⟩]
theorem v22_4 : VS L22_4.eq_1 := rfl
def L22_5 : List AStep := ⟨.build [(.sl none 0 (some 0)), (.sl none 0 (some 0))] [], (some 10), none, []⟩ :: ⟨.store 2 (.t 2) (.t 10), none, none, []⟩ :: L22_4
theorem v22_5 : VS L22_5.eq_1 := rfl
def L22_6 : List AStep := [⟨.alloc 33 [(.sl none 0 (some 0)), (.sl none 0 (some 0))], (some 4), none, []⟩]
theorem v22_6 : VS L22_6.eq_1 := rfl
def L22_7 : List AStep := [⟨.len (.t 12), (some 13), none, []⟩, ⟨.mov (.c (.int .i64 0)), (some 14), none, []⟩]
theorem v22_7 : VS L22_7.eq_1 := rfl
def L22_8 : List AStep := ⟨.faddr 0 (.t 1), (some 11), none, []⟩ :: ⟨.load 1 false (.t 11), (some 12), none, []⟩ :: L22_7
theorem v22_8 : VS L22_8.eq_1 := rfl
def L22_9 : List AStep := [⟨.bin .lss (.t 14) (.t 13), (some 15), none, []⟩]
theorem v22_9 : VS L22_9.eq_1 := rfl
def L22_10 : List AStep := [⟨.alloc 104 [(.int .i64 0), (.str (strOfNums [])), (.sl none 0 (some 0)), (.sl none 0 (some 0))], (some 6), none, []⟩, ⟨.store 4 (.t 6) (.t 17), none, none, []⟩]
theorem v22_10 : VS L22_10.eq_1 := rfl
def L22_11 : List AStep := ⟨.iaddr 4 (.t 12) (.t 14), (some 16), none, []⟩ :: ⟨.load 4 true (.t 16), (some 17), none, []⟩ :: L22_10
theorem v22_11 : VS L22_11.eq_1 := rfl
def L22_12 : List AStep := [⟨.faddr 0 (.t 6), (some 18), none, []⟩, ⟨.load 1 false (.t 18), (some 19), none, []⟩]
theorem v22_12 : VS L22_12.eq_1 := rfl
def L22_13 : List AStep := [⟨.bin .eql (.t 19) (.c (.int .i64 0)), (some 21), none, []⟩, ⟨.mov (.t 21), (some 20), none, []⟩]
theorem v22_13 : VS L22_13.eq_1 := rfl
def L22_14 : List AStep := [⟨.bin .eql (.t 19) (.c (.int .i64 1)), (some 22), none, []⟩, ⟨.mov (.t 22), (some 20), none, []⟩]
theorem v22_14 : VS L22_14.eq_1 := rfl
def L22_15 : List AStep := [⟨.store 1 (.t 28) (.t 27), none, none, []⟩]
theorem v22_15 : VS L22_15.eq_1 := rfl
def L22_16 : List AStep := ⟨.append 3 1 8 (.t 24) (.t 26), (some 27), none, []⟩ :: ⟨.faddr 0 (.t 4), (some 28), none, []⟩ :: L22_15
theorem v22_16 : VS L22_16.eq_1 := rfl
def L22_17 : List AStep := ⟨.faddr 2 (.t 6), (some 25), none, []⟩ :: ⟨.load 1 false (.t 25), (some 26), none, []⟩ :: L22_16
theorem v22_17 : VS L22_17.eq_1 := rfl
def L22_18 : List AStep := ⟨.faddr 0 (.t 4), (some 23), none, []⟩ :: ⟨.load 1 false (.t 23), (some 24), none, []⟩ :: L22_17
theorem v22_18 : VS L22_18.eq_1 := rfl
def L22_19 : List AStep := [⟨.bin .eql (.t 19) (.c (.int .i64 2)), (some 30), none, []⟩, ⟨.mov (.t 30), (some 29), none, []⟩]
theorem v22_19 : VS L22_19.eq_1 := rfl
def L22_20 : List AStep := [⟨.store 1 (.t 42) (.t 41), none, none, []⟩]
theorem v22_20 : VS L22_20.eq_1 := rfl
def L22_21 : List AStep := ⟨.append 106 2 24 (.t 32) (.t 40), (some 41), none, []⟩ :: ⟨.faddr 1 (.t 4), (some 42), none, []⟩ :: L22_20
theorem v22_21 : VS L22_21.eq_1 := rfl
def L22_22 : List AStep := ⟨.build [(.str (strOfNums [])), (.int .i64 0)] [(0, 1, (.t 34)), (1, 1, (.t 38))], (some 39), none, []⟩ :: ⟨.buildSlice 106 1 [(.str (strOfNums [])), (.int .i64 0)] [(0, 2, (.t 39))], (some 40), none, []⟩ :: L22_21
theorem v22_22 : VS L22_22.eq_1 := rfl
def L22_23 : List AStep := ⟨.iaddr 1 (.t 36) (.c (.int .i64 0)), (some 37), none, []⟩ :: ⟨.load 1 false (.t 37), (some 38), none, []⟩ :: L22_22
theorem v22_23 : VS L22_23.eq_1 := rfl
def L22_24 : List AStep := ⟨.faddr 2 (.t 6), (some 35), none, []⟩ :: ⟨.load 1 false (.t 35), (some 36), none, []⟩ :: L22_23
theorem v22_24 : VS L22_24.eq_1 := rfl
def L22_25 : List AStep := ⟨.faddr 1 (.t 6), (some 33), none, []⟩ :: ⟨.load 1 false (.t 33), (some 34), none, []⟩ :: L22_24
theorem v22_25 : VS L22_25.eq_1 := rfl
def L22_26 : List AStep := ⟨.faddr 1 (.t 4), (some 31), none, []⟩ :: ⟨.load 1 false (.t 31), (some 32), none, []⟩ :: L22_25
theorem v22_26 : VS L22_26.eq_1 := rfl
def L22_27 : List AStep := [⟨.bin .eql (.t 19) (.c (.int .i64 3)), (some 44), none, []⟩, ⟨.mov (.t 44), (some 43), none, []⟩]
theorem v22_27 : VS L22_27.eq_1 := rfl
def L22_28 : List AStep := [⟨.store 1 (.t 50) (.t 49), none, none, []⟩]
theorem v22_28 : VS L22_28.eq_1 := rfl
def L22_29 : List AStep := ⟨.append 106 2 24 (.t 46) (.t 48), (some 49), none, []⟩ :: ⟨.faddr 1 (.t 4), (some 50), none, []⟩ :: L22_28
theorem v22_29 : VS L22_29.eq_1 := rfl
def L22_30 : List AStep := ⟨.faddr 3 (.t 6), (some 47), none, []⟩ :: ⟨.load 1 false (.t 47), (some 48), none, []⟩ :: L22_29
theorem v22_30 : VS L22_30.eq_1 := rfl
def L22_31 : List AStep := ⟨.faddr 1 (.t 4), (some 45), none, []⟩ :: ⟨.load 1 false (.t 45), (some 46), none, []⟩ :: L22_30
theorem v22_31 : VS L22_31.eq_1 := rfl
def L22_32 : List AStep := [⟨.bin .add (.t 14) (.c (.int .i64 1)), (some 51), none, []⟩, ⟨.mov (.t 51), (some 14), none, []⟩]
theorem v22_32 : VS L22_32.eq_1 := rfl
def L22_33 : List AStep := [⟨.not (.t 53), (some 54), none, []⟩]
theorem v22_33 : VS L22_33.eq_1 := rfl
def L22_34 : List AStep := ⟨.load 2 true (.t 4), (some 52), none, []⟩ :: ⟨.call 48 [(.t 52)], (some 53), none, []⟩ :: L22_33
theorem v22_34 : VS L22_34.eq_1 := rfl
def L22_35 : List AStep := [⟨.mov (.c (.bool false)), (some 3), none, []⟩]
theorem v22_35 : VS L22_35.eq_1 := rfl
def L22_36 : List AStep := ⟨.build [(.sl none 0 (some 0)), (.sl none 0 (some 0))] [], (some 55), none, []⟩ :: ⟨.store 2 (.t 2) (.t 55), none, none, []⟩ :: L22_35
theorem v22_36 : VS L22_36.eq_1 := rfl
def L22_37 : List AStep := [⟨.store 2 (.t 2) (.t 57), none, none, []⟩, ⟨.mov (.c (.bool true)), (some 3), none, []⟩]
theorem v22_37 : VS L22_37.eq_1 := rfl
def L22_38 : List AStep := ⟨.load 2 true (.t 4), (some 56), none, []⟩ :: ⟨.call 64 [(.t 56)], (some 57), none, []⟩ :: L22_37
theorem v22_38 : VS L22_38.eq_1 := rfl
def C22_0 : ACode := .seq (.reg L22_5) .ret
theorem u22_0 : VC C22_0.eq_1 := rfl
def C22_1 : ACode := .cond (.t 9) C22_0 .skip
theorem u22_1 : VC C22_1.eq_1 := rfl
def C22_2 : ACode := .seq (.reg L22_3) C22_1
theorem u22_2 : VC C22_2.eq_1 := rfl
def C22_3 : ACode := .cond (.t 15) .skip (.exit 0)
theorem u22_3 : VC C22_3.eq_1 := rfl
def C22_4 : ACode := .cond (.t 20) .skip (.reg L22_14)
theorem u22_4 : VC C22_4.eq_1 := rfl
def C22_5 : ACode := .seq (.reg L22_13) C22_4
theorem u22_5 : VC C22_5.eq_1 := rfl
def C22_6 : ACode := .cond (.t 43) (.reg L22_31) .skip
theorem u22_6 : VC C22_6.eq_1 := rfl
def C22_7 : ACode := .seq (.reg L22_27) C22_6
theorem u22_7 : VC C22_7.eq_1 := rfl
def C22_8 : ACode := .cond (.t 29) (.reg L22_26) C22_7
theorem u22_8 : VC C22_8.eq_1 := rfl
def C22_9 : ACode := .seq (.reg L22_19) C22_8
theorem u22_9 : VC C22_9.eq_1 := rfl
def C22_10 : ACode := .cond (.t 20) (.reg L22_18) C22_9
theorem u22_10 : VC C22_10.eq_1 := rfl
def C22_11 : ACode := .seq C22_5 C22_10
theorem u22_11 : VC C22_11.eq_1 := rfl
def C22_12 : ACode := .block 2 C22_11
theorem u22_12 : VC C22_12.eq_1 := rfl
def C22_13 : ACode := .seq (.reg L22_12) C22_12
theorem u22_13 : VC C22_13.eq_1 := rfl
def C22_14 : ACode := .seq (.reg L22_11) C22_13
theorem u22_14 : VC C22_14.eq_1 := rfl
def C22_15 : ACode := .block 1 C22_14
theorem u22_15 : VC C22_15.eq_1 := rfl
def C22_16 : ACode := .seq C22_15 (.reg L22_32)
theorem u22_16 : VC C22_16.eq_1 := rfl
def C22_17 : ACode := .seq C22_3 C22_16
theorem u22_17 : VC C22_17.eq_1 := rfl
def C22_18 : ACode := .seq (.reg L22_9) C22_17
theorem u22_18 : VC C22_18.eq_1 := rfl
def C22_19 : ACode := .block 0 (.loop C22_18)
theorem u22_19 : VC C22_19.eq_1 := rfl
def C22_20 : ACode := .seq (.reg L22_8) C22_19
theorem u22_20 : VC C22_20.eq_1 := rfl
def C22_21 : ACode := .seq (.reg L22_36) .ret
theorem u22_21 : VC C22_21.eq_1 := rfl
def C22_22 : ACode := .cond (.t 54) C22_21 .skip
theorem u22_22 : VC C22_22.eq_1 := rfl
def C22_23 : ACode := .seq (.reg L22_34) C22_22
theorem u22_23 : VC C22_23.eq_1 := rfl
def C22_24 : ACode := .seq (.reg L22_38) .ret
theorem u22_24 : VC C22_24.eq_1 := rfl
def C22_25 : ACode := .seq C22_23 C22_24
theorem u22_25 : VC C22_25.eq_1 := rfl
def C22_26 : ACode := .seq C22_20 C22_25
theorem u22_26 : VC C22_26.eq_1 := rfl
def C22_27 : ACode := .seq (.reg L22_6) C22_26
theorem u22_27 : VC C22_27.eq_1 := rfl
def C22_28 : ACode := .seq C22_2 C22_27
theorem u22_28 : VC C22_28.eq_1 := rfl
def C22_29 : ACode := .seq (.reg L22_1) C22_28
theorem u22_29 : VC C22_29.eq_1 := rfl
def F22 : AFunc := ⟨58, [.cell 2 2 true, .tmp 3], C22_29⟩
theorem cF22 : compB Try.prog 22 = some F22 := by kernel_rfl
attribute [local go_sem ↓] u22_0 u22_1 u22_2 u22_3 u22_4 u22_5 u22_6 u22_7 u22_8 u22_9 u22_10 u22_11 u22_12 u22_13 u22_14 u22_15 u22_16 u22_17 u22_18 u22_19 u22_20 u22_21 u22_22 u22_23 u22_24 u22_25 u22_26 u22_27 u22_28 u22_29 v22_0 v22_1 v22_2 v22_3 v22_4 v22_5 v22_6 v22_7 v22_8 v22_9 v22_10 v22_11 v22_12 v22_13 v22_14 v22_15 v22_16 v22_17 v22_18 v22_19 v22_20 v22_21 v22_22 v22_23 v22_24 v22_25 v22_26 v22_27 v22_28 v22_29 v22_30 v22_31 v22_32 v22_33 v22_34 v22_35 v22_36 v22_37 v22_38
theorem k_iFlattenCall (l : List Arg) (p : CV) (h : H) (hl : SlC h p l) (m : miniC l) : callK (bm Try.prog 22 [.agg [p]] h) fun r h' => Grow h h' ∧ ∃ p' n', r = .tup [.agg [p', n'], .one (.bool (FlattenC l).isSome)] ∧ NwF h h' p' n' (orF (FlattenC l)) := by
  refine bm_of cF22 ?_
  have vc := c_ValidCall l p h hl m
  unfold FlattenC
  cases ok : okCall l with
  | false =>
    rw [ok] at vc
    simp +contextual (maxSteps := 2000000) only [go_sem, Nat.reduceEqDiff, reduceCtorEq, Nat.reduceAdd, Nat.reduceLeDiff, F22, vc, if_false]
    exact ⟨Grow.refl h, _, _, rfl, .nil⟩
  | true =>
  rw [ok] at vc
  obtain ⟨rs, y0⟩ := hl.ex
  have hn := (okCall_at ok).1
  have yl : lenO (.one p) = some (ii l.length) := by rw [y0.out.len, y0.len]
  have z0 : NwF h h (.sl none 0 (some 0)) (.sl none 0 (some 0)) (flatT l 0) := by rw [flatT_zero]; exact .nil
  have gz := Grow.refl h
  simp +contextual (maxSteps := 2000000) only [go_sem, Nat.reduceEqDiff, reduceCtorEq, Nat.reduceAdd, Nat.reduceLeDiff, F22, vc, yl, if_true]
  refine wpC_loop (fun i T L h' => Grow h h' ∧ T 1 = .lp 1 0 ∧ (L 1).2 = [p] ∧ T 2 = .lp 2 0 ∧ (L 2).2 = [.sl none 0 (some 0), .sl none 0 (some 0)] ∧ T 4 = .lp 4 0 ∧ (∃ c d, (L 4).2 = [c, d] ∧ NwF h h' c d (flatT l i)) ∧ T 12 = .v (.one p) ∧ T 13 = .v (.one (.int .i64 l.length)) ∧ T 14 = .v (.one (.int .i64 i))) l.length ?_ ?_ (Nat.zero_le _) ?_
  · rintro i T L h' hi ⟨g, t1, l1, t2, l2, t4, ⟨c, d, l4, x⟩, t12, t13, tx⟩
    have y := y0.grow g
    have hr : i < rs.length := by rw [y.len]; exact hi
    have ye := y.el i hr
    rw [getC_eq hi] at ye
    have ek := ye.kind
    have en := ye.name
    have oa := (okCall_at ok).2 i hi
    have kd := okArg_kind oa
    obtain ⟨m1, m2, m3, m4⟩ := okArg_sm oa
    have fo := FOk.flatT ok (i := i) (by omega)
    have a1 := fo.pl
    have a2 := fo.nl
    rw [flatT_next hi]
    have nx : IntKind.i64.wrap ((i : Int) + 1) = ((i + 1 : Nat) : Int) := wrap_next hi (by omega)
    by_cases k2 : l[i].kind = 2
    · have e1 : plOf l[i] = [] := if_pos (.inl k2)
      have e2 : nlOf l[i] = [⟨l[i].name, l[i].list.headD 0⟩] := if_pos k2
      rw [e1, e2, List.append_nil]
      have hz : 0 < l[i].list.length := by have := (m3 k2).1; omega
      have li : iaddrO 1 (.one rs[i].lv) (.one (.int .i64 0)) = some (.one (.ptr (some (elem 1 (.one rs[i].lv) 0)))) := ye.list.iaddr hz
      have lo : loadO 1 false h' (.one (.ptr (some (elem 1 (.one rs[i].lv) 0)))) = some (.one (.int .i64 (l[i].list.headD 0))) := by
        rw [ye.list.oneO hz, encI_0, headC (m3 k2).1 hz]
        rfl
      have d0 : decide (l[i].kind = 0) = false := decide_eq_false (by omega)
      have d1 : decide (l[i].kind = 1) = false := decide_eq_false (by omega)
      simp +contextual (maxSteps := 2000000) only [go_sem, Nat.reduceEqDiff, reduceCtorEq, Nat.reduceAdd, Nat.reduceLeDiff, t1, l1, t2, l2, t4, l4, t12, t13, tx, yl, y.out.iaddr hr, y.out.whole hr, encC, ek, en, lt_true hi, d0, d1, decide_eq_true k2, li, lo]
      refine wp_lit (enc := encP) (k := 2) (l := [⟨l[i].name, l[i].list.headD 0⟩]) rfl rfl ?_
      intro h3 w3 g3 n3 _
      simp +contextual (maxSteps := 2000000) only [go_sem, Nat.reduceEqDiff, reduceCtorEq, Nat.reduceAdd, Nat.reduceLeDiff, t1, l1, t2, l2, t4, l4, t12, t13, tx]
      refine wp_append lenP (x.nl.grow g3) (n3.sl lenP) (g.trans g3) (by simp; omega) ?_
      intro h4 s4 g4 n4 st4 hb4
      obtain ⟨d4, rfl⟩ := n4.one
      have x4 := (x.grow g3).appNl n4 st4 hb4
      simp +contextual (maxSteps := 2000000) only [go_sem, Nat.reduceEqDiff, reduceCtorEq, Nat.reduceAdd, Nat.reduceLeDiff, t1, l1, t2, l2, t4, l4, t12, t13, tx]
      exact ⟨g4, ⟨c, d4, rfl, x4⟩, by rw [nx]⟩
    by_cases k3 : l[i].kind = 3
    · have e1 : plOf l[i] = [] := if_pos (.inr k3)
      have e2 : nlOf l[i] = l[i].pairs := (if_neg k2).trans (if_pos k3)
      rw [e1, e2, List.append_nil]
      have d0 : decide (l[i].kind = 0) = false := decide_eq_false (by omega)
      have d1 : decide (l[i].kind = 1) = false := decide_eq_false (by omega)
      simp +contextual (maxSteps := 2000000) only [go_sem, Nat.reduceEqDiff, reduceCtorEq, Nat.reduceAdd, Nat.reduceLeDiff, t1, l1, t2, l2, t4, l4, t12, t13, tx, yl, y.out.iaddr hr, y.out.whole hr, encC, ek, en, lt_true hi, d0, d1, decide_eq_false k2, decide_eq_true k3]
      refine wp_append lenP x.nl ye.pairs g (by omega) ?_
      intro h4 s4 g4 n4 st4 hb4
      obtain ⟨d4, rfl⟩ := n4.one
      have x4 := x.appNl n4 st4 hb4
      simp +contextual (maxSteps := 2000000) only [go_sem, Nat.reduceEqDiff, reduceCtorEq, Nat.reduceAdd, Nat.reduceLeDiff, t1, l1, t2, l2, t4, l4, t12, t13, tx]
      exact ⟨g4, ⟨c, d4, rfl, x4⟩, by rw [nx]⟩
    have e1 : plOf l[i] = l[i].list := if_neg (by omega)
    have e2 : nlOf l[i] = [] := (if_neg k2).trans (if_neg k3)
    rw [e1, e2, List.append_nil]
    by_cases k0 : l[i].kind = 0
    · simp +contextual (maxSteps := 2000000) only [go_sem, Nat.reduceEqDiff, reduceCtorEq, Nat.reduceAdd, Nat.reduceLeDiff, t1, l1, t2, l2, t4, l4, t12, t13, tx, yl, y.out.iaddr hr, y.out.whole hr, encC, ek, en, lt_true hi, decide_eq_true k0, decide_eq_false k2, decide_eq_false k3]
      refine wp_append lenI x.pl ye.list g (by omega) ?_
      intro h4 s4 g4 n4 st4 hb4
      obtain ⟨c4, rfl⟩ := n4.one
      have x4 := x.appPl n4 st4 hb4
      simp +contextual (maxSteps := 2000000) only [go_sem, Nat.reduceEqDiff, reduceCtorEq, Nat.reduceAdd, Nat.reduceLeDiff, t1, l1, t2, l2, t4, l4, t12, t13, tx]
      exact ⟨g4, ⟨c4, d, rfl, x4⟩, by rw [nx]⟩
    · have k1 : l[i].kind = 1 := by omega
      simp +contextual (maxSteps := 2000000) only [go_sem, Nat.reduceEqDiff, reduceCtorEq, Nat.reduceAdd, Nat.reduceLeDiff, t1, l1, t2, l2, t4, l4, t12, t13, tx, yl, y.out.iaddr hr, y.out.whole hr, encC, ek, en, lt_true hi, decide_eq_false k0, decide_eq_true k1, decide_eq_false k2, decide_eq_false k3]
      refine wp_append lenI x.pl ye.list g (by omega) ?_
      intro h4 s4 g4 n4 st4 hb4
      obtain ⟨c4, rfl⟩ := n4.one
      have x4 := x.appPl n4 st4 hb4
      simp +contextual (maxSteps := 2000000) only [go_sem, Nat.reduceEqDiff, reduceCtorEq, Nat.reduceAdd, Nat.reduceLeDiff, t1, l1, t2, l2, t4, l4, t12, t13, tx]
      exact ⟨g4, ⟨c4, d, rfl, x4⟩, by rw [nx]⟩
  · rintro T L h' ⟨g, t1, l1, t2, l2, t4, ⟨c, d, l4, x⟩, t12, t13, tx⟩
    rw [flatT_all] at x
    have fo := FOk.flatT ok (i := l.length) (Nat.le_refl _)
    rw [flatT_all] at fo
    have sm : smF (flatC l) := ⟨by have := fo.pl; unfold big; omega, by have := fo.nl; unfold big; omega, fun x hx => by have := fo.nm x hx; unfold big; omega⟩
    have vf := c_ValidFlat (flatC l) c d h' x.sl.pl x.sl.nl sm
    unfold okF
    cases b5 : okFlat (flatC l) with
    | false =>
      rw [b5] at vf
      simp +contextual (maxSteps := 2000000) only [go_sem, Nat.reduceEqDiff, reduceCtorEq, Nat.reduceAdd, Nat.reduceLeDiff, t1, l1, t2, l2, t4, l4, t12, t13, tx, lt_false, vf, if_false]
      exact gcK_of ⟨g, _, _, rfl, .nil⟩ (fun hs _ => ⟨Grow.refl h, _, _, rfl, .nil⟩)
    | true =>
      rw [b5] at vf
      simp +contextual (maxSteps := 2000000) only [go_sem, Nat.reduceEqDiff, reduceCtorEq, Nat.reduceAdd, Nat.reduceLeDiff, t1, l1, t2, l2, t4, l4, t12, t13, tx, lt_false, vf, if_true]
      refine wp_call (c_copyOfF (flatC l) c d h' x.sl sm) ?_
      rintro r h5 ⟨g5, p', n', rfl, x5⟩
      have x6 := x5.from g.n
      simp +contextual (maxSteps := 2000000) only [go_sem, Nat.reduceEqDiff, reduceCtorEq, Nat.reduceAdd, Nat.reduceLeDiff, t1, l1, t2, l2, t4, l4, t12, t13, tx]
      exact gcK_of ⟨g.trans g5, _, _, rfl, x6⟩ (fun hs _ => ⟨Grow.refl h, _, _, rfl, x6.scalar (by simpa [AV.scalar, AV.scalars, CV.scalar] using hs) h⟩)
  · simp +contextual (maxSteps := 2000000) only [go_sem, Nat.reduceEqDiff, reduceCtorEq, Nat.reduceAdd, Nat.reduceLeDiff]
    exact ⟨gz, ⟨_, _, rfl, z0⟩, rfl⟩
/-! spec.FlattenCall -/
def L20_0 : List AStep := [⟨.mov (.c (.bool false)), (some 3), none, []⟩]
theorem v20_0 : VS L20_0.eq_1 := rfl
def L20_1 : List AStep := ⟨.box 53 (.t 0), (some 1), none, []⟩ :: ⟨.alloc 33 [(.sl none 0 (some 0)), (.sl none 0 (some 0))], (some 2), none, []⟩ :: L20_0
theorem v20_1 : VS L20_1.eq_1 := rfl
def L20_2 : List AStep := [⟨.not (.t 7), (some 8), none, []⟩]
theorem v20_2 : VS L20_2.eq_1 := rfl
def L20_3 : List AStep := ⟨.load 1 true (.t 1), (some 6), none, []⟩ :: ⟨.call 60 [(.t 6)], (some 7), none, []⟩ :: L20_2
theorem v20_3 : VS L20_3.eq_1 := rfl
def L20_4 : List AStep := [⟨.mov (.c (.bool false)), (some 3), none, []⟩]
theorem v20_4 : VS L20_4.eq_1 := rfl
def L20_5 : List AStep := ⟨.build [(.sl none 0 (some 0)), (.sl none 0 (some 0))] [], (some 9), none, []⟩ :: ⟨.store 2 (.t 2) (.t 9), none, none, []⟩ :: L20_4
theorem v20_5 : VS L20_5.eq_1 := rfl
def L20_6 : List AStep := [⟨.store 2 (.t 4) (.t 13), none, none, []⟩, ⟨.mov (.t 14), (some 5), none, []⟩]
theorem v20_6 : VS L20_6.eq_1 := rfl
def L20_7 : List AStep := ⟨.extract (.t 10) 1, (some 14), none, []⟩ :: ⟨.alloc 33 [(.sl none 0 (some 0)), (.sl none 0 (some 0))], (some 4), none, []⟩ :: L20_6
theorem v20_7 : VS L20_7.eq_1 := rfl
def L20_8 : List AStep := ⟨.mov (.t 12), (some 10), none, []⟩ :: ⟨.extract (.t 10) 0, (some 13), none, []⟩ :: L20_7
theorem v20_8 : VS L20_8.eq_1 := rfl
def L20_9 : List AStep := ⟨.load 1 true (.t 1), (some 11), none, []⟩ :: ⟨.call 61 [(.t 11)], (some 12), none, []⟩ :: L20_8
theorem v20_9 : VS L20_9.eq_1 := rfl
def L20_10 : List AStep := [⟨.mov (.t 5), (some 15), none, []⟩, ⟨.not (.t 15), (some 16), none, []⟩]
theorem v20_10 : VS L20_10.eq_1 := rfl
def L20_11 : List AStep := [⟨.mov (.c (.bool false)), (some 3), none, []⟩]
theorem v20_11 : VS L20_11.eq_1 := rfl
def L20_12 : List AStep := ⟨.build [(.sl none 0 (some 0)), (.sl none 0 (some 0))] [], (some 17), none, []⟩ :: ⟨.store 2 (.t 2) (.t 17), none, none, []⟩ :: L20_11
theorem v20_12 : VS L20_12.eq_1 := rfl
def L20_13 : List AStep := [⟨.mov (.c (.bool true)), (some 3), none, []⟩]
theorem v20_13 : VS L20_13.eq_1 := rfl
def L20_14 : List AStep := ⟨.load 2 true (.t 4), (some 18), none, []⟩ :: ⟨.store 2 (.t 2) (.t 18), none, none, []⟩ :: L20_13
theorem v20_14 : VS L20_14.eq_1 := rfl
def C20_0 : ACode := .seq (.reg L20_5) .ret
theorem u20_0 : VC C20_0.eq_1 := rfl
def C20_1 : ACode := .cond (.t 8) C20_0 .skip
theorem u20_1 : VC C20_1.eq_1 := rfl
def C20_2 : ACode := .seq (.reg L20_3) C20_1
theorem u20_2 : VC C20_2.eq_1 := rfl
def C20_3 : ACode := .seq (.reg L20_12) .ret
theorem u20_3 : VC C20_3.eq_1 := rfl
def C20_4 : ACode := .cond (.t 16) C20_3 .skip
theorem u20_4 : VC C20_4.eq_1 := rfl
def C20_5 : ACode := .seq (.reg L20_10) C20_4
theorem u20_5 : VC C20_5.eq_1 := rfl
def C20_6 : ACode := .seq (.reg L20_14) .ret
theorem u20_6 : VC C20_6.eq_1 := rfl
def C20_7 : ACode := .seq C20_5 C20_6
theorem u20_7 : VC C20_7.eq_1 := rfl
def C20_8 : ACode := .seq (.reg L20_9) C20_7
theorem u20_8 : VC C20_8.eq_1 := rfl
def C20_9 : ACode := .seq C20_2 C20_8
theorem u20_9 : VC C20_9.eq_1 := rfl
def C20_10 : ACode := .seq (.reg L20_1) C20_9
theorem u20_10 : VC C20_10.eq_1 := rfl
def F20 : AFunc := ⟨19, [.cell 2 2 true, .tmp 3], C20_10⟩
theorem cF20 : compB Try.prog 20 = some F20 := by kernel_rfl
attribute [local go_sem ↓] u20_0 u20_1 u20_2 u20_3 u20_4 u20_5 u20_6 u20_7 u20_8 u20_9 u20_10 v20_0 v20_1 v20_2 v20_3 v20_4 v20_5 v20_6 v20_7 v20_8 v20_9 v20_10 v20_11 v20_12 v20_13 v20_14
theorem k_sFlattenCall (l : List Arg) (p : CV) (h : H) (hl : SlC h p l) (m : miniC l) : callK (bm Try.prog 20 [.agg [p]] h) fun r h' => Grow h h' ∧ ∃ p' n', r = .tup [.agg [p', n'], .one (.bool (FlattenC l).isSome)] ∧ NwF h h' p' n' (orF (FlattenC l)) := by
  refine bm_of cF20 ?_
  have vc := c_validCall l p h hl m
  unfold FlattenC
  cases ok : okCall l with
  | false =>
    rw [ok] at vc
    simp +contextual (maxSteps := 2000000) only [go_sem, Nat.reduceEqDiff, reduceCtorEq, Nat.reduceAdd, Nat.reduceLeDiff, F20, vc, if_false]
    exact ⟨Grow.refl h, _, _, rfl, .nil⟩
  | true =>
  rw [ok] at vc
  simp +contextual (maxSteps := 2000000) only [go_sem, Nat.reduceEqDiff, reduceCtorEq, Nat.reduceAdd, Nat.reduceLeDiff, F20, vc, if_true]
  refine wp_call (c_flatten l p h hl m ok) ?_
  rintro r h1 ⟨g1, p', n', rfl, x⟩
  unfold okF
  cases b5 : okFlat (flatC l) with
  | false =>
    simp +contextual (maxSteps := 2000000) only [go_sem, Nat.reduceEqDiff, reduceCtorEq, Nat.reduceAdd, Nat.reduceLeDiff, if_false]
    exact gcK_of ⟨g1, _, _, rfl, .nil⟩ (fun hs _ => ⟨Grow.refl h, _, _, rfl, .nil⟩)
  | true =>
    simp +contextual (maxSteps := 2000000) only [go_sem, Nat.reduceEqDiff, reduceCtorEq, Nat.reduceAdd, Nat.reduceLeDiff, if_true]
    exact gcK_of ⟨g1, _, _, rfl, x⟩ (fun hs _ => ⟨Grow.refl h, _, _, rfl, x.scalar (by simpa [AV.scalar, AV.scalars, CV.scalar] using hs) h⟩)
end Go.Proofs.Ytdalgphpacikkac.Am
