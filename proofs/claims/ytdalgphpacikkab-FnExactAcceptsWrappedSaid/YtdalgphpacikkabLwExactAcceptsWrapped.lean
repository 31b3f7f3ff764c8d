/- The law FnExactAcceptsWrapped. -/
import Derived.Test.YtdalgphpacikkabK
import Derived.Test.YtdalgphpacikkabPB
namespace Go.Proofs.Ytdalgphpacikkab.Am
open Go
set_option maxRecDepth 100000
set_option maxHeartbeats 4000000
set_option linter.unusedSimpArgs false
set_option linter.unusedVariables false
attribute [local go_sem ↓] bv_t bv_c ev_t ev_c put_same put_ne put_none kill_at pro_at lb_same lb_ne start_zero start_succ wpC_seq wpC_reg wpC_cond wpC_block wpC_skip wpC_exit wpC_ret thenQ_normal thenQ_exit thenQ_ret inBlk_normal inBlk_exit inBlk_ret wpS_nil wpS_step wpS_again wpS_guard wpO_mov wpO_load wpO_faddr wpO_nilCheck wpO_pick wpO_build wpO_bin wpO_eqb wpO_eqst wpO_eqnil wpO_not wpO_conv wpO_bytesStr wpO_iaddr wpO_idxStr wpO_field wpO_extract wpO_len wpO_lenStr wpO_cap wpO_min wpO_slice wpO_sliceStr wpO_alloc wpO_box wpO_store wpO_call wpO_callv wpO_mkfn wpO_buildSlice wpO_mkslice wpO_append wpO_appz proA_nil proA_cons tmpX_nil tmpX_tmp tmpX_cell doneB_normal doneB_ret agK_cons agK_nil agK_guard agG_tt agG_ff agG_tf agG_ft agG_undef pureB_load results_one results_two results_nil resBs_cons resBs_nil resB_tmp resB_cell
attribute [local go_sem] kill_v kill_lp_ne kill_lp_same pro_v pro_lp_same pro_lp_ne av_v av_lp optB_some optX_some valX_eq ldX_lp ldX_v faX_lp faX_v ncX_lp ncX_ptr ncX_fn boxK_one boxK_agg stL_some stK_lp_one stK_lp_agg stK_v_one stK_v_agg proM_v proM_lp callG_mk callVG_mk callvK_fn fnG_mk ptrsA_nil ptrsA_cons callH_some whenA_true whenA_false guardH_tt guardH_ff guardH_tf guardH_ft guardH_undef agV_one agV_agg lenO_sl lenStrO_str notO_bool pickO_bool convO_int eqbO_bool eqnilO_sl extractO_tup capO_sl minO_int loadL_one loadL_all storeL_eq fillA_nil fillA_one fillA_agg nat_ge neg_ge nat_lt neg_lt buildO bin_add bin_sub bin_mul bin_eql bin_neq bin_lss bin_leq bin_gtr bin_geq str_eql str_neq str_lss str_leq str_gtr str_geq retK_some endK_mk gcK_same gcK_int gcK_bool tupO_one tupO_agg rdy_self ib ii Option.map_none Option.map_some Option.some.injEq exists_eq_left' exists_eq_left ne_eq not_false_eq_true if_true if_false List.map_cons List.map_nil List.getElem?_cons_zero List.getElem?_cons_succ List.length_cons List.length_nil List.take_succ_cons List.take_zero List.take_nil List.drop_succ_cons List.drop_zero List.drop_nil List.cons_append List.nil_append List.append_nil List.set_cons_zero List.set_cons_succ Nat.zero_add forall_const true_and and_true and_self Bool.false_eq_true false_implies true_implies implies_true Bool.not_true Bool.not_false Bool.not_eq_true' Bool.not_eq_false' beq_self_eq_true Bool.bne_true Bool.bne_false
attribute [local go_sem] lenI lenS lenP lenQ lenB lenL lenT encI_0 encS_0 encP_0 encP_1 encQ_0 encQ_1 encQ_2 encQ_3 encB_0 encB_1 encL_0 encL_1 encT_0 encT_1
attribute [local go_sem low] whenA_bool guardH_bool
/-! laws.FnExactAcceptsWrapped -/
def L6_0 : List AStep := [⟨.box 28 (.t 2), (some 5), none, []⟩, ⟨.mov (.c (.bool false)), (some 6), none, []⟩]
theorem v6_0 : VS L6_0.eq_1 := rfl
def L6_1 : List AStep := ⟨.box 24 (.t 0), (some 3), none, []⟩ :: ⟨.box 24 (.t 1), (some 4), none, []⟩ :: L6_0
theorem v6_1 : VS L6_1.eq_1 := rfl
def L6_2 : List AStep := [⟨.mov (.c (.int .i64 1048576)), (some 7), none, []⟩]
theorem v6_2 : VS L6_2.eq_1 := rfl
def L6_3 : List AStep := [⟨.call 20 [(.t 13), (.t 14)], (some 15), none, []⟩, ⟨.mov (.t 15), (some 7), none, []⟩]
theorem v6_3 : VS L6_3.eq_1 := rfl
def L6_4 : List AStep := ⟨.load 1 true (.t 3), (some 13), none, []⟩ :: ⟨.mov (.t 7), (some 14), none, []⟩ :: L6_3
theorem v6_4 : VS L6_4.eq_1 := rfl
def L6_5 : List AStep := [⟨.mov (.t 7), (some 16), none, []⟩, ⟨.bin .lss (.t 16) (.c (.int .i64 0)), (some 17), none, []⟩]
theorem v6_5 : VS L6_5.eq_1 := rfl
def L6_6 : List AStep := [⟨.mov (.c (.bool true)), (some 6), none, []⟩]
theorem v6_6 : VS L6_6.eq_1 := rfl
def L6_7 : List AStep := [⟨.call 20 [(.t 18), (.t 19)], (some 20), none, []⟩, ⟨.mov (.t 20), (some 7), none, []⟩]
theorem v6_7 : VS L6_7.eq_1 := rfl
def L6_8 : List AStep := ⟨.load 1 true (.t 4), (some 18), none, []⟩ :: ⟨.mov (.t 7), (some 19), none, []⟩ :: L6_7
theorem v6_8 : VS L6_8.eq_1 := rfl
def L6_9 : List AStep := [⟨.mov (.t 7), (some 21), none, []⟩, ⟨.bin .lss (.t 21) (.c (.int .i64 0)), (some 22), none, []⟩]
theorem v6_9 : VS L6_9.eq_1 := rfl
def L6_10 : List AStep := [⟨.mov (.c (.bool true)), (some 6), none, []⟩]
theorem v6_10 : VS L6_10.eq_1 := rfl
def L6_11 : List AStep := [⟨.call 21 [(.t 23), (.t 24)], (some 25), none, []⟩, ⟨.mov (.t 25), (some 7), none, []⟩]
theorem v6_11 : VS L6_11.eq_1 := rfl
def L6_12 : List AStep := ⟨.load 2 true (.t 5), (some 23), none, []⟩ :: ⟨.mov (.t 7), (some 24), none, []⟩ :: L6_11
theorem v6_12 : VS L6_12.eq_1 := rfl
def L6_13 : List AStep := [⟨.mov (.t 7), (some 26), none, []⟩, ⟨.bin .lss (.t 26) (.c (.int .i64 0)), (some 27), none, []⟩]
theorem v6_13 : VS L6_13.eq_1 := rfl
def L6_14 : List AStep := [⟨.mov (.c (.bool true)), (some 6), none, []⟩]
theorem v6_14 : VS L6_14.eq_1 := rfl
def L6_15 : List AStep := [⟨.call 31 [(.t 29), (.t 31), (.t 33)], (some 34), none, []⟩, ⟨.mov (.t 34), (some 8), none, []⟩]
theorem v6_15 : VS L6_15.eq_1 := rfl
def L6_16 : List AStep := ⟨.call 23 [(.t 30)], (some 31), none, [(.load 2 true (.t 5), (some 32), none)]⟩ :: ⟨.call 24 [(.t 32)], (some 33), none, []⟩ :: L6_15
theorem v6_16 : VS L6_16.eq_1 := rfl
def L6_17 : List AStep := ⟨.load 2 true (.t 5), (some 32), none, []⟩ :: ⟨.call 23 [(.t 28)], (some 29), none, [(.load 1 true (.t 4), (some 30), none), (.load 2 true (.t 5), (some 32), none)]⟩ :: L6_16
theorem v6_17 : VS L6_17.eq_1 := rfl
def L6_18 : List AStep := ⟨.load 1 true (.t 3), (some 28), none, []⟩ :: ⟨.load 1 true (.t 4), (some 30), none, []⟩ :: L6_17
theorem v6_18 : VS L6_18.eq_1 := rfl
def L6_19 : List AStep := [⟨.alloc 36 [(.sl none 0 (some 0))], (some 9), none, []⟩, ⟨.store 1 (.t 9) (.t 36), none, none, []⟩]
theorem v6_19 : VS L6_19.eq_1 := rfl
def L6_20 : List AStep := ⟨.load 1 true (.t 3), (some 35), none, []⟩ :: ⟨.call 23 [(.t 35)], (some 36), none, []⟩ :: L6_19
theorem v6_20 : VS L6_20.eq_1 := rfl
def L6_21 : List AStep := [⟨.alloc 36 [(.sl none 0 (some 0))], (some 10), none, []⟩, ⟨.store 1 (.t 10) (.t 38), none, none, []⟩]
theorem v6_21 : VS L6_21.eq_1 := rfl
def L6_22 : List AStep := ⟨.load 1 true (.t 4), (some 37), none, []⟩ :: ⟨.call 23 [(.t 37)], (some 38), none, []⟩ :: L6_21
theorem v6_22 : VS L6_22.eq_1 := rfl
def L6_23 : List AStep := [⟨.alloc 39 [(.sl none 0 (some 0)), (.sl none 0 (some 0))], (some 11), none, []⟩, ⟨.store 2 (.t 11) (.t 40), none, none, []⟩]
theorem v6_23 : VS L6_23.eq_1 := rfl
def L6_24 : List AStep := ⟨.load 2 true (.t 5), (some 39), none, []⟩ :: ⟨.call 24 [(.t 39)], (some 40), none, []⟩ :: L6_23
theorem v6_24 : VS L6_24.eq_1 := rfl
def L6_25 : List AStep := [⟨.mov (.t 44), (some 12), none, []⟩]
theorem v6_25 : VS L6_25.eq_1 := rfl
def L6_26 : List AStep := ⟨.load 2 true (.t 11), (some 43), none, []⟩ :: ⟨.call 32 [(.t 41), (.t 42), (.t 43)], (some 44), none, []⟩ :: L6_25
theorem v6_26 : VS L6_26.eq_1 := rfl
def L6_27 : List AStep := ⟨.load 1 true (.t 9), (some 41), none, []⟩ :: ⟨.load 1 true (.t 10), (some 42), none, []⟩ :: L6_26
theorem v6_27 : VS L6_27.eq_1 := rfl
def L6_28 : List AStep := [⟨.eqb true (.t 45) (.t 46), (some 47), none, []⟩]
theorem v6_28 : VS L6_28.eq_1 := rfl
def L6_29 : List AStep := ⟨.mov (.t 12), (some 45), none, []⟩ :: ⟨.mov (.t 8), (some 46), none, []⟩ :: L6_28
theorem v6_29 : VS L6_29.eq_1 := rfl
def L6_30 : List AStep := [⟨.mov (.c (.bool false)), (some 6), none, []⟩]
theorem v6_30 : VS L6_30.eq_1 := rfl
def L6_31 : List AStep := [⟨.not (.t 51), (some 52), none, []⟩]
theorem v6_31 : VS L6_31.eq_1 := rfl
def L6_32 : List AStep := ⟨.call 23 [(.t 49)], (some 50), none, [(.load 1 true (.t 9), (some 48), none)]⟩ :: ⟨.call 27 [(.t 48), (.t 50)], (some 51), none, []⟩ :: L6_31
theorem v6_32 : VS L6_32.eq_1 := rfl
def L6_33 : List AStep := ⟨.load 1 true (.t 9), (some 48), none, []⟩ :: ⟨.load 1 true (.t 3), (some 49), none, []⟩ :: L6_32
theorem v6_33 : VS L6_33.eq_1 := rfl
def L6_34 : List AStep := [⟨.mov (.c (.bool false)), (some 6), none, []⟩]
theorem v6_34 : VS L6_34.eq_1 := rfl
def L6_35 : List AStep := [⟨.not (.t 56), (some 57), none, []⟩]
theorem v6_35 : VS L6_35.eq_1 := rfl
def L6_36 : List AStep := ⟨.call 23 [(.t 54)], (some 55), none, [(.load 1 true (.t 10), (some 53), none)]⟩ :: ⟨.call 27 [(.t 53), (.t 55)], (some 56), none, []⟩ :: L6_35
theorem v6_36 : VS L6_36.eq_1 := rfl
def L6_37 : List AStep := ⟨.load 1 true (.t 10), (some 53), none, []⟩ :: ⟨.load 1 true (.t 4), (some 54), none, []⟩ :: L6_36
theorem v6_37 : VS L6_37.eq_1 := rfl
def L6_38 : List AStep := [⟨.mov (.c (.bool false)), (some 6), none, []⟩]
theorem v6_38 : VS L6_38.eq_1 := rfl
def L6_39 : List AStep := [⟨.not (.t 61), (some 62), none, []⟩]
theorem v6_39 : VS L6_39.eq_1 := rfl
def L6_40 : List AStep := ⟨.call 24 [(.t 59)], (some 60), none, [(.load 2 true (.t 11), (some 58), none)]⟩ :: ⟨.call 26 [(.t 58), (.t 60)], (some 61), none, []⟩ :: L6_39
theorem v6_40 : VS L6_40.eq_1 := rfl
def L6_41 : List AStep := ⟨.load 2 true (.t 11), (some 58), none, []⟩ :: ⟨.load 2 true (.t 5), (some 59), none, []⟩ :: L6_40
theorem v6_41 : VS L6_41.eq_1 := rfl
def L6_42 : List AStep := [⟨.mov (.c (.bool false)), (some 6), none, []⟩]
theorem v6_42 : VS L6_42.eq_1 := rfl
def L6_43 : List AStep := [⟨.mov (.c (.bool true)), (some 6), none, []⟩]
theorem v6_43 : VS L6_43.eq_1 := rfl
def C6_0 : ACode := .seq (.reg L6_6) .ret
theorem u6_0 : VC C6_0.eq_1 := rfl
def C6_1 : ACode := .cond (.t 17) C6_0 .skip
theorem u6_1 : VC C6_1.eq_1 := rfl
def C6_2 : ACode := .seq (.reg L6_5) C6_1
theorem u6_2 : VC C6_2.eq_1 := rfl
def C6_3 : ACode := .seq (.reg L6_10) .ret
theorem u6_3 : VC C6_3.eq_1 := rfl
def C6_4 : ACode := .cond (.t 22) C6_3 .skip
theorem u6_4 : VC C6_4.eq_1 := rfl
def C6_5 : ACode := .seq (.reg L6_9) C6_4
theorem u6_5 : VC C6_5.eq_1 := rfl
def C6_6 : ACode := .seq (.reg L6_14) .ret
theorem u6_6 : VC C6_6.eq_1 := rfl
def C6_7 : ACode := .cond (.t 27) C6_6 .skip
theorem u6_7 : VC C6_7.eq_1 := rfl
def C6_8 : ACode := .seq (.reg L6_13) C6_7
theorem u6_8 : VC C6_8.eq_1 := rfl
def C6_9 : ACode := .seq (.reg L6_30) .ret
theorem u6_9 : VC C6_9.eq_1 := rfl
def C6_10 : ACode := .cond (.t 47) C6_9 .skip
theorem u6_10 : VC C6_10.eq_1 := rfl
def C6_11 : ACode := .seq (.reg L6_29) C6_10
theorem u6_11 : VC C6_11.eq_1 := rfl
def C6_12 : ACode := .seq (.reg L6_34) .ret
theorem u6_12 : VC C6_12.eq_1 := rfl
def C6_13 : ACode := .cond (.t 52) C6_12 .skip
theorem u6_13 : VC C6_13.eq_1 := rfl
def C6_14 : ACode := .seq (.reg L6_33) C6_13
theorem u6_14 : VC C6_14.eq_1 := rfl
def C6_15 : ACode := .seq (.reg L6_38) .ret
theorem u6_15 : VC C6_15.eq_1 := rfl
def C6_16 : ACode := .cond (.t 57) C6_15 .skip
theorem u6_16 : VC C6_16.eq_1 := rfl
def C6_17 : ACode := .seq (.reg L6_37) C6_16
theorem u6_17 : VC C6_17.eq_1 := rfl
def C6_18 : ACode := .seq (.reg L6_42) .ret
theorem u6_18 : VC C6_18.eq_1 := rfl
def C6_19 : ACode := .cond (.t 62) C6_18 .skip
theorem u6_19 : VC C6_19.eq_1 := rfl
def C6_20 : ACode := .seq (.reg L6_41) C6_19
theorem u6_20 : VC C6_20.eq_1 := rfl
def C6_21 : ACode := .seq (.reg L6_43) .ret
theorem u6_21 : VC C6_21.eq_1 := rfl
def C6_22 : ACode := .seq C6_20 C6_21
theorem u6_22 : VC C6_22.eq_1 := rfl
def C6_23 : ACode := .seq C6_17 C6_22
theorem u6_23 : VC C6_23.eq_1 := rfl
def C6_24 : ACode := .seq C6_14 C6_23
theorem u6_24 : VC C6_24.eq_1 := rfl
def C6_25 : ACode := .seq C6_11 C6_24
theorem u6_25 : VC C6_25.eq_1 := rfl
def C6_26 : ACode := .seq (.reg L6_27) C6_25
theorem u6_26 : VC C6_26.eq_1 := rfl
def C6_27 : ACode := .seq (.reg L6_24) C6_26
theorem u6_27 : VC C6_27.eq_1 := rfl
def C6_28 : ACode := .seq (.reg L6_22) C6_27
theorem u6_28 : VC C6_28.eq_1 := rfl
def C6_29 : ACode := .seq (.reg L6_20) C6_28
theorem u6_29 : VC C6_29.eq_1 := rfl
def C6_30 : ACode := .seq (.reg L6_18) C6_29
theorem u6_30 : VC C6_30.eq_1 := rfl
def C6_31 : ACode := .seq C6_8 C6_30
theorem u6_31 : VC C6_31.eq_1 := rfl
def C6_32 : ACode := .seq (.reg L6_12) C6_31
theorem u6_32 : VC C6_32.eq_1 := rfl
def C6_33 : ACode := .seq C6_5 C6_32
theorem u6_33 : VC C6_33.eq_1 := rfl
def C6_34 : ACode := .seq (.reg L6_8) C6_33
theorem u6_34 : VC C6_34.eq_1 := rfl
def C6_35 : ACode := .seq C6_2 C6_34
theorem u6_35 : VC C6_35.eq_1 := rfl
def C6_36 : ACode := .seq (.reg L6_4) C6_35
theorem u6_36 : VC C6_36.eq_1 := rfl
def C6_37 : ACode := .seq (.reg L6_2) C6_36
theorem u6_37 : VC C6_37.eq_1 := rfl
def C6_38 : ACode := .seq (.reg L6_1) C6_37
theorem u6_38 : VC C6_38.eq_1 := rfl
def F6 : AFunc := ⟨63, [.tmp 6], C6_38⟩
theorem cF6 : compB Try.prog 6 = some F6 := by kernel_rfl
attribute [local go_sem ↓] u6_0 u6_1 u6_2 u6_3 u6_4 u6_5 u6_6 u6_7 u6_8 u6_9 u6_10 u6_11 u6_12 u6_13 u6_14 u6_15 u6_16 u6_17 u6_18 u6_19 u6_20 u6_21 u6_22 u6_23 u6_24 u6_25 u6_26 u6_27 u6_28 u6_29 u6_30 u6_31 u6_32 u6_33 u6_34 u6_35 u6_36 u6_37 u6_38 v6_0 v6_1 v6_2 v6_3 v6_4 v6_5 v6_6 v6_7 v6_8 v6_9 v6_10 v6_11 v6_12 v6_13 v6_14 v6_15 v6_16 v6_17 v6_18 v6_19 v6_20 v6_21 v6_22 v6_23 v6_24 v6_25 v6_26 v6_27 v6_28 v6_29 v6_30 v6_31 v6_32 v6_33 v6_34 v6_35 v6_36 v6_37 v6_38 v6_39 v6_40 v6_41 v6_42 v6_43
theorem law6 (h : H) (avs : List AV) (hok : okVs Try.prog h 6 [ 24, 24, 28 ] avs) : callK (bm Try.prog 6 avs h) fun r _ => r = ib true := by
  obtain ⟨v0, avs, rfl, hv0, hok⟩ := okVs_cons hok
  obtain ⟨v1, avs, rfl, hv1, hok⟩ := okVs_cons hok
  obtain ⟨v2, avs, rfl, hv2, hok⟩ := okVs_cons hok
  obtain rfl := okVs_nil hok
  obtain ⟨p0, x0, rfl, d0⟩ := dG hv0
  obtain ⟨p1, x1, rfl, d1⟩ := dG hv1
  obtain ⟨p2, n2, x2, rfl, d2⟩ := dF hv2
  refine bm_of cF6 ?_
  have z0 := k_szG x0 p0 1048576 h (by omega) (by omega) d0
  by_cases y0 : szr 1048576 (wtG x0) < 0
  · simp +contextual (maxSteps := 2000000) only [go_sem, Nat.reduceEqDiff, reduceCtorEq, Nat.reduceAdd, Nat.reduceLeDiff, F6, z0, decide_eq_true y0]
  have z1 := k_szG x1 p1 (szr 1048576 (wtG x0)) h (by omega) (by unfold szr; split <;> omega) d1
  by_cases y1 : szr (szr 1048576 (wtG x0)) (wtG x1) < 0
  · simp +contextual (maxSteps := 2000000) only [go_sem, Nat.reduceEqDiff, reduceCtorEq, Nat.reduceAdd, Nat.reduceLeDiff, F6, z0, z1, decide_eq_false y0, decide_eq_true y1]
  have z2 := k_szF x2 p2 n2 (szr (szr 1048576 (wtG x0)) (wtG x1)) h (by omega) (by unfold szr; split <;> omega) d2
  by_cases y2 : szr (szr (szr 1048576 (wtG x0)) (wtG x1)) (wtF x2) < 0
  · simp +contextual (maxSteps := 2000000) only [go_sem, Nat.reduceEqDiff, reduceCtorEq, Nat.reduceAdd, Nat.reduceLeDiff, F6, z0, z1, z2, decide_eq_false y0, decide_eq_false y1, decide_eq_true y2]
  obtain ⟨e0, u0⟩ := szr_ge y0
  obtain ⟨e1, u1⟩ := szr_ge y1
  obtain ⟨e2, u2⟩ := szr_ge y2
  have s0 : miniG x0 := wtG_sm (by omega)
  have s1 : miniG x1 := wtG_sm (by omega)
  have s2 : miniF x2 := wtF_sm (by omega)
  simp +contextual (maxSteps := 2000000) only [go_sem, Nat.reduceEqDiff, reduceCtorEq, Nat.reduceAdd, Nat.reduceLeDiff, F6, z0, z1, z2, decide_eq_false y0, decide_eq_false y1, decide_eq_false y2]
  refine wp_call (k_toG x0 p0 h (d0.grow (Grow.refl h)) s0) ?_
  rintro r h1 ⟨g1, p0a, rfl, a0a⟩
  simp +contextual (maxSteps := 2000000) only [go_sem, Nat.reduceEqDiff, reduceCtorEq, Nat.reduceAdd, Nat.reduceLeDiff]
  refine wp_call (k_toG x1 p1 h1 (d1.grow ((Grow.refl h).trans g1)) s1) ?_
  rintro r h2 ⟨g2, p1a, rfl, a1a⟩
  simp +contextual (maxSteps := 2000000) only [go_sem, Nat.reduceEqDiff, reduceCtorEq, Nat.reduceAdd, Nat.reduceLeDiff]
  refine wp_call (k_toF x2 p2 n2 h2 (d2.grow (((Grow.refl h).trans g1).trans g2)) s2) ?_
  rintro r h3 ⟨g3, p2a, n2a, rfl, a2a⟩
  have ws := k_sAcceptsWrapped x0 x1 x2 p0a p1a p2a n2a h3 (a0a.sl.grow (g2.trans g3)) (a1a.sl.grow g3) (a2a.sl) s0 s1 s2
  simp +contextual (maxSteps := 2000000) only [go_sem, Nat.reduceEqDiff, reduceCtorEq, Nat.reduceAdd, Nat.reduceLeDiff, ws]
  refine wp_call (k_toG x0 p0 h3 (d0.grow ((((Grow.refl h).trans g1).trans g2).trans g3)) s0) ?_
  rintro r h4 ⟨g4, p0b, rfl, a0b⟩
  simp +contextual (maxSteps := 2000000) only [go_sem, Nat.reduceEqDiff, reduceCtorEq, Nat.reduceAdd, Nat.reduceLeDiff]
  refine wp_call (k_toG x1 p1 h4 (d1.grow (((((Grow.refl h).trans g1).trans g2).trans g3).trans g4)) s1) ?_
  rintro r h5 ⟨g5, p1b, rfl, a1b⟩
  simp +contextual (maxSteps := 2000000) only [go_sem, Nat.reduceEqDiff, reduceCtorEq, Nat.reduceAdd, Nat.reduceLeDiff]
  refine wp_call (k_toF x2 p2 n2 h5 (d2.grow ((((((Grow.refl h).trans g1).trans g2).trans g3).trans g4).trans g5)) s2) ?_
  rintro r h6 ⟨g6, p2b, n2b, rfl, a2b⟩
  have gi := k_iAcceptsWrapped x0 x1 x2 p0b p1b p2b n2b h6 (a0b.sl.grow (g5.trans g6)) (a1b.sl.grow g6) (a2b.sl) s0 s1 s2
  simp +contextual (maxSteps := 2000000) only [go_sem, Nat.reduceEqDiff, reduceCtorEq, Nat.reduceAdd, Nat.reduceLeDiff, gi, decide_true]
  refine wp_call (k_toG x0 p0 h6 (d0.grow (((((((Grow.refl h).trans g1).trans g2).trans g3).trans g4).trans g5).trans g6)) s0) ?_
  rintro r h7 ⟨g7, p0c, rfl, a0c⟩
  have q0 := k_eqG x0 x0 p0b p0c h7 (a0b.sl.grow ((g5.trans g6).trans g7)) a0c.sl s0
  simp +contextual (maxSteps := 2000000) only [go_sem, Nat.reduceEqDiff, reduceCtorEq, Nat.reduceAdd, Nat.reduceLeDiff, q0, decide_true]
  refine wp_call (k_toG x1 p1 h7 (d1.grow ((((((((Grow.refl h).trans g1).trans g2).trans g3).trans g4).trans g5).trans g6).trans g7)) s1) ?_
  rintro r h8 ⟨g8, p1c, rfl, a1c⟩
  have q1 := k_eqG x1 x1 p1b p1c h8 (a1b.sl.grow ((g6.trans g7).trans g8)) a1c.sl s1
  simp +contextual (maxSteps := 2000000) only [go_sem, Nat.reduceEqDiff, reduceCtorEq, Nat.reduceAdd, Nat.reduceLeDiff, q1, decide_true]
  refine wp_call (k_toF x2 p2 n2 h8 (d2.grow (((((((((Grow.refl h).trans g1).trans g2).trans g3).trans g4).trans g5).trans g6).trans g7).trans g8)) s2) ?_
  rintro r h9 ⟨g9, p2c, n2c, rfl, a2c⟩
  have q2 := k_eqF x2 x2 p2b n2b p2c n2c h9 (a2b.sl.grow ((g7.trans g8).trans g9)) a2c.sl s2
  simp +contextual (maxSteps := 2000000) only [go_sem, Nat.reduceEqDiff, reduceCtorEq, Nat.reduceAdd, Nat.reduceLeDiff, q2, decide_true]
  try exact gcK_of rfl (fun _ _ => rfl)
end Go.Proofs.Ytdalgphpacikkab.Am
