/- The law FnBindPart. -/
import Derived.Test.YtekkimfdcbgcoabLQ
import Derived.Test.YtekkimfdcbgcoabDT
namespace Go.Proofs.Ytekkimfdcbgcoab.Am
open Go
set_option maxRecDepth 100000
set_option maxHeartbeats 4000000
set_option linter.unusedSimpArgs false
set_option linter.unusedVariables false
attribute [local go_sem ↓] bv_t bv_c ev_t ev_c put_same put_ne put_none kill_at pro_at lb_same lb_ne start_zero start_succ wpC_seq wpC_reg wpC_cond wpC_block wpC_skip wpC_exit wpC_ret thenQ_normal thenQ_exit thenQ_ret inBlk_normal inBlk_exit inBlk_ret wpS_nil wpS_step wpS_again wpS_guard wpO_mov wpO_load wpO_faddr wpO_nilCheck wpO_pick wpO_build wpO_bin wpO_eqb wpO_eqst wpO_eqnil wpO_not wpO_conv wpO_bytesStr wpO_iaddr wpO_idxStr wpO_field wpO_extract wpO_len wpO_lenStr wpO_cap wpO_min wpO_slice wpO_sliceStr wpO_alloc wpO_box wpO_store wpO_call wpO_callv wpO_mkfn wpO_buildSlice wpO_mkslice wpO_append wpO_appz proA_nil proA_cons tmpX_nil tmpX_tmp tmpX_cell doneB_normal doneB_ret agK_cons agK_nil agK_guard agG_tt agG_ff agG_tf agG_ft agG_undef pureB_load results_one results_two results_nil resBs_cons resBs_nil resB_tmp resB_cell
attribute [local go_sem] kill_v kill_lp_ne kill_lp_same pro_v pro_lp_same pro_lp_ne av_v av_lp optB_some optX_some valX_eq ldX_lp ldX_v faX_lp faX_v ncX_lp ncX_ptr ncX_fn boxK_one boxK_agg stL_some stK_lp_one stK_lp_agg stK_v_one stK_v_agg proM_v proM_lp callG_mk callVG_mk callvK_fn fnG_mk ptrsA_nil ptrsA_cons callH_some whenA_true whenA_false guardH_tt guardH_ff guardH_tf guardH_ft guardH_undef agV_one agV_agg lenO_sl lenStrO_str notO_bool pickO_bool convO_int eqbO_bool eqnilO_sl extractO_tup capO_sl minO_int loadL_one loadL_all storeL_eq fillA_nil fillA_one fillA_agg nat_ge neg_ge nat_lt neg_lt buildO bin_add bin_sub bin_mul bin_eql bin_neq bin_lss bin_leq bin_gtr bin_geq str_eql str_neq str_lss str_leq str_gtr str_geq retK_some endK_mk gcK_same gcK_int gcK_bool tupO_one tupO_agg rdy_self ib ii Option.map_none Option.map_some Option.some.injEq exists_eq_left' exists_eq_left ne_eq not_false_eq_true if_true if_false List.map_cons List.map_nil List.getElem?_cons_zero List.getElem?_cons_succ List.length_cons List.length_nil List.take_succ_cons List.take_zero List.take_nil List.drop_succ_cons List.drop_zero List.drop_nil List.cons_append List.nil_append List.append_nil List.set_cons_zero List.set_cons_succ Nat.zero_add forall_const true_and and_true and_self Bool.false_eq_true false_implies true_implies implies_true Bool.not_true Bool.not_false Bool.not_eq_true' Bool.not_eq_false' beq_self_eq_true Bool.bne_true Bool.bne_false
attribute [local go_sem] lenI lenS lenP lenQ lenB lenL lenT encI_0 encS_0 encP_0 encP_1 encQ_0 encQ_1 encQ_2 encQ_3 encB_0 encB_1 encL_0 encL_1 encT_0 encT_1
attribute [local go_sem low] whenA_bool guardH_bool
/-! laws.FnBindPart -/
def L6_0 : List AStep := [⟨.mov (.c (.bool false)), (some 2), none, []⟩]
theorem v6_0 : VS L6_0.eq_1 := rfl
def L6_1 : List AStep := [⟨.bin .gtr (.t 15) (.c (.int .i64 1048576)), (some 16), none, []⟩]
theorem v6_1 : VS L6_1.eq_1 := rfl
def L6_2 : List AStep := ⟨.mov (.t 0), (some 14), none, []⟩ :: ⟨.len (.t 14), (some 15), none, []⟩ :: L6_1
theorem v6_2 : VS L6_2.eq_1 := rfl
def L6_3 : List AStep := [⟨.mov (.c (.bool true)), (some 2), none, []⟩]
theorem v6_3 : VS L6_3.eq_1 := rfl
def L6_4 : List AStep := [⟨.store 2 (.t 4) (.t 21), none, none, []⟩]
theorem v6_4 : VS L6_4.eq_1 := rfl
def L6_5 : List AStep := ⟨.alloc 29 [(.sl none 0 (some 0)), (.sl none 0 (some 0))], (some 4), none, []⟩ :: ⟨.store 1 (.t 3) (.t 20), none, none, []⟩ :: L6_4
theorem v6_5 : VS L6_5.eq_1 := rfl
def L6_6 : List AStep := ⟨.extract (.t 17) 1, (some 21), none, []⟩ :: ⟨.alloc 25 [(.sl none 0 (some 0))], (some 3), none, []⟩ :: L6_5
theorem v6_6 : VS L6_6.eq_1 := rfl
def L6_7 : List AStep := ⟨.mov (.t 19), (some 17), none, []⟩ :: ⟨.extract (.t 17) 0, (some 20), none, []⟩ :: L6_6
theorem v6_7 : VS L6_7.eq_1 := rfl
def L6_8 : List AStep := ⟨.mov (.t 0), (some 18), none, []⟩ :: ⟨.call 27 [(.t 18)], (some 19), none, []⟩ :: L6_7
theorem v6_8 : VS L6_8.eq_1 := rfl
def L6_9 : List AStep := [⟨.mov (.t 27), (some 6), none, []⟩]
theorem v6_9 : VS L6_9.eq_1 := rfl
def L6_10 : List AStep := ⟨.alloc 56 [(.sl none 0 (some 0))], (some 5), none, []⟩ :: ⟨.store 1 (.t 5) (.t 26), none, none, []⟩ :: L6_9
theorem v6_10 : VS L6_10.eq_1 := rfl
def L6_11 : List AStep := ⟨.extract (.t 22) 0, (some 26), none, []⟩ :: ⟨.extract (.t 22) 1, (some 27), none, []⟩ :: L6_10
theorem v6_11 : VS L6_11.eq_1 := rfl
def L6_12 : List AStep := ⟨.call 28 [(.t 23), (.t 24)], (some 25), none, []⟩ :: ⟨.mov (.t 25), (some 22), none, []⟩ :: L6_11
theorem v6_12 : VS L6_12.eq_1 := rfl
def L6_13 : List AStep := ⟨.load 1 true (.t 3), (some 23), none, []⟩ :: ⟨.load 2 true (.t 4), (some 24), none, []⟩ :: L6_12
theorem v6_13 : VS L6_13.eq_1 := rfl
def L6_14 : List AStep := [⟨.mov (.t 33), (some 8), none, []⟩]
theorem v6_14 : VS L6_14.eq_1 := rfl
def L6_15 : List AStep := ⟨.alloc 56 [(.sl none 0 (some 0))], (some 7), none, []⟩ :: ⟨.store 1 (.t 7) (.t 32), none, none, []⟩ :: L6_14
theorem v6_15 : VS L6_15.eq_1 := rfl
def L6_16 : List AStep := ⟨.extract (.t 28) 0, (some 32), none, []⟩ :: ⟨.extract (.t 28) 1, (some 33), none, []⟩ :: L6_15
theorem v6_16 : VS L6_16.eq_1 := rfl
def L6_17 : List AStep := ⟨.call 29 [(.t 29), (.t 30)], (some 31), none, []⟩ :: ⟨.mov (.t 31), (some 28), none, []⟩ :: L6_16
theorem v6_17 : VS L6_17.eq_1 := rfl
def L6_18 : List AStep := ⟨.load 1 true (.t 3), (some 29), none, []⟩ :: ⟨.load 2 true (.t 4), (some 30), none, []⟩ :: L6_17
theorem v6_18 : VS L6_18.eq_1 := rfl
def L6_19 : List AStep := [⟨.pick (.t 48) (.c (.bool true)) (.t 51), (some 52), none, []⟩]
theorem v6_19 : VS L6_19.eq_1 := rfl
def L6_20 : List AStep := ⟨.call 32 [(.t 49)], (some 50), (some (48, false)), []⟩ :: ⟨.not (.t 50), (some 51), (some (48, false)), []⟩ :: L6_19
theorem v6_20 : VS L6_20.eq_1 := rfl
def L6_21 : List AStep := ⟨.mov (.t 47), (some 48), none, []⟩ :: ⟨.load 2 true (.t 4), (some 49), (some (48, false)), []⟩ :: L6_20
theorem v6_21 : VS L6_21.eq_1 := rfl
def L6_22 : List AStep := ⟨.not (.t 45), (some 46), (some (43, false)), []⟩ :: ⟨.pick (.t 43) (.c (.bool true)) (.t 46), (some 47), none, []⟩ :: L6_21
theorem v6_22 : VS L6_22.eq_1 := rfl
def L6_23 : List AStep := ⟨.load 1 true (.t 3), (some 44), (some (43, false)), []⟩ :: ⟨.call 31 [(.t 44)], (some 45), (some (43, false)), []⟩ :: L6_22
theorem v6_23 : VS L6_23.eq_1 := rfl
def L6_24 : List AStep := ⟨.pick (.t 38) (.c (.bool true)) (.t 41), (some 42), none, []⟩ :: ⟨.mov (.t 42), (some 43), none, []⟩ :: L6_23
theorem v6_24 : VS L6_24.eq_1 := rfl
def L6_25 : List AStep := ⟨.mov (.t 8), (some 40), (some (38, false)), []⟩ :: ⟨.eqb true (.t 39) (.t 40), (some 41), (some (38, false)), []⟩ :: L6_24
theorem v6_25 : VS L6_25.eq_1 := rfl
def L6_26 : List AStep := ⟨.mov (.t 37), (some 38), none, []⟩ :: ⟨.mov (.t 6), (some 39), (some (38, false)), []⟩ :: L6_25
theorem v6_26 : VS L6_26.eq_1 := rfl
def L6_27 : List AStep := ⟨.call 30 [(.t 34), (.t 35)], (some 36), none, []⟩ :: ⟨.not (.t 36), (some 37), none, []⟩ :: L6_26
theorem v6_27 : VS L6_27.eq_1 := rfl
def L6_28 : List AStep := ⟨.load 1 true (.t 5), (some 34), none, []⟩ :: ⟨.load 1 true (.t 7), (some 35), none, []⟩ :: L6_27
theorem v6_28 : VS L6_28.eq_1 := rfl
def L6_29 : List AStep := [⟨.mov (.t 60), (some 2), none, []⟩]
theorem v6_29 : VS L6_29.eq_1 := rfl
def L6_30 : List AStep := ⟨.eqb false (.t 57) (.t 58), (some 59), (some (56, true)), []⟩ :: ⟨.pick (.t 56) (.t 59) (.c (.bool false)), (some 60), none, []⟩ :: L6_29
theorem v6_30 : VS L6_30.eq_1 := rfl
def L6_31 : List AStep := ⟨.mov (.t 6), (some 57), (some (56, true)), []⟩ :: ⟨.mov (.t 8), (some 58), (some (56, true)), []⟩ :: L6_30
theorem v6_31 : VS L6_31.eq_1 := rfl
def L6_32 : List AStep := ⟨.call 30 [(.t 53), (.t 54)], (some 55), none, []⟩ :: ⟨.mov (.t 55), (some 56), none, []⟩ :: L6_31
theorem v6_32 : VS L6_32.eq_1 := rfl
def L6_33 : List AStep := ⟨.load 1 true (.t 5), (some 53), none, []⟩ :: ⟨.load 1 true (.t 7), (some 54), none, []⟩ :: L6_32
theorem v6_33 : VS L6_33.eq_1 := rfl
def L6_34 : List AStep := [⟨.mov (.c (.bool true)), (some 9), none, []⟩]
theorem v6_34 : VS L6_34.eq_1 := rfl
def L6_35 : List AStep := [⟨.call 23 [(.t 61), (.t 62)], (some 63), none, []⟩, ⟨.mov (.t 63), (some 10), none, []⟩]
theorem v6_35 : VS L6_35.eq_1 := rfl
def L6_36 : List AStep := ⟨.load 1 true (.t 3), (some 61), none, []⟩ :: ⟨.load 2 true (.t 4), (some 62), none, []⟩ :: L6_35
theorem v6_36 : VS L6_36.eq_1 := rfl
def L6_37 : List AStep := [⟨.mov (.c (.int .i64 0)), (some 11), none, []⟩]
theorem v6_37 : VS L6_37.eq_1 := rfl
def L6_38 : List AStep := [⟨.len (.t 65), (some 66), none, []⟩, ⟨.bin .lss (.t 64) (.t 66), (some 67), none, []⟩]
theorem v6_38 : VS L6_38.eq_1 := rfl
def L6_39 : List AStep := ⟨.mov (.t 11), (some 64), none, []⟩ :: ⟨.mov (.t 10), (some 65), none, []⟩ :: L6_38
theorem v6_39 : VS L6_39.eq_1 := rfl
def L6_40 : List AStep := [⟨.pick (.t 71) (.t 77) (.c (.bool false)), (some 78), none, []⟩, ⟨.mov (.t 78), (some 9), none, []⟩]
theorem v6_40 : VS L6_40.eq_1 := rfl
def L6_41 : List AStep := ⟨.load 1 false (.t 75), (some 76), (some (71, true)), []⟩ :: ⟨.bin .eql (.t 76) (.c (.int .i64 3)), (some 77), (some (71, true)), []⟩ :: L6_40
theorem v6_41 : VS L6_41.eq_1 := rfl
def L6_42 : List AStep := ⟨.iaddr 2 (.t 72) (.t 73), (some 74), (some (71, true)), []⟩ :: ⟨.faddr 0 (.t 74), (some 75), (some (71, true)), []⟩ :: L6_41
theorem v6_42 : VS L6_42.eq_1 := rfl
def L6_43 : List AStep := ⟨.mov (.t 10), (some 72), (some (71, true)), []⟩ :: ⟨.mov (.t 11), (some 73), (some (71, true)), []⟩ :: L6_42
theorem v6_43 : VS L6_43.eq_1 := rfl
def L6_44 : List AStep := ⟨.mov (.t 9), (some 70), none, []⟩ :: ⟨.mov (.t 70), (some 71), none, []⟩ :: L6_43
theorem v6_44 : VS L6_44.eq_1 := rfl
def L6_45 : List AStep := [⟨.mov (.t 69), (some 11), none, []⟩]
theorem v6_45 : VS L6_45.eq_1 := rfl
def L6_46 : List AStep := ⟨.mov (.t 11), (some 68), none, []⟩ :: ⟨.bin .add (.t 68) (.c (.int .i64 1)), (some 69), none, []⟩ :: L6_45
theorem v6_46 : VS L6_46.eq_1 := rfl
def L6_47 : List AStep := [⟨.mov (.t 84), (some 13), none, []⟩]
theorem v6_47 : VS L6_47.eq_1 := rfl
def L6_48 : List AStep := ⟨.alloc 56 [(.sl none 0 (some 0))], (some 12), none, []⟩ :: ⟨.store 1 (.t 12) (.t 83), none, none, []⟩ :: L6_47
theorem v6_48 : VS L6_48.eq_1 := rfl
def L6_49 : List AStep := ⟨.extract (.t 79) 0, (some 83), none, []⟩ :: ⟨.extract (.t 79) 1, (some 84), none, []⟩ :: L6_48
theorem v6_49 : VS L6_49.eq_1 := rfl
def L6_50 : List AStep := ⟨.call 33 [(.t 80), (.t 81)], (some 82), none, []⟩ :: ⟨.mov (.t 82), (some 79), none, []⟩ :: L6_49
theorem v6_50 : VS L6_50.eq_1 := rfl
def L6_51 : List AStep := ⟨.load 1 true (.t 3), (some 80), none, []⟩ :: ⟨.load 2 true (.t 4), (some 81), none, []⟩ :: L6_50
theorem v6_51 : VS L6_51.eq_1 := rfl
def L6_52 : List AStep := [⟨.mov (.t 96), (some 2), none, []⟩]
theorem v6_52 : VS L6_52.eq_1 := rfl
def L6_53 : List AStep := ⟨.pick (.t 91) (.c (.bool true)) (.t 94), (some 95), (some (88, true)), []⟩ :: ⟨.pick (.t 88) (.t 95) (.c (.bool false)), (some 96), none, []⟩ :: L6_52
theorem v6_53 : VS L6_53.eq_1 := rfl
def L6_54 : List AStep := ⟨.load 1 true (.t 12), (some 93), (some (91, false)), []⟩ :: ⟨.call 30 [(.t 92), (.t 93)], (some 94), (some (91, false)), []⟩ :: L6_53
theorem v6_54 : VS L6_54.eq_1 := rfl
def L6_55 : List AStep := ⟨.mov (.t 90), (some 91), (some (88, true)), []⟩ :: ⟨.load 1 true (.t 5), (some 92), (some (91, false)), []⟩ :: L6_54
theorem v6_55 : VS L6_55.eq_1 := rfl
def L6_56 : List AStep := ⟨.mov (.t 13), (some 89), (some (88, true)), []⟩ :: ⟨.not (.t 89), (some 90), (some (88, true)), []⟩ :: L6_55
theorem v6_56 : VS L6_56.eq_1 := rfl
def L6_57 : List AStep := ⟨.eqb false (.t 85) (.t 86), (some 87), none, []⟩ :: ⟨.mov (.t 87), (some 88), none, []⟩ :: L6_56
theorem v6_57 : VS L6_57.eq_1 := rfl
def L6_58 : List AStep := ⟨.mov (.t 6), (some 85), none, []⟩ :: ⟨.mov (.t 9), (some 86), none, []⟩ :: L6_57
theorem v6_58 : VS L6_58.eq_1 := rfl
def C6_0 : ACode := .seq (.reg L6_3) .ret
theorem u6_0 : VC C6_0.eq_1 := rfl
def C6_1 : ACode := .cond (.t 16) C6_0 .skip
theorem u6_1 : VC C6_1.eq_1 := rfl
def C6_2 : ACode := .seq (.reg L6_2) C6_1
theorem u6_2 : VC C6_2.eq_1 := rfl
def C6_3 : ACode := .seq (.reg L6_33) .ret
theorem u6_3 : VC C6_3.eq_1 := rfl
def C6_4 : ACode := .cond (.t 52) C6_3 .skip
theorem u6_4 : VC C6_4.eq_1 := rfl
def C6_5 : ACode := .seq (.reg L6_28) C6_4
theorem u6_5 : VC C6_5.eq_1 := rfl
def C6_6 : ACode := .cond (.t 67) .skip (.exit 0)
theorem u6_6 : VC C6_6.eq_1 := rfl
def C6_7 : ACode := .seq (.reg L6_39) C6_6
theorem u6_7 : VC C6_7.eq_1 := rfl
def C6_8 : ACode := .block 1 (.reg L6_44)
theorem u6_8 : VC C6_8.eq_1 := rfl
def C6_9 : ACode := .seq C6_8 (.reg L6_46)
theorem u6_9 : VC C6_9.eq_1 := rfl
def C6_10 : ACode := .seq C6_7 C6_9
theorem u6_10 : VC C6_10.eq_1 := rfl
def C6_11 : ACode := .block 0 (.loop C6_10)
theorem u6_11 : VC C6_11.eq_1 := rfl
def C6_12 : ACode := .seq (.reg L6_37) C6_11
theorem u6_12 : VC C6_12.eq_1 := rfl
def C6_13 : ACode := .seq (.reg L6_58) .ret
theorem u6_13 : VC C6_13.eq_1 := rfl
def C6_14 : ACode := .seq (.reg L6_51) C6_13
theorem u6_14 : VC C6_14.eq_1 := rfl
def C6_15 : ACode := .seq C6_12 C6_14
theorem u6_15 : VC C6_15.eq_1 := rfl
def C6_16 : ACode := .seq (.reg L6_36) C6_15
theorem u6_16 : VC C6_16.eq_1 := rfl
def C6_17 : ACode := .seq (.reg L6_34) C6_16
theorem u6_17 : VC C6_17.eq_1 := rfl
def C6_18 : ACode := .seq C6_5 C6_17
theorem u6_18 : VC C6_18.eq_1 := rfl
def C6_19 : ACode := .seq (.reg L6_18) C6_18
theorem u6_19 : VC C6_19.eq_1 := rfl
def C6_20 : ACode := .seq (.reg L6_13) C6_19
theorem u6_20 : VC C6_20.eq_1 := rfl
def C6_21 : ACode := .seq (.reg L6_8) C6_20
theorem u6_21 : VC C6_21.eq_1 := rfl
def C6_22 : ACode := .seq C6_2 C6_21
theorem u6_22 : VC C6_22.eq_1 := rfl
def C6_23 : ACode := .seq (.reg L6_0) C6_22
theorem u6_23 : VC C6_23.eq_1 := rfl
def F6 : AFunc := ⟨97, [.tmp 2], C6_23⟩
theorem cF6 : compB Try.prog 6 = some F6 := by kernel_rfl
attribute [local go_sem ↓] u6_0 u6_1 u6_2 u6_3 u6_4 u6_5 u6_6 u6_7 u6_8 u6_9 u6_10 u6_11 u6_12 u6_13 u6_14 u6_15 u6_16 u6_17 u6_18 u6_19 u6_20 u6_21 u6_22 u6_23 v6_0 v6_1 v6_2 v6_3 v6_4 v6_5 v6_6 v6_7 v6_8 v6_9 v6_10 v6_11 v6_12 v6_13 v6_14 v6_15 v6_16 v6_17 v6_18 v6_19 v6_20 v6_21 v6_22 v6_23 v6_24 v6_25 v6_26 v6_27 v6_28 v6_29 v6_30 v6_31 v6_32 v6_33 v6_34 v6_35 v6_36 v6_37 v6_38 v6_39 v6_40 v6_41 v6_42 v6_43 v6_44 v6_45 v6_46 v6_47 v6_48 v6_49 v6_50 v6_51 v6_52 v6_53 v6_54 v6_55 v6_56 v6_57 v6_58
theorem law6 (h : H) (avs : List AV) (hok : okVs Try.prog h 6 [ 22 ] avs) : callK (bm Try.prog 6 avs h) fun r _ => r = ib true := by
  obtain ⟨v0, avs, rfl, hv0, hok⟩ := okVs_cons hok
  obtain rfl := okVs_nil hok
  obtain ⟨v, code, rfl, s0, hc, k0⟩ := dBytes hv0
  refine bm_of cF6 ?_
  cases b0 : decide ((code.length : Int) > 1048576) with
  | true => simp +contextual (maxSteps := 2000000) only [go_sem, Nat.reduceEqDiff, reduceCtorEq, Nat.reduceAdd, Nat.reduceLeDiff, F6, s0.len, b0]
  | false =>
  simp +contextual (maxSteps := 2000000) only [go_sem, Nat.reduceEqDiff, reduceCtorEq, Nat.reduceAdd, Nat.reduceLeDiff, F6, s0.len, b0]
  refine wp_call (c_drawBindPart code v h s0 hc) ?_
  rintro q h1 ⟨g1, x, u, w, l, f, rfl, sq, sf, tl, mf⟩
  have sg : SlG h1 x l := ⟨sq⟩
  have ml := tl.mini
  simp +contextual (maxSteps := 2000000) only [go_sem, Nat.reduceEqDiff, reduceCtorEq, Nat.reduceAdd, Nat.reduceLeDiff]
  refine wp_call (k_iBindPart l f x u w h1 sg sf ml mf) ?_
  rintro q h2 ⟨g2, v1, r1, rfl, y1⟩
  have sg2 := sg.grow g2
  have sf2 := sf.grow g2
  simp +contextual (maxSteps := 2000000) only [go_sem, Nat.reduceEqDiff, reduceCtorEq, Nat.reduceAdd, Nat.reduceLeDiff]
  refine wp_call (k_sBindPart l f x u w h2 sg2 sf2 ml mf) ?_
  rintro q h3 ⟨g3, v2, r2, rfl, y2⟩
  have sg3 := sg2.grow g3
  have sf3 := sf2.grow g3
  have eq1 := c_equalBinding (bindPartF l f) v1 v2 h3 (y1.grow g3).sl y2.sl .part
  have ev1 := c_ValidSignature l x h3 sg3.out ml.sm
  have ev2 := c_ValidFlat f u w h3 sf3.pl sf3.nl mf.sm
  cases b1 : okSig l with
  | false =>
    simp +contextual (maxSteps := 2000000) only [go_sem, Nat.reduceEqDiff, reduceCtorEq, Nat.reduceAdd, Nat.reduceLeDiff, eq1, ev1, b1]
    exact gcK_of rfl (fun _ _ => rfl)
  | true =>
  cases b2 : okFlat f with
  | false =>
    simp +contextual (maxSteps := 2000000) only [go_sem, Nat.reduceEqDiff, reduceCtorEq, Nat.reduceAdd, Nat.reduceLeDiff, eq1, ev1, b1, ev2, b2]
    exact gcK_of rfl (fun _ _ => rfl)
  | true =>
  have hf : fits l f = true := by unfold fits; rw [b1, b2]; rfl
  have hpa := part_all hf
  simp +contextual (maxSteps := 2000000) only [go_sem, Nat.reduceEqDiff, reduceCtorEq, Nat.reduceAdd, Nat.reduceLeDiff, eq1, ev1, b1, ev2, b2]
  refine wp_call (k_iProblems l f x u w h3 sg3 sf3 ml mf) ?_
  rintro q h4 ⟨g4, n4⟩
  have hpl : (problemsF l f).length ≤ 1048576 := by
    unfold problemsF
    rw [if_pos hf]
    have h1 := (bound_ok (l := l) b2).bad
    have h2 := missF_len (l := l) (sl := boundS l f) (i := l.length)
    have h3 := okSig_len b1
    have h5 := (okFlat_sm b2).2.1
    simp only [wrong, missing, List.length_append] at h1 ⊢
    omega
  generalize problemsF l f = m at n4 hpa hpl
  have sm := n4.sl lenB
  simp +contextual (maxSteps := 2000000) only [go_sem, Nat.reduceEqDiff, reduceCtorEq, Nat.reduceAdd, Nat.reduceLeDiff]
  refine wpC_loop (fun i T L h' => h' = h4 ∧ T 3 = .lp 3 0 ∧ (L 3).2 = [x] ∧ T 4 = .lp 4 0 ∧ (L 4).2 = [u, w] ∧ T 5 = .lp 5 0 ∧ (L 5).2 = [v1] ∧ T 6 = .v (.one (.bool (partOk l f))) ∧ T 9 = .v (.one (.bool ((m.take i).all fun p => decide (p.kind = 3)))) ∧ T 10 = .v q ∧ T 11 = .v (.one (.int .i64 i))) m.length ?_ ?_ (Nat.zero_le _) ?_
  · rintro i T L h' hi ⟨rfl, t3, l3, t4, l4, t5, l5, t6, t9, t10, t11⟩
    have e1 : ((m.take (i + 1)).all fun p => decide (p.kind = 3)) = (((m.take i).all fun p => decide (p.kind = 3)) && decide (m[i].kind = 3)) := by
      rw [List.take_succ_eq_append_getElem hi, List.all_append]
      simp
    cases e2 : (m.take i).all fun p => decide (p.kind = 3) with
    | true =>
      rw [e2] at t9
      simp +contextual (maxSteps := 2000000) only [go_sem, Nat.reduceEqDiff, reduceCtorEq, Nat.reduceAdd, Nat.reduceLeDiff, t3, l3, t4, l4, t5, l5, t6, t9, t10, t11, sm.len, sm.iaddr hi, sm.fieldO hi, lt_true hi]
      rw [wrap_next hi (by omega), e1, e2]
      exact ⟨rfl, rfl⟩
    | false =>
      rw [e2] at t9
      simp +contextual (maxSteps := 2000000) only [go_sem, Nat.reduceEqDiff, reduceCtorEq, Nat.reduceAdd, Nat.reduceLeDiff, t3, l3, t4, l4, t5, l5, t6, t9, t10, t11, sm.len, lt_true hi]
      rw [wrap_next hi (by omega), e1, e2]
      exact ⟨rfl, rfl⟩
  · rintro T L h' ⟨rfl, t3, l3, t4, l4, t5, l5, t6, t9, t10, t11⟩
    rw [List.take_length, hpa] at t9
    simp +contextual (maxSteps := 2000000) only [go_sem, Nat.reduceEqDiff, reduceCtorEq, Nat.reduceAdd, Nat.reduceLeDiff, t3, l3, t4, l4, t5, l5, t6, t9, t10, t11, sm.len, lt_false]
    refine wp_call (k_iBind l f x u w h' (sg3.grow g4) (sf3.grow g4) ml mf) ?_
    rintro q5 h5 ⟨g5, v5, r5, rfl, y5⟩
    have ebb : ∀ b : Bool, (b == b) = true := fun b => by cases b <;> rfl
    cases b3 : acceptsF l f with
    | false =>
      simp +contextual (maxSteps := 2000000) only [go_sem, Nat.reduceEqDiff, reduceCtorEq, Nat.reduceAdd, Nat.reduceLeDiff, t3, l3, t4, l4, t5, l5, t6, t9, b3, ebb]
      exact gcK_of rfl (fun _ _ => rfl)
    | true =>
      rw [(accepts_part b3).2] at y5
      have eq2 := c_equalBinding (bindPartF l f) v1 v5 h5 (((y1.grow g3).grow g4).grow g5).sl y5.sl .part
      simp +contextual (maxSteps := 2000000) only [go_sem, Nat.reduceEqDiff, reduceCtorEq, Nat.reduceAdd, Nat.reduceLeDiff, t3, l3, t4, l4, t5, l5, t6, t9, b3, ebb, eq2]
      exact gcK_of rfl (fun _ _ => rfl)
  · simp +contextual (maxSteps := 2000000) only [go_sem, Nat.reduceEqDiff, reduceCtorEq, Nat.reduceAdd, Nat.reduceLeDiff]
    exact ⟨rfl, rfl⟩
end Go.Proofs.Ytekkimfdcbgcoab.Am
