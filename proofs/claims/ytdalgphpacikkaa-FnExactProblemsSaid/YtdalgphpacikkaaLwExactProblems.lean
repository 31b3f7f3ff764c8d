/- The law FnExactProblems. -/
import Derived.Test.YtdalgphpacikkaaK2
import Derived.Test.YtdalgphpacikkaaBL
namespace Go.Proofs.Ytdalgphpacikkaa.Am
open Go
set_option maxRecDepth 100000
set_option maxHeartbeats 4000000
set_option linter.unusedSimpArgs false
set_option linter.unusedVariables false
attribute [local go_sem ↓] bv_t bv_c ev_t ev_c put_same put_ne put_none kill_at pro_at lb_same lb_ne start_zero start_succ wpC_seq wpC_reg wpC_cond wpC_block wpC_skip wpC_exit wpC_ret thenQ_normal thenQ_exit thenQ_ret inBlk_normal inBlk_exit inBlk_ret wpS_nil wpS_step wpS_again wpS_guard wpO_mov wpO_load wpO_faddr wpO_nilCheck wpO_pick wpO_build wpO_bin wpO_eqb wpO_eqst wpO_eqnil wpO_not wpO_conv wpO_bytesStr wpO_iaddr wpO_idxStr wpO_field wpO_extract wpO_len wpO_lenStr wpO_cap wpO_min wpO_slice wpO_sliceStr wpO_alloc wpO_box wpO_store wpO_call wpO_callv wpO_mkfn wpO_buildSlice wpO_mkslice wpO_append wpO_appz proA_nil proA_cons tmpX_nil tmpX_tmp tmpX_cell doneB_normal doneB_ret agK_cons agK_nil agK_guard agG_tt agG_ff agG_tf agG_ft agG_undef pureB_load results_one results_two results_nil resBs_cons resBs_nil resB_tmp resB_cell
attribute [local go_sem] kill_v kill_lp_ne kill_lp_same pro_v pro_lp_same pro_lp_ne av_v av_lp optB_some optX_some valX_eq ldX_lp ldX_v faX_lp faX_v ncX_lp ncX_ptr ncX_fn boxK_one boxK_agg stL_some stK_lp_one stK_lp_agg stK_v_one stK_v_agg proM_v proM_lp callG_mk callVG_mk callvK_fn fnG_mk ptrsA_nil ptrsA_cons callH_some whenA_true whenA_false guardH_tt guardH_ff guardH_tf guardH_ft guardH_undef agV_one agV_agg lenO_sl lenStrO_str notO_bool pickO_bool convO_int eqbO_bool eqnilO_sl extractO_tup capO_sl minO_int loadL_one loadL_all storeL_eq fillA_nil fillA_one fillA_agg nat_ge neg_ge nat_lt neg_lt buildO bin_add bin_sub bin_mul bin_eql bin_neq bin_lss bin_leq bin_gtr bin_geq str_eql str_neq str_lss str_leq str_gtr str_geq retK_some endK_mk gcK_same gcK_int gcK_bool tupO_one tupO_agg rdy_self ib ii Option.map_none Option.map_some Option.some.injEq exists_eq_left' exists_eq_left ne_eq not_false_eq_true if_true if_false List.map_cons List.map_nil List.getElem?_cons_zero List.getElem?_cons_succ List.length_cons List.length_nil List.take_succ_cons List.take_zero List.take_nil List.drop_succ_cons List.drop_zero List.drop_nil List.cons_append List.nil_append List.append_nil List.set_cons_zero List.set_cons_succ Nat.zero_add forall_const true_and and_true and_self Bool.false_eq_true false_implies true_implies implies_true Bool.not_true Bool.not_false Bool.not_eq_true' Bool.not_eq_false' beq_self_eq_true Bool.bne_true Bool.bne_false
attribute [local go_sem] lenI lenS lenP lenQ lenB lenL lenT encI_0 encS_0 encP_0 encP_1 encQ_0 encQ_1 encQ_2 encQ_3 encB_0 encB_1 encL_0 encL_1 encT_0 encT_1
attribute [local go_sem low] whenA_bool guardH_bool
/-! laws.FnExactProblems -/
def L6_0 : List AStep := [⟨.mov (.c (.bool false)), (some 4), none, []⟩]
theorem v6_0 : VS L6_0.eq_1 := rfl
def L6_1 : List AStep := ⟨.box 24 (.t 0), (some 2), none, []⟩ :: ⟨.box 28 (.t 1), (some 3), none, []⟩ :: L6_0
theorem v6_1 : VS L6_1.eq_1 := rfl
def L6_2 : List AStep := [⟨.mov (.c (.int .i64 1048576)), (some 5), none, []⟩]
theorem v6_2 : VS L6_2.eq_1 := rfl
def L6_3 : List AStep := [⟨.call 8 [(.t 14), (.t 15)], (some 16), none, []⟩, ⟨.mov (.t 16), (some 5), none, []⟩]
theorem v6_3 : VS L6_3.eq_1 := rfl
def L6_4 : List AStep := ⟨.load 1 true (.t 2), (some 14), none, []⟩ :: ⟨.mov (.t 5), (some 15), none, []⟩ :: L6_3
theorem v6_4 : VS L6_4.eq_1 := rfl
def L6_5 : List AStep := [⟨.mov (.t 5), (some 17), none, []⟩, ⟨.bin .lss (.t 17) (.c (.int .i64 0)), (some 18), none, []⟩]
theorem v6_5 : VS L6_5.eq_1 := rfl
def L6_6 : List AStep := [⟨.mov (.c (.bool true)), (some 4), none, []⟩]
theorem v6_6 : VS L6_6.eq_1 := rfl
def L6_7 : List AStep := [⟨.call 9 [(.t 19), (.t 20)], (some 21), none, []⟩, ⟨.mov (.t 21), (some 5), none, []⟩]
theorem v6_7 : VS L6_7.eq_1 := rfl
def L6_8 : List AStep := ⟨.load 2 true (.t 3), (some 19), none, []⟩ :: ⟨.mov (.t 5), (some 20), none, []⟩ :: L6_7
theorem v6_8 : VS L6_8.eq_1 := rfl
def L6_9 : List AStep := [⟨.mov (.t 5), (some 22), none, []⟩, ⟨.bin .lss (.t 22) (.c (.int .i64 0)), (some 23), none, []⟩]
theorem v6_9 : VS L6_9.eq_1 := rfl
def L6_10 : List AStep := [⟨.mov (.c (.bool true)), (some 4), none, []⟩]
theorem v6_10 : VS L6_10.eq_1 := rfl
def L6_11 : List AStep := [⟨.call 25 [(.t 25), (.t 27)], (some 28), none, []⟩, ⟨.mov (.t 28), (some 6), none, []⟩]
theorem v6_11 : VS L6_11.eq_1 := rfl
def L6_12 : List AStep := ⟨.call 11 [(.t 24)], (some 25), none, [(.load 2 true (.t 3), (some 26), none)]⟩ :: ⟨.call 12 [(.t 26)], (some 27), none, []⟩ :: L6_11
theorem v6_12 : VS L6_12.eq_1 := rfl
def L6_13 : List AStep := ⟨.load 1 true (.t 2), (some 24), none, []⟩ :: ⟨.load 2 true (.t 3), (some 26), none, []⟩ :: L6_12
theorem v6_13 : VS L6_13.eq_1 := rfl
def L6_14 : List AStep := [⟨.alloc 38 [(.sl none 0 (some 0))], (some 7), none, []⟩, ⟨.store 1 (.t 7) (.t 30), none, none, []⟩]
theorem v6_14 : VS L6_14.eq_1 := rfl
def L6_15 : List AStep := ⟨.load 1 true (.t 2), (some 29), none, []⟩ :: ⟨.call 11 [(.t 29)], (some 30), none, []⟩ :: L6_14
theorem v6_15 : VS L6_15.eq_1 := rfl
def L6_16 : List AStep := [⟨.alloc 42 [(.sl none 0 (some 0)), (.sl none 0 (some 0))], (some 8), none, []⟩, ⟨.store 2 (.t 8) (.t 32), none, none, []⟩]
theorem v6_16 : VS L6_16.eq_1 := rfl
def L6_17 : List AStep := ⟨.load 2 true (.t 3), (some 31), none, []⟩ :: ⟨.call 12 [(.t 31)], (some 32), none, []⟩ :: L6_16
theorem v6_17 : VS L6_17.eq_1 := rfl
def L6_18 : List AStep := [⟨.call 26 [(.t 33), (.t 34)], (some 35), none, []⟩, ⟨.mov (.t 35), (some 9), none, []⟩]
theorem v6_18 : VS L6_18.eq_1 := rfl
def L6_19 : List AStep := ⟨.load 1 true (.t 7), (some 33), none, []⟩ :: ⟨.load 2 true (.t 8), (some 34), none, []⟩ :: L6_18
theorem v6_19 : VS L6_19.eq_1 := rfl
def L6_20 : List AStep := [⟨.call 27 [(.t 36), (.t 37)], (some 38), none, []⟩, ⟨.not (.t 38), (some 39), none, []⟩]
theorem v6_20 : VS L6_20.eq_1 := rfl
def L6_21 : List AStep := ⟨.mov (.t 9), (some 36), none, []⟩ :: ⟨.mov (.t 6), (some 37), none, []⟩ :: L6_20
theorem v6_21 : VS L6_21.eq_1 := rfl
def L6_22 : List AStep := [⟨.mov (.c (.bool false)), (some 4), none, []⟩]
theorem v6_22 : VS L6_22.eq_1 := rfl
def L6_23 : List AStep := [⟨.not (.t 43), (some 44), none, []⟩]
theorem v6_23 : VS L6_23.eq_1 := rfl
def L6_24 : List AStep := ⟨.call 11 [(.t 41)], (some 42), none, [(.load 1 true (.t 7), (some 40), none)]⟩ :: ⟨.call 15 [(.t 40), (.t 42)], (some 43), none, []⟩ :: L6_23
theorem v6_24 : VS L6_24.eq_1 := rfl
def L6_25 : List AStep := ⟨.load 1 true (.t 7), (some 40), none, []⟩ :: ⟨.load 1 true (.t 2), (some 41), none, []⟩ :: L6_24
theorem v6_25 : VS L6_25.eq_1 := rfl
def L6_26 : List AStep := [⟨.mov (.c (.bool false)), (some 4), none, []⟩]
theorem v6_26 : VS L6_26.eq_1 := rfl
def L6_27 : List AStep := [⟨.not (.t 48), (some 49), none, []⟩]
theorem v6_27 : VS L6_27.eq_1 := rfl
def L6_28 : List AStep := ⟨.call 12 [(.t 46)], (some 47), none, [(.load 2 true (.t 8), (some 45), none)]⟩ :: ⟨.call 16 [(.t 45), (.t 47)], (some 48), none, []⟩ :: L6_27
theorem v6_28 : VS L6_28.eq_1 := rfl
def L6_29 : List AStep := ⟨.load 2 true (.t 8), (some 45), none, []⟩ :: ⟨.load 2 true (.t 3), (some 46), none, []⟩ :: L6_28
theorem v6_29 : VS L6_29.eq_1 := rfl
def L6_30 : List AStep := [⟨.mov (.c (.bool false)), (some 4), none, []⟩]
theorem v6_30 : VS L6_30.eq_1 := rfl
def L6_31 : List AStep := [⟨.mov (.c (.int .i64 1)), (some 10), none, []⟩]
theorem v6_31 : VS L6_31.eq_1 := rfl
def L6_32 : List AStep := [⟨.call 17 [(.t 50), (.t 51)], (some 52), none, []⟩, ⟨.mov (.t 52), (some 10), none, []⟩]
theorem v6_32 : VS L6_32.eq_1 := rfl
def L6_33 : List AStep := ⟨.load 1 true (.t 7), (some 50), none, []⟩ :: ⟨.mov (.t 10), (some 51), none, []⟩ :: L6_32
theorem v6_33 : VS L6_33.eq_1 := rfl
def L6_34 : List AStep := [⟨.call 18 [(.t 53), (.t 54)], (some 55), none, []⟩, ⟨.mov (.t 55), (some 10), none, []⟩]
theorem v6_34 : VS L6_34.eq_1 := rfl
def L6_35 : List AStep := ⟨.load 2 true (.t 8), (some 53), none, []⟩ :: ⟨.mov (.t 10), (some 54), none, []⟩ :: L6_34
theorem v6_35 : VS L6_35.eq_1 := rfl
def L6_36 : List AStep := [⟨.not (.t 61), (some 62), (some (58, false)), []⟩, ⟨.pick (.t 58) (.c (.bool true)) (.t 62), (some 63), none, []⟩]
theorem v6_36 : VS L6_36.eq_1 := rfl
def L6_37 : List AStep := ⟨.mov (.t 6), (some 60), (some (58, false)), []⟩ :: ⟨.call 27 [(.t 59), (.t 60)], (some 61), (some (58, false)), []⟩ :: L6_36
theorem v6_37 : VS L6_37.eq_1 := rfl
def L6_38 : List AStep := ⟨.mov (.t 57), (some 58), none, []⟩ :: ⟨.mov (.t 9), (some 59), (some (58, false)), []⟩ :: L6_37
theorem v6_38 : VS L6_38.eq_1 := rfl
def L6_39 : List AStep := ⟨.mov (.t 10), (some 56), none, []⟩ :: ⟨.bin .lss (.t 56) (.c (.int .i64 0)), (some 57), none, []⟩ :: L6_38
theorem v6_39 : VS L6_39.eq_1 := rfl
def L6_40 : List AStep := [⟨.mov (.c (.bool false)), (some 4), none, []⟩]
theorem v6_40 : VS L6_40.eq_1 := rfl
def L6_41 : List AStep := [⟨.mov (.c (.int .i64 1)), (some 11), none, []⟩]
theorem v6_41 : VS L6_41.eq_1 := rfl
def L6_42 : List AStep := [⟨.call 28 [(.t 64), (.t 65)], (some 66), none, []⟩, ⟨.mov (.t 66), (some 11), none, []⟩]
theorem v6_42 : VS L6_42.eq_1 := rfl
def L6_43 : List AStep := ⟨.mov (.t 9), (some 64), none, []⟩ :: ⟨.mov (.t 11), (some 65), none, []⟩ :: L6_42
theorem v6_43 : VS L6_43.eq_1 := rfl
def L6_44 : List AStep := [⟨.mov (.c (.int .i64 1)), (some 12), none, []⟩]
theorem v6_44 : VS L6_44.eq_1 := rfl
def L6_45 : List AStep := [⟨.call 29 [(.t 67), (.t 68)], (some 69), none, []⟩, ⟨.mov (.t 69), (some 12), none, []⟩]
theorem v6_45 : VS L6_45.eq_1 := rfl
def L6_46 : List AStep := ⟨.mov (.t 9), (some 67), none, []⟩ :: ⟨.mov (.t 12), (some 68), none, []⟩ :: L6_45
theorem v6_46 : VS L6_46.eq_1 := rfl
def L6_47 : List AStep := [⟨.mov (.t 12), (some 70), none, []⟩, ⟨.bin .lss (.t 70) (.c (.int .i64 0)), (some 71), none, []⟩]
theorem v6_47 : VS L6_47.eq_1 := rfl
def L6_48 : List AStep := [⟨.mov (.c (.bool false)), (some 4), none, []⟩]
theorem v6_48 : VS L6_48.eq_1 := rfl
def L6_49 : List AStep := [⟨.bin .neq (.t 72) (.t 73), (some 74), none, []⟩]
theorem v6_49 : VS L6_49.eq_1 := rfl
def L6_50 : List AStep := ⟨.mov (.t 12), (some 72), none, []⟩ :: ⟨.mov (.t 11), (some 73), none, []⟩ :: L6_49
theorem v6_50 : VS L6_50.eq_1 := rfl
def L6_51 : List AStep := [⟨.mov (.c (.bool false)), (some 4), none, []⟩]
theorem v6_51 : VS L6_51.eq_1 := rfl
def L6_52 : List AStep := [⟨.call 26 [(.t 76), (.t 78)], (some 79), none, []⟩, ⟨.mov (.t 79), (some 13), none, []⟩]
theorem v6_52 : VS L6_52.eq_1 := rfl
def L6_53 : List AStep := ⟨.call 11 [(.t 75)], (some 76), none, [(.load 2 true (.t 3), (some 77), none)]⟩ :: ⟨.call 12 [(.t 77)], (some 78), none, []⟩ :: L6_52
theorem v6_53 : VS L6_53.eq_1 := rfl
def L6_54 : List AStep := ⟨.load 1 true (.t 2), (some 75), none, []⟩ :: ⟨.load 2 true (.t 3), (some 77), none, []⟩ :: L6_53
theorem v6_54 : VS L6_54.eq_1 := rfl
def L6_55 : List AStep := [⟨.call 27 [(.t 80), (.t 81)], (some 82), none, []⟩, ⟨.not (.t 82), (some 83), none, []⟩]
theorem v6_55 : VS L6_55.eq_1 := rfl
def L6_56 : List AStep := ⟨.mov (.t 13), (some 80), none, []⟩ :: ⟨.mov (.t 6), (some 81), none, []⟩ :: L6_55
theorem v6_56 : VS L6_56.eq_1 := rfl
def L6_57 : List AStep := [⟨.mov (.c (.bool false)), (some 4), none, []⟩]
theorem v6_57 : VS L6_57.eq_1 := rfl
def L6_58 : List AStep := [⟨.mov (.c (.int .i64 1)), (some 12), none, []⟩]
theorem v6_58 : VS L6_58.eq_1 := rfl
def L6_59 : List AStep := [⟨.call 29 [(.t 84), (.t 85)], (some 86), none, []⟩, ⟨.mov (.t 86), (some 12), none, []⟩]
theorem v6_59 : VS L6_59.eq_1 := rfl
def L6_60 : List AStep := ⟨.mov (.t 9), (some 84), none, []⟩ :: ⟨.mov (.t 12), (some 85), none, []⟩ :: L6_59
theorem v6_60 : VS L6_60.eq_1 := rfl
def L6_61 : List AStep := [⟨.mov (.t 12), (some 87), none, []⟩, ⟨.bin .lss (.t 87) (.c (.int .i64 0)), (some 88), none, []⟩]
theorem v6_61 : VS L6_61.eq_1 := rfl
def L6_62 : List AStep := [⟨.mov (.c (.bool false)), (some 4), none, []⟩]
theorem v6_62 : VS L6_62.eq_1 := rfl
def L6_63 : List AStep := [⟨.bin .neq (.t 89) (.t 90), (some 91), none, []⟩]
theorem v6_63 : VS L6_63.eq_1 := rfl
def L6_64 : List AStep := ⟨.mov (.t 12), (some 89), none, []⟩ :: ⟨.mov (.t 11), (some 90), none, []⟩ :: L6_63
theorem v6_64 : VS L6_64.eq_1 := rfl
def L6_65 : List AStep := [⟨.mov (.c (.bool false)), (some 4), none, []⟩]
theorem v6_65 : VS L6_65.eq_1 := rfl
def L6_66 : List AStep := [⟨.mov (.c (.bool true)), (some 4), none, []⟩]
theorem v6_66 : VS L6_66.eq_1 := rfl
def C6_0 : ACode := .seq (.reg L6_6) .ret
theorem u6_0 : VC C6_0.eq_1 := rfl
def C6_1 : ACode := .cond (.t 18) C6_0 .skip
theorem u6_1 : VC C6_1.eq_1 := rfl
def C6_2 : ACode := .seq (.reg L6_5) C6_1
theorem u6_2 : VC C6_2.eq_1 := rfl
def C6_3 : ACode := .seq (.reg L6_10) .ret
theorem u6_3 : VC C6_3.eq_1 := rfl
def C6_4 : ACode := .cond (.t 23) C6_3 .skip
theorem u6_4 : VC C6_4.eq_1 := rfl
def C6_5 : ACode := .seq (.reg L6_9) C6_4
theorem u6_5 : VC C6_5.eq_1 := rfl
def C6_6 : ACode := .seq (.reg L6_22) .ret
theorem u6_6 : VC C6_6.eq_1 := rfl
def C6_7 : ACode := .cond (.t 39) C6_6 .skip
theorem u6_7 : VC C6_7.eq_1 := rfl
def C6_8 : ACode := .seq (.reg L6_21) C6_7
theorem u6_8 : VC C6_8.eq_1 := rfl
def C6_9 : ACode := .seq (.reg L6_26) .ret
theorem u6_9 : VC C6_9.eq_1 := rfl
def C6_10 : ACode := .cond (.t 44) C6_9 .skip
theorem u6_10 : VC C6_10.eq_1 := rfl
def C6_11 : ACode := .seq (.reg L6_25) C6_10
theorem u6_11 : VC C6_11.eq_1 := rfl
def C6_12 : ACode := .seq (.reg L6_30) .ret
theorem u6_12 : VC C6_12.eq_1 := rfl
def C6_13 : ACode := .cond (.t 49) C6_12 .skip
theorem u6_13 : VC C6_13.eq_1 := rfl
def C6_14 : ACode := .seq (.reg L6_29) C6_13
theorem u6_14 : VC C6_14.eq_1 := rfl
def C6_15 : ACode := .seq (.reg L6_40) .ret
theorem u6_15 : VC C6_15.eq_1 := rfl
def C6_16 : ACode := .cond (.t 63) C6_15 .skip
theorem u6_16 : VC C6_16.eq_1 := rfl
def C6_17 : ACode := .seq (.reg L6_39) C6_16
theorem u6_17 : VC C6_17.eq_1 := rfl
def C6_18 : ACode := .seq (.reg L6_48) .ret
theorem u6_18 : VC C6_18.eq_1 := rfl
def C6_19 : ACode := .cond (.t 71) C6_18 .skip
theorem u6_19 : VC C6_19.eq_1 := rfl
def C6_20 : ACode := .seq (.reg L6_47) C6_19
theorem u6_20 : VC C6_20.eq_1 := rfl
def C6_21 : ACode := .seq (.reg L6_51) .ret
theorem u6_21 : VC C6_21.eq_1 := rfl
def C6_22 : ACode := .cond (.t 74) C6_21 .skip
theorem u6_22 : VC C6_22.eq_1 := rfl
def C6_23 : ACode := .seq (.reg L6_50) C6_22
theorem u6_23 : VC C6_23.eq_1 := rfl
def C6_24 : ACode := .seq (.reg L6_57) .ret
theorem u6_24 : VC C6_24.eq_1 := rfl
def C6_25 : ACode := .cond (.t 83) C6_24 .skip
theorem u6_25 : VC C6_25.eq_1 := rfl
def C6_26 : ACode := .seq (.reg L6_56) C6_25
theorem u6_26 : VC C6_26.eq_1 := rfl
def C6_27 : ACode := .seq (.reg L6_62) .ret
theorem u6_27 : VC C6_27.eq_1 := rfl
def C6_28 : ACode := .cond (.t 88) C6_27 .skip
theorem u6_28 : VC C6_28.eq_1 := rfl
def C6_29 : ACode := .seq (.reg L6_61) C6_28
theorem u6_29 : VC C6_29.eq_1 := rfl
def C6_30 : ACode := .seq (.reg L6_65) .ret
theorem u6_30 : VC C6_30.eq_1 := rfl
def C6_31 : ACode := .cond (.t 91) C6_30 .skip
theorem u6_31 : VC C6_31.eq_1 := rfl
def C6_32 : ACode := .seq (.reg L6_64) C6_31
theorem u6_32 : VC C6_32.eq_1 := rfl
def C6_33 : ACode := .seq (.reg L6_66) .ret
theorem u6_33 : VC C6_33.eq_1 := rfl
def C6_34 : ACode := .seq C6_32 C6_33
theorem u6_34 : VC C6_34.eq_1 := rfl
def C6_35 : ACode := .seq C6_29 C6_34
theorem u6_35 : VC C6_35.eq_1 := rfl
def C6_36 : ACode := .seq (.reg L6_60) C6_35
theorem u6_36 : VC C6_36.eq_1 := rfl
def C6_37 : ACode := .seq (.reg L6_58) C6_36
theorem u6_37 : VC C6_37.eq_1 := rfl
def C6_38 : ACode := .seq C6_26 C6_37
theorem u6_38 : VC C6_38.eq_1 := rfl
def C6_39 : ACode := .seq (.reg L6_54) C6_38
theorem u6_39 : VC C6_39.eq_1 := rfl
def C6_40 : ACode := .seq C6_23 C6_39
theorem u6_40 : VC C6_40.eq_1 := rfl
def C6_41 : ACode := .seq C6_20 C6_40
theorem u6_41 : VC C6_41.eq_1 := rfl
def C6_42 : ACode := .seq (.reg L6_46) C6_41
theorem u6_42 : VC C6_42.eq_1 := rfl
def C6_43 : ACode := .seq (.reg L6_44) C6_42
theorem u6_43 : VC C6_43.eq_1 := rfl
def C6_44 : ACode := .seq (.reg L6_43) C6_43
theorem u6_44 : VC C6_44.eq_1 := rfl
def C6_45 : ACode := .seq (.reg L6_41) C6_44
theorem u6_45 : VC C6_45.eq_1 := rfl
def C6_46 : ACode := .seq C6_17 C6_45
theorem u6_46 : VC C6_46.eq_1 := rfl
def C6_47 : ACode := .seq (.reg L6_35) C6_46
theorem u6_47 : VC C6_47.eq_1 := rfl
def C6_48 : ACode := .seq (.reg L6_33) C6_47
theorem u6_48 : VC C6_48.eq_1 := rfl
def C6_49 : ACode := .seq (.reg L6_31) C6_48
theorem u6_49 : VC C6_49.eq_1 := rfl
def C6_50 : ACode := .seq C6_14 C6_49
theorem u6_50 : VC C6_50.eq_1 := rfl
def C6_51 : ACode := .seq C6_11 C6_50
theorem u6_51 : VC C6_51.eq_1 := rfl
def C6_52 : ACode := .seq C6_8 C6_51
theorem u6_52 : VC C6_52.eq_1 := rfl
def C6_53 : ACode := .seq (.reg L6_19) C6_52
theorem u6_53 : VC C6_53.eq_1 := rfl
def C6_54 : ACode := .seq (.reg L6_17) C6_53
theorem u6_54 : VC C6_54.eq_1 := rfl
def C6_55 : ACode := .seq (.reg L6_15) C6_54
theorem u6_55 : VC C6_55.eq_1 := rfl
def C6_56 : ACode := .seq (.reg L6_13) C6_55
theorem u6_56 : VC C6_56.eq_1 := rfl
def C6_57 : ACode := .seq C6_5 C6_56
theorem u6_57 : VC C6_57.eq_1 := rfl
def C6_58 : ACode := .seq (.reg L6_8) C6_57
theorem u6_58 : VC C6_58.eq_1 := rfl
def C6_59 : ACode := .seq C6_2 C6_58
theorem u6_59 : VC C6_59.eq_1 := rfl
def C6_60 : ACode := .seq (.reg L6_4) C6_59
theorem u6_60 : VC C6_60.eq_1 := rfl
def C6_61 : ACode := .seq (.reg L6_2) C6_60
theorem u6_61 : VC C6_61.eq_1 := rfl
def C6_62 : ACode := .seq (.reg L6_1) C6_61
theorem u6_62 : VC C6_62.eq_1 := rfl
def F6 : AFunc := ⟨92, [.tmp 4], C6_62⟩
theorem cF6 : compB Try.prog 6 = some F6 := by kernel_rfl
attribute [local go_sem ↓] u6_0 u6_1 u6_2 u6_3 u6_4 u6_5 u6_6 u6_7 u6_8 u6_9 u6_10 u6_11 u6_12 u6_13 u6_14 u6_15 u6_16 u6_17 u6_18 u6_19 u6_20 u6_21 u6_22 u6_23 u6_24 u6_25 u6_26 u6_27 u6_28 u6_29 u6_30 u6_31 u6_32 u6_33 u6_34 u6_35 u6_36 u6_37 u6_38 u6_39 u6_40 u6_41 u6_42 u6_43 u6_44 u6_45 u6_46 u6_47 u6_48 u6_49 u6_50 u6_51 u6_52 u6_53 u6_54 u6_55 u6_56 u6_57 u6_58 u6_59 u6_60 u6_61 u6_62 v6_0 v6_1 v6_2 v6_3 v6_4 v6_5 v6_6 v6_7 v6_8 v6_9 v6_10 v6_11 v6_12 v6_13 v6_14 v6_15 v6_16 v6_17 v6_18 v6_19 v6_20 v6_21 v6_22 v6_23 v6_24 v6_25 v6_26 v6_27 v6_28 v6_29 v6_30 v6_31 v6_32 v6_33 v6_34 v6_35 v6_36 v6_37 v6_38 v6_39 v6_40 v6_41 v6_42 v6_43 v6_44 v6_45 v6_46 v6_47 v6_48 v6_49 v6_50 v6_51 v6_52 v6_53 v6_54 v6_55 v6_56 v6_57 v6_58 v6_59 v6_60 v6_61 v6_62 v6_63 v6_64 v6_65 v6_66
theorem law6 (h : H) (avs : List AV) (hok : okVs Try.prog h 6 [ 24, 28 ] avs) : callK (bm Try.prog 6 avs h) fun r _ => r = ib true := by
  obtain ⟨v0, avs, rfl, hv0, hok⟩ := okVs_cons hok
  obtain ⟨v1, avs, rfl, hv1, hok⟩ := okVs_cons hok
  obtain rfl := okVs_nil hok
  obtain ⟨p0, x0, rfl, d0⟩ := dG hv0
  obtain ⟨p1, n1, x1, rfl, d1⟩ := dF hv1
  refine bm_of cF6 ?_
  have z0 := k_szG x0 p0 1048576 h (by omega) (by omega) d0
  by_cases y0 : szr 1048576 (wtG x0) < 0
  · simp +contextual (maxSteps := 2000000) only [go_sem, Nat.reduceEqDiff, reduceCtorEq, Nat.reduceAdd, Nat.reduceLeDiff, F6, z0, decide_eq_true y0]
  have z1 := k_szF x1 p1 n1 (szr 1048576 (wtG x0)) h (by omega) (by unfold szr; split <;> omega) d1
  by_cases y1 : szr (szr 1048576 (wtG x0)) (wtF x1) < 0
  · simp +contextual (maxSteps := 2000000) only [go_sem, Nat.reduceEqDiff, reduceCtorEq, Nat.reduceAdd, Nat.reduceLeDiff, F6, z0, z1, decide_eq_false y0, decide_eq_true y1]
  obtain ⟨e0, u0⟩ := szr_ge y0
  obtain ⟨e1, u1⟩ := szr_ge y1
  have s0 : miniG x0 := wtG_sm (by omega)
  have s1 : miniF x1 := wtF_sm (by omega)
  have hR : miniO (problemsF x0 x1) := .problems
  simp +contextual (maxSteps := 2000000) only [go_sem, Nat.reduceEqDiff, reduceCtorEq, Nat.reduceAdd, Nat.reduceLeDiff, F6, z0, z1, decide_eq_false y0, decide_eq_false y1]
  refine wp_call (k_toG x0 p0 h (d0.grow (Grow.refl h)) s0) ?_
  rintro r h1 ⟨g1, p0a, rfl, a0a⟩
  simp +contextual (maxSteps := 2000000) only [go_sem, Nat.reduceEqDiff, reduceCtorEq, Nat.reduceAdd, Nat.reduceLeDiff]
  refine wp_call (k_toF x1 p1 n1 h1 (d1.grow ((Grow.refl h).trans g1)) s1) ?_
  rintro r h2 ⟨g2, p1a, n1a, rfl, a1a⟩
  simp +contextual (maxSteps := 2000000) only [go_sem, Nat.reduceEqDiff, reduceCtorEq, Nat.reduceAdd, Nat.reduceLeDiff]
  refine wp_call (o_sProblems x0 x1 p0a p1a n1a h2 (a0a.sl.grow g2) (a1a.sl) s0 s1) ?_
  rintro r h3 ⟨g3, pw, rfl, w0⟩
  simp +contextual (maxSteps := 2000000) only [go_sem, Nat.reduceEqDiff, reduceCtorEq, Nat.reduceAdd, Nat.reduceLeDiff]
  refine wp_call (k_toG x0 p0 h3 (d0.grow ((((Grow.refl h).trans g1).trans g2).trans g3)) s0) ?_
  rintro r h4 ⟨g4, p0b, rfl, a0b⟩
  simp +contextual (maxSteps := 2000000) only [go_sem, Nat.reduceEqDiff, reduceCtorEq, Nat.reduceAdd, Nat.reduceLeDiff]
  refine wp_call (k_toF x1 p1 n1 h4 (d1.grow (((((Grow.refl h).trans g1).trans g2).trans g3).trans g4)) s1) ?_
  rintro r h5 ⟨g5, p1b, n1b, rfl, a1b⟩
  simp +contextual (maxSteps := 2000000) only [go_sem, Nat.reduceEqDiff, reduceCtorEq, Nat.reduceAdd, Nat.reduceLeDiff]
  refine wp_call (o_iProblems x0 x1 p0b p1b n1b h5 (a0b.sl.grow g5) (a1b.sl) s0 s1) ?_
  rintro r h6 ⟨g6, pg, rfl, b0⟩
  have q0 := k_eqO (problemsF x0 x1) (problemsF x0 x1) pg pw h6 (b0.sl) (w0.sl.grow ((g4.trans g5).trans g6)) hR
  simp +contextual (maxSteps := 2000000) only [go_sem, Nat.reduceEqDiff, reduceCtorEq, Nat.reduceAdd, Nat.reduceLeDiff, q0, decide_true]
  refine wp_call (k_toG x0 p0 h6 (d0.grow (((((((Grow.refl h).trans g1).trans g2).trans g3).trans g4).trans g5).trans g6)) s0) ?_
  rintro r h7 ⟨g7, p0c, rfl, a0c⟩
  have q1 := k_eqG x0 x0 p0b p0c h7 (a0b.sl.grow ((g5.trans g6).trans g7)) a0c.sl s0
  simp +contextual (maxSteps := 2000000) only [go_sem, Nat.reduceEqDiff, reduceCtorEq, Nat.reduceAdd, Nat.reduceLeDiff, q1, decide_true]
  refine wp_call (k_toF x1 p1 n1 h7 (d1.grow ((((((((Grow.refl h).trans g1).trans g2).trans g3).trans g4).trans g5).trans g6).trans g7)) s1) ?_
  rintro r h8 ⟨g8, p1c, n1c, rfl, a1c⟩
  have q2 := k_eqF x1 x1 p1b n1b p1c n1c h8 (a1b.sl.grow ((g6.trans g7).trans g8)) a1c.sl s1
  simp +contextual (maxSteps := 2000000) only [go_sem, Nat.reduceEqDiff, reduceCtorEq, Nat.reduceAdd, Nat.reduceLeDiff, q2, decide_true]
  have k0 := cellsG_le s0
  have k1 := cellsF_le s1
  have G8 : Grow h3 h8 := ((((g4.trans g5).trans g6).trans g7).trans g8)
  refine wp_call (k_markG x0 p0b 1 h3 h4 h8 ((a0b.grow (((g5.trans g6).trans g7).trans g8))) a0b G8 (by omega) (by omega) s0) ?_
  rintro r h9 ⟨rfl, G80, m0, N0⟩
  have M0 := N0
  simp +contextual (maxSteps := 2000000) only [go_sem, Nat.reduceEqDiff, reduceCtorEq, Nat.reduceAdd, Nat.reduceLeDiff]
  refine wp_call (k_markF x1 p1b n1b _ h3 h5 h9 (((a1b.grow ((g6.trans g7).trans g8)).mid M0 (Nat.le_refl _)).from g4.n) (a1b.from g4.n) G80 (by omega) (by omega) s1) ?_
  rintro r h10 ⟨rfl, G81, m1, N1⟩
  have M1 : Mid h3.n h5.n h8 h10 := (M0.widen g5.n).trans N1
  have b1 := (b0.grow (g7.trans g8)).mid M1 (Nat.le_refl _)
  have w1 := w0.grow G81
  have qa := k_eqO (problemsF x0 x1) (problemsF x0 x1) pg pw h10 (b1.sl) (w1.sl) hR
  simp +contextual (maxSteps := 2000000) only [go_sem, Nat.reduceEqDiff, reduceCtorEq, Nat.reduceAdd, Nat.reduceLeDiff, qa, decide_true, decide_eq_false (show ¬ ((1 : Int) + (cellsG x0 : Nat) + (cellsF x1 : Nat) < 0) by omega)]
  have kr := cellsO_le hR
  have lh : h3.n ≤ h5.n := (g4.trans g5).n
  refine wp_call (k_markO (problemsF x0 x1) pg 1 h3 h6 h10 (b1.from lh) (b0.from lh) G81 (by omega) (by omega) hR) ?_
  rintro r h11 ⟨rfl, Gm, mr, Mr⟩
  have qh := k_heldO (problemsF x0 x1) pg 1 h11 mr (by omega) (by omega) hR
  simp +contextual (maxSteps := 2000000) only [go_sem, Nat.reduceEqDiff, reduceCtorEq, Nat.reduceAdd, Nat.reduceLeDiff, qh, decide_true, decide_eq_false (show ¬ ((1 : Int) + (cellsO (problemsF x0 x1) : Nat) < 0) by omega)]
  have H1 : Grow h h11 := ((((Grow.refl h).trans g1).trans g2).trans g3).trans Gm
  refine wp_call (k_toG x0 p0 h11 (d0.grow H1) s0) ?_
  rintro r h12 ⟨g12, p0d, rfl, a0d⟩
  simp +contextual (maxSteps := 2000000) only [go_sem, Nat.reduceEqDiff, reduceCtorEq, Nat.reduceAdd, Nat.reduceLeDiff]
  refine wp_call (k_toF x1 p1 n1 h12 (d1.grow (H1.trans g12)) s1) ?_
  rintro r h13 ⟨g13, p1d, n1d, rfl, a1d⟩
  simp +contextual (maxSteps := 2000000) only [go_sem, Nat.reduceEqDiff, reduceCtorEq, Nat.reduceAdd, Nat.reduceLeDiff]
  refine wp_call (o_iProblems x0 x1 p0d p1d n1d h13 (a0d.sl.grow g13) (a1d.sl) s0 s1) ?_
  rintro r h14 ⟨g14, py, rfl, b2⟩
  have G9 : Grow h11 h14 := ((g12.trans g13).trans g14)
  have qz := k_eqO (problemsF x0 x1) (problemsF x0 x1) py pw h14 (b2.sl) ((w0.grow (Gm.trans G9)).sl) hR
  have qy := k_heldO (problemsF x0 x1) pg 1 h14 (mr.grow G9) (by omega) (by omega) hR
  simp +contextual (maxSteps := 2000000) only [go_sem, Nat.reduceEqDiff, reduceCtorEq, Nat.reduceAdd, Nat.reduceLeDiff, qz, qy, decide_true, decide_eq_false (show ¬ ((1 : Int) + (cellsO (problemsF x0 x1) : Nat) < 0) by omega)]
  exact gcK_of rfl (fun _ _ => rfl)
end Go.Proofs.Ytdalgphpacikkaa.Am
