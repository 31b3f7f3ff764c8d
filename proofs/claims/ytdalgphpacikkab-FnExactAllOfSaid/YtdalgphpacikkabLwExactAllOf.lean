/- The law FnExactAllOf. -/
import Derived.Test.YtdalgphpacikkabK2
import Derived.Test.YtdalgphpacikkabK3
import Derived.Test.YtdalgphpacikkabOV
namespace Go.Proofs.Ytdalgphpacikkab.Am
open Go
set_option maxRecDepth 100000
set_option maxHeartbeats 4000000
set_option linter.unusedSimpArgs false
set_option linter.unusedVariables false
attribute [local go_sem ↓] bv_t bv_c ev_t ev_c put_same put_ne put_none kill_at pro_at lb_same lb_ne start_zero start_succ wpC_seq wpC_reg wpC_cond wpC_block wpC_skip wpC_exit wpC_ret thenQ_normal thenQ_exit thenQ_ret inBlk_normal inBlk_exit inBlk_ret wpS_nil wpS_step wpS_again wpS_guard wpO_mov wpO_load wpO_faddr wpO_nilCheck wpO_pick wpO_build wpO_bin wpO_eqb wpO_eqst wpO_eqnil wpO_not wpO_conv wpO_bytesStr wpO_iaddr wpO_idxStr wpO_field wpO_extract wpO_len wpO_lenStr wpO_cap wpO_min wpO_slice wpO_sliceStr wpO_alloc wpO_box wpO_store wpO_call wpO_callv wpO_mkfn wpO_buildSlice wpO_mkslice wpO_append wpO_appz proA_nil proA_cons tmpX_nil tmpX_tmp tmpX_cell doneB_normal doneB_ret agK_cons agK_nil agK_guard agG_tt agG_ff agG_tf agG_ft agG_undef pureB_load results_one results_two results_nil resBs_cons resBs_nil resB_tmp resB_cell
attribute [local go_sem] kill_v kill_lp_ne kill_lp_same pro_v pro_lp_same pro_lp_ne av_v av_lp optB_some optX_some valX_eq ldX_lp ldX_v faX_lp faX_v ncX_lp ncX_ptr ncX_fn boxK_one boxK_agg stL_some stK_lp_one stK_lp_agg stK_v_one stK_v_agg proM_v proM_lp callG_mk callVG_mk callvK_fn fnG_mk ptrsA_nil ptrsA_cons callH_some whenA_true whenA_false guardH_tt guardH_ff guardH_tf guardH_ft guardH_undef agV_one agV_agg lenO_sl lenStrO_str notO_bool pickO_bool convO_int eqbO_bool eqnilO_sl extractO_tup capO_sl minO_int loadL_one loadL_all storeL_eq fillA_nil fillA_one fillA_agg nat_ge neg_ge nat_lt neg_lt buildO bin_add bin_sub bin_mul bin_eql bin_neq bin_lss bin_leq bin_gtr bin_geq str_eql str_neq str_lss str_leq str_gtr str_geq retK_some endK_mk gcK_same gcK_int gcK_bool tupO_one tupO_agg rdy_self ib ii Option.map_none Option.map_some Option.some.injEq exists_eq_left' exists_eq_left ne_eq not_false_eq_true if_true if_false List.map_cons List.map_nil List.getElem?_cons_zero List.getElem?_cons_succ List.length_cons List.length_nil List.take_succ_cons List.take_zero List.take_nil List.drop_succ_cons List.drop_zero List.drop_nil List.cons_append List.nil_append List.append_nil List.set_cons_zero List.set_cons_succ Nat.zero_add forall_const true_and and_true and_self Bool.false_eq_true false_implies true_implies implies_true Bool.not_true Bool.not_false Bool.not_eq_true' Bool.not_eq_false' beq_self_eq_true Bool.bne_true Bool.bne_false
attribute [local go_sem] lenI lenS lenP lenQ lenB lenL lenT encI_0 encS_0 encP_0 encP_1 encQ_0 encQ_1 encQ_2 encQ_3 encB_0 encB_1 encL_0 encL_1 encT_0 encT_1
attribute [local go_sem low] whenA_bool guardH_bool
/-! laws.FnExactAllOf -/
def L7_0 : List AStep := [⟨.box 28 (.t 1), (some 3), none, []⟩, ⟨.mov (.c (.bool false)), (some 4), none, []⟩]
theorem v7_0 : VS L7_0.eq_1 := rfl
def L7_1 : List AStep := [⟨.mov (.c (.int .i64 1048576)), (some 5), none, []⟩]
theorem v7_1 : VS L7_1.eq_1 := rfl
def L7_2 : List AStep := [⟨.call 33 [(.t 14), (.t 15)], (some 16), none, []⟩, ⟨.mov (.t 16), (some 5), none, []⟩]
theorem v7_2 : VS L7_2.eq_1 := rfl
def L7_3 : List AStep := ⟨.mov (.t 0), (some 14), none, []⟩ :: ⟨.mov (.t 5), (some 15), none, []⟩ :: L7_2
theorem v7_3 : VS L7_3.eq_1 := rfl
def L7_4 : List AStep := [⟨.mov (.t 5), (some 17), none, []⟩, ⟨.bin .lss (.t 17) (.c (.int .i64 0)), (some 18), none, []⟩]
theorem v7_4 : VS L7_4.eq_1 := rfl
def L7_5 : List AStep := [⟨.mov (.c (.bool true)), (some 4), none, []⟩]
theorem v7_5 : VS L7_5.eq_1 := rfl
def L7_6 : List AStep := [⟨.call 21 [(.t 19), (.t 20)], (some 21), none, []⟩, ⟨.mov (.t 21), (some 5), none, []⟩]
theorem v7_6 : VS L7_6.eq_1 := rfl
def L7_7 : List AStep := ⟨.load 2 true (.t 3), (some 19), none, []⟩ :: ⟨.mov (.t 5), (some 20), none, []⟩ :: L7_6
theorem v7_7 : VS L7_7.eq_1 := rfl
def L7_8 : List AStep := [⟨.mov (.t 5), (some 22), none, []⟩, ⟨.bin .lss (.t 22) (.c (.int .i64 0)), (some 23), none, []⟩]
theorem v7_8 : VS L7_8.eq_1 := rfl
def L7_9 : List AStep := [⟨.mov (.c (.bool true)), (some 4), none, []⟩]
theorem v7_9 : VS L7_9.eq_1 := rfl
def L7_10 : List AStep := [⟨.call 34 [(.t 25), (.t 27)], (some 28), none, []⟩, ⟨.mov (.t 28), (some 6), none, []⟩]
theorem v7_10 : VS L7_10.eq_1 := rfl
def L7_11 : List AStep := ⟨.call 35 [(.t 24)], (some 25), none, [(.load 2 true (.t 3), (some 26), none)]⟩ :: ⟨.call 24 [(.t 26)], (some 27), none, []⟩ :: L7_10
theorem v7_11 : VS L7_11.eq_1 := rfl
def L7_12 : List AStep := ⟨.mov (.t 0), (some 24), none, []⟩ :: ⟨.load 2 true (.t 3), (some 26), none, []⟩ :: L7_11
theorem v7_12 : VS L7_12.eq_1 := rfl
def L7_13 : List AStep := [⟨.mov (.t 30), (some 7), none, []⟩]
theorem v7_13 : VS L7_13.eq_1 := rfl
def L7_14 : List AStep := ⟨.mov (.t 0), (some 29), none, []⟩ :: ⟨.call 35 [(.t 29)], (some 30), none, []⟩ :: L7_13
theorem v7_14 : VS L7_14.eq_1 := rfl
def L7_15 : List AStep := [⟨.alloc 39 [(.sl none 0 (some 0)), (.sl none 0 (some 0))], (some 8), none, []⟩, ⟨.store 2 (.t 8) (.t 32), none, none, []⟩]
theorem v7_15 : VS L7_15.eq_1 := rfl
def L7_16 : List AStep := ⟨.load 2 true (.t 3), (some 31), none, []⟩ :: ⟨.call 24 [(.t 31)], (some 32), none, []⟩ :: L7_15
theorem v7_16 : VS L7_16.eq_1 := rfl
def L7_17 : List AStep := [⟨.call 36 [(.t 33), (.t 34)], (some 35), none, []⟩, ⟨.mov (.t 35), (some 9), none, []⟩]
theorem v7_17 : VS L7_17.eq_1 := rfl
def L7_18 : List AStep := ⟨.mov (.t 7), (some 33), none, []⟩ :: ⟨.load 2 true (.t 8), (some 34), none, []⟩ :: L7_17
theorem v7_18 : VS L7_18.eq_1 := rfl
def L7_19 : List AStep := [⟨.call 37 [(.t 36), (.t 37)], (some 38), none, []⟩, ⟨.not (.t 38), (some 39), none, []⟩]
theorem v7_19 : VS L7_19.eq_1 := rfl
def L7_20 : List AStep := ⟨.mov (.t 9), (some 36), none, []⟩ :: ⟨.mov (.t 6), (some 37), none, []⟩ :: L7_19
theorem v7_20 : VS L7_20.eq_1 := rfl
def L7_21 : List AStep := [⟨.mov (.c (.bool false)), (some 4), none, []⟩]
theorem v7_21 : VS L7_21.eq_1 := rfl
def L7_22 : List AStep := [⟨.not (.t 43), (some 44), none, []⟩]
theorem v7_22 : VS L7_22.eq_1 := rfl
def L7_23 : List AStep := ⟨.call 35 [(.t 41)], (some 42), none, []⟩ :: ⟨.call 38 [(.t 40), (.t 42)], (some 43), none, []⟩ :: L7_22
theorem v7_23 : VS L7_23.eq_1 := rfl
def L7_24 : List AStep := ⟨.mov (.t 7), (some 40), none, []⟩ :: ⟨.mov (.t 0), (some 41), none, []⟩ :: L7_23
theorem v7_24 : VS L7_24.eq_1 := rfl
def L7_25 : List AStep := [⟨.mov (.c (.bool false)), (some 4), none, []⟩]
theorem v7_25 : VS L7_25.eq_1 := rfl
def L7_26 : List AStep := [⟨.not (.t 48), (some 49), none, []⟩]
theorem v7_26 : VS L7_26.eq_1 := rfl
def L7_27 : List AStep := ⟨.call 24 [(.t 46)], (some 47), none, [(.load 2 true (.t 8), (some 45), none)]⟩ :: ⟨.call 26 [(.t 45), (.t 47)], (some 48), none, []⟩ :: L7_26
theorem v7_27 : VS L7_27.eq_1 := rfl
def L7_28 : List AStep := ⟨.load 2 true (.t 8), (some 45), none, []⟩ :: ⟨.load 2 true (.t 3), (some 46), none, []⟩ :: L7_27
theorem v7_28 : VS L7_28.eq_1 := rfl
def L7_29 : List AStep := [⟨.mov (.c (.bool false)), (some 4), none, []⟩]
theorem v7_29 : VS L7_29.eq_1 := rfl
def L7_30 : List AStep := [⟨.mov (.c (.int .i64 1)), (some 10), none, []⟩]
theorem v7_30 : VS L7_30.eq_1 := rfl
def L7_31 : List AStep := [⟨.call 39 [(.t 50), (.t 51)], (some 52), none, []⟩, ⟨.mov (.t 52), (some 10), none, []⟩]
theorem v7_31 : VS L7_31.eq_1 := rfl
def L7_32 : List AStep := ⟨.mov (.t 7), (some 50), none, []⟩ :: ⟨.mov (.t 10), (some 51), none, []⟩ :: L7_31
theorem v7_32 : VS L7_32.eq_1 := rfl
def L7_33 : List AStep := [⟨.call 29 [(.t 53), (.t 54)], (some 55), none, []⟩, ⟨.mov (.t 55), (some 10), none, []⟩]
theorem v7_33 : VS L7_33.eq_1 := rfl
def L7_34 : List AStep := ⟨.load 2 true (.t 8), (some 53), none, []⟩ :: ⟨.mov (.t 10), (some 54), none, []⟩ :: L7_33
theorem v7_34 : VS L7_34.eq_1 := rfl
def L7_35 : List AStep := [⟨.not (.t 61), (some 62), (some (58, false)), []⟩, ⟨.pick (.t 58) (.c (.bool true)) (.t 62), (some 63), none, []⟩]
theorem v7_35 : VS L7_35.eq_1 := rfl
def L7_36 : List AStep := ⟨.mov (.t 6), (some 60), (some (58, false)), []⟩ :: ⟨.call 37 [(.t 59), (.t 60)], (some 61), (some (58, false)), []⟩ :: L7_35
theorem v7_36 : VS L7_36.eq_1 := rfl
def L7_37 : List AStep := ⟨.mov (.t 57), (some 58), none, []⟩ :: ⟨.mov (.t 9), (some 59), (some (58, false)), []⟩ :: L7_36
theorem v7_37 : VS L7_37.eq_1 := rfl
def L7_38 : List AStep := ⟨.mov (.t 10), (some 56), none, []⟩ :: ⟨.bin .lss (.t 56) (.c (.int .i64 0)), (some 57), none, []⟩ :: L7_37
theorem v7_38 : VS L7_38.eq_1 := rfl
def L7_39 : List AStep := [⟨.mov (.c (.bool false)), (some 4), none, []⟩]
theorem v7_39 : VS L7_39.eq_1 := rfl
def L7_40 : List AStep := [⟨.mov (.c (.int .i64 1)), (some 11), none, []⟩]
theorem v7_40 : VS L7_40.eq_1 := rfl
def L7_41 : List AStep := [⟨.call 40 [(.t 64), (.t 65)], (some 66), none, []⟩, ⟨.mov (.t 66), (some 11), none, []⟩]
theorem v7_41 : VS L7_41.eq_1 := rfl
def L7_42 : List AStep := ⟨.mov (.t 9), (some 64), none, []⟩ :: ⟨.mov (.t 11), (some 65), none, []⟩ :: L7_41
theorem v7_42 : VS L7_42.eq_1 := rfl
def L7_43 : List AStep := [⟨.mov (.c (.int .i64 1)), (some 12), none, []⟩]
theorem v7_43 : VS L7_43.eq_1 := rfl
def L7_44 : List AStep := [⟨.call 41 [(.t 67), (.t 68)], (some 69), none, []⟩, ⟨.mov (.t 69), (some 12), none, []⟩]
theorem v7_44 : VS L7_44.eq_1 := rfl
def L7_45 : List AStep := ⟨.mov (.t 9), (some 67), none, []⟩ :: ⟨.mov (.t 12), (some 68), none, []⟩ :: L7_44
theorem v7_45 : VS L7_45.eq_1 := rfl
def L7_46 : List AStep := [⟨.mov (.t 12), (some 70), none, []⟩, ⟨.bin .lss (.t 70) (.c (.int .i64 0)), (some 71), none, []⟩]
theorem v7_46 : VS L7_46.eq_1 := rfl
def L7_47 : List AStep := [⟨.mov (.c (.bool false)), (some 4), none, []⟩]
theorem v7_47 : VS L7_47.eq_1 := rfl
def L7_48 : List AStep := [⟨.bin .neq (.t 72) (.t 73), (some 74), none, []⟩]
theorem v7_48 : VS L7_48.eq_1 := rfl
def L7_49 : List AStep := ⟨.mov (.t 12), (some 72), none, []⟩ :: ⟨.mov (.t 11), (some 73), none, []⟩ :: L7_48
theorem v7_49 : VS L7_49.eq_1 := rfl
def L7_50 : List AStep := [⟨.mov (.c (.bool false)), (some 4), none, []⟩]
theorem v7_50 : VS L7_50.eq_1 := rfl
def L7_51 : List AStep := [⟨.call 36 [(.t 76), (.t 78)], (some 79), none, []⟩, ⟨.mov (.t 79), (some 13), none, []⟩]
theorem v7_51 : VS L7_51.eq_1 := rfl
def L7_52 : List AStep := ⟨.call 35 [(.t 75)], (some 76), none, [(.load 2 true (.t 3), (some 77), none)]⟩ :: ⟨.call 24 [(.t 77)], (some 78), none, []⟩ :: L7_51
theorem v7_52 : VS L7_52.eq_1 := rfl
def L7_53 : List AStep := ⟨.mov (.t 0), (some 75), none, []⟩ :: ⟨.load 2 true (.t 3), (some 77), none, []⟩ :: L7_52
theorem v7_53 : VS L7_53.eq_1 := rfl
def L7_54 : List AStep := [⟨.call 37 [(.t 80), (.t 81)], (some 82), none, []⟩, ⟨.not (.t 82), (some 83), none, []⟩]
theorem v7_54 : VS L7_54.eq_1 := rfl
def L7_55 : List AStep := ⟨.mov (.t 13), (some 80), none, []⟩ :: ⟨.mov (.t 6), (some 81), none, []⟩ :: L7_54
theorem v7_55 : VS L7_55.eq_1 := rfl
def L7_56 : List AStep := [⟨.mov (.c (.bool false)), (some 4), none, []⟩]
theorem v7_56 : VS L7_56.eq_1 := rfl
def L7_57 : List AStep := [⟨.mov (.c (.int .i64 1)), (some 12), none, []⟩]
theorem v7_57 : VS L7_57.eq_1 := rfl
def L7_58 : List AStep := [⟨.call 41 [(.t 84), (.t 85)], (some 86), none, []⟩, ⟨.mov (.t 86), (some 12), none, []⟩]
theorem v7_58 : VS L7_58.eq_1 := rfl
def L7_59 : List AStep := ⟨.mov (.t 9), (some 84), none, []⟩ :: ⟨.mov (.t 12), (some 85), none, []⟩ :: L7_58
theorem v7_59 : VS L7_59.eq_1 := rfl
def L7_60 : List AStep := [⟨.mov (.t 12), (some 87), none, []⟩, ⟨.bin .lss (.t 87) (.c (.int .i64 0)), (some 88), none, []⟩]
theorem v7_60 : VS L7_60.eq_1 := rfl
def L7_61 : List AStep := [⟨.mov (.c (.bool false)), (some 4), none, []⟩]
theorem v7_61 : VS L7_61.eq_1 := rfl
def L7_62 : List AStep := [⟨.bin .neq (.t 89) (.t 90), (some 91), none, []⟩]
theorem v7_62 : VS L7_62.eq_1 := rfl
def L7_63 : List AStep := ⟨.mov (.t 12), (some 89), none, []⟩ :: ⟨.mov (.t 11), (some 90), none, []⟩ :: L7_62
theorem v7_63 : VS L7_63.eq_1 := rfl
def L7_64 : List AStep := [⟨.mov (.c (.bool false)), (some 4), none, []⟩]
theorem v7_64 : VS L7_64.eq_1 := rfl
def L7_65 : List AStep := [⟨.mov (.c (.bool true)), (some 4), none, []⟩]
theorem v7_65 : VS L7_65.eq_1 := rfl
def C7_0 : ACode := .seq (.reg L7_5) .ret
theorem u7_0 : VC C7_0.eq_1 := rfl
def C7_1 : ACode := .cond (.t 18) C7_0 .skip
theorem u7_1 : VC C7_1.eq_1 := rfl
def C7_2 : ACode := .seq (.reg L7_4) C7_1
theorem u7_2 : VC C7_2.eq_1 := rfl
def C7_3 : ACode := .seq (.reg L7_9) .ret
theorem u7_3 : VC C7_3.eq_1 := rfl
def C7_4 : ACode := .cond (.t 23) C7_3 .skip
theorem u7_4 : VC C7_4.eq_1 := rfl
def C7_5 : ACode := .seq (.reg L7_8) C7_4
theorem u7_5 : VC C7_5.eq_1 := rfl
def C7_6 : ACode := .seq (.reg L7_21) .ret
theorem u7_6 : VC C7_6.eq_1 := rfl
def C7_7 : ACode := .cond (.t 39) C7_6 .skip
theorem u7_7 : VC C7_7.eq_1 := rfl
def C7_8 : ACode := .seq (.reg L7_20) C7_7
theorem u7_8 : VC C7_8.eq_1 := rfl
def C7_9 : ACode := .seq (.reg L7_25) .ret
theorem u7_9 : VC C7_9.eq_1 := rfl
def C7_10 : ACode := .cond (.t 44) C7_9 .skip
theorem u7_10 : VC C7_10.eq_1 := rfl
def C7_11 : ACode := .seq (.reg L7_24) C7_10
theorem u7_11 : VC C7_11.eq_1 := rfl
def C7_12 : ACode := .seq (.reg L7_29) .ret
theorem u7_12 : VC C7_12.eq_1 := rfl
def C7_13 : ACode := .cond (.t 49) C7_12 .skip
theorem u7_13 : VC C7_13.eq_1 := rfl
def C7_14 : ACode := .seq (.reg L7_28) C7_13
theorem u7_14 : VC C7_14.eq_1 := rfl
def C7_15 : ACode := .seq (.reg L7_39) .ret
theorem u7_15 : VC C7_15.eq_1 := rfl
def C7_16 : ACode := .cond (.t 63) C7_15 .skip
theorem u7_16 : VC C7_16.eq_1 := rfl
def C7_17 : ACode := .seq (.reg L7_38) C7_16
theorem u7_17 : VC C7_17.eq_1 := rfl
def C7_18 : ACode := .seq (.reg L7_47) .ret
theorem u7_18 : VC C7_18.eq_1 := rfl
def C7_19 : ACode := .cond (.t 71) C7_18 .skip
theorem u7_19 : VC C7_19.eq_1 := rfl
def C7_20 : ACode := .seq (.reg L7_46) C7_19
theorem u7_20 : VC C7_20.eq_1 := rfl
def C7_21 : ACode := .seq (.reg L7_50) .ret
theorem u7_21 : VC C7_21.eq_1 := rfl
def C7_22 : ACode := .cond (.t 74) C7_21 .skip
theorem u7_22 : VC C7_22.eq_1 := rfl
def C7_23 : ACode := .seq (.reg L7_49) C7_22
theorem u7_23 : VC C7_23.eq_1 := rfl
def C7_24 : ACode := .seq (.reg L7_56) .ret
theorem u7_24 : VC C7_24.eq_1 := rfl
def C7_25 : ACode := .cond (.t 83) C7_24 .skip
theorem u7_25 : VC C7_25.eq_1 := rfl
def C7_26 : ACode := .seq (.reg L7_55) C7_25
theorem u7_26 : VC C7_26.eq_1 := rfl
def C7_27 : ACode := .seq (.reg L7_61) .ret
theorem u7_27 : VC C7_27.eq_1 := rfl
def C7_28 : ACode := .cond (.t 88) C7_27 .skip
theorem u7_28 : VC C7_28.eq_1 := rfl
def C7_29 : ACode := .seq (.reg L7_60) C7_28
theorem u7_29 : VC C7_29.eq_1 := rfl
def C7_30 : ACode := .seq (.reg L7_64) .ret
theorem u7_30 : VC C7_30.eq_1 := rfl
def C7_31 : ACode := .cond (.t 91) C7_30 .skip
theorem u7_31 : VC C7_31.eq_1 := rfl
def C7_32 : ACode := .seq (.reg L7_63) C7_31
theorem u7_32 : VC C7_32.eq_1 := rfl
def C7_33 : ACode := .seq (.reg L7_65) .ret
theorem u7_33 : VC C7_33.eq_1 := rfl
def C7_34 : ACode := .seq C7_32 C7_33
theorem u7_34 : VC C7_34.eq_1 := rfl
def C7_35 : ACode := .seq C7_29 C7_34
theorem u7_35 : VC C7_35.eq_1 := rfl
def C7_36 : ACode := .seq (.reg L7_59) C7_35
theorem u7_36 : VC C7_36.eq_1 := rfl
def C7_37 : ACode := .seq (.reg L7_57) C7_36
theorem u7_37 : VC C7_37.eq_1 := rfl
def C7_38 : ACode := .seq C7_26 C7_37
theorem u7_38 : VC C7_38.eq_1 := rfl
def C7_39 : ACode := .seq (.reg L7_53) C7_38
theorem u7_39 : VC C7_39.eq_1 := rfl
def C7_40 : ACode := .seq C7_23 C7_39
theorem u7_40 : VC C7_40.eq_1 := rfl
def C7_41 : ACode := .seq C7_20 C7_40
theorem u7_41 : VC C7_41.eq_1 := rfl
def C7_42 : ACode := .seq (.reg L7_45) C7_41
theorem u7_42 : VC C7_42.eq_1 := rfl
def C7_43 : ACode := .seq (.reg L7_43) C7_42
theorem u7_43 : VC C7_43.eq_1 := rfl
def C7_44 : ACode := .seq (.reg L7_42) C7_43
theorem u7_44 : VC C7_44.eq_1 := rfl
def C7_45 : ACode := .seq (.reg L7_40) C7_44
theorem u7_45 : VC C7_45.eq_1 := rfl
def C7_46 : ACode := .seq C7_17 C7_45
theorem u7_46 : VC C7_46.eq_1 := rfl
def C7_47 : ACode := .seq (.reg L7_34) C7_46
theorem u7_47 : VC C7_47.eq_1 := rfl
def C7_48 : ACode := .seq (.reg L7_32) C7_47
theorem u7_48 : VC C7_48.eq_1 := rfl
def C7_49 : ACode := .seq (.reg L7_30) C7_48
theorem u7_49 : VC C7_49.eq_1 := rfl
def C7_50 : ACode := .seq C7_14 C7_49
theorem u7_50 : VC C7_50.eq_1 := rfl
def C7_51 : ACode := .seq C7_11 C7_50
theorem u7_51 : VC C7_51.eq_1 := rfl
def C7_52 : ACode := .seq C7_8 C7_51
theorem u7_52 : VC C7_52.eq_1 := rfl
def C7_53 : ACode := .seq (.reg L7_18) C7_52
theorem u7_53 : VC C7_53.eq_1 := rfl
def C7_54 : ACode := .seq (.reg L7_16) C7_53
theorem u7_54 : VC C7_54.eq_1 := rfl
def C7_55 : ACode := .seq (.reg L7_14) C7_54
theorem u7_55 : VC C7_55.eq_1 := rfl
def C7_56 : ACode := .seq (.reg L7_12) C7_55
theorem u7_56 : VC C7_56.eq_1 := rfl
def C7_57 : ACode := .seq C7_5 C7_56
theorem u7_57 : VC C7_57.eq_1 := rfl
def C7_58 : ACode := .seq (.reg L7_7) C7_57
theorem u7_58 : VC C7_58.eq_1 := rfl
def C7_59 : ACode := .seq C7_2 C7_58
theorem u7_59 : VC C7_59.eq_1 := rfl
def C7_60 : ACode := .seq (.reg L7_3) C7_59
theorem u7_60 : VC C7_60.eq_1 := rfl
def C7_61 : ACode := .seq (.reg L7_1) C7_60
theorem u7_61 : VC C7_61.eq_1 := rfl
def C7_62 : ACode := .seq (.reg L7_0) C7_61
theorem u7_62 : VC C7_62.eq_1 := rfl
def F7 : AFunc := ⟨92, [.tmp 4], C7_62⟩
theorem cF7 : compB Try.prog 7 = some F7 := by kernel_rfl
attribute [local go_sem ↓] u7_0 u7_1 u7_2 u7_3 u7_4 u7_5 u7_6 u7_7 u7_8 u7_9 u7_10 u7_11 u7_12 u7_13 u7_14 u7_15 u7_16 u7_17 u7_18 u7_19 u7_20 u7_21 u7_22 u7_23 u7_24 u7_25 u7_26 u7_27 u7_28 u7_29 u7_30 u7_31 u7_32 u7_33 u7_34 u7_35 u7_36 u7_37 u7_38 u7_39 u7_40 u7_41 u7_42 u7_43 u7_44 u7_45 u7_46 u7_47 u7_48 u7_49 u7_50 u7_51 u7_52 u7_53 u7_54 u7_55 u7_56 u7_57 u7_58 u7_59 u7_60 u7_61 u7_62 v7_0 v7_1 v7_2 v7_3 v7_4 v7_5 v7_6 v7_7 v7_8 v7_9 v7_10 v7_11 v7_12 v7_13 v7_14 v7_15 v7_16 v7_17 v7_18 v7_19 v7_20 v7_21 v7_22 v7_23 v7_24 v7_25 v7_26 v7_27 v7_28 v7_29 v7_30 v7_31 v7_32 v7_33 v7_34 v7_35 v7_36 v7_37 v7_38 v7_39 v7_40 v7_41 v7_42 v7_43 v7_44 v7_45 v7_46 v7_47 v7_48 v7_49 v7_50 v7_51 v7_52 v7_53 v7_54 v7_55 v7_56 v7_57 v7_58 v7_59 v7_60 v7_61 v7_62 v7_63 v7_64 v7_65
theorem law7 (h : H) (avs : List AV) (hok : okVs Try.prog h 6 [ 61, 28 ] avs) : callK (bm Try.prog 7 avs h) fun r _ => r = ib true := by
  obtain ⟨v0, avs, rfl, hv0, hok⟩ := okVs_cons hok
  obtain ⟨v1, avs, rfl, hv1, hok⟩ := okVs_cons hok
  obtain rfl := okVs_nil hok
  obtain ⟨p0, x0, rfl, d0⟩ := dV hv0
  obtain ⟨p1, n1, x1, rfl, d1⟩ := dF hv1
  refine bm_of cF7 ?_
  have z0 := k_szV x0 p0 1048576 h (by omega) (by omega) d0
  by_cases y0 : szr 1048576 (wtV x0) < 0
  · simp +contextual (maxSteps := 2000000) only [go_sem, Nat.reduceEqDiff, reduceCtorEq, Nat.reduceAdd, Nat.reduceLeDiff, F7, z0, decide_eq_true y0]
  have z1 := k_szF x1 p1 n1 (szr 1048576 (wtV x0)) h (by omega) (by unfold szr; split <;> omega) d1
  by_cases y1 : szr (szr 1048576 (wtV x0)) (wtF x1) < 0
  · simp +contextual (maxSteps := 2000000) only [go_sem, Nat.reduceEqDiff, reduceCtorEq, Nat.reduceAdd, Nat.reduceLeDiff, F7, z0, z1, decide_eq_false y0, decide_eq_true y1]
  obtain ⟨e0, u0⟩ := szr_ge y0
  obtain ⟨e1, u1⟩ := szr_ge y1
  have s0 : miniV x0 := wtV_sm (by omega)
  have s1 : miniF x1 := wtF_sm (by omega)
  have hR : miniJ (allF x0 x1) := .all
  simp +contextual (maxSteps := 2000000) only [go_sem, Nat.reduceEqDiff, reduceCtorEq, Nat.reduceAdd, Nat.reduceLeDiff, F7, z0, z1, decide_eq_false y0, decide_eq_false y1]
  refine wp_call (k_toV x0 p0 h (d0.grow (Grow.refl h)) s0) ?_
  rintro r h1 ⟨g1, p0a, R0a, rfl, a0a⟩
  simp +contextual (maxSteps := 2000000) only [go_sem, Nat.reduceEqDiff, reduceCtorEq, Nat.reduceAdd, Nat.reduceLeDiff]
  refine wp_call (k_toF x1 p1 n1 h1 (d1.grow ((Grow.refl h).trans g1)) s1) ?_
  rintro r h2 ⟨g2, p1a, n1a, rfl, a1a⟩
  simp +contextual (maxSteps := 2000000) only [go_sem, Nat.reduceEqDiff, reduceCtorEq, Nat.reduceAdd, Nat.reduceLeDiff]
  refine wp_call (k_sAllOf x0 x1 p0a p1a n1a h2 (a0a.sl.grow g2) (a1a.sl) s0 s1) ?_
  rintro r h3 ⟨g3, pw, rfl, w0⟩
  simp +contextual (maxSteps := 2000000) only [go_sem, Nat.reduceEqDiff, reduceCtorEq, Nat.reduceAdd, Nat.reduceLeDiff]
  refine wp_call (k_toV x0 p0 h3 (d0.grow ((((Grow.refl h).trans g1).trans g2).trans g3)) s0) ?_
  rintro r h4 ⟨g4, p0b, R0b, rfl, a0b⟩
  simp +contextual (maxSteps := 2000000) only [go_sem, Nat.reduceEqDiff, reduceCtorEq, Nat.reduceAdd, Nat.reduceLeDiff]
  refine wp_call (k_toF x1 p1 n1 h4 (d1.grow (((((Grow.refl h).trans g1).trans g2).trans g3).trans g4)) s1) ?_
  rintro r h5 ⟨g5, p1b, n1b, rfl, a1b⟩
  simp +contextual (maxSteps := 2000000) only [go_sem, Nat.reduceEqDiff, reduceCtorEq, Nat.reduceAdd, Nat.reduceLeDiff]
  refine wp_call (k_iAllOf x0 x1 p0b p1b n1b h5 (a0b.sl.grow g5) (a1b.sl) s0 s1) ?_
  rintro r h6 ⟨g6, pg, rfl, b0⟩
  have q0 := k_eqJ (allF x0 x1) (allF x0 x1) pg pw h6 (b0.sl) (w0.sl.grow ((g4.trans g5).trans g6)) hR
  simp +contextual (maxSteps := 2000000) only [go_sem, Nat.reduceEqDiff, reduceCtorEq, Nat.reduceAdd, Nat.reduceLeDiff, q0, decide_true]
  refine wp_call (k_toV x0 p0 h6 (d0.grow (((((((Grow.refl h).trans g1).trans g2).trans g3).trans g4).trans g5).trans g6)) s0) ?_
  rintro r h7 ⟨g7, p0c, R0c, rfl, a0c⟩
  have q1 := k_eqV x0 x0 p0b p0c h7 (a0b.sl.grow ((g5.trans g6).trans g7)) a0c.sl s0
  simp +contextual (maxSteps := 2000000) only [go_sem, Nat.reduceEqDiff, reduceCtorEq, Nat.reduceAdd, Nat.reduceLeDiff, q1, decide_true]
  refine wp_call (k_toF x1 p1 n1 h7 (d1.grow ((((((((Grow.refl h).trans g1).trans g2).trans g3).trans g4).trans g5).trans g6).trans g7)) s1) ?_
  rintro r h8 ⟨g8, p1c, n1c, rfl, a1c⟩
  have q2 := k_eqF x1 x1 p1b n1b p1c n1c h8 (a1b.sl.grow ((g6.trans g7).trans g8)) a1c.sl s1
  simp +contextual (maxSteps := 2000000) only [go_sem, Nat.reduceEqDiff, reduceCtorEq, Nat.reduceAdd, Nat.reduceLeDiff, q2, decide_true]
  have k0 := cellsV_le s0
  have k1 := cellsF_le s1
  have G8 : Grow h3 h8 := ((((g4.trans g5).trans g6).trans g7).trans g8)
  refine wp_call (k_markV x0 p0b R0b 1 h3 h4 h8 ((a0b.grow (((g5.trans g6).trans g7).trans g8))) a0b G8 (by omega) (by omega) s0) ?_
  rintro r h9 ⟨rfl, G80, m0, N0⟩
  have M0 := N0
  simp +contextual (maxSteps := 2000000) only [go_sem, Nat.reduceEqDiff, reduceCtorEq, Nat.reduceAdd, Nat.reduceLeDiff]
  refine wp_call (k_markF x1 p1b n1b _ h3 h5 h9 (((a1b.grow ((g6.trans g7).trans g8)).mid M0 (Nat.le_refl _)).from g4.n) (a1b.from g4.n) G80 (by omega) (by omega) s1) ?_
  rintro r h10 ⟨rfl, G81, m1, N1⟩
  have M1 : Mid h3.n h5.n h8 h10 := (M0.widen g5.n).trans N1
  have b1 := (b0.grow (g7.trans g8)).mid M1 (Nat.le_refl _)
  have w1 := w0.grow G81
  have qa := k_eqJ (allF x0 x1) (allF x0 x1) pg pw h10 (b1.sl) (w1.sl) hR
  simp +contextual (maxSteps := 2000000) only [go_sem, Nat.reduceEqDiff, reduceCtorEq, Nat.reduceAdd, Nat.reduceLeDiff, qa, decide_true, decide_eq_false (show ¬ ((1 : Int) + (cellsV x0 : Nat) + (cellsF x1 : Nat) < 0) by omega)]
  have kr := cellsJ_le hR
  have lh : h3.n ≤ h5.n := (g4.trans g5).n
  refine wp_call (k_markJ (allF x0 x1) pg 1 h3 h6 h10 (b1.from lh) (b0.from lh) G81 (by omega) (by omega) hR) ?_
  rintro r h11 ⟨rfl, Gm, mr, Mr⟩
  have qh := k_heldJ (allF x0 x1) pg 1 h11 mr (by omega) (by omega) hR
  simp +contextual (maxSteps := 2000000) only [go_sem, Nat.reduceEqDiff, reduceCtorEq, Nat.reduceAdd, Nat.reduceLeDiff, qh, decide_true, decide_eq_false (show ¬ ((1 : Int) + (cellsJ (allF x0 x1) : Nat) < 0) by omega)]
  have H1 : Grow h h11 := ((((Grow.refl h).trans g1).trans g2).trans g3).trans Gm
  refine wp_call (k_toV x0 p0 h11 (d0.grow H1) s0) ?_
  rintro r h12 ⟨g12, p0d, R0d, rfl, a0d⟩
  simp +contextual (maxSteps := 2000000) only [go_sem, Nat.reduceEqDiff, reduceCtorEq, Nat.reduceAdd, Nat.reduceLeDiff]
  refine wp_call (k_toF x1 p1 n1 h12 (d1.grow (H1.trans g12)) s1) ?_
  rintro r h13 ⟨g13, p1d, n1d, rfl, a1d⟩
  simp +contextual (maxSteps := 2000000) only [go_sem, Nat.reduceEqDiff, reduceCtorEq, Nat.reduceAdd, Nat.reduceLeDiff]
  refine wp_call (k_iAllOf x0 x1 p0d p1d n1d h13 (a0d.sl.grow g13) (a1d.sl) s0 s1) ?_
  rintro r h14 ⟨g14, py, rfl, b2⟩
  have G9 : Grow h11 h14 := ((g12.trans g13).trans g14)
  have qz := k_eqJ (allF x0 x1) (allF x0 x1) py pw h14 (b2.sl) ((w0.grow (Gm.trans G9)).sl) hR
  have qy := k_heldJ (allF x0 x1) pg 1 h14 (mr.grow G9) (by omega) (by omega) hR
  simp +contextual (maxSteps := 2000000) only [go_sem, Nat.reduceEqDiff, reduceCtorEq, Nat.reduceAdd, Nat.reduceLeDiff, qz, qy, decide_true, decide_eq_false (show ¬ ((1 : Int) + (cellsJ (allF x0 x1) : Nat) < 0) by omega)]
  exact gcK_of rfl (fun _ _ => rfl)
end Go.Proofs.Ytdalgphpacikkab.Am
