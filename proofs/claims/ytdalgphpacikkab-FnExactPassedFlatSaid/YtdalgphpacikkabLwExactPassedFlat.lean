/- The law FnExactPassedFlat. -/
import Derived.Test.YtdalgphpacikkabK
import Derived.Test.YtdalgphpacikkabPB
namespace Go.Proofs.Ytdalgphpacikkab.Am
open Go
set_option maxRecDepth 100000
set_option maxHeartbeats 4000000
set_option linter.unusedSimpArgs false
set_option linter.unusedVariables false
attribute [local go_sem ↓] bv_t bv_c ev_t ev_c put_same put_ne put_none kill_at pro_at lb_same lb_ne start_zero start_succ wpC_seq wpC_reg wpC_cond wpC_block wpC_skip wpC_exit wpC_ret thenQ_normal thenQ_exit thenQ_ret inBlk_normal inBlk_exit inBlk_ret wpS_nil wpS_step wpS_again wpS_guard wpO_mov wpO_load wpO_faddr wpO_nilCheck wpO_pick wpO_build wpO_bin wpO_eqb wpO_eqst wpO_eqnil wpO_not wpO_conv wpO_bytesStr wpO_iaddr wpO_idxStr wpO_field wpO_extract wpO_len wpO_lenStr wpO_cap wpO_min wpO_slice wpO_sliceStr wpO_alloc wpO_box wpO_store wpO_call wpO_callv wpO_mkfn wpO_buildSlice wpO_mkslice wpO_append wpO_appz proA_nil proA_cons tmpX_nil tmpX_tmp tmpX_cell doneB_normal doneB_ret agK_cons agK_nil agK_guard agG_tt agG_ff agG_tf agG_ft agG_undef pureB_load results_one results_two results_nil resBs_cons resBs_nil resB_tmp resB_cell
attribute [local go_sem] kill_v kill_lp_ne kill_lp_same pro_v pro_lp_same pro_lp_ne av_v av_lp optB_some optX_some valX_eq ldX_lp ldX_v faX_lp faX_v ncX_lp ncX_ptr ncX_fn boxK_one boxK_agg stL_some stK_lp_one stK_lp_agg stK_v_one stK_v_agg proM_v proM_lp callG_mk callVG_mk callvK_fn fnG_mk ptrsA_nil ptrsA_cons callH_some whenA_true whenA_false guardH_tt guardH_ff guardH_tf guardH_ft guardH_undef agV_one agV_agg lenO_sl lenStrO_str notO_bool pickO_bool convO_int eqbO_bool eqnilO_sl extractO_tup capO_sl minO_int loadL_one loadL_all storeL_eq fillA_nil fillA_one fillA_agg nat_ge neg_ge nat_lt neg_lt buildO bin_add bin_sub bin_mul bin_eql bin_neq bin_lss bin_leq bin_gtr bin_geq str_eql str_neq str_lss str_leq str_gtr str_geq retK_some endK_mk gcK_same gcK_int gcK_bool tupO_one tupO_agg rdy_self ib ii Option.map_none Option.map_some Option.some.injEq exists_eq_left' exists_eq_left ne_eq not_false_eq_true if_true if_false List.map_cons List.map_nil List.getElem?_cons_zero List.getElem?_cons_succ List.length_cons List.length_nil List.take_succ_cons List.take_zero List.take_nil List.drop_succ_cons List.drop_zero List.drop_nil List.cons_append List.nil_append List.append_nil List.set_cons_zero List.set_cons_succ Nat.zero_add forall_const true_and and_true and_self Bool.false_eq_true false_implies true_implies implies_true Bool.not_true Bool.not_false Bool.not_eq_true' Bool.not_eq_false' beq_self_eq_true Bool.bne_true Bool.bne_false
attribute [local go_sem] lenI lenS lenP lenQ lenB lenL lenT encI_0 encS_0 encP_0 encP_1 encQ_0 encQ_1 encQ_2 encQ_3 encB_0 encB_1 encL_0 encL_1 encT_0 encT_1
attribute [local go_sem low] whenA_bool guardH_bool
/-! laws.FnExactPassedFlat -/
def L5_0 : List AStep := [⟨.mov (.c (.bool false)), (some 4), none, []⟩]
theorem v5_0 : VS L5_0.eq_1 := rfl
def L5_1 : List AStep := ⟨.box 24 (.t 0), (some 2), none, []⟩ :: ⟨.box 28 (.t 1), (some 3), none, []⟩ :: L5_0
theorem v5_1 : VS L5_1.eq_1 := rfl
def L5_2 : List AStep := [⟨.mov (.c (.int .i64 1048576)), (some 5), none, []⟩]
theorem v5_2 : VS L5_2.eq_1 := rfl
def L5_3 : List AStep := [⟨.call 20 [(.t 17), (.t 18)], (some 19), none, []⟩, ⟨.mov (.t 19), (some 5), none, []⟩]
theorem v5_3 : VS L5_3.eq_1 := rfl
def L5_4 : List AStep := ⟨.load 1 true (.t 2), (some 17), none, []⟩ :: ⟨.mov (.t 5), (some 18), none, []⟩ :: L5_3
theorem v5_4 : VS L5_4.eq_1 := rfl
def L5_5 : List AStep := [⟨.mov (.t 5), (some 20), none, []⟩, ⟨.bin .lss (.t 20) (.c (.int .i64 0)), (some 21), none, []⟩]
theorem v5_5 : VS L5_5.eq_1 := rfl
def L5_6 : List AStep := [⟨.mov (.c (.bool true)), (some 4), none, []⟩]
theorem v5_6 : VS L5_6.eq_1 := rfl
def L5_7 : List AStep := [⟨.call 21 [(.t 22), (.t 23)], (some 24), none, []⟩, ⟨.mov (.t 24), (some 5), none, []⟩]
theorem v5_7 : VS L5_7.eq_1 := rfl
def L5_8 : List AStep := ⟨.load 2 true (.t 3), (some 22), none, []⟩ :: ⟨.mov (.t 5), (some 23), none, []⟩ :: L5_7
theorem v5_8 : VS L5_8.eq_1 := rfl
def L5_9 : List AStep := [⟨.mov (.t 5), (some 25), none, []⟩, ⟨.bin .lss (.t 25) (.c (.int .i64 0)), (some 26), none, []⟩]
theorem v5_9 : VS L5_9.eq_1 := rfl
def L5_10 : List AStep := [⟨.mov (.c (.bool true)), (some 4), none, []⟩]
theorem v5_10 : VS L5_10.eq_1 := rfl
def L5_11 : List AStep := [⟨.mov (.t 34), (some 7), none, []⟩]
theorem v5_11 : VS L5_11.eq_1 := rfl
def L5_12 : List AStep := ⟨.extract (.t 27) 1, (some 34), none, []⟩ :: ⟨.store 2 (.t 6) (.t 33), none, none, []⟩ :: L5_11
theorem v5_12 : VS L5_12.eq_1 := rfl
def L5_13 : List AStep := ⟨.mov (.t 32), (some 27), none, []⟩ :: ⟨.extract (.t 27) 0, (some 33), none, []⟩ :: L5_12
theorem v5_13 : VS L5_13.eq_1 := rfl
def L5_14 : List AStep := ⟨.call 24 [(.t 30)], (some 31), none, []⟩ :: ⟨.call 22 [(.t 29), (.t 31)], (some 32), none, []⟩ :: L5_13
theorem v5_14 : VS L5_14.eq_1 := rfl
def L5_15 : List AStep := ⟨.alloc 39 [(.sl none 0 (some 0)), (.sl none 0 (some 0))], (some 6), none, []⟩ :: ⟨.call 23 [(.t 28)], (some 29), none, [(.load 2 true (.t 3), (some 30), none)]⟩ :: L5_14
theorem v5_15 : VS L5_15.eq_1 := rfl
def L5_16 : List AStep := ⟨.load 1 true (.t 2), (some 28), none, []⟩ :: ⟨.load 2 true (.t 3), (some 30), none, []⟩ :: L5_15
theorem v5_16 : VS L5_16.eq_1 := rfl
def L5_17 : List AStep := [⟨.alloc 36 [(.sl none 0 (some 0))], (some 8), none, []⟩, ⟨.store 1 (.t 8) (.t 36), none, none, []⟩]
theorem v5_17 : VS L5_17.eq_1 := rfl
def L5_18 : List AStep := ⟨.load 1 true (.t 2), (some 35), none, []⟩ :: ⟨.call 23 [(.t 35)], (some 36), none, []⟩ :: L5_17
theorem v5_18 : VS L5_18.eq_1 := rfl
def L5_19 : List AStep := [⟨.alloc 39 [(.sl none 0 (some 0)), (.sl none 0 (some 0))], (some 9), none, []⟩, ⟨.store 2 (.t 9) (.t 38), none, none, []⟩]
theorem v5_19 : VS L5_19.eq_1 := rfl
def L5_20 : List AStep := ⟨.load 2 true (.t 3), (some 37), none, []⟩ :: ⟨.call 24 [(.t 37)], (some 38), none, []⟩ :: L5_19
theorem v5_20 : VS L5_20.eq_1 := rfl
def L5_21 : List AStep := [⟨.mov (.t 44), (some 11), none, []⟩]
theorem v5_21 : VS L5_21.eq_1 := rfl
def L5_22 : List AStep := ⟨.alloc 39 [(.sl none 0 (some 0)), (.sl none 0 (some 0))], (some 10), none, []⟩ :: ⟨.store 2 (.t 10) (.t 43), none, none, []⟩ :: L5_21
theorem v5_22 : VS L5_22.eq_1 := rfl
def L5_23 : List AStep := ⟨.extract (.t 39) 0, (some 43), none, []⟩ :: ⟨.extract (.t 39) 1, (some 44), none, []⟩ :: L5_22
theorem v5_23 : VS L5_23.eq_1 := rfl
def L5_24 : List AStep := ⟨.call 25 [(.t 40), (.t 41)], (some 42), none, []⟩ :: ⟨.mov (.t 42), (some 39), none, []⟩ :: L5_23
theorem v5_24 : VS L5_24.eq_1 := rfl
def L5_25 : List AStep := ⟨.load 1 true (.t 8), (some 40), none, []⟩ :: ⟨.load 2 true (.t 9), (some 41), none, []⟩ :: L5_24
theorem v5_25 : VS L5_25.eq_1 := rfl
def L5_26 : List AStep := [⟨.pick (.t 49) (.c (.bool true)) (.t 52), (some 53), none, []⟩]
theorem v5_26 : VS L5_26.eq_1 := rfl
def L5_27 : List AStep := ⟨.mov (.t 7), (some 51), (some (49, false)), []⟩ :: ⟨.eqb true (.t 50) (.t 51), (some 52), (some (49, false)), []⟩ :: L5_26
theorem v5_27 : VS L5_27.eq_1 := rfl
def L5_28 : List AStep := ⟨.mov (.t 48), (some 49), none, []⟩ :: ⟨.mov (.t 11), (some 50), (some (49, false)), []⟩ :: L5_27
theorem v5_28 : VS L5_28.eq_1 := rfl
def L5_29 : List AStep := ⟨.call 26 [(.t 45), (.t 46)], (some 47), none, []⟩ :: ⟨.not (.t 47), (some 48), none, []⟩ :: L5_28
theorem v5_29 : VS L5_29.eq_1 := rfl
def L5_30 : List AStep := ⟨.load 2 true (.t 10), (some 45), none, []⟩ :: ⟨.load 2 true (.t 6), (some 46), none, []⟩ :: L5_29
theorem v5_30 : VS L5_30.eq_1 := rfl
def L5_31 : List AStep := [⟨.mov (.c (.bool false)), (some 4), none, []⟩]
theorem v5_31 : VS L5_31.eq_1 := rfl
def L5_32 : List AStep := [⟨.not (.t 57), (some 58), none, []⟩]
theorem v5_32 : VS L5_32.eq_1 := rfl
def L5_33 : List AStep := ⟨.call 23 [(.t 55)], (some 56), none, [(.load 1 true (.t 8), (some 54), none)]⟩ :: ⟨.call 27 [(.t 54), (.t 56)], (some 57), none, []⟩ :: L5_32
theorem v5_33 : VS L5_33.eq_1 := rfl
def L5_34 : List AStep := ⟨.load 1 true (.t 8), (some 54), none, []⟩ :: ⟨.load 1 true (.t 2), (some 55), none, []⟩ :: L5_33
theorem v5_34 : VS L5_34.eq_1 := rfl
def L5_35 : List AStep := [⟨.mov (.c (.bool false)), (some 4), none, []⟩]
theorem v5_35 : VS L5_35.eq_1 := rfl
def L5_36 : List AStep := [⟨.not (.t 62), (some 63), none, []⟩]
theorem v5_36 : VS L5_36.eq_1 := rfl
def L5_37 : List AStep := ⟨.call 24 [(.t 60)], (some 61), none, [(.load 2 true (.t 9), (some 59), none)]⟩ :: ⟨.call 26 [(.t 59), (.t 61)], (some 62), none, []⟩ :: L5_36
theorem v5_37 : VS L5_37.eq_1 := rfl
def L5_38 : List AStep := ⟨.load 2 true (.t 9), (some 59), none, []⟩ :: ⟨.load 2 true (.t 3), (some 60), none, []⟩ :: L5_37
theorem v5_38 : VS L5_38.eq_1 := rfl
def L5_39 : List AStep := [⟨.mov (.c (.bool false)), (some 4), none, []⟩]
theorem v5_39 : VS L5_39.eq_1 := rfl
def L5_40 : List AStep := [⟨.mov (.c (.int .i64 1)), (some 12), none, []⟩]
theorem v5_40 : VS L5_40.eq_1 := rfl
def L5_41 : List AStep := [⟨.call 28 [(.t 64), (.t 65)], (some 66), none, []⟩, ⟨.mov (.t 66), (some 12), none, []⟩]
theorem v5_41 : VS L5_41.eq_1 := rfl
def L5_42 : List AStep := ⟨.load 1 true (.t 8), (some 64), none, []⟩ :: ⟨.mov (.t 12), (some 65), none, []⟩ :: L5_41
theorem v5_42 : VS L5_42.eq_1 := rfl
def L5_43 : List AStep := [⟨.call 29 [(.t 67), (.t 68)], (some 69), none, []⟩, ⟨.mov (.t 69), (some 12), none, []⟩]
theorem v5_43 : VS L5_43.eq_1 := rfl
def L5_44 : List AStep := ⟨.load 2 true (.t 9), (some 67), none, []⟩ :: ⟨.mov (.t 12), (some 68), none, []⟩ :: L5_43
theorem v5_44 : VS L5_44.eq_1 := rfl
def L5_45 : List AStep := [⟨.pick (.t 78) (.c (.bool true)) (.t 81), (some 82), none, []⟩]
theorem v5_45 : VS L5_45.eq_1 := rfl
def L5_46 : List AStep := ⟨.mov (.t 7), (some 80), (some (78, false)), []⟩ :: ⟨.eqb true (.t 79) (.t 80), (some 81), (some (78, false)), []⟩ :: L5_45
theorem v5_46 : VS L5_46.eq_1 := rfl
def L5_47 : List AStep := ⟨.mov (.t 77), (some 78), none, []⟩ :: ⟨.mov (.t 11), (some 79), (some (78, false)), []⟩ :: L5_46
theorem v5_47 : VS L5_47.eq_1 := rfl
def L5_48 : List AStep := ⟨.not (.t 75), (some 76), (some (72, false)), []⟩ :: ⟨.pick (.t 72) (.c (.bool true)) (.t 76), (some 77), none, []⟩ :: L5_47
theorem v5_48 : VS L5_48.eq_1 := rfl
def L5_49 : List AStep := ⟨.load 2 true (.t 6), (some 74), (some (72, false)), []⟩ :: ⟨.call 26 [(.t 73), (.t 74)], (some 75), (some (72, false)), []⟩ :: L5_48
theorem v5_49 : VS L5_49.eq_1 := rfl
def L5_50 : List AStep := ⟨.mov (.t 71), (some 72), none, []⟩ :: ⟨.load 2 true (.t 10), (some 73), (some (72, false)), []⟩ :: L5_49
theorem v5_50 : VS L5_50.eq_1 := rfl
def L5_51 : List AStep := ⟨.mov (.t 12), (some 70), none, []⟩ :: ⟨.bin .lss (.t 70) (.c (.int .i64 0)), (some 71), none, []⟩ :: L5_50
theorem v5_51 : VS L5_51.eq_1 := rfl
def L5_52 : List AStep := [⟨.mov (.c (.bool false)), (some 4), none, []⟩]
theorem v5_52 : VS L5_52.eq_1 := rfl
def L5_53 : List AStep := [⟨.mov (.c (.int .i64 1)), (some 13), none, []⟩]
theorem v5_53 : VS L5_53.eq_1 := rfl
def L5_54 : List AStep := [⟨.call 29 [(.t 83), (.t 84)], (some 85), none, []⟩, ⟨.mov (.t 85), (some 13), none, []⟩]
theorem v5_54 : VS L5_54.eq_1 := rfl
def L5_55 : List AStep := ⟨.load 2 true (.t 10), (some 83), none, []⟩ :: ⟨.mov (.t 13), (some 84), none, []⟩ :: L5_54
theorem v5_55 : VS L5_55.eq_1 := rfl
def L5_56 : List AStep := [⟨.mov (.c (.int .i64 1)), (some 14), none, []⟩]
theorem v5_56 : VS L5_56.eq_1 := rfl
def L5_57 : List AStep := [⟨.call 30 [(.t 86), (.t 87)], (some 88), none, []⟩, ⟨.mov (.t 88), (some 14), none, []⟩]
theorem v5_57 : VS L5_57.eq_1 := rfl
def L5_58 : List AStep := ⟨.load 2 true (.t 10), (some 86), none, []⟩ :: ⟨.mov (.t 14), (some 87), none, []⟩ :: L5_57
theorem v5_58 : VS L5_58.eq_1 := rfl
def L5_59 : List AStep := [⟨.mov (.t 14), (some 89), none, []⟩, ⟨.bin .lss (.t 89) (.c (.int .i64 0)), (some 90), none, []⟩]
theorem v5_59 : VS L5_59.eq_1 := rfl
def L5_60 : List AStep := [⟨.mov (.c (.bool false)), (some 4), none, []⟩]
theorem v5_60 : VS L5_60.eq_1 := rfl
def L5_61 : List AStep := [⟨.bin .neq (.t 91) (.t 92), (some 93), none, []⟩]
theorem v5_61 : VS L5_61.eq_1 := rfl
def L5_62 : List AStep := ⟨.mov (.t 14), (some 91), none, []⟩ :: ⟨.mov (.t 13), (some 92), none, []⟩ :: L5_61
theorem v5_62 : VS L5_62.eq_1 := rfl
def L5_63 : List AStep := [⟨.mov (.c (.bool false)), (some 4), none, []⟩]
theorem v5_63 : VS L5_63.eq_1 := rfl
def L5_64 : List AStep := [⟨.mov (.t 101), (some 16), none, []⟩]
theorem v5_64 : VS L5_64.eq_1 := rfl
def L5_65 : List AStep := ⟨.extract (.t 94) 1, (some 101), none, []⟩ :: ⟨.store 2 (.t 15) (.t 100), none, none, []⟩ :: L5_64
theorem v5_65 : VS L5_65.eq_1 := rfl
def L5_66 : List AStep := ⟨.mov (.t 99), (some 94), none, []⟩ :: ⟨.extract (.t 94) 0, (some 100), none, []⟩ :: L5_65
theorem v5_66 : VS L5_66.eq_1 := rfl
def L5_67 : List AStep := ⟨.call 24 [(.t 97)], (some 98), none, []⟩ :: ⟨.call 25 [(.t 96), (.t 98)], (some 99), none, []⟩ :: L5_66
theorem v5_67 : VS L5_67.eq_1 := rfl
def L5_68 : List AStep := ⟨.alloc 39 [(.sl none 0 (some 0)), (.sl none 0 (some 0))], (some 15), none, []⟩ :: ⟨.call 23 [(.t 95)], (some 96), none, [(.load 2 true (.t 3), (some 97), none)]⟩ :: L5_67
theorem v5_68 : VS L5_68.eq_1 := rfl
def L5_69 : List AStep := ⟨.load 1 true (.t 2), (some 95), none, []⟩ :: ⟨.load 2 true (.t 3), (some 97), none, []⟩ :: L5_68
theorem v5_69 : VS L5_69.eq_1 := rfl
def L5_70 : List AStep := [⟨.pick (.t 106) (.c (.bool true)) (.t 109), (some 110), none, []⟩]
theorem v5_70 : VS L5_70.eq_1 := rfl
def L5_71 : List AStep := ⟨.mov (.t 7), (some 108), (some (106, false)), []⟩ :: ⟨.eqb true (.t 107) (.t 108), (some 109), (some (106, false)), []⟩ :: L5_70
theorem v5_71 : VS L5_71.eq_1 := rfl
def L5_72 : List AStep := ⟨.mov (.t 105), (some 106), none, []⟩ :: ⟨.mov (.t 16), (some 107), (some (106, false)), []⟩ :: L5_71
theorem v5_72 : VS L5_72.eq_1 := rfl
def L5_73 : List AStep := ⟨.call 26 [(.t 102), (.t 103)], (some 104), none, []⟩ :: ⟨.not (.t 104), (some 105), none, []⟩ :: L5_72
theorem v5_73 : VS L5_73.eq_1 := rfl
def L5_74 : List AStep := ⟨.load 2 true (.t 15), (some 102), none, []⟩ :: ⟨.load 2 true (.t 6), (some 103), none, []⟩ :: L5_73
theorem v5_74 : VS L5_74.eq_1 := rfl
def L5_75 : List AStep := [⟨.mov (.c (.bool false)), (some 4), none, []⟩]
theorem v5_75 : VS L5_75.eq_1 := rfl
def L5_76 : List AStep := [⟨.mov (.c (.int .i64 1)), (some 14), none, []⟩]
theorem v5_76 : VS L5_76.eq_1 := rfl
def L5_77 : List AStep := [⟨.call 30 [(.t 111), (.t 112)], (some 113), none, []⟩, ⟨.mov (.t 113), (some 14), none, []⟩]
theorem v5_77 : VS L5_77.eq_1 := rfl
def L5_78 : List AStep := ⟨.load 2 true (.t 10), (some 111), none, []⟩ :: ⟨.mov (.t 14), (some 112), none, []⟩ :: L5_77
theorem v5_78 : VS L5_78.eq_1 := rfl
def L5_79 : List AStep := [⟨.mov (.t 14), (some 114), none, []⟩, ⟨.bin .lss (.t 114) (.c (.int .i64 0)), (some 115), none, []⟩]
theorem v5_79 : VS L5_79.eq_1 := rfl
def L5_80 : List AStep := [⟨.mov (.c (.bool false)), (some 4), none, []⟩]
theorem v5_80 : VS L5_80.eq_1 := rfl
def L5_81 : List AStep := [⟨.bin .neq (.t 116) (.t 117), (some 118), none, []⟩]
theorem v5_81 : VS L5_81.eq_1 := rfl
def L5_82 : List AStep := ⟨.mov (.t 14), (some 116), none, []⟩ :: ⟨.mov (.t 13), (some 117), none, []⟩ :: L5_81
theorem v5_82 : VS L5_82.eq_1 := rfl
def L5_83 : List AStep := [⟨.mov (.c (.bool false)), (some 4), none, []⟩]
theorem v5_83 : VS L5_83.eq_1 := rfl
def L5_84 : List AStep := [⟨.mov (.c (.bool true)), (some 4), none, []⟩]
theorem v5_84 : VS L5_84.eq_1 := rfl
def C5_0 : ACode := .seq (.reg L5_6) .ret
theorem u5_0 : VC C5_0.eq_1 := rfl
def C5_1 : ACode := .cond (.t 21) C5_0 .skip
theorem u5_1 : VC C5_1.eq_1 := rfl
def C5_2 : ACode := .seq (.reg L5_5) C5_1
theorem u5_2 : VC C5_2.eq_1 := rfl
def C5_3 : ACode := .seq (.reg L5_10) .ret
theorem u5_3 : VC C5_3.eq_1 := rfl
def C5_4 : ACode := .cond (.t 26) C5_3 .skip
theorem u5_4 : VC C5_4.eq_1 := rfl
def C5_5 : ACode := .seq (.reg L5_9) C5_4
theorem u5_5 : VC C5_5.eq_1 := rfl
def C5_6 : ACode := .seq (.reg L5_31) .ret
theorem u5_6 : VC C5_6.eq_1 := rfl
def C5_7 : ACode := .cond (.t 53) C5_6 .skip
theorem u5_7 : VC C5_7.eq_1 := rfl
def C5_8 : ACode := .seq (.reg L5_30) C5_7
theorem u5_8 : VC C5_8.eq_1 := rfl
def C5_9 : ACode := .seq (.reg L5_35) .ret
theorem u5_9 : VC C5_9.eq_1 := rfl
def C5_10 : ACode := .cond (.t 58) C5_9 .skip
theorem u5_10 : VC C5_10.eq_1 := rfl
def C5_11 : ACode := .seq (.reg L5_34) C5_10
theorem u5_11 : VC C5_11.eq_1 := rfl
def C5_12 : ACode := .seq (.reg L5_39) .ret
theorem u5_12 : VC C5_12.eq_1 := rfl
def C5_13 : ACode := .cond (.t 63) C5_12 .skip
theorem u5_13 : VC C5_13.eq_1 := rfl
def C5_14 : ACode := .seq (.reg L5_38) C5_13
theorem u5_14 : VC C5_14.eq_1 := rfl
def C5_15 : ACode := .seq (.reg L5_52) .ret
theorem u5_15 : VC C5_15.eq_1 := rfl
def C5_16 : ACode := .cond (.t 82) C5_15 .skip
theorem u5_16 : VC C5_16.eq_1 := rfl
def C5_17 : ACode := .seq (.reg L5_51) C5_16
theorem u5_17 : VC C5_17.eq_1 := rfl
def C5_18 : ACode := .seq (.reg L5_60) .ret
theorem u5_18 : VC C5_18.eq_1 := rfl
def C5_19 : ACode := .cond (.t 90) C5_18 .skip
theorem u5_19 : VC C5_19.eq_1 := rfl
def C5_20 : ACode := .seq (.reg L5_59) C5_19
theorem u5_20 : VC C5_20.eq_1 := rfl
def C5_21 : ACode := .seq (.reg L5_63) .ret
theorem u5_21 : VC C5_21.eq_1 := rfl
def C5_22 : ACode := .cond (.t 93) C5_21 .skip
theorem u5_22 : VC C5_22.eq_1 := rfl
def C5_23 : ACode := .seq (.reg L5_62) C5_22
theorem u5_23 : VC C5_23.eq_1 := rfl
def C5_24 : ACode := .seq (.reg L5_75) .ret
theorem u5_24 : VC C5_24.eq_1 := rfl
def C5_25 : ACode := .cond (.t 110) C5_24 .skip
theorem u5_25 : VC C5_25.eq_1 := rfl
def C5_26 : ACode := .seq (.reg L5_74) C5_25
theorem u5_26 : VC C5_26.eq_1 := rfl
def C5_27 : ACode := .seq (.reg L5_80) .ret
theorem u5_27 : VC C5_27.eq_1 := rfl
def C5_28 : ACode := .cond (.t 115) C5_27 .skip
theorem u5_28 : VC C5_28.eq_1 := rfl
def C5_29 : ACode := .seq (.reg L5_79) C5_28
theorem u5_29 : VC C5_29.eq_1 := rfl
def C5_30 : ACode := .seq (.reg L5_83) .ret
theorem u5_30 : VC C5_30.eq_1 := rfl
def C5_31 : ACode := .cond (.t 118) C5_30 .skip
theorem u5_31 : VC C5_31.eq_1 := rfl
def C5_32 : ACode := .seq (.reg L5_82) C5_31
theorem u5_32 : VC C5_32.eq_1 := rfl
def C5_33 : ACode := .seq (.reg L5_84) .ret
theorem u5_33 : VC C5_33.eq_1 := rfl
def C5_34 : ACode := .seq C5_32 C5_33
theorem u5_34 : VC C5_34.eq_1 := rfl
def C5_35 : ACode := .seq C5_29 C5_34
theorem u5_35 : VC C5_35.eq_1 := rfl
def C5_36 : ACode := .seq (.reg L5_78) C5_35
theorem u5_36 : VC C5_36.eq_1 := rfl
def C5_37 : ACode := .seq (.reg L5_76) C5_36
theorem u5_37 : VC C5_37.eq_1 := rfl
def C5_38 : ACode := .seq C5_26 C5_37
theorem u5_38 : VC C5_38.eq_1 := rfl
def C5_39 : ACode := .seq (.reg L5_69) C5_38
theorem u5_39 : VC C5_39.eq_1 := rfl
def C5_40 : ACode := .seq C5_23 C5_39
theorem u5_40 : VC C5_40.eq_1 := rfl
def C5_41 : ACode := .seq C5_20 C5_40
theorem u5_41 : VC C5_41.eq_1 := rfl
def C5_42 : ACode := .seq (.reg L5_58) C5_41
theorem u5_42 : VC C5_42.eq_1 := rfl
def C5_43 : ACode := .seq (.reg L5_56) C5_42
theorem u5_43 : VC C5_43.eq_1 := rfl
def C5_44 : ACode := .seq (.reg L5_55) C5_43
theorem u5_44 : VC C5_44.eq_1 := rfl
def C5_45 : ACode := .seq (.reg L5_53) C5_44
theorem u5_45 : VC C5_45.eq_1 := rfl
def C5_46 : ACode := .seq C5_17 C5_45
theorem u5_46 : VC C5_46.eq_1 := rfl
def C5_47 : ACode := .seq (.reg L5_44) C5_46
theorem u5_47 : VC C5_47.eq_1 := rfl
def C5_48 : ACode := .seq (.reg L5_42) C5_47
theorem u5_48 : VC C5_48.eq_1 := rfl
def C5_49 : ACode := .seq (.reg L5_40) C5_48
theorem u5_49 : VC C5_49.eq_1 := rfl
def C5_50 : ACode := .seq C5_14 C5_49
theorem u5_50 : VC C5_50.eq_1 := rfl
def C5_51 : ACode := .seq C5_11 C5_50
theorem u5_51 : VC C5_51.eq_1 := rfl
def C5_52 : ACode := .seq C5_8 C5_51
theorem u5_52 : VC C5_52.eq_1 := rfl
def C5_53 : ACode := .seq (.reg L5_25) C5_52
theorem u5_53 : VC C5_53.eq_1 := rfl
def C5_54 : ACode := .seq (.reg L5_20) C5_53
theorem u5_54 : VC C5_54.eq_1 := rfl
def C5_55 : ACode := .seq (.reg L5_18) C5_54
theorem u5_55 : VC C5_55.eq_1 := rfl
def C5_56 : ACode := .seq (.reg L5_16) C5_55
theorem u5_56 : VC C5_56.eq_1 := rfl
def C5_57 : ACode := .seq C5_5 C5_56
theorem u5_57 : VC C5_57.eq_1 := rfl
def C5_58 : ACode := .seq (.reg L5_8) C5_57
theorem u5_58 : VC C5_58.eq_1 := rfl
def C5_59 : ACode := .seq C5_2 C5_58
theorem u5_59 : VC C5_59.eq_1 := rfl
def C5_60 : ACode := .seq (.reg L5_4) C5_59
theorem u5_60 : VC C5_60.eq_1 := rfl
def C5_61 : ACode := .seq (.reg L5_2) C5_60
theorem u5_61 : VC C5_61.eq_1 := rfl
def C5_62 : ACode := .seq (.reg L5_1) C5_61
theorem u5_62 : VC C5_62.eq_1 := rfl
def F5 : AFunc := ⟨119, [.tmp 4], C5_62⟩
theorem cF5 : compB Try.prog 5 = some F5 := by kernel_rfl
attribute [local go_sem ↓] u5_0 u5_1 u5_2 u5_3 u5_4 u5_5 u5_6 u5_7 u5_8 u5_9 u5_10 u5_11 u5_12 u5_13 u5_14 u5_15 u5_16 u5_17 u5_18 u5_19 u5_20 u5_21 u5_22 u5_23 u5_24 u5_25 u5_26 u5_27 u5_28 u5_29 u5_30 u5_31 u5_32 u5_33 u5_34 u5_35 u5_36 u5_37 u5_38 u5_39 u5_40 u5_41 u5_42 u5_43 u5_44 u5_45 u5_46 u5_47 u5_48 u5_49 u5_50 u5_51 u5_52 u5_53 u5_54 u5_55 u5_56 u5_57 u5_58 u5_59 u5_60 u5_61 u5_62 v5_0 v5_1 v5_2 v5_3 v5_4 v5_5 v5_6 v5_7 v5_8 v5_9 v5_10 v5_11 v5_12 v5_13 v5_14 v5_15 v5_16 v5_17 v5_18 v5_19 v5_20 v5_21 v5_22 v5_23 v5_24 v5_25 v5_26 v5_27 v5_28 v5_29 v5_30 v5_31 v5_32 v5_33 v5_34 v5_35 v5_36 v5_37 v5_38 v5_39 v5_40 v5_41 v5_42 v5_43 v5_44 v5_45 v5_46 v5_47 v5_48 v5_49 v5_50 v5_51 v5_52 v5_53 v5_54 v5_55 v5_56 v5_57 v5_58 v5_59 v5_60 v5_61 v5_62 v5_63 v5_64 v5_65 v5_66 v5_67 v5_68 v5_69 v5_70 v5_71 v5_72 v5_73 v5_74 v5_75 v5_76 v5_77 v5_78 v5_79 v5_80 v5_81 v5_82 v5_83 v5_84
theorem law5 (h : H) (avs : List AV) (hok : okVs Try.prog h 6 [ 24, 28 ] avs) : callK (bm Try.prog 5 avs h) fun r _ => r = ib true := by
  obtain ⟨v0, avs, rfl, hv0, hok⟩ := okVs_cons hok
  obtain ⟨v1, avs, rfl, hv1, hok⟩ := okVs_cons hok
  obtain rfl := okVs_nil hok
  obtain ⟨p0, x0, rfl, d0⟩ := dG hv0
  obtain ⟨p1, n1, x1, rfl, d1⟩ := dF hv1
  refine bm_of cF5 ?_
  have z0 := k_szG x0 p0 1048576 h (by omega) (by omega) d0
  by_cases y0 : szr 1048576 (wtG x0) < 0
  · simp +contextual (maxSteps := 2000000) only [go_sem, Nat.reduceEqDiff, reduceCtorEq, Nat.reduceAdd, Nat.reduceLeDiff, F5, z0, decide_eq_true y0]
  have z1 := k_szF x1 p1 n1 (szr 1048576 (wtG x0)) h (by omega) (by unfold szr; split <;> omega) d1
  by_cases y1 : szr (szr 1048576 (wtG x0)) (wtF x1) < 0
  · simp +contextual (maxSteps := 2000000) only [go_sem, Nat.reduceEqDiff, reduceCtorEq, Nat.reduceAdd, Nat.reduceLeDiff, F5, z0, z1, decide_eq_false y0, decide_eq_true y1]
  obtain ⟨e0, u0⟩ := szr_ge y0
  obtain ⟨e1, u1⟩ := szr_ge y1
  have s0 : miniG x0 := wtG_sm (by omega)
  have s1 : miniF x1 := wtF_sm (by omega)
  have hR : miniF (passF x0 x1) := .pass
  simp +contextual (maxSteps := 2000000) only [go_sem, Nat.reduceEqDiff, reduceCtorEq, Nat.reduceAdd, Nat.reduceLeDiff, F5, z0, z1, decide_eq_false y0, decide_eq_false y1]
  refine wp_call (k_toG x0 p0 h (d0.grow (Grow.refl h)) s0) ?_
  rintro r h1 ⟨g1, p0a, rfl, a0a⟩
  simp +contextual (maxSteps := 2000000) only [go_sem, Nat.reduceEqDiff, reduceCtorEq, Nat.reduceAdd, Nat.reduceLeDiff]
  refine wp_call (k_toF x1 p1 n1 h1 (d1.grow ((Grow.refl h).trans g1)) s1) ?_
  rintro r h2 ⟨g2, p1a, n1a, rfl, a1a⟩
  simp +contextual (maxSteps := 2000000) only [go_sem, Nat.reduceEqDiff, reduceCtorEq, Nat.reduceAdd, Nat.reduceLeDiff]
  refine wp_call (k_sPassedFlat x0 x1 p0a p1a n1a h2 (a0a.sl.grow g2) (a1a.sl) s0 s1) ?_
  rintro r h3 ⟨g3, pw, nw, rfl, w0⟩
  simp +contextual (maxSteps := 2000000) only [go_sem, Nat.reduceEqDiff, reduceCtorEq, Nat.reduceAdd, Nat.reduceLeDiff]
  refine wp_call (k_toG x0 p0 h3 (d0.grow ((((Grow.refl h).trans g1).trans g2).trans g3)) s0) ?_
  rintro r h4 ⟨g4, p0b, rfl, a0b⟩
  simp +contextual (maxSteps := 2000000) only [go_sem, Nat.reduceEqDiff, reduceCtorEq, Nat.reduceAdd, Nat.reduceLeDiff]
  refine wp_call (k_toF x1 p1 n1 h4 (d1.grow (((((Grow.refl h).trans g1).trans g2).trans g3).trans g4)) s1) ?_
  rintro r h5 ⟨g5, p1b, n1b, rfl, a1b⟩
  simp +contextual (maxSteps := 2000000) only [go_sem, Nat.reduceEqDiff, reduceCtorEq, Nat.reduceAdd, Nat.reduceLeDiff]
  refine wp_call (k_iPassedFlat x0 x1 p0b p1b n1b h5 (a0b.sl.grow g5) (a1b.sl) s0 s1) ?_
  rintro r h6 ⟨g6, pg, ng, rfl, b0⟩
  have q0 := k_eqF (passF x0 x1) (passF x0 x1) pg ng pw nw h6 (b0.sl) (w0.sl.grow ((g4.trans g5).trans g6)) hR
  simp +contextual (maxSteps := 2000000) only [go_sem, Nat.reduceEqDiff, reduceCtorEq, Nat.reduceAdd, Nat.reduceLeDiff, q0, decide_true]
  refine wp_call (k_toG x0 p0 h6 (d0.grow (((((((Grow.refl h).trans g1).trans g2).trans g3).trans g4).trans g5).trans g6)) s0) ?_
  rintro r h7 ⟨g7, p0c, rfl, a0c⟩
  have q1 := k_eqG x0 x0 p0b p0c h7 (a0b.sl.grow ((g5.trans g6).trans g7)) a0c.sl s0
  simp +contextual (maxSteps := 2000000) only [go_sem, Nat.reduceEqDiff, reduceCtorEq, Nat.reduceAdd, Nat.reduceLeDiff, q1, decide_true]
  refine wp_call (k_toF x1 p1 n1 h7 (d1.grow ((((((((Grow.refl h).trans g1).trans g2).trans g3).trans g4).trans g5).trans g6).trans g7)) s1) ?_
  rintro r h8 ⟨g8, p1c, n1c, rfl, a1c⟩
  have q2 := k_eqF x1 x1 p1b n1b p1c n1c h8 (a1b.sl.grow ((g6.trans g7).trans g8)) a1c.sl s1
  simp +contextual (maxSteps := 2000000) only [go_sem, Nat.reduceEqDiff, reduceCtorEq, Nat.reduceAdd, Nat.reduceLeDiff, q2, decide_true]
  have k0 := cellsG_le s0
  have k1 := cellsF_le s1
  have G8 : Grow h3 h8 := ((((g4.trans g5).trans g6).trans g7).trans g8)
  refine wp_call (k_markG x0 p0b 1 h3 h4 h8 ((a0b.grow (((g5.trans g6).trans g7).trans g8))) a0b G8 (by omega) (by omega) s0) ?_
  rintro r h9 ⟨rfl, G80, m0, N0⟩
  have M0 := N0
  simp +contextual (maxSteps := 2000000) only [go_sem, Nat.reduceEqDiff, reduceCtorEq, Nat.reduceAdd, Nat.reduceLeDiff]
  refine wp_call (k_markF x1 p1b n1b _ h3 h5 h9 (((a1b.grow ((g6.trans g7).trans g8)).mid M0 (Nat.le_refl _)).from g4.n) (a1b.from g4.n) G80 (by omega) (by omega) s1) ?_
  rintro r h10 ⟨rfl, G81, m1, N1⟩
  have M1 : Mid h3.n h5.n h8 h10 := (M0.widen g5.n).trans N1
  have b1 := (b0.grow (g7.trans g8)).mid M1 (Nat.le_refl _)
  have w1 := w0.grow G81
  have qa := k_eqF (passF x0 x1) (passF x0 x1) pg ng pw nw h10 (b1.sl) (w1.sl) hR
  simp +contextual (maxSteps := 2000000) only [go_sem, Nat.reduceEqDiff, reduceCtorEq, Nat.reduceAdd, Nat.reduceLeDiff, qa, decide_true, decide_eq_false (show ¬ ((1 : Int) + (cellsG x0 : Nat) + (cellsF x1 : Nat) < 0) by omega)]
  have kr := cellsF_le hR
  have lh : h3.n ≤ h5.n := (g4.trans g5).n
  refine wp_call (k_markF (passF x0 x1) pg ng 1 h3 h6 h10 (b1.from lh) (b0.from lh) G81 (by omega) (by omega) hR) ?_
  rintro r h11 ⟨rfl, Gm, mr, Mr⟩
  have qh := k_heldF (passF x0 x1) pg ng 1 h11 mr (by omega) (by omega) hR
  simp +contextual (maxSteps := 2000000) only [go_sem, Nat.reduceEqDiff, reduceCtorEq, Nat.reduceAdd, Nat.reduceLeDiff, qh, decide_true, decide_eq_false (show ¬ ((1 : Int) + (cellsF (passF x0 x1) : Nat) < 0) by omega)]
  have H1 : Grow h h11 := ((((Grow.refl h).trans g1).trans g2).trans g3).trans Gm
  refine wp_call (k_toG x0 p0 h11 (d0.grow H1) s0) ?_
  rintro r h12 ⟨g12, p0d, rfl, a0d⟩
  simp +contextual (maxSteps := 2000000) only [go_sem, Nat.reduceEqDiff, reduceCtorEq, Nat.reduceAdd, Nat.reduceLeDiff]
  refine wp_call (k_toF x1 p1 n1 h12 (d1.grow (H1.trans g12)) s1) ?_
  rintro r h13 ⟨g13, p1d, n1d, rfl, a1d⟩
  simp +contextual (maxSteps := 2000000) only [go_sem, Nat.reduceEqDiff, reduceCtorEq, Nat.reduceAdd, Nat.reduceLeDiff]
  refine wp_call (k_iPassedFlat x0 x1 p0d p1d n1d h13 (a0d.sl.grow g13) (a1d.sl) s0 s1) ?_
  rintro r h14 ⟨g14, py, ny, rfl, b2⟩
  have G9 : Grow h11 h14 := ((g12.trans g13).trans g14)
  have qz := k_eqF (passF x0 x1) (passF x0 x1) py ny pw nw h14 (b2.sl) ((w0.grow (Gm.trans G9)).sl) hR
  have qy := k_heldF (passF x0 x1) pg ng 1 h14 (mr.grow G9) (by omega) (by omega) hR
  simp +contextual (maxSteps := 2000000) only [go_sem, Nat.reduceEqDiff, reduceCtorEq, Nat.reduceAdd, Nat.reduceLeDiff, qz, qy, decide_true, decide_eq_false (show ¬ ((1 : Int) + (cellsF (passF x0 x1) : Nat) < 0) by omega)]
  exact gcK_of rfl (fun _ _ => rfl)
end Go.Proofs.Ytdalgphpacikkab.Am
