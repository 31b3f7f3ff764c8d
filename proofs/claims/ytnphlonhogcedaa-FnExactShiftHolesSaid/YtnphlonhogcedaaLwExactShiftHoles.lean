/- The law FnExactShiftHoles. -/
import Derived.Test.YtnphlonhogcedaaK
import Derived.Test.YtnphlonhogcedaaH3
namespace Go.Proofs.Ytnphlonhogcedaa.Am
open Go
set_option maxRecDepth 100000
set_option maxHeartbeats 4000000
set_option linter.unusedSimpArgs false
set_option linter.unusedVariables false
attribute [local go_sem ↓] bv_t bv_c ev_t ev_c put_same put_ne put_none kill_at pro_at lb_same lb_ne start_zero start_succ wpC_seq wpC_reg wpC_cond wpC_block wpC_skip wpC_exit wpC_ret thenQ_normal thenQ_exit thenQ_ret inBlk_normal inBlk_exit inBlk_ret wpS_nil wpS_step wpS_again wpS_guard wpO_mov wpO_load wpO_faddr wpO_nilCheck wpO_pick wpO_build wpO_bin wpO_eqb wpO_eqst wpO_eqnil wpO_not wpO_conv wpO_bytesStr wpO_iaddr wpO_idxStr wpO_field wpO_extract wpO_len wpO_lenStr wpO_cap wpO_min wpO_slice wpO_sliceStr wpO_alloc wpO_box wpO_store wpO_call wpO_callv wpO_mkfn wpO_buildSlice wpO_mkslice wpO_append wpO_appz proA_nil proA_cons tmpX_nil tmpX_tmp tmpX_cell doneB_normal doneB_ret agK_cons agK_nil agK_guard agG_tt agG_ff agG_tf agG_ft agG_undef pureB_load results_one results_two results_nil resBs_cons resBs_nil resB_tmp resB_cell
attribute [local go_sem] kill_v kill_lp_ne kill_lp_same pro_v pro_lp_same pro_lp_ne av_v av_lp optB_some optX_some valX_eq ldX_lp ldX_v faX_lp faX_v ncX_lp ncX_ptr ncX_fn boxK_one boxK_agg stL_some stK_lp_one stK_lp_agg stK_v_one stK_v_agg proM_v proM_lp callG_mk callVG_mk callvK_fn fnG_mk ptrsA_nil ptrsA_cons callH_some whenA_true whenA_false guardH_tt guardH_ff guardH_tf guardH_ft guardH_undef agV_one agV_agg lenO_sl lenStrO_str notO_bool pickO_bool convO_int eqbO_bool eqnilO_sl extractO_tup capO_sl minO_int loadL_one loadL_all storeL_eq fillA_nil fillA_one fillA_agg nat_ge neg_ge nat_lt neg_lt buildO bin_add bin_sub bin_mul bin_eql bin_neq bin_lss bin_leq bin_gtr bin_geq str_eql str_neq str_lss str_leq str_gtr str_geq retK_some endK_mk gcK_same gcK_int gcK_bool tupO_one tupO_agg rdy_self ib ii Option.map_none Option.map_some Option.some.injEq exists_eq_left' exists_eq_left ne_eq not_false_eq_true if_true if_false List.map_cons List.map_nil List.getElem?_cons_zero List.getElem?_cons_succ List.length_cons List.length_nil List.take_succ_cons List.take_zero List.take_nil List.drop_succ_cons List.drop_zero List.drop_nil List.cons_append List.nil_append List.append_nil List.set_cons_zero List.set_cons_succ Nat.zero_add forall_const true_and and_true and_self Bool.false_eq_true false_implies true_implies implies_true Bool.not_true Bool.not_false Bool.not_eq_true' Bool.not_eq_false' beq_self_eq_true Bool.bne_true Bool.bne_false
attribute [local go_sem] lenI lenS lenP lenQ lenB lenL lenT encI_0 encS_0 encP_0 encP_1 encQ_0 encQ_1 encQ_2 encQ_3 encB_0 encB_1 encL_0 encL_1 encT_0 encT_1
attribute [local go_sem low] whenA_bool guardH_bool
/-! laws.FnExactShiftHoles -/
def L11_0 : List AStep := [⟨.mov (.c (.bool false)), (some 4), none, []⟩]
theorem v11_0 : VS L11_0.eq_1 := rfl
def L11_1 : List AStep := ⟨.box 89 (.t 0), (some 2), none, []⟩ :: ⟨.box 89 (.t 1), (some 3), none, []⟩ :: L11_0
theorem v11_1 : VS L11_1.eq_1 := rfl
def L11_2 : List AStep := [⟨.mov (.c (.int .i64 1048576)), (some 5), none, []⟩]
theorem v11_2 : VS L11_2.eq_1 := rfl
def L11_3 : List AStep := [⟨.call 55 [(.t 17), (.t 18)], (some 19), none, []⟩, ⟨.mov (.t 19), (some 5), none, []⟩]
theorem v11_3 : VS L11_3.eq_1 := rfl
def L11_4 : List AStep := ⟨.load 2 true (.t 2), (some 17), none, []⟩ :: ⟨.mov (.t 5), (some 18), none, []⟩ :: L11_3
theorem v11_4 : VS L11_4.eq_1 := rfl
def L11_5 : List AStep := [⟨.mov (.t 5), (some 20), none, []⟩, ⟨.bin .lss (.t 20) (.c (.int .i64 0)), (some 21), none, []⟩]
theorem v11_5 : VS L11_5.eq_1 := rfl
def L11_6 : List AStep := [⟨.mov (.c (.bool true)), (some 4), none, []⟩]
theorem v11_6 : VS L11_6.eq_1 := rfl
def L11_7 : List AStep := [⟨.call 55 [(.t 22), (.t 23)], (some 24), none, []⟩, ⟨.mov (.t 24), (some 5), none, []⟩]
theorem v11_7 : VS L11_7.eq_1 := rfl
def L11_8 : List AStep := ⟨.load 2 true (.t 3), (some 22), none, []⟩ :: ⟨.mov (.t 5), (some 23), none, []⟩ :: L11_7
theorem v11_8 : VS L11_8.eq_1 := rfl
def L11_9 : List AStep := [⟨.mov (.t 5), (some 25), none, []⟩, ⟨.bin .lss (.t 25) (.c (.int .i64 0)), (some 26), none, []⟩]
theorem v11_9 : VS L11_9.eq_1 := rfl
def L11_10 : List AStep := [⟨.mov (.c (.bool true)), (some 4), none, []⟩]
theorem v11_10 : VS L11_10.eq_1 := rfl
def L11_11 : List AStep := [⟨.mov (.t 34), (some 7), none, []⟩]
theorem v11_11 : VS L11_11.eq_1 := rfl
def L11_12 : List AStep := ⟨.extract (.t 27) 1, (some 34), none, []⟩ :: ⟨.store 2 (.t 6) (.t 33), none, none, []⟩ :: L11_11
theorem v11_12 : VS L11_12.eq_1 := rfl
def L11_13 : List AStep := ⟨.mov (.t 32), (some 27), none, []⟩ :: ⟨.extract (.t 27) 0, (some 33), none, []⟩ :: L11_12
theorem v11_13 : VS L11_13.eq_1 := rfl
def L11_14 : List AStep := ⟨.call 56 [(.t 30)], (some 31), none, []⟩ :: ⟨.call 23 [(.t 29), (.t 31)], (some 32), none, []⟩ :: L11_13
theorem v11_14 : VS L11_14.eq_1 := rfl
def L11_15 : List AStep := ⟨.alloc 41 [(.sl none 0 (some 0)), (.sl none 0 (some 0))], (some 6), none, []⟩ :: ⟨.call 56 [(.t 28)], (some 29), none, [(.load 2 true (.t 3), (some 30), none)]⟩ :: L11_14
theorem v11_15 : VS L11_15.eq_1 := rfl
def L11_16 : List AStep := ⟨.load 2 true (.t 2), (some 28), none, []⟩ :: ⟨.load 2 true (.t 3), (some 30), none, []⟩ :: L11_15
theorem v11_16 : VS L11_16.eq_1 := rfl
def L11_17 : List AStep := [⟨.alloc 41 [(.sl none 0 (some 0)), (.sl none 0 (some 0))], (some 8), none, []⟩, ⟨.store 2 (.t 8) (.t 36), none, none, []⟩]
theorem v11_17 : VS L11_17.eq_1 := rfl
def L11_18 : List AStep := ⟨.load 2 true (.t 2), (some 35), none, []⟩ :: ⟨.call 56 [(.t 35)], (some 36), none, []⟩ :: L11_17
theorem v11_18 : VS L11_18.eq_1 := rfl
def L11_19 : List AStep := [⟨.alloc 41 [(.sl none 0 (some 0)), (.sl none 0 (some 0))], (some 9), none, []⟩, ⟨.store 2 (.t 9) (.t 38), none, none, []⟩]
theorem v11_19 : VS L11_19.eq_1 := rfl
def L11_20 : List AStep := ⟨.load 2 true (.t 3), (some 37), none, []⟩ :: ⟨.call 56 [(.t 37)], (some 38), none, []⟩ :: L11_19
theorem v11_20 : VS L11_20.eq_1 := rfl
def L11_21 : List AStep := [⟨.mov (.t 44), (some 11), none, []⟩]
theorem v11_21 : VS L11_21.eq_1 := rfl
def L11_22 : List AStep := ⟨.alloc 41 [(.sl none 0 (some 0)), (.sl none 0 (some 0))], (some 10), none, []⟩ :: ⟨.store 2 (.t 10) (.t 43), none, none, []⟩ :: L11_21
theorem v11_22 : VS L11_22.eq_1 := rfl
def L11_23 : List AStep := ⟨.extract (.t 39) 0, (some 43), none, []⟩ :: ⟨.extract (.t 39) 1, (some 44), none, []⟩ :: L11_22
theorem v11_23 : VS L11_23.eq_1 := rfl
def L11_24 : List AStep := ⟨.call 22 [(.t 40), (.t 41)], (some 42), none, []⟩ :: ⟨.mov (.t 42), (some 39), none, []⟩ :: L11_23
theorem v11_24 : VS L11_24.eq_1 := rfl
def L11_25 : List AStep := ⟨.load 2 true (.t 8), (some 40), none, []⟩ :: ⟨.load 2 true (.t 9), (some 41), none, []⟩ :: L11_24
theorem v11_25 : VS L11_25.eq_1 := rfl
def L11_26 : List AStep := [⟨.pick (.t 49) (.c (.bool true)) (.t 52), (some 53), none, []⟩]
theorem v11_26 : VS L11_26.eq_1 := rfl
def L11_27 : List AStep := ⟨.mov (.t 7), (some 51), (some (49, false)), []⟩ :: ⟨.eqb true (.t 50) (.t 51), (some 52), (some (49, false)), []⟩ :: L11_26
theorem v11_27 : VS L11_27.eq_1 := rfl
def L11_28 : List AStep := ⟨.mov (.t 48), (some 49), none, []⟩ :: ⟨.mov (.t 11), (some 50), (some (49, false)), []⟩ :: L11_27
theorem v11_28 : VS L11_28.eq_1 := rfl
def L11_29 : List AStep := ⟨.call 57 [(.t 45), (.t 46)], (some 47), none, []⟩ :: ⟨.not (.t 47), (some 48), none, []⟩ :: L11_28
theorem v11_29 : VS L11_29.eq_1 := rfl
def L11_30 : List AStep := ⟨.load 2 true (.t 10), (some 45), none, []⟩ :: ⟨.load 2 true (.t 6), (some 46), none, []⟩ :: L11_29
theorem v11_30 : VS L11_30.eq_1 := rfl
def L11_31 : List AStep := [⟨.mov (.c (.bool false)), (some 4), none, []⟩]
theorem v11_31 : VS L11_31.eq_1 := rfl
def L11_32 : List AStep := [⟨.not (.t 57), (some 58), none, []⟩]
theorem v11_32 : VS L11_32.eq_1 := rfl
def L11_33 : List AStep := ⟨.call 56 [(.t 55)], (some 56), none, [(.load 2 true (.t 8), (some 54), none)]⟩ :: ⟨.call 57 [(.t 54), (.t 56)], (some 57), none, []⟩ :: L11_32
theorem v11_33 : VS L11_33.eq_1 := rfl
def L11_34 : List AStep := ⟨.load 2 true (.t 8), (some 54), none, []⟩ :: ⟨.load 2 true (.t 2), (some 55), none, []⟩ :: L11_33
theorem v11_34 : VS L11_34.eq_1 := rfl
def L11_35 : List AStep := [⟨.mov (.c (.bool false)), (some 4), none, []⟩]
theorem v11_35 : VS L11_35.eq_1 := rfl
def L11_36 : List AStep := [⟨.not (.t 62), (some 63), none, []⟩]
theorem v11_36 : VS L11_36.eq_1 := rfl
def L11_37 : List AStep := ⟨.call 56 [(.t 60)], (some 61), none, [(.load 2 true (.t 9), (some 59), none)]⟩ :: ⟨.call 57 [(.t 59), (.t 61)], (some 62), none, []⟩ :: L11_36
theorem v11_37 : VS L11_37.eq_1 := rfl
def L11_38 : List AStep := ⟨.load 2 true (.t 9), (some 59), none, []⟩ :: ⟨.load 2 true (.t 3), (some 60), none, []⟩ :: L11_37
theorem v11_38 : VS L11_38.eq_1 := rfl
def L11_39 : List AStep := [⟨.mov (.c (.bool false)), (some 4), none, []⟩]
theorem v11_39 : VS L11_39.eq_1 := rfl
def L11_40 : List AStep := [⟨.mov (.c (.int .i64 1)), (some 12), none, []⟩]
theorem v11_40 : VS L11_40.eq_1 := rfl
def L11_41 : List AStep := [⟨.call 58 [(.t 64), (.t 65)], (some 66), none, []⟩, ⟨.mov (.t 66), (some 12), none, []⟩]
theorem v11_41 : VS L11_41.eq_1 := rfl
def L11_42 : List AStep := ⟨.load 2 true (.t 8), (some 64), none, []⟩ :: ⟨.mov (.t 12), (some 65), none, []⟩ :: L11_41
theorem v11_42 : VS L11_42.eq_1 := rfl
def L11_43 : List AStep := [⟨.call 58 [(.t 67), (.t 68)], (some 69), none, []⟩, ⟨.mov (.t 69), (some 12), none, []⟩]
theorem v11_43 : VS L11_43.eq_1 := rfl
def L11_44 : List AStep := ⟨.load 2 true (.t 9), (some 67), none, []⟩ :: ⟨.mov (.t 12), (some 68), none, []⟩ :: L11_43
theorem v11_44 : VS L11_44.eq_1 := rfl
def L11_45 : List AStep := [⟨.pick (.t 78) (.c (.bool true)) (.t 81), (some 82), none, []⟩]
theorem v11_45 : VS L11_45.eq_1 := rfl
def L11_46 : List AStep := ⟨.mov (.t 7), (some 80), (some (78, false)), []⟩ :: ⟨.eqb true (.t 79) (.t 80), (some 81), (some (78, false)), []⟩ :: L11_45
theorem v11_46 : VS L11_46.eq_1 := rfl
def L11_47 : List AStep := ⟨.mov (.t 77), (some 78), none, []⟩ :: ⟨.mov (.t 11), (some 79), (some (78, false)), []⟩ :: L11_46
theorem v11_47 : VS L11_47.eq_1 := rfl
def L11_48 : List AStep := ⟨.not (.t 75), (some 76), (some (72, false)), []⟩ :: ⟨.pick (.t 72) (.c (.bool true)) (.t 76), (some 77), none, []⟩ :: L11_47
theorem v11_48 : VS L11_48.eq_1 := rfl
def L11_49 : List AStep := ⟨.load 2 true (.t 6), (some 74), (some (72, false)), []⟩ :: ⟨.call 57 [(.t 73), (.t 74)], (some 75), (some (72, false)), []⟩ :: L11_48
theorem v11_49 : VS L11_49.eq_1 := rfl
def L11_50 : List AStep := ⟨.mov (.t 71), (some 72), none, []⟩ :: ⟨.load 2 true (.t 10), (some 73), (some (72, false)), []⟩ :: L11_49
theorem v11_50 : VS L11_50.eq_1 := rfl
def L11_51 : List AStep := ⟨.mov (.t 12), (some 70), none, []⟩ :: ⟨.bin .lss (.t 70) (.c (.int .i64 0)), (some 71), none, []⟩ :: L11_50
theorem v11_51 : VS L11_51.eq_1 := rfl
def L11_52 : List AStep := [⟨.mov (.c (.bool false)), (some 4), none, []⟩]
theorem v11_52 : VS L11_52.eq_1 := rfl
def L11_53 : List AStep := [⟨.mov (.c (.int .i64 1)), (some 13), none, []⟩]
theorem v11_53 : VS L11_53.eq_1 := rfl
def L11_54 : List AStep := [⟨.call 58 [(.t 83), (.t 84)], (some 85), none, []⟩, ⟨.mov (.t 85), (some 13), none, []⟩]
theorem v11_54 : VS L11_54.eq_1 := rfl
def L11_55 : List AStep := ⟨.load 2 true (.t 10), (some 83), none, []⟩ :: ⟨.mov (.t 13), (some 84), none, []⟩ :: L11_54
theorem v11_55 : VS L11_55.eq_1 := rfl
def L11_56 : List AStep := [⟨.mov (.c (.int .i64 1)), (some 14), none, []⟩]
theorem v11_56 : VS L11_56.eq_1 := rfl
def L11_57 : List AStep := [⟨.call 59 [(.t 86), (.t 87)], (some 88), none, []⟩, ⟨.mov (.t 88), (some 14), none, []⟩]
theorem v11_57 : VS L11_57.eq_1 := rfl
def L11_58 : List AStep := ⟨.load 2 true (.t 10), (some 86), none, []⟩ :: ⟨.mov (.t 14), (some 87), none, []⟩ :: L11_57
theorem v11_58 : VS L11_58.eq_1 := rfl
def L11_59 : List AStep := [⟨.mov (.t 14), (some 89), none, []⟩, ⟨.bin .lss (.t 89) (.c (.int .i64 0)), (some 90), none, []⟩]
theorem v11_59 : VS L11_59.eq_1 := rfl
def L11_60 : List AStep := [⟨.mov (.c (.bool false)), (some 4), none, []⟩]
theorem v11_60 : VS L11_60.eq_1 := rfl
def L11_61 : List AStep := [⟨.bin .neq (.t 91) (.t 92), (some 93), none, []⟩]
theorem v11_61 : VS L11_61.eq_1 := rfl
def L11_62 : List AStep := ⟨.mov (.t 14), (some 91), none, []⟩ :: ⟨.mov (.t 13), (some 92), none, []⟩ :: L11_61
theorem v11_62 : VS L11_62.eq_1 := rfl
def L11_63 : List AStep := [⟨.mov (.c (.bool false)), (some 4), none, []⟩]
theorem v11_63 : VS L11_63.eq_1 := rfl
def L11_64 : List AStep := [⟨.mov (.t 101), (some 16), none, []⟩]
theorem v11_64 : VS L11_64.eq_1 := rfl
def L11_65 : List AStep := ⟨.extract (.t 94) 1, (some 101), none, []⟩ :: ⟨.store 2 (.t 15) (.t 100), none, none, []⟩ :: L11_64
theorem v11_65 : VS L11_65.eq_1 := rfl
def L11_66 : List AStep := ⟨.mov (.t 99), (some 94), none, []⟩ :: ⟨.extract (.t 94) 0, (some 100), none, []⟩ :: L11_65
theorem v11_66 : VS L11_66.eq_1 := rfl
def L11_67 : List AStep := ⟨.call 56 [(.t 97)], (some 98), none, []⟩ :: ⟨.call 22 [(.t 96), (.t 98)], (some 99), none, []⟩ :: L11_66
theorem v11_67 : VS L11_67.eq_1 := rfl
def L11_68 : List AStep := ⟨.alloc 41 [(.sl none 0 (some 0)), (.sl none 0 (some 0))], (some 15), none, []⟩ :: ⟨.call 56 [(.t 95)], (some 96), none, [(.load 2 true (.t 3), (some 97), none)]⟩ :: L11_67
theorem v11_68 : VS L11_68.eq_1 := rfl
def L11_69 : List AStep := ⟨.load 2 true (.t 2), (some 95), none, []⟩ :: ⟨.load 2 true (.t 3), (some 97), none, []⟩ :: L11_68
theorem v11_69 : VS L11_69.eq_1 := rfl
def L11_70 : List AStep := [⟨.pick (.t 106) (.c (.bool true)) (.t 109), (some 110), none, []⟩]
theorem v11_70 : VS L11_70.eq_1 := rfl
def L11_71 : List AStep := ⟨.mov (.t 7), (some 108), (some (106, false)), []⟩ :: ⟨.eqb true (.t 107) (.t 108), (some 109), (some (106, false)), []⟩ :: L11_70
theorem v11_71 : VS L11_71.eq_1 := rfl
def L11_72 : List AStep := ⟨.mov (.t 105), (some 106), none, []⟩ :: ⟨.mov (.t 16), (some 107), (some (106, false)), []⟩ :: L11_71
theorem v11_72 : VS L11_72.eq_1 := rfl
def L11_73 : List AStep := ⟨.call 57 [(.t 102), (.t 103)], (some 104), none, []⟩ :: ⟨.not (.t 104), (some 105), none, []⟩ :: L11_72
theorem v11_73 : VS L11_73.eq_1 := rfl
def L11_74 : List AStep := ⟨.load 2 true (.t 15), (some 102), none, []⟩ :: ⟨.load 2 true (.t 6), (some 103), none, []⟩ :: L11_73
theorem v11_74 : VS L11_74.eq_1 := rfl
def L11_75 : List AStep := [⟨.mov (.c (.bool false)), (some 4), none, []⟩]
theorem v11_75 : VS L11_75.eq_1 := rfl
def L11_76 : List AStep := [⟨.mov (.c (.int .i64 1)), (some 14), none, []⟩]
theorem v11_76 : VS L11_76.eq_1 := rfl
def L11_77 : List AStep := [⟨.call 59 [(.t 111), (.t 112)], (some 113), none, []⟩, ⟨.mov (.t 113), (some 14), none, []⟩]
theorem v11_77 : VS L11_77.eq_1 := rfl
def L11_78 : List AStep := ⟨.load 2 true (.t 10), (some 111), none, []⟩ :: ⟨.mov (.t 14), (some 112), none, []⟩ :: L11_77
theorem v11_78 : VS L11_78.eq_1 := rfl
def L11_79 : List AStep := [⟨.mov (.t 14), (some 114), none, []⟩, ⟨.bin .lss (.t 114) (.c (.int .i64 0)), (some 115), none, []⟩]
theorem v11_79 : VS L11_79.eq_1 := rfl
def L11_80 : List AStep := [⟨.mov (.c (.bool false)), (some 4), none, []⟩]
theorem v11_80 : VS L11_80.eq_1 := rfl
def L11_81 : List AStep := [⟨.bin .neq (.t 116) (.t 117), (some 118), none, []⟩]
theorem v11_81 : VS L11_81.eq_1 := rfl
def L11_82 : List AStep := ⟨.mov (.t 14), (some 116), none, []⟩ :: ⟨.mov (.t 13), (some 117), none, []⟩ :: L11_81
theorem v11_82 : VS L11_82.eq_1 := rfl
def L11_83 : List AStep := [⟨.mov (.c (.bool false)), (some 4), none, []⟩]
theorem v11_83 : VS L11_83.eq_1 := rfl
def L11_84 : List AStep := [⟨.mov (.c (.bool true)), (some 4), none, []⟩]
theorem v11_84 : VS L11_84.eq_1 := rfl
def C11_0 : ACode := .seq (.reg L11_6) .ret
theorem u11_0 : VC C11_0.eq_1 := rfl
def C11_1 : ACode := .cond (.t 21) C11_0 .skip
theorem u11_1 : VC C11_1.eq_1 := rfl
def C11_2 : ACode := .seq (.reg L11_5) C11_1
theorem u11_2 : VC C11_2.eq_1 := rfl
def C11_3 : ACode := .seq (.reg L11_10) .ret
theorem u11_3 : VC C11_3.eq_1 := rfl
def C11_4 : ACode := .cond (.t 26) C11_3 .skip
theorem u11_4 : VC C11_4.eq_1 := rfl
def C11_5 : ACode := .seq (.reg L11_9) C11_4
theorem u11_5 : VC C11_5.eq_1 := rfl
def C11_6 : ACode := .seq (.reg L11_31) .ret
theorem u11_6 : VC C11_6.eq_1 := rfl
def C11_7 : ACode := .cond (.t 53) C11_6 .skip
theorem u11_7 : VC C11_7.eq_1 := rfl
def C11_8 : ACode := .seq (.reg L11_30) C11_7
theorem u11_8 : VC C11_8.eq_1 := rfl
def C11_9 : ACode := .seq (.reg L11_35) .ret
theorem u11_9 : VC C11_9.eq_1 := rfl
def C11_10 : ACode := .cond (.t 58) C11_9 .skip
theorem u11_10 : VC C11_10.eq_1 := rfl
def C11_11 : ACode := .seq (.reg L11_34) C11_10
theorem u11_11 : VC C11_11.eq_1 := rfl
def C11_12 : ACode := .seq (.reg L11_39) .ret
theorem u11_12 : VC C11_12.eq_1 := rfl
def C11_13 : ACode := .cond (.t 63) C11_12 .skip
theorem u11_13 : VC C11_13.eq_1 := rfl
def C11_14 : ACode := .seq (.reg L11_38) C11_13
theorem u11_14 : VC C11_14.eq_1 := rfl
def C11_15 : ACode := .seq (.reg L11_52) .ret
theorem u11_15 : VC C11_15.eq_1 := rfl
def C11_16 : ACode := .cond (.t 82) C11_15 .skip
theorem u11_16 : VC C11_16.eq_1 := rfl
def C11_17 : ACode := .seq (.reg L11_51) C11_16
theorem u11_17 : VC C11_17.eq_1 := rfl
def C11_18 : ACode := .seq (.reg L11_60) .ret
theorem u11_18 : VC C11_18.eq_1 := rfl
def C11_19 : ACode := .cond (.t 90) C11_18 .skip
theorem u11_19 : VC C11_19.eq_1 := rfl
def C11_20 : ACode := .seq (.reg L11_59) C11_19
theorem u11_20 : VC C11_20.eq_1 := rfl
def C11_21 : ACode := .seq (.reg L11_63) .ret
theorem u11_21 : VC C11_21.eq_1 := rfl
def C11_22 : ACode := .cond (.t 93) C11_21 .skip
theorem u11_22 : VC C11_22.eq_1 := rfl
def C11_23 : ACode := .seq (.reg L11_62) C11_22
theorem u11_23 : VC C11_23.eq_1 := rfl
def C11_24 : ACode := .seq (.reg L11_75) .ret
theorem u11_24 : VC C11_24.eq_1 := rfl
def C11_25 : ACode := .cond (.t 110) C11_24 .skip
theorem u11_25 : VC C11_25.eq_1 := rfl
def C11_26 : ACode := .seq (.reg L11_74) C11_25
theorem u11_26 : VC C11_26.eq_1 := rfl
def C11_27 : ACode := .seq (.reg L11_80) .ret
theorem u11_27 : VC C11_27.eq_1 := rfl
def C11_28 : ACode := .cond (.t 115) C11_27 .skip
theorem u11_28 : VC C11_28.eq_1 := rfl
def C11_29 : ACode := .seq (.reg L11_79) C11_28
theorem u11_29 : VC C11_29.eq_1 := rfl
def C11_30 : ACode := .seq (.reg L11_83) .ret
theorem u11_30 : VC C11_30.eq_1 := rfl
def C11_31 : ACode := .cond (.t 118) C11_30 .skip
theorem u11_31 : VC C11_31.eq_1 := rfl
def C11_32 : ACode := .seq (.reg L11_82) C11_31
theorem u11_32 : VC C11_32.eq_1 := rfl
def C11_33 : ACode := .seq (.reg L11_84) .ret
theorem u11_33 : VC C11_33.eq_1 := rfl
def C11_34 : ACode := .seq C11_32 C11_33
theorem u11_34 : VC C11_34.eq_1 := rfl
def C11_35 : ACode := .seq C11_29 C11_34
theorem u11_35 : VC C11_35.eq_1 := rfl
def C11_36 : ACode := .seq (.reg L11_78) C11_35
theorem u11_36 : VC C11_36.eq_1 := rfl
def C11_37 : ACode := .seq (.reg L11_76) C11_36
theorem u11_37 : VC C11_37.eq_1 := rfl
def C11_38 : ACode := .seq C11_26 C11_37
theorem u11_38 : VC C11_38.eq_1 := rfl
def C11_39 : ACode := .seq (.reg L11_69) C11_38
theorem u11_39 : VC C11_39.eq_1 := rfl
def C11_40 : ACode := .seq C11_23 C11_39
theorem u11_40 : VC C11_40.eq_1 := rfl
def C11_41 : ACode := .seq C11_20 C11_40
theorem u11_41 : VC C11_41.eq_1 := rfl
def C11_42 : ACode := .seq (.reg L11_58) C11_41
theorem u11_42 : VC C11_42.eq_1 := rfl
def C11_43 : ACode := .seq (.reg L11_56) C11_42
theorem u11_43 : VC C11_43.eq_1 := rfl
def C11_44 : ACode := .seq (.reg L11_55) C11_43
theorem u11_44 : VC C11_44.eq_1 := rfl
def C11_45 : ACode := .seq (.reg L11_53) C11_44
theorem u11_45 : VC C11_45.eq_1 := rfl
def C11_46 : ACode := .seq C11_17 C11_45
theorem u11_46 : VC C11_46.eq_1 := rfl
def C11_47 : ACode := .seq (.reg L11_44) C11_46
theorem u11_47 : VC C11_47.eq_1 := rfl
def C11_48 : ACode := .seq (.reg L11_42) C11_47
theorem u11_48 : VC C11_48.eq_1 := rfl
def C11_49 : ACode := .seq (.reg L11_40) C11_48
theorem u11_49 : VC C11_49.eq_1 := rfl
def C11_50 : ACode := .seq C11_14 C11_49
theorem u11_50 : VC C11_50.eq_1 := rfl
def C11_51 : ACode := .seq C11_11 C11_50
theorem u11_51 : VC C11_51.eq_1 := rfl
def C11_52 : ACode := .seq C11_8 C11_51
theorem u11_52 : VC C11_52.eq_1 := rfl
def C11_53 : ACode := .seq (.reg L11_25) C11_52
theorem u11_53 : VC C11_53.eq_1 := rfl
def C11_54 : ACode := .seq (.reg L11_20) C11_53
theorem u11_54 : VC C11_54.eq_1 := rfl
def C11_55 : ACode := .seq (.reg L11_18) C11_54
theorem u11_55 : VC C11_55.eq_1 := rfl
def C11_56 : ACode := .seq (.reg L11_16) C11_55
theorem u11_56 : VC C11_56.eq_1 := rfl
def C11_57 : ACode := .seq C11_5 C11_56
theorem u11_57 : VC C11_57.eq_1 := rfl
def C11_58 : ACode := .seq (.reg L11_8) C11_57
theorem u11_58 : VC C11_58.eq_1 := rfl
def C11_59 : ACode := .seq C11_2 C11_58
theorem u11_59 : VC C11_59.eq_1 := rfl
def C11_60 : ACode := .seq (.reg L11_4) C11_59
theorem u11_60 : VC C11_60.eq_1 := rfl
def C11_61 : ACode := .seq (.reg L11_2) C11_60
theorem u11_61 : VC C11_61.eq_1 := rfl
def C11_62 : ACode := .seq (.reg L11_1) C11_61
theorem u11_62 : VC C11_62.eq_1 := rfl
def F11 : AFunc := ⟨119, [.tmp 4], C11_62⟩
theorem cF11 : compB Try.prog 11 = some F11 := by kernel_rfl
attribute [local go_sem ↓] u11_0 u11_1 u11_2 u11_3 u11_4 u11_5 u11_6 u11_7 u11_8 u11_9 u11_10 u11_11 u11_12 u11_13 u11_14 u11_15 u11_16 u11_17 u11_18 u11_19 u11_20 u11_21 u11_22 u11_23 u11_24 u11_25 u11_26 u11_27 u11_28 u11_29 u11_30 u11_31 u11_32 u11_33 u11_34 u11_35 u11_36 u11_37 u11_38 u11_39 u11_40 u11_41 u11_42 u11_43 u11_44 u11_45 u11_46 u11_47 u11_48 u11_49 u11_50 u11_51 u11_52 u11_53 u11_54 u11_55 u11_56 u11_57 u11_58 u11_59 u11_60 u11_61 u11_62 v11_0 v11_1 v11_2 v11_3 v11_4 v11_5 v11_6 v11_7 v11_8 v11_9 v11_10 v11_11 v11_12 v11_13 v11_14 v11_15 v11_16 v11_17 v11_18 v11_19 v11_20 v11_21 v11_22 v11_23 v11_24 v11_25 v11_26 v11_27 v11_28 v11_29 v11_30 v11_31 v11_32 v11_33 v11_34 v11_35 v11_36 v11_37 v11_38 v11_39 v11_40 v11_41 v11_42 v11_43 v11_44 v11_45 v11_46 v11_47 v11_48 v11_49 v11_50 v11_51 v11_52 v11_53 v11_54 v11_55 v11_56 v11_57 v11_58 v11_59 v11_60 v11_61 v11_62 v11_63 v11_64 v11_65 v11_66 v11_67 v11_68 v11_69 v11_70 v11_71 v11_72 v11_73 v11_74 v11_75 v11_76 v11_77 v11_78 v11_79 v11_80 v11_81 v11_82 v11_83 v11_84
theorem law11 (h : H) (avs : List AV) (hok : okVs Try.prog h 6 [ 89, 89 ] avs) : callK (bm Try.prog 11 avs h) fun r _ => r = ib true := by
  obtain ⟨v0, avs, rfl, hv0, hok⟩ := okVs_cons hok
  obtain ⟨v1, avs, rfl, hv1, hok⟩ := okVs_cons hok
  obtain rfl := okVs_nil hok
  obtain ⟨p0, n0, x0, rfl, d0⟩ := dH hv0
  obtain ⟨p1, n1, x1, rfl, d1⟩ := dH hv1
  refine bm_of cF11 ?_
  have z0 := k_szH x0 p0 n0 1048576 h (by omega) (by omega) d0
  by_cases y0 : szr 1048576 (wtH x0) < 0
  · simp +contextual (maxSteps := 2000000) only [go_sem, Nat.reduceEqDiff, reduceCtorEq, Nat.reduceAdd, Nat.reduceLeDiff, F11, z0, decide_eq_true y0]
  have z1 := k_szH x1 p1 n1 (szr 1048576 (wtH x0)) h (by omega) (by unfold szr; split <;> omega) d1
  by_cases y1 : szr (szr 1048576 (wtH x0)) (wtH x1) < 0
  · simp +contextual (maxSteps := 2000000) only [go_sem, Nat.reduceEqDiff, reduceCtorEq, Nat.reduceAdd, Nat.reduceLeDiff, F11, z0, z1, decide_eq_false y0, decide_eq_true y1]
  obtain ⟨e0, u0⟩ := szr_ge y0
  obtain ⟨e1, u1⟩ := szr_ge y1
  have s0 : miniH x0 := wtH_sm (by omega)
  have s1 : miniH x1 := wtH_sm (by omega)
  have hR : miniH (orH (ShiftHoles x0 x1)) := .shift
  simp +contextual (maxSteps := 2000000) only [go_sem, Nat.reduceEqDiff, reduceCtorEq, Nat.reduceAdd, Nat.reduceLeDiff, F11, z0, z1, decide_eq_false y0, decide_eq_false y1]
  refine wp_call (k_toH x0 p0 n0 h (d0.grow (Grow.refl h)) s0) ?_
  rintro r h1 ⟨g1, p0a, n0a, rfl, a0a⟩
  simp +contextual (maxSteps := 2000000) only [go_sem, Nat.reduceEqDiff, reduceCtorEq, Nat.reduceAdd, Nat.reduceLeDiff]
  refine wp_call (k_toH x1 p1 n1 h1 (d1.grow ((Grow.refl h).trans g1)) s1) ?_
  rintro r h2 ⟨g2, p1a, n1a, rfl, a1a⟩
  simp +contextual (maxSteps := 2000000) only [go_sem, Nat.reduceEqDiff, reduceCtorEq, Nat.reduceAdd, Nat.reduceLeDiff]
  refine wp_call (k_sShiftHoles x0 x1 p0a n0a p1a n1a h2 (a0a.sl.grow g2) (a1a.sl) s0 s1) ?_
  rintro r h3 ⟨g3, pw, nw, rfl, w0⟩
  simp +contextual (maxSteps := 2000000) only [go_sem, Nat.reduceEqDiff, reduceCtorEq, Nat.reduceAdd, Nat.reduceLeDiff]
  refine wp_call (k_toH x0 p0 n0 h3 (d0.grow ((((Grow.refl h).trans g1).trans g2).trans g3)) s0) ?_
  rintro r h4 ⟨g4, p0b, n0b, rfl, a0b⟩
  simp +contextual (maxSteps := 2000000) only [go_sem, Nat.reduceEqDiff, reduceCtorEq, Nat.reduceAdd, Nat.reduceLeDiff]
  refine wp_call (k_toH x1 p1 n1 h4 (d1.grow (((((Grow.refl h).trans g1).trans g2).trans g3).trans g4)) s1) ?_
  rintro r h5 ⟨g5, p1b, n1b, rfl, a1b⟩
  simp +contextual (maxSteps := 2000000) only [go_sem, Nat.reduceEqDiff, reduceCtorEq, Nat.reduceAdd, Nat.reduceLeDiff]
  refine wp_call (k_iShiftHoles x0 x1 p0b n0b p1b n1b h5 (a0b.sl.grow g5) (a1b.sl) s0 s1) ?_
  rintro r h6 ⟨g6, pg, ng, rfl, b0⟩
  have q0 := k_eqH (orH (ShiftHoles x0 x1)) (orH (ShiftHoles x0 x1)) pg ng pw nw h6 (b0.sl) (w0.sl.grow ((g4.trans g5).trans g6)) hR
  simp +contextual (maxSteps := 2000000) only [go_sem, Nat.reduceEqDiff, reduceCtorEq, Nat.reduceAdd, Nat.reduceLeDiff, q0, decide_true]
  refine wp_call (k_toH x0 p0 n0 h6 (d0.grow (((((((Grow.refl h).trans g1).trans g2).trans g3).trans g4).trans g5).trans g6)) s0) ?_
  rintro r h7 ⟨g7, p0c, n0c, rfl, a0c⟩
  have q1 := k_eqH x0 x0 p0b n0b p0c n0c h7 (a0b.sl.grow ((g5.trans g6).trans g7)) a0c.sl s0
  simp +contextual (maxSteps := 2000000) only [go_sem, Nat.reduceEqDiff, reduceCtorEq, Nat.reduceAdd, Nat.reduceLeDiff, q1, decide_true]
  refine wp_call (k_toH x1 p1 n1 h7 (d1.grow ((((((((Grow.refl h).trans g1).trans g2).trans g3).trans g4).trans g5).trans g6).trans g7)) s1) ?_
  rintro r h8 ⟨g8, p1c, n1c, rfl, a1c⟩
  have q2 := k_eqH x1 x1 p1b n1b p1c n1c h8 (a1b.sl.grow ((g6.trans g7).trans g8)) a1c.sl s1
  simp +contextual (maxSteps := 2000000) only [go_sem, Nat.reduceEqDiff, reduceCtorEq, Nat.reduceAdd, Nat.reduceLeDiff, q2, decide_true]
  have k0 := cellsH_le s0
  have k1 := cellsH_le s1
  have G8 : Grow h3 h8 := ((((g4.trans g5).trans g6).trans g7).trans g8)
  refine wp_call (k_markH x0 p0b n0b 1 h3 h4 h8 ((a0b.grow (((g5.trans g6).trans g7).trans g8))) a0b G8 (by omega) (by omega) s0) ?_
  rintro r h9 ⟨rfl, G80, m0, N0⟩
  have M0 := N0
  simp +contextual (maxSteps := 2000000) only [go_sem, Nat.reduceEqDiff, reduceCtorEq, Nat.reduceAdd, Nat.reduceLeDiff]
  refine wp_call (k_markH x1 p1b n1b _ h3 h5 h9 (((a1b.grow ((g6.trans g7).trans g8)).mid M0 (Nat.le_refl _)).from g4.n) (a1b.from g4.n) G80 (by omega) (by omega) s1) ?_
  rintro r h10 ⟨rfl, G81, m1, N1⟩
  have M1 : Mid h3.n h5.n h8 h10 := (M0.widen g5.n).trans N1
  have b1 := (b0.grow (g7.trans g8)).mid M1 (Nat.le_refl _)
  have w1 := w0.grow G81
  have qa := k_eqH (orH (ShiftHoles x0 x1)) (orH (ShiftHoles x0 x1)) pg ng pw nw h10 (b1.sl) (w1.sl) hR
  simp +contextual (maxSteps := 2000000) only [go_sem, Nat.reduceEqDiff, reduceCtorEq, Nat.reduceAdd, Nat.reduceLeDiff, qa, decide_true, decide_eq_false (show ¬ ((1 : Int) + (cellsH x0 : Nat) + (cellsH x1 : Nat) < 0) by omega)]
  have kr := cellsH_le hR
  have lh : h3.n ≤ h5.n := (g4.trans g5).n
  refine wp_call (k_markH (orH (ShiftHoles x0 x1)) pg ng 1 h3 h6 h10 (b1.from lh) (b0.from lh) G81 (by omega) (by omega) hR) ?_
  rintro r h11 ⟨rfl, Gm, mr, Mr⟩
  have qh := k_heldH (orH (ShiftHoles x0 x1)) pg ng 1 h11 mr (by omega) (by omega) hR
  simp +contextual (maxSteps := 2000000) only [go_sem, Nat.reduceEqDiff, reduceCtorEq, Nat.reduceAdd, Nat.reduceLeDiff, qh, decide_true, decide_eq_false (show ¬ ((1 : Int) + (cellsH (orH (ShiftHoles x0 x1)) : Nat) < 0) by omega)]
  have H1 : Grow h h11 := ((((Grow.refl h).trans g1).trans g2).trans g3).trans Gm
  refine wp_call (k_toH x0 p0 n0 h11 (d0.grow H1) s0) ?_
  rintro r h12 ⟨g12, p0d, n0d, rfl, a0d⟩
  simp +contextual (maxSteps := 2000000) only [go_sem, Nat.reduceEqDiff, reduceCtorEq, Nat.reduceAdd, Nat.reduceLeDiff]
  refine wp_call (k_toH x1 p1 n1 h12 (d1.grow (H1.trans g12)) s1) ?_
  rintro r h13 ⟨g13, p1d, n1d, rfl, a1d⟩
  simp +contextual (maxSteps := 2000000) only [go_sem, Nat.reduceEqDiff, reduceCtorEq, Nat.reduceAdd, Nat.reduceLeDiff]
  refine wp_call (k_iShiftHoles x0 x1 p0d n0d p1d n1d h13 (a0d.sl.grow g13) (a1d.sl) s0 s1) ?_
  rintro r h14 ⟨g14, py, ny, rfl, b2⟩
  have G9 : Grow h11 h14 := ((g12.trans g13).trans g14)
  have qz := k_eqH (orH (ShiftHoles x0 x1)) (orH (ShiftHoles x0 x1)) py ny pw nw h14 (b2.sl) ((w0.grow (Gm.trans G9)).sl) hR
  have qy := k_heldH (orH (ShiftHoles x0 x1)) pg ng 1 h14 (mr.grow G9) (by omega) (by omega) hR
  simp +contextual (maxSteps := 2000000) only [go_sem, Nat.reduceEqDiff, reduceCtorEq, Nat.reduceAdd, Nat.reduceLeDiff, qz, qy, decide_true, decide_eq_false (show ¬ ((1 : Int) + (cellsH (orH (ShiftHoles x0 x1)) : Nat) < 0) by omega)]
  exact gcK_of rfl (fun _ _ => rfl)
end Go.Proofs.Ytnphlonhogcedaa.Am
