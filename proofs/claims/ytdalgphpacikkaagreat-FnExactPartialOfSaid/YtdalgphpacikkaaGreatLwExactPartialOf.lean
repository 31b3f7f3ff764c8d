/- The law FnExactPartialOf. -/
import Derived.Test.YtdalgphpacikkaaGreatK2
import Derived.Test.YtdalgphpacikkaaGreatBL
namespace Go.Proofs.YtdalgphpacikkaaGreat.Am
open Go
set_option maxRecDepth 100000
set_option maxHeartbeats 4000000
set_option linter.unusedSimpArgs false
set_option linter.unusedVariables false
attribute [local go_sem ↓] bv_t bv_c ev_t ev_c put_same put_ne put_none kill_at pro_at lb_same lb_ne start_zero start_succ wpC_seq wpC_reg wpC_cond wpC_block wpC_skip wpC_exit wpC_ret thenQ_normal thenQ_exit thenQ_ret inBlk_normal inBlk_exit inBlk_ret wpS_nil wpS_step wpS_again wpS_guard wpO_mov wpO_load wpO_faddr wpO_nilCheck wpO_pick wpO_build wpO_bin wpO_eqb wpO_eqst wpO_eqnil wpO_not wpO_conv wpO_bytesStr wpO_iaddr wpO_idxStr wpO_field wpO_extract wpO_len wpO_lenStr wpO_cap wpO_min wpO_slice wpO_sliceStr wpO_alloc wpO_box wpO_store wpO_call wpO_callv wpO_mkfn wpO_buildSlice wpO_mkslice wpO_append wpO_appz proA_nil proA_cons tmpX_nil tmpX_tmp tmpX_cell doneB_normal doneB_ret agK_cons agK_nil agK_guard agG_tt agG_ff agG_tf agG_ft agG_undef pureB_load results_one results_two results_nil resBs_cons resBs_nil resB_tmp resB_cell
attribute [local go_sem] kill_v kill_lp_ne kill_lp_same pro_v pro_lp_same pro_lp_ne av_v av_lp optB_some optX_some valX_eq ldX_lp ldX_v faX_lp faX_v ncX_lp ncX_ptr ncX_fn boxK_one boxK_agg stL_some stK_lp_one stK_lp_agg stK_v_one stK_v_agg proM_v proM_lp callG_mk callVG_mk callvK_fn fnG_mk ptrsA_nil ptrsA_cons callH_some whenA_true whenA_false guardH_tt guardH_ff guardH_tf guardH_ft guardH_undef agV_one agV_agg lenO_sl lenStrO_str notO_bool pickO_bool convO_int eqbO_bool eqnilO_sl extractO_tup capO_sl minO_int loadL_one loadL_all storeL_eq fillA_nil fillA_one fillA_agg nat_ge neg_ge nat_lt neg_lt buildO bin_add bin_sub bin_mul bin_eql bin_neq bin_lss bin_leq bin_gtr bin_geq str_eql str_neq str_lss str_leq str_gtr str_geq retK_some endK_mk gcK_same gcK_int gcK_bool tupO_one tupO_agg rdy_self ib ii Option.map_none Option.map_some Option.some.injEq exists_eq_left' exists_eq_left ne_eq not_false_eq_true if_true if_false List.map_cons List.map_nil List.getElem?_cons_zero List.getElem?_cons_succ List.length_cons List.length_nil List.take_succ_cons List.take_zero List.take_nil List.drop_succ_cons List.drop_zero List.drop_nil List.cons_append List.nil_append List.append_nil List.set_cons_zero List.set_cons_succ Nat.zero_add forall_const true_and and_true and_self Bool.false_eq_true false_implies true_implies implies_true Bool.not_true Bool.not_false Bool.not_eq_true' Bool.not_eq_false' beq_self_eq_true Bool.bne_true Bool.bne_false
attribute [local go_sem] lenI lenS lenP lenQ lenB lenL lenT encI_0 encS_0 encP_0 encP_1 encQ_0 encQ_1 encQ_2 encQ_3 encB_0 encB_1 encL_0 encL_1 encT_0 encT_1
attribute [local go_sem low] whenA_bool guardH_bool
/-! laws.FnExactPartialOf -/
def L3_0 : List AStep := [⟨.mov (.c (.bool false)), (some 4), none, []⟩]
theorem v3_0 : VS L3_0.eq_1 := rfl
def L3_1 : List AStep := ⟨.box 24 (.t 0), (some 2), none, []⟩ :: ⟨.box 28 (.t 1), (some 3), none, []⟩ :: L3_0
theorem v3_1 : VS L3_1.eq_1 := rfl
def L3_2 : List AStep := [⟨.mov (.c (.int .i64 1048576)), (some 5), none, []⟩]
theorem v3_2 : VS L3_2.eq_1 := rfl
def L3_3 : List AStep := [⟨.call 4 [(.t 17), (.t 18)], (some 19), none, []⟩, ⟨.mov (.t 19), (some 5), none, []⟩]
theorem v3_3 : VS L3_3.eq_1 := rfl
def L3_4 : List AStep := ⟨.load 1 true (.t 2), (some 17), none, []⟩ :: ⟨.mov (.t 5), (some 18), none, []⟩ :: L3_3
theorem v3_4 : VS L3_4.eq_1 := rfl
def L3_5 : List AStep := [⟨.mov (.t 5), (some 20), none, []⟩, ⟨.bin .lss (.t 20) (.c (.int .i64 0)), (some 21), none, []⟩]
theorem v3_5 : VS L3_5.eq_1 := rfl
def L3_6 : List AStep := [⟨.mov (.c (.bool true)), (some 4), none, []⟩]
theorem v3_6 : VS L3_6.eq_1 := rfl
def L3_7 : List AStep := [⟨.call 5 [(.t 22), (.t 23)], (some 24), none, []⟩, ⟨.mov (.t 24), (some 5), none, []⟩]
theorem v3_7 : VS L3_7.eq_1 := rfl
def L3_8 : List AStep := ⟨.load 2 true (.t 3), (some 22), none, []⟩ :: ⟨.mov (.t 5), (some 23), none, []⟩ :: L3_7
theorem v3_8 : VS L3_8.eq_1 := rfl
def L3_9 : List AStep := [⟨.mov (.t 5), (some 25), none, []⟩, ⟨.bin .lss (.t 25) (.c (.int .i64 0)), (some 26), none, []⟩]
theorem v3_9 : VS L3_9.eq_1 := rfl
def L3_10 : List AStep := [⟨.mov (.c (.bool true)), (some 4), none, []⟩]
theorem v3_10 : VS L3_10.eq_1 := rfl
def L3_11 : List AStep := [⟨.mov (.t 34), (some 7), none, []⟩]
theorem v3_11 : VS L3_11.eq_1 := rfl
def L3_12 : List AStep := ⟨.extract (.t 27) 1, (some 34), none, []⟩ :: ⟨.store 3 (.t 6) (.t 33), none, none, []⟩ :: L3_11
theorem v3_12 : VS L3_12.eq_1 := rfl
def L3_13 : List AStep := ⟨.mov (.t 32), (some 27), none, []⟩ :: ⟨.extract (.t 27) 0, (some 33), none, []⟩ :: L3_12
theorem v3_13 : VS L3_13.eq_1 := rfl
def L3_14 : List AStep := ⟨.call 8 [(.t 30)], (some 31), none, []⟩ :: ⟨.call 6 [(.t 29), (.t 31)], (some 32), none, []⟩ :: L3_13
theorem v3_14 : VS L3_14.eq_1 := rfl
def L3_15 : List AStep := ⟨.alloc 38 [(.sl none 0 (some 0)), (.sl none 0 (some 0)), (.sl none 0 (some 0))], (some 6), none, []⟩ :: ⟨.call 7 [(.t 28)], (some 29), none, [(.load 2 true (.t 3), (some 30), none)]⟩ :: L3_14
theorem v3_15 : VS L3_15.eq_1 := rfl
def L3_16 : List AStep := ⟨.load 1 true (.t 2), (some 28), none, []⟩ :: ⟨.load 2 true (.t 3), (some 30), none, []⟩ :: L3_15
theorem v3_16 : VS L3_16.eq_1 := rfl
def L3_17 : List AStep := [⟨.alloc 33 [(.sl none 0 (some 0))], (some 8), none, []⟩, ⟨.store 1 (.t 8) (.t 36), none, none, []⟩]
theorem v3_17 : VS L3_17.eq_1 := rfl
def L3_18 : List AStep := ⟨.load 1 true (.t 2), (some 35), none, []⟩ :: ⟨.call 7 [(.t 35)], (some 36), none, []⟩ :: L3_17
theorem v3_18 : VS L3_18.eq_1 := rfl
def L3_19 : List AStep := [⟨.alloc 36 [(.sl none 0 (some 0)), (.sl none 0 (some 0))], (some 9), none, []⟩, ⟨.store 2 (.t 9) (.t 38), none, none, []⟩]
theorem v3_19 : VS L3_19.eq_1 := rfl
def L3_20 : List AStep := ⟨.load 2 true (.t 3), (some 37), none, []⟩ :: ⟨.call 8 [(.t 37)], (some 38), none, []⟩ :: L3_19
theorem v3_20 : VS L3_20.eq_1 := rfl
def L3_21 : List AStep := [⟨.mov (.t 44), (some 11), none, []⟩]
theorem v3_21 : VS L3_21.eq_1 := rfl
def L3_22 : List AStep := ⟨.alloc 38 [(.sl none 0 (some 0)), (.sl none 0 (some 0)), (.sl none 0 (some 0))], (some 10), none, []⟩ :: ⟨.store 3 (.t 10) (.t 43), none, none, []⟩ :: L3_21
theorem v3_22 : VS L3_22.eq_1 := rfl
def L3_23 : List AStep := ⟨.extract (.t 39) 0, (some 43), none, []⟩ :: ⟨.extract (.t 39) 1, (some 44), none, []⟩ :: L3_22
theorem v3_23 : VS L3_23.eq_1 := rfl
def L3_24 : List AStep := ⟨.call 9 [(.t 40), (.t 41)], (some 42), none, []⟩ :: ⟨.mov (.t 42), (some 39), none, []⟩ :: L3_23
theorem v3_24 : VS L3_24.eq_1 := rfl
def L3_25 : List AStep := ⟨.load 1 true (.t 8), (some 40), none, []⟩ :: ⟨.load 2 true (.t 9), (some 41), none, []⟩ :: L3_24
theorem v3_25 : VS L3_25.eq_1 := rfl
def L3_26 : List AStep := [⟨.pick (.t 49) (.c (.bool true)) (.t 52), (some 53), none, []⟩]
theorem v3_26 : VS L3_26.eq_1 := rfl
def L3_27 : List AStep := ⟨.mov (.t 7), (some 51), (some (49, false)), []⟩ :: ⟨.eqb true (.t 50) (.t 51), (some 52), (some (49, false)), []⟩ :: L3_26
theorem v3_27 : VS L3_27.eq_1 := rfl
def L3_28 : List AStep := ⟨.mov (.t 48), (some 49), none, []⟩ :: ⟨.mov (.t 11), (some 50), (some (49, false)), []⟩ :: L3_27
theorem v3_28 : VS L3_28.eq_1 := rfl
def L3_29 : List AStep := ⟨.call 10 [(.t 45), (.t 46)], (some 47), none, []⟩ :: ⟨.not (.t 47), (some 48), none, []⟩ :: L3_28
theorem v3_29 : VS L3_29.eq_1 := rfl
def L3_30 : List AStep := ⟨.load 3 true (.t 10), (some 45), none, []⟩ :: ⟨.load 3 true (.t 6), (some 46), none, []⟩ :: L3_29
theorem v3_30 : VS L3_30.eq_1 := rfl
def L3_31 : List AStep := [⟨.mov (.c (.bool false)), (some 4), none, []⟩]
theorem v3_31 : VS L3_31.eq_1 := rfl
def L3_32 : List AStep := [⟨.not (.t 57), (some 58), none, []⟩]
theorem v3_32 : VS L3_32.eq_1 := rfl
def L3_33 : List AStep := ⟨.call 7 [(.t 55)], (some 56), none, [(.load 1 true (.t 8), (some 54), none)]⟩ :: ⟨.call 11 [(.t 54), (.t 56)], (some 57), none, []⟩ :: L3_32
theorem v3_33 : VS L3_33.eq_1 := rfl
def L3_34 : List AStep := ⟨.load 1 true (.t 8), (some 54), none, []⟩ :: ⟨.load 1 true (.t 2), (some 55), none, []⟩ :: L3_33
theorem v3_34 : VS L3_34.eq_1 := rfl
def L3_35 : List AStep := [⟨.mov (.c (.bool false)), (some 4), none, []⟩]
theorem v3_35 : VS L3_35.eq_1 := rfl
def L3_36 : List AStep := [⟨.not (.t 62), (some 63), none, []⟩]
theorem v3_36 : VS L3_36.eq_1 := rfl
def L3_37 : List AStep := ⟨.call 8 [(.t 60)], (some 61), none, [(.load 2 true (.t 9), (some 59), none)]⟩ :: ⟨.call 12 [(.t 59), (.t 61)], (some 62), none, []⟩ :: L3_36
theorem v3_37 : VS L3_37.eq_1 := rfl
def L3_38 : List AStep := ⟨.load 2 true (.t 9), (some 59), none, []⟩ :: ⟨.load 2 true (.t 3), (some 60), none, []⟩ :: L3_37
theorem v3_38 : VS L3_38.eq_1 := rfl
def L3_39 : List AStep := [⟨.mov (.c (.bool false)), (some 4), none, []⟩]
theorem v3_39 : VS L3_39.eq_1 := rfl
def L3_40 : List AStep := [⟨.mov (.c (.int .i64 1)), (some 12), none, []⟩]
theorem v3_40 : VS L3_40.eq_1 := rfl
def L3_41 : List AStep := [⟨.call 13 [(.t 64), (.t 65)], (some 66), none, []⟩, ⟨.mov (.t 66), (some 12), none, []⟩]
theorem v3_41 : VS L3_41.eq_1 := rfl
def L3_42 : List AStep := ⟨.load 1 true (.t 8), (some 64), none, []⟩ :: ⟨.mov (.t 12), (some 65), none, []⟩ :: L3_41
theorem v3_42 : VS L3_42.eq_1 := rfl
def L3_43 : List AStep := [⟨.call 14 [(.t 67), (.t 68)], (some 69), none, []⟩, ⟨.mov (.t 69), (some 12), none, []⟩]
theorem v3_43 : VS L3_43.eq_1 := rfl
def L3_44 : List AStep := ⟨.load 2 true (.t 9), (some 67), none, []⟩ :: ⟨.mov (.t 12), (some 68), none, []⟩ :: L3_43
theorem v3_44 : VS L3_44.eq_1 := rfl
def L3_45 : List AStep := [⟨.pick (.t 78) (.c (.bool true)) (.t 81), (some 82), none, []⟩]
theorem v3_45 : VS L3_45.eq_1 := rfl
def L3_46 : List AStep := ⟨.mov (.t 7), (some 80), (some (78, false)), []⟩ :: ⟨.eqb true (.t 79) (.t 80), (some 81), (some (78, false)), []⟩ :: L3_45
theorem v3_46 : VS L3_46.eq_1 := rfl
def L3_47 : List AStep := ⟨.mov (.t 77), (some 78), none, []⟩ :: ⟨.mov (.t 11), (some 79), (some (78, false)), []⟩ :: L3_46
theorem v3_47 : VS L3_47.eq_1 := rfl
def L3_48 : List AStep := ⟨.not (.t 75), (some 76), (some (72, false)), []⟩ :: ⟨.pick (.t 72) (.c (.bool true)) (.t 76), (some 77), none, []⟩ :: L3_47
theorem v3_48 : VS L3_48.eq_1 := rfl
def L3_49 : List AStep := ⟨.load 3 true (.t 6), (some 74), (some (72, false)), []⟩ :: ⟨.call 10 [(.t 73), (.t 74)], (some 75), (some (72, false)), []⟩ :: L3_48
theorem v3_49 : VS L3_49.eq_1 := rfl
def L3_50 : List AStep := ⟨.mov (.t 71), (some 72), none, []⟩ :: ⟨.load 3 true (.t 10), (some 73), (some (72, false)), []⟩ :: L3_49
theorem v3_50 : VS L3_50.eq_1 := rfl
def L3_51 : List AStep := ⟨.mov (.t 12), (some 70), none, []⟩ :: ⟨.bin .lss (.t 70) (.c (.int .i64 0)), (some 71), none, []⟩ :: L3_50
theorem v3_51 : VS L3_51.eq_1 := rfl
def L3_52 : List AStep := [⟨.mov (.c (.bool false)), (some 4), none, []⟩]
theorem v3_52 : VS L3_52.eq_1 := rfl
def L3_53 : List AStep := [⟨.mov (.c (.int .i64 1)), (some 13), none, []⟩]
theorem v3_53 : VS L3_53.eq_1 := rfl
def L3_54 : List AStep := [⟨.call 15 [(.t 83), (.t 84)], (some 85), none, []⟩, ⟨.mov (.t 85), (some 13), none, []⟩]
theorem v3_54 : VS L3_54.eq_1 := rfl
def L3_55 : List AStep := ⟨.load 3 true (.t 10), (some 83), none, []⟩ :: ⟨.mov (.t 13), (some 84), none, []⟩ :: L3_54
theorem v3_55 : VS L3_55.eq_1 := rfl
def L3_56 : List AStep := [⟨.mov (.c (.int .i64 1)), (some 14), none, []⟩]
theorem v3_56 : VS L3_56.eq_1 := rfl
def L3_57 : List AStep := [⟨.call 16 [(.t 86), (.t 87)], (some 88), none, []⟩, ⟨.mov (.t 88), (some 14), none, []⟩]
theorem v3_57 : VS L3_57.eq_1 := rfl
def L3_58 : List AStep := ⟨.load 3 true (.t 10), (some 86), none, []⟩ :: ⟨.mov (.t 14), (some 87), none, []⟩ :: L3_57
theorem v3_58 : VS L3_58.eq_1 := rfl
def L3_59 : List AStep := [⟨.mov (.t 14), (some 89), none, []⟩, ⟨.bin .lss (.t 89) (.c (.int .i64 0)), (some 90), none, []⟩]
theorem v3_59 : VS L3_59.eq_1 := rfl
def L3_60 : List AStep := [⟨.mov (.c (.bool false)), (some 4), none, []⟩]
theorem v3_60 : VS L3_60.eq_1 := rfl
def L3_61 : List AStep := [⟨.bin .neq (.t 91) (.t 92), (some 93), none, []⟩]
theorem v3_61 : VS L3_61.eq_1 := rfl
def L3_62 : List AStep := ⟨.mov (.t 14), (some 91), none, []⟩ :: ⟨.mov (.t 13), (some 92), none, []⟩ :: L3_61
theorem v3_62 : VS L3_62.eq_1 := rfl
def L3_63 : List AStep := [⟨.mov (.c (.bool false)), (some 4), none, []⟩]
theorem v3_63 : VS L3_63.eq_1 := rfl
def L3_64 : List AStep := [⟨.mov (.t 101), (some 16), none, []⟩]
theorem v3_64 : VS L3_64.eq_1 := rfl
def L3_65 : List AStep := ⟨.extract (.t 94) 1, (some 101), none, []⟩ :: ⟨.store 3 (.t 15) (.t 100), none, none, []⟩ :: L3_64
theorem v3_65 : VS L3_65.eq_1 := rfl
def L3_66 : List AStep := ⟨.mov (.t 99), (some 94), none, []⟩ :: ⟨.extract (.t 94) 0, (some 100), none, []⟩ :: L3_65
theorem v3_66 : VS L3_66.eq_1 := rfl
def L3_67 : List AStep := ⟨.call 8 [(.t 97)], (some 98), none, []⟩ :: ⟨.call 9 [(.t 96), (.t 98)], (some 99), none, []⟩ :: L3_66
theorem v3_67 : VS L3_67.eq_1 := rfl
def L3_68 : List AStep := ⟨.alloc 38 [(.sl none 0 (some 0)), (.sl none 0 (some 0)), (.sl none 0 (some 0))], (some 15), none, []⟩ :: ⟨.call 7 [(.t 95)], (some 96), none, [(.load 2 true (.t 3), (some 97), none)]⟩ :: L3_67
theorem v3_68 : VS L3_68.eq_1 := rfl
def L3_69 : List AStep := ⟨.load 1 true (.t 2), (some 95), none, []⟩ :: ⟨.load 2 true (.t 3), (some 97), none, []⟩ :: L3_68
theorem v3_69 : VS L3_69.eq_1 := rfl
def L3_70 : List AStep := [⟨.pick (.t 106) (.c (.bool true)) (.t 109), (some 110), none, []⟩]
theorem v3_70 : VS L3_70.eq_1 := rfl
def L3_71 : List AStep := ⟨.mov (.t 7), (some 108), (some (106, false)), []⟩ :: ⟨.eqb true (.t 107) (.t 108), (some 109), (some (106, false)), []⟩ :: L3_70
theorem v3_71 : VS L3_71.eq_1 := rfl
def L3_72 : List AStep := ⟨.mov (.t 105), (some 106), none, []⟩ :: ⟨.mov (.t 16), (some 107), (some (106, false)), []⟩ :: L3_71
theorem v3_72 : VS L3_72.eq_1 := rfl
def L3_73 : List AStep := ⟨.call 10 [(.t 102), (.t 103)], (some 104), none, []⟩ :: ⟨.not (.t 104), (some 105), none, []⟩ :: L3_72
theorem v3_73 : VS L3_73.eq_1 := rfl
def L3_74 : List AStep := ⟨.load 3 true (.t 15), (some 102), none, []⟩ :: ⟨.load 3 true (.t 6), (some 103), none, []⟩ :: L3_73
theorem v3_74 : VS L3_74.eq_1 := rfl
def L3_75 : List AStep := [⟨.mov (.c (.bool false)), (some 4), none, []⟩]
theorem v3_75 : VS L3_75.eq_1 := rfl
def L3_76 : List AStep := [⟨.mov (.c (.int .i64 1)), (some 14), none, []⟩]
theorem v3_76 : VS L3_76.eq_1 := rfl
def L3_77 : List AStep := [⟨.call 16 [(.t 111), (.t 112)], (some 113), none, []⟩, ⟨.mov (.t 113), (some 14), none, []⟩]
theorem v3_77 : VS L3_77.eq_1 := rfl
def L3_78 : List AStep := ⟨.load 3 true (.t 10), (some 111), none, []⟩ :: ⟨.mov (.t 14), (some 112), none, []⟩ :: L3_77
theorem v3_78 : VS L3_78.eq_1 := rfl
def L3_79 : List AStep := [⟨.mov (.t 14), (some 114), none, []⟩, ⟨.bin .lss (.t 114) (.c (.int .i64 0)), (some 115), none, []⟩]
theorem v3_79 : VS L3_79.eq_1 := rfl
def L3_80 : List AStep := [⟨.mov (.c (.bool false)), (some 4), none, []⟩]
theorem v3_80 : VS L3_80.eq_1 := rfl
def L3_81 : List AStep := [⟨.bin .neq (.t 116) (.t 117), (some 118), none, []⟩]
theorem v3_81 : VS L3_81.eq_1 := rfl
def L3_82 : List AStep := ⟨.mov (.t 14), (some 116), none, []⟩ :: ⟨.mov (.t 13), (some 117), none, []⟩ :: L3_81
theorem v3_82 : VS L3_82.eq_1 := rfl
def L3_83 : List AStep := [⟨.mov (.c (.bool false)), (some 4), none, []⟩]
theorem v3_83 : VS L3_83.eq_1 := rfl
def L3_84 : List AStep := [⟨.mov (.c (.bool true)), (some 4), none, []⟩]
theorem v3_84 : VS L3_84.eq_1 := rfl
def C3_0 : ACode := .seq (.reg L3_6) .ret
theorem u3_0 : VC C3_0.eq_1 := rfl
def C3_1 : ACode := .cond (.t 21) C3_0 .skip
theorem u3_1 : VC C3_1.eq_1 := rfl
def C3_2 : ACode := .seq (.reg L3_5) C3_1
theorem u3_2 : VC C3_2.eq_1 := rfl
def C3_3 : ACode := .seq (.reg L3_10) .ret
theorem u3_3 : VC C3_3.eq_1 := rfl
def C3_4 : ACode := .cond (.t 26) C3_3 .skip
theorem u3_4 : VC C3_4.eq_1 := rfl
def C3_5 : ACode := .seq (.reg L3_9) C3_4
theorem u3_5 : VC C3_5.eq_1 := rfl
def C3_6 : ACode := .seq (.reg L3_31) .ret
theorem u3_6 : VC C3_6.eq_1 := rfl
def C3_7 : ACode := .cond (.t 53) C3_6 .skip
theorem u3_7 : VC C3_7.eq_1 := rfl
def C3_8 : ACode := .seq (.reg L3_30) C3_7
theorem u3_8 : VC C3_8.eq_1 := rfl
def C3_9 : ACode := .seq (.reg L3_35) .ret
theorem u3_9 : VC C3_9.eq_1 := rfl
def C3_10 : ACode := .cond (.t 58) C3_9 .skip
theorem u3_10 : VC C3_10.eq_1 := rfl
def C3_11 : ACode := .seq (.reg L3_34) C3_10
theorem u3_11 : VC C3_11.eq_1 := rfl
def C3_12 : ACode := .seq (.reg L3_39) .ret
theorem u3_12 : VC C3_12.eq_1 := rfl
def C3_13 : ACode := .cond (.t 63) C3_12 .skip
theorem u3_13 : VC C3_13.eq_1 := rfl
def C3_14 : ACode := .seq (.reg L3_38) C3_13
theorem u3_14 : VC C3_14.eq_1 := rfl
def C3_15 : ACode := .seq (.reg L3_52) .ret
theorem u3_15 : VC C3_15.eq_1 := rfl
def C3_16 : ACode := .cond (.t 82) C3_15 .skip
theorem u3_16 : VC C3_16.eq_1 := rfl
def C3_17 : ACode := .seq (.reg L3_51) C3_16
theorem u3_17 : VC C3_17.eq_1 := rfl
def C3_18 : ACode := .seq (.reg L3_60) .ret
theorem u3_18 : VC C3_18.eq_1 := rfl
def C3_19 : ACode := .cond (.t 90) C3_18 .skip
theorem u3_19 : VC C3_19.eq_1 := rfl
def C3_20 : ACode := .seq (.reg L3_59) C3_19
theorem u3_20 : VC C3_20.eq_1 := rfl
def C3_21 : ACode := .seq (.reg L3_63) .ret
theorem u3_21 : VC C3_21.eq_1 := rfl
def C3_22 : ACode := .cond (.t 93) C3_21 .skip
theorem u3_22 : VC C3_22.eq_1 := rfl
def C3_23 : ACode := .seq (.reg L3_62) C3_22
theorem u3_23 : VC C3_23.eq_1 := rfl
def C3_24 : ACode := .seq (.reg L3_75) .ret
theorem u3_24 : VC C3_24.eq_1 := rfl
def C3_25 : ACode := .cond (.t 110) C3_24 .skip
theorem u3_25 : VC C3_25.eq_1 := rfl
def C3_26 : ACode := .seq (.reg L3_74) C3_25
theorem u3_26 : VC C3_26.eq_1 := rfl
def C3_27 : ACode := .seq (.reg L3_80) .ret
theorem u3_27 : VC C3_27.eq_1 := rfl
def C3_28 : ACode := .cond (.t 115) C3_27 .skip
theorem u3_28 : VC C3_28.eq_1 := rfl
def C3_29 : ACode := .seq (.reg L3_79) C3_28
theorem u3_29 : VC C3_29.eq_1 := rfl
def C3_30 : ACode := .seq (.reg L3_83) .ret
theorem u3_30 : VC C3_30.eq_1 := rfl
def C3_31 : ACode := .cond (.t 118) C3_30 .skip
theorem u3_31 : VC C3_31.eq_1 := rfl
def C3_32 : ACode := .seq (.reg L3_82) C3_31
theorem u3_32 : VC C3_32.eq_1 := rfl
def C3_33 : ACode := .seq (.reg L3_84) .ret
theorem u3_33 : VC C3_33.eq_1 := rfl
def C3_34 : ACode := .seq C3_32 C3_33
theorem u3_34 : VC C3_34.eq_1 := rfl
def C3_35 : ACode := .seq C3_29 C3_34
theorem u3_35 : VC C3_35.eq_1 := rfl
def C3_36 : ACode := .seq (.reg L3_78) C3_35
theorem u3_36 : VC C3_36.eq_1 := rfl
def C3_37 : ACode := .seq (.reg L3_76) C3_36
theorem u3_37 : VC C3_37.eq_1 := rfl
def C3_38 : ACode := .seq C3_26 C3_37
theorem u3_38 : VC C3_38.eq_1 := rfl
def C3_39 : ACode := .seq (.reg L3_69) C3_38
theorem u3_39 : VC C3_39.eq_1 := rfl
def C3_40 : ACode := .seq C3_23 C3_39
theorem u3_40 : VC C3_40.eq_1 := rfl
def C3_41 : ACode := .seq C3_20 C3_40
theorem u3_41 : VC C3_41.eq_1 := rfl
def C3_42 : ACode := .seq (.reg L3_58) C3_41
theorem u3_42 : VC C3_42.eq_1 := rfl
def C3_43 : ACode := .seq (.reg L3_56) C3_42
theorem u3_43 : VC C3_43.eq_1 := rfl
def C3_44 : ACode := .seq (.reg L3_55) C3_43
theorem u3_44 : VC C3_44.eq_1 := rfl
def C3_45 : ACode := .seq (.reg L3_53) C3_44
theorem u3_45 : VC C3_45.eq_1 := rfl
def C3_46 : ACode := .seq C3_17 C3_45
theorem u3_46 : VC C3_46.eq_1 := rfl
def C3_47 : ACode := .seq (.reg L3_44) C3_46
theorem u3_47 : VC C3_47.eq_1 := rfl
def C3_48 : ACode := .seq (.reg L3_42) C3_47
theorem u3_48 : VC C3_48.eq_1 := rfl
def C3_49 : ACode := .seq (.reg L3_40) C3_48
theorem u3_49 : VC C3_49.eq_1 := rfl
def C3_50 : ACode := .seq C3_14 C3_49
theorem u3_50 : VC C3_50.eq_1 := rfl
def C3_51 : ACode := .seq C3_11 C3_50
theorem u3_51 : VC C3_51.eq_1 := rfl
def C3_52 : ACode := .seq C3_8 C3_51
theorem u3_52 : VC C3_52.eq_1 := rfl
def C3_53 : ACode := .seq (.reg L3_25) C3_52
theorem u3_53 : VC C3_53.eq_1 := rfl
def C3_54 : ACode := .seq (.reg L3_20) C3_53
theorem u3_54 : VC C3_54.eq_1 := rfl
def C3_55 : ACode := .seq (.reg L3_18) C3_54
theorem u3_55 : VC C3_55.eq_1 := rfl
def C3_56 : ACode := .seq (.reg L3_16) C3_55
theorem u3_56 : VC C3_56.eq_1 := rfl
def C3_57 : ACode := .seq C3_5 C3_56
theorem u3_57 : VC C3_57.eq_1 := rfl
def C3_58 : ACode := .seq (.reg L3_8) C3_57
theorem u3_58 : VC C3_58.eq_1 := rfl
def C3_59 : ACode := .seq C3_2 C3_58
theorem u3_59 : VC C3_59.eq_1 := rfl
def C3_60 : ACode := .seq (.reg L3_4) C3_59
theorem u3_60 : VC C3_60.eq_1 := rfl
def C3_61 : ACode := .seq (.reg L3_2) C3_60
theorem u3_61 : VC C3_61.eq_1 := rfl
def C3_62 : ACode := .seq (.reg L3_1) C3_61
theorem u3_62 : VC C3_62.eq_1 := rfl
def F3 : AFunc := ⟨119, [.tmp 4], C3_62⟩
theorem cF3 : compB Tryz.prog 3 = some F3 := by kernel_rfl
attribute [local go_sem ↓] u3_0 u3_1 u3_2 u3_3 u3_4 u3_5 u3_6 u3_7 u3_8 u3_9 u3_10 u3_11 u3_12 u3_13 u3_14 u3_15 u3_16 u3_17 u3_18 u3_19 u3_20 u3_21 u3_22 u3_23 u3_24 u3_25 u3_26 u3_27 u3_28 u3_29 u3_30 u3_31 u3_32 u3_33 u3_34 u3_35 u3_36 u3_37 u3_38 u3_39 u3_40 u3_41 u3_42 u3_43 u3_44 u3_45 u3_46 u3_47 u3_48 u3_49 u3_50 u3_51 u3_52 u3_53 u3_54 u3_55 u3_56 u3_57 u3_58 u3_59 u3_60 u3_61 u3_62 v3_0 v3_1 v3_2 v3_3 v3_4 v3_5 v3_6 v3_7 v3_8 v3_9 v3_10 v3_11 v3_12 v3_13 v3_14 v3_15 v3_16 v3_17 v3_18 v3_19 v3_20 v3_21 v3_22 v3_23 v3_24 v3_25 v3_26 v3_27 v3_28 v3_29 v3_30 v3_31 v3_32 v3_33 v3_34 v3_35 v3_36 v3_37 v3_38 v3_39 v3_40 v3_41 v3_42 v3_43 v3_44 v3_45 v3_46 v3_47 v3_48 v3_49 v3_50 v3_51 v3_52 v3_53 v3_54 v3_55 v3_56 v3_57 v3_58 v3_59 v3_60 v3_61 v3_62 v3_63 v3_64 v3_65 v3_66 v3_67 v3_68 v3_69 v3_70 v3_71 v3_72 v3_73 v3_74 v3_75 v3_76 v3_77 v3_78 v3_79 v3_80 v3_81 v3_82 v3_83 v3_84
theorem law3 (h : H) (avs : List AV) (hok : okVs Tryz.prog h 6 [ 24, 28 ] avs) : callK (bm Tryz.prog 3 avs h) fun r _ => r = ib true := by
  obtain ⟨v0, avs, rfl, hv0, hok⟩ := okVs_cons hok
  obtain ⟨v1, avs, rfl, hv1, hok⟩ := okVs_cons hok
  obtain rfl := okVs_nil hok
  obtain ⟨p0, x0, rfl, d0⟩ := dG hv0
  obtain ⟨p1, n1, x1, rfl, d1⟩ := dF hv1
  refine bm_of cF3 ?_
  have z0 := k_szG x0 p0 1048576 h (by omega) (by omega) d0
  by_cases y0 : szr 1048576 (wtG x0) < 0
  · simp +contextual (maxSteps := 2000000) only [go_sem, Nat.reduceEqDiff, reduceCtorEq, Nat.reduceAdd, Nat.reduceLeDiff, F3, z0, decide_eq_true y0]
  have z1 := k_szF x1 p1 n1 (szr 1048576 (wtG x0)) h (by omega) (by unfold szr; split <;> omega) d1
  by_cases y1 : szr (szr 1048576 (wtG x0)) (wtF x1) < 0
  · simp +contextual (maxSteps := 2000000) only [go_sem, Nat.reduceEqDiff, reduceCtorEq, Nat.reduceAdd, Nat.reduceLeDiff, F3, z0, z1, decide_eq_false y0, decide_eq_true y1]
  obtain ⟨e0, u0⟩ := szr_ge y0
  obtain ⟨e1, u1⟩ := szr_ge y1
  have s0 : miniG x0 := wtG_sm (by omega)
  have s1 : miniF x1 := wtF_sm (by omega)
  have hR : miniD (partF x0 x1) := .part
  simp +contextual (maxSteps := 2000000) only [go_sem, Nat.reduceEqDiff, reduceCtorEq, Nat.reduceAdd, Nat.reduceLeDiff, F3, z0, z1, decide_eq_false y0, decide_eq_false y1]
  refine wp_call (k_toG x0 p0 h (d0.grow (Grow.refl h)) s0) ?_
  rintro r h1 ⟨g1, p0a, rfl, a0a⟩
  simp +contextual (maxSteps := 2000000) only [go_sem, Nat.reduceEqDiff, reduceCtorEq, Nat.reduceAdd, Nat.reduceLeDiff]
  refine wp_call (k_toF x1 p1 n1 h1 (d1.grow ((Grow.refl h).trans g1)) s1) ?_
  rintro r h2 ⟨g2, p1a, n1a, rfl, a1a⟩
  simp +contextual (maxSteps := 2000000) only [go_sem, Nat.reduceEqDiff, reduceCtorEq, Nat.reduceAdd, Nat.reduceLeDiff]
  refine wp_call (k_sPartialOf x0 x1 p0a p1a n1a h2 (a0a.sl.grow g2) (a1a.sl) s0 s1) ?_
  rintro r h3 ⟨g3, cw, pw, nw, rfl, w0⟩
  simp +contextual (maxSteps := 2000000) only [go_sem, Nat.reduceEqDiff, reduceCtorEq, Nat.reduceAdd, Nat.reduceLeDiff]
  refine wp_call (k_toG x0 p0 h3 (d0.grow ((((Grow.refl h).trans g1).trans g2).trans g3)) s0) ?_
  rintro r h4 ⟨g4, p0b, rfl, a0b⟩
  simp +contextual (maxSteps := 2000000) only [go_sem, Nat.reduceEqDiff, reduceCtorEq, Nat.reduceAdd, Nat.reduceLeDiff]
  refine wp_call (k_toF x1 p1 n1 h4 (d1.grow (((((Grow.refl h).trans g1).trans g2).trans g3).trans g4)) s1) ?_
  rintro r h5 ⟨g5, p1b, n1b, rfl, a1b⟩
  simp +contextual (maxSteps := 2000000) only [go_sem, Nat.reduceEqDiff, reduceCtorEq, Nat.reduceAdd, Nat.reduceLeDiff]
  refine wp_call (k_iPartialOf x0 x1 p0b p1b n1b h5 (a0b.sl.grow g5) (a1b.sl) s0 s1) ?_
  rintro r h6 ⟨g6, cg, pg, ng, rfl, b0⟩
  have q0 := k_eqD (partF x0 x1) (partF x0 x1) cg pg ng cw pw nw h6 (b0.sl) (w0.sl.grow ((g4.trans g5).trans g6)) hR
  simp +contextual (maxSteps := 2000000) only [go_sem, Nat.reduceEqDiff, reduceCtorEq, Nat.reduceAdd, Nat.reduceLeDiff, q0, decide_true]
  refine wp_call (k_toG x0 p0 h6 (d0.grow (((((((Grow.refl h).trans g1).trans g2).trans g3).trans g4).trans g5).trans g6)) s0) ?_
  rintro r h7 ⟨g7, p0c, rfl, a0c⟩
  have q1 := k_eqG x0 x0 p0b p0c h7 (a0b.sl.grow ((g5.trans g6).trans g7)) a0c.sl s0
  simp +contextual (maxSteps := 2000000) only [go_sem, Nat.reduceEqDiff, reduceCtorEq, Nat.reduceAdd, Nat.reduceLeDiff, q1, decide_true]
  refine wp_call (k_toF x1 p1 n1 h7 (d1.grow ((((((((Grow.refl h).trans g1).trans g2).trans g3).trans g4).trans g5).trans g6).trans g7)) s1) ?_
  rintro r h8 ⟨g8, p1c, n1c, rfl, a1c⟩
  have q2 := k_eqF x1 x1 p1b n1b p1c n1c h8 (a1b.sl.grow ((g6.trans g7).trans g8)) a1c.sl s1
  simp +contextual (maxSteps := 2000000) only [go_sem, Nat.reduceEqDiff, reduceCtorEq, Nat.reduceAdd, Nat.reduceLeDiff, q2, decide_true]
  have k0 := cellsG_le s0
  have k1 := cellsF_le s1
  have G8 : Grow h3 h8 := ((((g4.trans g5).trans g6).trans g7).trans g8)
  refine wp_call (k_markG x0 p0b 1 h3 h4 h8 ((a0b.grow (((g5.trans g6).trans g7).trans g8))) a0b G8 (by omega) (by omega) s0) ?_
  rintro r h9 ⟨rfl, G80, m0, N0⟩
  have M0 := N0
  simp +contextual (maxSteps := 2000000) only [go_sem, Nat.reduceEqDiff, reduceCtorEq, Nat.reduceAdd, Nat.reduceLeDiff]
  refine wp_call (k_markF x1 p1b n1b _ h3 h5 h9 (((a1b.grow ((g6.trans g7).trans g8)).mid M0 (Nat.le_refl _)).from g4.n) (a1b.from g4.n) G80 (by omega) (by omega) s1) ?_
  rintro r h10 ⟨rfl, G81, m1, N1⟩
  have M1 : Mid h3.n h5.n h8 h10 := (M0.widen g5.n).trans N1
  have b1 := (b0.grow (g7.trans g8)).mid M1 (Nat.le_refl _)
  have w1 := w0.grow G81
  have qa := k_eqD (partF x0 x1) (partF x0 x1) cg pg ng cw pw nw h10 (b1.sl) (w1.sl) hR
  simp +contextual (maxSteps := 2000000) only [go_sem, Nat.reduceEqDiff, reduceCtorEq, Nat.reduceAdd, Nat.reduceLeDiff, qa, decide_true, decide_eq_false (show ¬ ((1 : Int) + (cellsG x0 : Nat) + (cellsF x1 : Nat) < 0) by omega)]
  have kr := cellsD_le hR
  have lh : h3.n ≤ h5.n := (g4.trans g5).n
  refine wp_call (k_markD (partF x0 x1) cg pg ng 1 h3 h6 h10 (b1.from lh) (b0.from lh) G81 (by omega) (by omega) hR) ?_
  rintro r h11 ⟨rfl, Gm, mr, Mr⟩
  have qh := k_heldD (partF x0 x1) cg pg ng 1 h11 mr (by omega) (by omega) hR
  simp +contextual (maxSteps := 2000000) only [go_sem, Nat.reduceEqDiff, reduceCtorEq, Nat.reduceAdd, Nat.reduceLeDiff, qh, decide_true, decide_eq_false (show ¬ ((1 : Int) + (cellsD (partF x0 x1) : Nat) < 0) by omega)]
  have H1 : Grow h h11 := ((((Grow.refl h).trans g1).trans g2).trans g3).trans Gm
  refine wp_call (k_toG x0 p0 h11 (d0.grow H1) s0) ?_
  rintro r h12 ⟨g12, p0d, rfl, a0d⟩
  simp +contextual (maxSteps := 2000000) only [go_sem, Nat.reduceEqDiff, reduceCtorEq, Nat.reduceAdd, Nat.reduceLeDiff]
  refine wp_call (k_toF x1 p1 n1 h12 (d1.grow (H1.trans g12)) s1) ?_
  rintro r h13 ⟨g13, p1d, n1d, rfl, a1d⟩
  simp +contextual (maxSteps := 2000000) only [go_sem, Nat.reduceEqDiff, reduceCtorEq, Nat.reduceAdd, Nat.reduceLeDiff]
  refine wp_call (k_iPartialOf x0 x1 p0d p1d n1d h13 (a0d.sl.grow g13) (a1d.sl) s0 s1) ?_
  rintro r h14 ⟨g14, cy, py, ny, rfl, b2⟩
  have G9 : Grow h11 h14 := ((g12.trans g13).trans g14)
  have qz := k_eqD (partF x0 x1) (partF x0 x1) cy py ny cw pw nw h14 (b2.sl) ((w0.grow (Gm.trans G9)).sl) hR
  have qy := k_heldD (partF x0 x1) cg pg ng 1 h14 (mr.grow G9) (by omega) (by omega) hR
  simp +contextual (maxSteps := 2000000) only [go_sem, Nat.reduceEqDiff, reduceCtorEq, Nat.reduceAdd, Nat.reduceLeDiff, qz, qy, decide_true, decide_eq_false (show ¬ ((1 : Int) + (cellsD (partF x0 x1) : Nat) < 0) by omega)]
  exact gcK_of rfl (fun _ _ => rfl)
end Go.Proofs.YtdalgphpacikkaaGreat.Am
