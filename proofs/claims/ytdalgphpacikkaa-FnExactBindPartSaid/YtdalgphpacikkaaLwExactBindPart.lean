/- The law FnExactBindPart. -/
import Derived.Test.YtdalgphpacikkaaK
import Derived.Test.YtdalgphpacikkaaN1
import Derived.Test.YtdalgphpacikkaaBK
namespace Go.Proofs.Ytdalgphpacikkaa.Am
open Go
set_option maxRecDepth 100000
set_option maxHeartbeats 4000000
set_option linter.unusedSimpArgs false
set_option linter.unusedVariables false
attribute [local go_sem ↓] bv_t bv_c ev_t ev_c put_same put_ne put_none kill_at pro_at lb_same lb_ne start_zero start_succ wpC_seq wpC_reg wpC_cond wpC_block wpC_skip wpC_exit wpC_ret thenQ_normal thenQ_exit thenQ_ret inBlk_normal inBlk_exit inBlk_ret wpS_nil wpS_step wpS_again wpS_guard wpO_mov wpO_load wpO_faddr wpO_nilCheck wpO_pick wpO_build wpO_bin wpO_eqb wpO_eqst wpO_eqnil wpO_not wpO_conv wpO_bytesStr wpO_iaddr wpO_idxStr wpO_field wpO_extract wpO_len wpO_lenStr wpO_cap wpO_min wpO_slice wpO_sliceStr wpO_alloc wpO_box wpO_store wpO_call wpO_callv wpO_mkfn wpO_buildSlice wpO_mkslice wpO_append wpO_appz proA_nil proA_cons tmpX_nil tmpX_tmp tmpX_cell doneB_normal doneB_ret agK_cons agK_nil agK_guard agG_tt agG_ff agG_tf agG_ft agG_undef pureB_load results_one results_two results_nil resBs_cons resBs_nil resB_tmp resB_cell
attribute [local go_sem] kill_v kill_lp_ne kill_lp_same pro_v pro_lp_same pro_lp_ne av_v av_lp optB_some optX_some valX_eq ldX_lp ldX_v faX_lp faX_v ncX_lp ncX_ptr ncX_fn boxK_one boxK_agg stL_some stK_lp_one stK_lp_agg stK_v_one stK_v_agg proM_v proM_lp callG_mk callVG_mk callvK_fn fnG_mk ptrsA_nil ptrsA_cons callH_some whenA_true whenA_false guardH_tt guardH_ff guardH_tf guardH_ft guardH_undef agV_one agV_agg lenO_sl lenStrO_str notO_bool pickO_bool convO_int eqbO_bool eqnilO_sl extractO_tup capO_sl minO_int loadL_one loadL_all storeL_eq fillA_nil fillA_one fillA_agg nat_ge neg_ge nat_lt neg_lt buildO bin_add bin_sub bin_mul bin_eql bin_neq bin_lss bin_leq bin_gtr bin_geq str_eql str_neq str_lss str_leq str_gtr str_geq retK_some endK_mk gcK_same gcK_int gcK_bool tupO_one tupO_agg rdy_self ib ii Option.map_none Option.map_some Option.some.injEq exists_eq_left' exists_eq_left ne_eq not_false_eq_true if_true if_false List.map_cons List.map_nil List.getElem?_cons_zero List.getElem?_cons_succ List.length_cons List.length_nil List.take_succ_cons List.take_zero List.take_nil List.drop_succ_cons List.drop_zero List.drop_nil List.cons_append List.nil_append List.append_nil List.set_cons_zero List.set_cons_succ Nat.zero_add forall_const true_and and_true and_self Bool.false_eq_true false_implies true_implies implies_true Bool.not_true Bool.not_false Bool.not_eq_true' Bool.not_eq_false' beq_self_eq_true Bool.bne_true Bool.bne_false
attribute [local go_sem] lenI lenS lenP lenQ lenB lenL lenT encI_0 encS_0 encP_0 encP_1 encQ_0 encQ_1 encQ_2 encQ_3 encB_0 encB_1 encL_0 encL_1 encT_0 encT_1
attribute [local go_sem low] whenA_bool guardH_bool
/-! laws.FnExactBindPart -/
def L4_0 : List AStep := [⟨.mov (.c (.bool false)), (some 4), none, []⟩]
theorem v4_0 : VS L4_0.eq_1 := rfl
def L4_1 : List AStep := ⟨.box 24 (.t 0), (some 2), none, []⟩ :: ⟨.box 28 (.t 1), (some 3), none, []⟩ :: L4_0
theorem v4_1 : VS L4_1.eq_1 := rfl
def L4_2 : List AStep := [⟨.mov (.c (.int .i64 1048576)), (some 5), none, []⟩]
theorem v4_2 : VS L4_2.eq_1 := rfl
def L4_3 : List AStep := [⟨.call 8 [(.t 17), (.t 18)], (some 19), none, []⟩, ⟨.mov (.t 19), (some 5), none, []⟩]
theorem v4_3 : VS L4_3.eq_1 := rfl
def L4_4 : List AStep := ⟨.load 1 true (.t 2), (some 17), none, []⟩ :: ⟨.mov (.t 5), (some 18), none, []⟩ :: L4_3
theorem v4_4 : VS L4_4.eq_1 := rfl
def L4_5 : List AStep := [⟨.mov (.t 5), (some 20), none, []⟩, ⟨.bin .lss (.t 20) (.c (.int .i64 0)), (some 21), none, []⟩]
theorem v4_5 : VS L4_5.eq_1 := rfl
def L4_6 : List AStep := [⟨.mov (.c (.bool true)), (some 4), none, []⟩]
theorem v4_6 : VS L4_6.eq_1 := rfl
def L4_7 : List AStep := [⟨.call 9 [(.t 22), (.t 23)], (some 24), none, []⟩, ⟨.mov (.t 24), (some 5), none, []⟩]
theorem v4_7 : VS L4_7.eq_1 := rfl
def L4_8 : List AStep := ⟨.load 2 true (.t 3), (some 22), none, []⟩ :: ⟨.mov (.t 5), (some 23), none, []⟩ :: L4_7
theorem v4_8 : VS L4_8.eq_1 := rfl
def L4_9 : List AStep := [⟨.mov (.t 5), (some 25), none, []⟩, ⟨.bin .lss (.t 25) (.c (.int .i64 0)), (some 26), none, []⟩]
theorem v4_9 : VS L4_9.eq_1 := rfl
def L4_10 : List AStep := [⟨.mov (.c (.bool true)), (some 4), none, []⟩]
theorem v4_10 : VS L4_10.eq_1 := rfl
def L4_11 : List AStep := [⟨.mov (.t 34), (some 7), none, []⟩]
theorem v4_11 : VS L4_11.eq_1 := rfl
def L4_12 : List AStep := ⟨.extract (.t 27) 1, (some 34), none, []⟩ :: ⟨.store 1 (.t 6) (.t 33), none, none, []⟩ :: L4_11
theorem v4_12 : VS L4_12.eq_1 := rfl
def L4_13 : List AStep := ⟨.mov (.t 32), (some 27), none, []⟩ :: ⟨.extract (.t 27) 0, (some 33), none, []⟩ :: L4_12
theorem v4_13 : VS L4_13.eq_1 := rfl
def L4_14 : List AStep := ⟨.call 12 [(.t 30)], (some 31), none, []⟩ :: ⟨.call 21 [(.t 29), (.t 31)], (some 32), none, []⟩ :: L4_13
theorem v4_14 : VS L4_14.eq_1 := rfl
def L4_15 : List AStep := ⟨.alloc 33 [(.sl none 0 (some 0))], (some 6), none, []⟩ :: ⟨.call 11 [(.t 28)], (some 29), none, [(.load 2 true (.t 3), (some 30), none)]⟩ :: L4_14
theorem v4_15 : VS L4_15.eq_1 := rfl
def L4_16 : List AStep := ⟨.load 1 true (.t 2), (some 28), none, []⟩ :: ⟨.load 2 true (.t 3), (some 30), none, []⟩ :: L4_15
theorem v4_16 : VS L4_16.eq_1 := rfl
def L4_17 : List AStep := [⟨.alloc 38 [(.sl none 0 (some 0))], (some 8), none, []⟩, ⟨.store 1 (.t 8) (.t 36), none, none, []⟩]
theorem v4_17 : VS L4_17.eq_1 := rfl
def L4_18 : List AStep := ⟨.load 1 true (.t 2), (some 35), none, []⟩ :: ⟨.call 11 [(.t 35)], (some 36), none, []⟩ :: L4_17
theorem v4_18 : VS L4_18.eq_1 := rfl
def L4_19 : List AStep := [⟨.alloc 42 [(.sl none 0 (some 0)), (.sl none 0 (some 0))], (some 9), none, []⟩, ⟨.store 2 (.t 9) (.t 38), none, none, []⟩]
theorem v4_19 : VS L4_19.eq_1 := rfl
def L4_20 : List AStep := ⟨.load 2 true (.t 3), (some 37), none, []⟩ :: ⟨.call 12 [(.t 37)], (some 38), none, []⟩ :: L4_19
theorem v4_20 : VS L4_20.eq_1 := rfl
def L4_21 : List AStep := [⟨.mov (.t 44), (some 11), none, []⟩]
theorem v4_21 : VS L4_21.eq_1 := rfl
def L4_22 : List AStep := ⟨.alloc 33 [(.sl none 0 (some 0))], (some 10), none, []⟩ :: ⟨.store 1 (.t 10) (.t 43), none, none, []⟩ :: L4_21
theorem v4_22 : VS L4_22.eq_1 := rfl
def L4_23 : List AStep := ⟨.extract (.t 39) 0, (some 43), none, []⟩ :: ⟨.extract (.t 39) 1, (some 44), none, []⟩ :: L4_22
theorem v4_23 : VS L4_23.eq_1 := rfl
def L4_24 : List AStep := ⟨.call 22 [(.t 40), (.t 41)], (some 42), none, []⟩ :: ⟨.mov (.t 42), (some 39), none, []⟩ :: L4_23
theorem v4_24 : VS L4_24.eq_1 := rfl
def L4_25 : List AStep := ⟨.load 1 true (.t 8), (some 40), none, []⟩ :: ⟨.load 2 true (.t 9), (some 41), none, []⟩ :: L4_24
theorem v4_25 : VS L4_25.eq_1 := rfl
def L4_26 : List AStep := [⟨.pick (.t 49) (.c (.bool true)) (.t 52), (some 53), none, []⟩]
theorem v4_26 : VS L4_26.eq_1 := rfl
def L4_27 : List AStep := ⟨.mov (.t 7), (some 51), (some (49, false)), []⟩ :: ⟨.eqb true (.t 50) (.t 51), (some 52), (some (49, false)), []⟩ :: L4_26
theorem v4_27 : VS L4_27.eq_1 := rfl
def L4_28 : List AStep := ⟨.mov (.t 48), (some 49), none, []⟩ :: ⟨.mov (.t 11), (some 50), (some (49, false)), []⟩ :: L4_27
theorem v4_28 : VS L4_28.eq_1 := rfl
def L4_29 : List AStep := ⟨.call 14 [(.t 45), (.t 46)], (some 47), none, []⟩ :: ⟨.not (.t 47), (some 48), none, []⟩ :: L4_28
theorem v4_29 : VS L4_29.eq_1 := rfl
def L4_30 : List AStep := ⟨.load 1 true (.t 10), (some 45), none, []⟩ :: ⟨.load 1 true (.t 6), (some 46), none, []⟩ :: L4_29
theorem v4_30 : VS L4_30.eq_1 := rfl
def L4_31 : List AStep := [⟨.mov (.c (.bool false)), (some 4), none, []⟩]
theorem v4_31 : VS L4_31.eq_1 := rfl
def L4_32 : List AStep := [⟨.not (.t 57), (some 58), none, []⟩]
theorem v4_32 : VS L4_32.eq_1 := rfl
def L4_33 : List AStep := ⟨.call 11 [(.t 55)], (some 56), none, [(.load 1 true (.t 8), (some 54), none)]⟩ :: ⟨.call 15 [(.t 54), (.t 56)], (some 57), none, []⟩ :: L4_32
theorem v4_33 : VS L4_33.eq_1 := rfl
def L4_34 : List AStep := ⟨.load 1 true (.t 8), (some 54), none, []⟩ :: ⟨.load 1 true (.t 2), (some 55), none, []⟩ :: L4_33
theorem v4_34 : VS L4_34.eq_1 := rfl
def L4_35 : List AStep := [⟨.mov (.c (.bool false)), (some 4), none, []⟩]
theorem v4_35 : VS L4_35.eq_1 := rfl
def L4_36 : List AStep := [⟨.not (.t 62), (some 63), none, []⟩]
theorem v4_36 : VS L4_36.eq_1 := rfl
def L4_37 : List AStep := ⟨.call 12 [(.t 60)], (some 61), none, [(.load 2 true (.t 9), (some 59), none)]⟩ :: ⟨.call 16 [(.t 59), (.t 61)], (some 62), none, []⟩ :: L4_36
theorem v4_37 : VS L4_37.eq_1 := rfl
def L4_38 : List AStep := ⟨.load 2 true (.t 9), (some 59), none, []⟩ :: ⟨.load 2 true (.t 3), (some 60), none, []⟩ :: L4_37
theorem v4_38 : VS L4_38.eq_1 := rfl
def L4_39 : List AStep := [⟨.mov (.c (.bool false)), (some 4), none, []⟩]
theorem v4_39 : VS L4_39.eq_1 := rfl
def L4_40 : List AStep := [⟨.mov (.c (.int .i64 1)), (some 12), none, []⟩]
theorem v4_40 : VS L4_40.eq_1 := rfl
def L4_41 : List AStep := [⟨.call 17 [(.t 64), (.t 65)], (some 66), none, []⟩, ⟨.mov (.t 66), (some 12), none, []⟩]
theorem v4_41 : VS L4_41.eq_1 := rfl
def L4_42 : List AStep := ⟨.load 1 true (.t 8), (some 64), none, []⟩ :: ⟨.mov (.t 12), (some 65), none, []⟩ :: L4_41
theorem v4_42 : VS L4_42.eq_1 := rfl
def L4_43 : List AStep := [⟨.call 18 [(.t 67), (.t 68)], (some 69), none, []⟩, ⟨.mov (.t 69), (some 12), none, []⟩]
theorem v4_43 : VS L4_43.eq_1 := rfl
def L4_44 : List AStep := ⟨.load 2 true (.t 9), (some 67), none, []⟩ :: ⟨.mov (.t 12), (some 68), none, []⟩ :: L4_43
theorem v4_44 : VS L4_44.eq_1 := rfl
def L4_45 : List AStep := [⟨.pick (.t 78) (.c (.bool true)) (.t 81), (some 82), none, []⟩]
theorem v4_45 : VS L4_45.eq_1 := rfl
def L4_46 : List AStep := ⟨.mov (.t 7), (some 80), (some (78, false)), []⟩ :: ⟨.eqb true (.t 79) (.t 80), (some 81), (some (78, false)), []⟩ :: L4_45
theorem v4_46 : VS L4_46.eq_1 := rfl
def L4_47 : List AStep := ⟨.mov (.t 77), (some 78), none, []⟩ :: ⟨.mov (.t 11), (some 79), (some (78, false)), []⟩ :: L4_46
theorem v4_47 : VS L4_47.eq_1 := rfl
def L4_48 : List AStep := ⟨.not (.t 75), (some 76), (some (72, false)), []⟩ :: ⟨.pick (.t 72) (.c (.bool true)) (.t 76), (some 77), none, []⟩ :: L4_47
theorem v4_48 : VS L4_48.eq_1 := rfl
def L4_49 : List AStep := ⟨.load 1 true (.t 6), (some 74), (some (72, false)), []⟩ :: ⟨.call 14 [(.t 73), (.t 74)], (some 75), (some (72, false)), []⟩ :: L4_48
theorem v4_49 : VS L4_49.eq_1 := rfl
def L4_50 : List AStep := ⟨.mov (.t 71), (some 72), none, []⟩ :: ⟨.load 1 true (.t 10), (some 73), (some (72, false)), []⟩ :: L4_49
theorem v4_50 : VS L4_50.eq_1 := rfl
def L4_51 : List AStep := ⟨.mov (.t 12), (some 70), none, []⟩ :: ⟨.bin .lss (.t 70) (.c (.int .i64 0)), (some 71), none, []⟩ :: L4_50
theorem v4_51 : VS L4_51.eq_1 := rfl
def L4_52 : List AStep := [⟨.mov (.c (.bool false)), (some 4), none, []⟩]
theorem v4_52 : VS L4_52.eq_1 := rfl
def L4_53 : List AStep := [⟨.mov (.c (.int .i64 1)), (some 13), none, []⟩]
theorem v4_53 : VS L4_53.eq_1 := rfl
def L4_54 : List AStep := [⟨.call 19 [(.t 83), (.t 84)], (some 85), none, []⟩, ⟨.mov (.t 85), (some 13), none, []⟩]
theorem v4_54 : VS L4_54.eq_1 := rfl
def L4_55 : List AStep := ⟨.load 1 true (.t 10), (some 83), none, []⟩ :: ⟨.mov (.t 13), (some 84), none, []⟩ :: L4_54
theorem v4_55 : VS L4_55.eq_1 := rfl
def L4_56 : List AStep := [⟨.mov (.c (.int .i64 1)), (some 14), none, []⟩]
theorem v4_56 : VS L4_56.eq_1 := rfl
def L4_57 : List AStep := [⟨.call 20 [(.t 86), (.t 87)], (some 88), none, []⟩, ⟨.mov (.t 88), (some 14), none, []⟩]
theorem v4_57 : VS L4_57.eq_1 := rfl
def L4_58 : List AStep := ⟨.load 1 true (.t 10), (some 86), none, []⟩ :: ⟨.mov (.t 14), (some 87), none, []⟩ :: L4_57
theorem v4_58 : VS L4_58.eq_1 := rfl
def L4_59 : List AStep := [⟨.mov (.t 14), (some 89), none, []⟩, ⟨.bin .lss (.t 89) (.c (.int .i64 0)), (some 90), none, []⟩]
theorem v4_59 : VS L4_59.eq_1 := rfl
def L4_60 : List AStep := [⟨.mov (.c (.bool false)), (some 4), none, []⟩]
theorem v4_60 : VS L4_60.eq_1 := rfl
def L4_61 : List AStep := [⟨.bin .neq (.t 91) (.t 92), (some 93), none, []⟩]
theorem v4_61 : VS L4_61.eq_1 := rfl
def L4_62 : List AStep := ⟨.mov (.t 14), (some 91), none, []⟩ :: ⟨.mov (.t 13), (some 92), none, []⟩ :: L4_61
theorem v4_62 : VS L4_62.eq_1 := rfl
def L4_63 : List AStep := [⟨.mov (.c (.bool false)), (some 4), none, []⟩]
theorem v4_63 : VS L4_63.eq_1 := rfl
def L4_64 : List AStep := [⟨.mov (.t 101), (some 16), none, []⟩]
theorem v4_64 : VS L4_64.eq_1 := rfl
def L4_65 : List AStep := ⟨.extract (.t 94) 1, (some 101), none, []⟩ :: ⟨.store 1 (.t 15) (.t 100), none, none, []⟩ :: L4_64
theorem v4_65 : VS L4_65.eq_1 := rfl
def L4_66 : List AStep := ⟨.mov (.t 99), (some 94), none, []⟩ :: ⟨.extract (.t 94) 0, (some 100), none, []⟩ :: L4_65
theorem v4_66 : VS L4_66.eq_1 := rfl
def L4_67 : List AStep := ⟨.call 12 [(.t 97)], (some 98), none, []⟩ :: ⟨.call 22 [(.t 96), (.t 98)], (some 99), none, []⟩ :: L4_66
theorem v4_67 : VS L4_67.eq_1 := rfl
def L4_68 : List AStep := ⟨.alloc 33 [(.sl none 0 (some 0))], (some 15), none, []⟩ :: ⟨.call 11 [(.t 95)], (some 96), none, [(.load 2 true (.t 3), (some 97), none)]⟩ :: L4_67
theorem v4_68 : VS L4_68.eq_1 := rfl
def L4_69 : List AStep := ⟨.load 1 true (.t 2), (some 95), none, []⟩ :: ⟨.load 2 true (.t 3), (some 97), none, []⟩ :: L4_68
theorem v4_69 : VS L4_69.eq_1 := rfl
def L4_70 : List AStep := [⟨.pick (.t 106) (.c (.bool true)) (.t 109), (some 110), none, []⟩]
theorem v4_70 : VS L4_70.eq_1 := rfl
def L4_71 : List AStep := ⟨.mov (.t 7), (some 108), (some (106, false)), []⟩ :: ⟨.eqb true (.t 107) (.t 108), (some 109), (some (106, false)), []⟩ :: L4_70
theorem v4_71 : VS L4_71.eq_1 := rfl
def L4_72 : List AStep := ⟨.mov (.t 105), (some 106), none, []⟩ :: ⟨.mov (.t 16), (some 107), (some (106, false)), []⟩ :: L4_71
theorem v4_72 : VS L4_72.eq_1 := rfl
def L4_73 : List AStep := ⟨.call 14 [(.t 102), (.t 103)], (some 104), none, []⟩ :: ⟨.not (.t 104), (some 105), none, []⟩ :: L4_72
theorem v4_73 : VS L4_73.eq_1 := rfl
def L4_74 : List AStep := ⟨.load 1 true (.t 15), (some 102), none, []⟩ :: ⟨.load 1 true (.t 6), (some 103), none, []⟩ :: L4_73
theorem v4_74 : VS L4_74.eq_1 := rfl
def L4_75 : List AStep := [⟨.mov (.c (.bool false)), (some 4), none, []⟩]
theorem v4_75 : VS L4_75.eq_1 := rfl
def L4_76 : List AStep := [⟨.mov (.c (.int .i64 1)), (some 14), none, []⟩]
theorem v4_76 : VS L4_76.eq_1 := rfl
def L4_77 : List AStep := [⟨.call 20 [(.t 111), (.t 112)], (some 113), none, []⟩, ⟨.mov (.t 113), (some 14), none, []⟩]
theorem v4_77 : VS L4_77.eq_1 := rfl
def L4_78 : List AStep := ⟨.load 1 true (.t 10), (some 111), none, []⟩ :: ⟨.mov (.t 14), (some 112), none, []⟩ :: L4_77
theorem v4_78 : VS L4_78.eq_1 := rfl
def L4_79 : List AStep := [⟨.mov (.t 14), (some 114), none, []⟩, ⟨.bin .lss (.t 114) (.c (.int .i64 0)), (some 115), none, []⟩]
theorem v4_79 : VS L4_79.eq_1 := rfl
def L4_80 : List AStep := [⟨.mov (.c (.bool false)), (some 4), none, []⟩]
theorem v4_80 : VS L4_80.eq_1 := rfl
def L4_81 : List AStep := [⟨.bin .neq (.t 116) (.t 117), (some 118), none, []⟩]
theorem v4_81 : VS L4_81.eq_1 := rfl
def L4_82 : List AStep := ⟨.mov (.t 14), (some 116), none, []⟩ :: ⟨.mov (.t 13), (some 117), none, []⟩ :: L4_81
theorem v4_82 : VS L4_82.eq_1 := rfl
def L4_83 : List AStep := [⟨.mov (.c (.bool false)), (some 4), none, []⟩]
theorem v4_83 : VS L4_83.eq_1 := rfl
def L4_84 : List AStep := [⟨.mov (.c (.bool true)), (some 4), none, []⟩]
theorem v4_84 : VS L4_84.eq_1 := rfl
def C4_0 : ACode := .seq (.reg L4_6) .ret
theorem u4_0 : VC C4_0.eq_1 := rfl
def C4_1 : ACode := .cond (.t 21) C4_0 .skip
theorem u4_1 : VC C4_1.eq_1 := rfl
def C4_2 : ACode := .seq (.reg L4_5) C4_1
theorem u4_2 : VC C4_2.eq_1 := rfl
def C4_3 : ACode := .seq (.reg L4_10) .ret
theorem u4_3 : VC C4_3.eq_1 := rfl
def C4_4 : ACode := .cond (.t 26) C4_3 .skip
theorem u4_4 : VC C4_4.eq_1 := rfl
def C4_5 : ACode := .seq (.reg L4_9) C4_4
theorem u4_5 : VC C4_5.eq_1 := rfl
def C4_6 : ACode := .seq (.reg L4_31) .ret
theorem u4_6 : VC C4_6.eq_1 := rfl
def C4_7 : ACode := .cond (.t 53) C4_6 .skip
theorem u4_7 : VC C4_7.eq_1 := rfl
def C4_8 : ACode := .seq (.reg L4_30) C4_7
theorem u4_8 : VC C4_8.eq_1 := rfl
def C4_9 : ACode := .seq (.reg L4_35) .ret
theorem u4_9 : VC C4_9.eq_1 := rfl
def C4_10 : ACode := .cond (.t 58) C4_9 .skip
theorem u4_10 : VC C4_10.eq_1 := rfl
def C4_11 : ACode := .seq (.reg L4_34) C4_10
theorem u4_11 : VC C4_11.eq_1 := rfl
def C4_12 : ACode := .seq (.reg L4_39) .ret
theorem u4_12 : VC C4_12.eq_1 := rfl
def C4_13 : ACode := .cond (.t 63) C4_12 .skip
theorem u4_13 : VC C4_13.eq_1 := rfl
def C4_14 : ACode := .seq (.reg L4_38) C4_13
theorem u4_14 : VC C4_14.eq_1 := rfl
def C4_15 : ACode := .seq (.reg L4_52) .ret
theorem u4_15 : VC C4_15.eq_1 := rfl
def C4_16 : ACode := .cond (.t 82) C4_15 .skip
theorem u4_16 : VC C4_16.eq_1 := rfl
def C4_17 : ACode := .seq (.reg L4_51) C4_16
theorem u4_17 : VC C4_17.eq_1 := rfl
def C4_18 : ACode := .seq (.reg L4_60) .ret
theorem u4_18 : VC C4_18.eq_1 := rfl
def C4_19 : ACode := .cond (.t 90) C4_18 .skip
theorem u4_19 : VC C4_19.eq_1 := rfl
def C4_20 : ACode := .seq (.reg L4_59) C4_19
theorem u4_20 : VC C4_20.eq_1 := rfl
def C4_21 : ACode := .seq (.reg L4_63) .ret
theorem u4_21 : VC C4_21.eq_1 := rfl
def C4_22 : ACode := .cond (.t 93) C4_21 .skip
theorem u4_22 : VC C4_22.eq_1 := rfl
def C4_23 : ACode := .seq (.reg L4_62) C4_22
theorem u4_23 : VC C4_23.eq_1 := rfl
def C4_24 : ACode := .seq (.reg L4_75) .ret
theorem u4_24 : VC C4_24.eq_1 := rfl
def C4_25 : ACode := .cond (.t 110) C4_24 .skip
theorem u4_25 : VC C4_25.eq_1 := rfl
def C4_26 : ACode := .seq (.reg L4_74) C4_25
theorem u4_26 : VC C4_26.eq_1 := rfl
def C4_27 : ACode := .seq (.reg L4_80) .ret
theorem u4_27 : VC C4_27.eq_1 := rfl
def C4_28 : ACode := .cond (.t 115) C4_27 .skip
theorem u4_28 : VC C4_28.eq_1 := rfl
def C4_29 : ACode := .seq (.reg L4_79) C4_28
theorem u4_29 : VC C4_29.eq_1 := rfl
def C4_30 : ACode := .seq (.reg L4_83) .ret
theorem u4_30 : VC C4_30.eq_1 := rfl
def C4_31 : ACode := .cond (.t 118) C4_30 .skip
theorem u4_31 : VC C4_31.eq_1 := rfl
def C4_32 : ACode := .seq (.reg L4_82) C4_31
theorem u4_32 : VC C4_32.eq_1 := rfl
def C4_33 : ACode := .seq (.reg L4_84) .ret
theorem u4_33 : VC C4_33.eq_1 := rfl
def C4_34 : ACode := .seq C4_32 C4_33
theorem u4_34 : VC C4_34.eq_1 := rfl
def C4_35 : ACode := .seq C4_29 C4_34
theorem u4_35 : VC C4_35.eq_1 := rfl
def C4_36 : ACode := .seq (.reg L4_78) C4_35
theorem u4_36 : VC C4_36.eq_1 := rfl
def C4_37 : ACode := .seq (.reg L4_76) C4_36
theorem u4_37 : VC C4_37.eq_1 := rfl
def C4_38 : ACode := .seq C4_26 C4_37
theorem u4_38 : VC C4_38.eq_1 := rfl
def C4_39 : ACode := .seq (.reg L4_69) C4_38
theorem u4_39 : VC C4_39.eq_1 := rfl
def C4_40 : ACode := .seq C4_23 C4_39
theorem u4_40 : VC C4_40.eq_1 := rfl
def C4_41 : ACode := .seq C4_20 C4_40
theorem u4_41 : VC C4_41.eq_1 := rfl
def C4_42 : ACode := .seq (.reg L4_58) C4_41
theorem u4_42 : VC C4_42.eq_1 := rfl
def C4_43 : ACode := .seq (.reg L4_56) C4_42
theorem u4_43 : VC C4_43.eq_1 := rfl
def C4_44 : ACode := .seq (.reg L4_55) C4_43
theorem u4_44 : VC C4_44.eq_1 := rfl
def C4_45 : ACode := .seq (.reg L4_53) C4_44
theorem u4_45 : VC C4_45.eq_1 := rfl
def C4_46 : ACode := .seq C4_17 C4_45
theorem u4_46 : VC C4_46.eq_1 := rfl
def C4_47 : ACode := .seq (.reg L4_44) C4_46
theorem u4_47 : VC C4_47.eq_1 := rfl
def C4_48 : ACode := .seq (.reg L4_42) C4_47
theorem u4_48 : VC C4_48.eq_1 := rfl
def C4_49 : ACode := .seq (.reg L4_40) C4_48
theorem u4_49 : VC C4_49.eq_1 := rfl
def C4_50 : ACode := .seq C4_14 C4_49
theorem u4_50 : VC C4_50.eq_1 := rfl
def C4_51 : ACode := .seq C4_11 C4_50
theorem u4_51 : VC C4_51.eq_1 := rfl
def C4_52 : ACode := .seq C4_8 C4_51
theorem u4_52 : VC C4_52.eq_1 := rfl
def C4_53 : ACode := .seq (.reg L4_25) C4_52
theorem u4_53 : VC C4_53.eq_1 := rfl
def C4_54 : ACode := .seq (.reg L4_20) C4_53
theorem u4_54 : VC C4_54.eq_1 := rfl
def C4_55 : ACode := .seq (.reg L4_18) C4_54
theorem u4_55 : VC C4_55.eq_1 := rfl
def C4_56 : ACode := .seq (.reg L4_16) C4_55
theorem u4_56 : VC C4_56.eq_1 := rfl
def C4_57 : ACode := .seq C4_5 C4_56
theorem u4_57 : VC C4_57.eq_1 := rfl
def C4_58 : ACode := .seq (.reg L4_8) C4_57
theorem u4_58 : VC C4_58.eq_1 := rfl
def C4_59 : ACode := .seq C4_2 C4_58
theorem u4_59 : VC C4_59.eq_1 := rfl
def C4_60 : ACode := .seq (.reg L4_4) C4_59
theorem u4_60 : VC C4_60.eq_1 := rfl
def C4_61 : ACode := .seq (.reg L4_2) C4_60
theorem u4_61 : VC C4_61.eq_1 := rfl
def C4_62 : ACode := .seq (.reg L4_1) C4_61
theorem u4_62 : VC C4_62.eq_1 := rfl
def F4 : AFunc := ⟨119, [.tmp 4], C4_62⟩
theorem cF4 : compB Try.prog 4 = some F4 := by kernel_rfl
attribute [local go_sem ↓] u4_0 u4_1 u4_2 u4_3 u4_4 u4_5 u4_6 u4_7 u4_8 u4_9 u4_10 u4_11 u4_12 u4_13 u4_14 u4_15 u4_16 u4_17 u4_18 u4_19 u4_20 u4_21 u4_22 u4_23 u4_24 u4_25 u4_26 u4_27 u4_28 u4_29 u4_30 u4_31 u4_32 u4_33 u4_34 u4_35 u4_36 u4_37 u4_38 u4_39 u4_40 u4_41 u4_42 u4_43 u4_44 u4_45 u4_46 u4_47 u4_48 u4_49 u4_50 u4_51 u4_52 u4_53 u4_54 u4_55 u4_56 u4_57 u4_58 u4_59 u4_60 u4_61 u4_62 v4_0 v4_1 v4_2 v4_3 v4_4 v4_5 v4_6 v4_7 v4_8 v4_9 v4_10 v4_11 v4_12 v4_13 v4_14 v4_15 v4_16 v4_17 v4_18 v4_19 v4_20 v4_21 v4_22 v4_23 v4_24 v4_25 v4_26 v4_27 v4_28 v4_29 v4_30 v4_31 v4_32 v4_33 v4_34 v4_35 v4_36 v4_37 v4_38 v4_39 v4_40 v4_41 v4_42 v4_43 v4_44 v4_45 v4_46 v4_47 v4_48 v4_49 v4_50 v4_51 v4_52 v4_53 v4_54 v4_55 v4_56 v4_57 v4_58 v4_59 v4_60 v4_61 v4_62 v4_63 v4_64 v4_65 v4_66 v4_67 v4_68 v4_69 v4_70 v4_71 v4_72 v4_73 v4_74 v4_75 v4_76 v4_77 v4_78 v4_79 v4_80 v4_81 v4_82 v4_83 v4_84
theorem law4 (h : H) (avs : List AV) (hok : okVs Try.prog h 6 [ 24, 28 ] avs) : callK (bm Try.prog 4 avs h) fun r _ => r = ib true := by
  obtain ⟨v0, avs, rfl, hv0, hok⟩ := okVs_cons hok
  obtain ⟨v1, avs, rfl, hv1, hok⟩ := okVs_cons hok
  obtain rfl := okVs_nil hok
  obtain ⟨p0, x0, rfl, d0⟩ := dG hv0
  obtain ⟨p1, n1, x1, rfl, d1⟩ := dF hv1
  refine bm_of cF4 ?_
  have z0 := k_szG x0 p0 1048576 h (by omega) (by omega) d0
  by_cases y0 : szr 1048576 (wtG x0) < 0
  · simp +contextual (maxSteps := 2000000) only [go_sem, Nat.reduceEqDiff, reduceCtorEq, Nat.reduceAdd, Nat.reduceLeDiff, F4, z0, decide_eq_true y0]
  have z1 := k_szF x1 p1 n1 (szr 1048576 (wtG x0)) h (by omega) (by unfold szr; split <;> omega) d1
  by_cases y1 : szr (szr 1048576 (wtG x0)) (wtF x1) < 0
  · simp +contextual (maxSteps := 2000000) only [go_sem, Nat.reduceEqDiff, reduceCtorEq, Nat.reduceAdd, Nat.reduceLeDiff, F4, z0, z1, decide_eq_false y0, decide_eq_true y1]
  obtain ⟨e0, u0⟩ := szr_ge y0
  obtain ⟨e1, u1⟩ := szr_ge y1
  have s0 : miniG x0 := wtG_sm (by omega)
  have s1 : miniF x1 := wtF_sm (by omega)
  have hR : miniY (bindPartF x0 x1) := .part
  simp +contextual (maxSteps := 2000000) only [go_sem, Nat.reduceEqDiff, reduceCtorEq, Nat.reduceAdd, Nat.reduceLeDiff, F4, z0, z1, decide_eq_false y0, decide_eq_false y1]
  refine wp_call (k_toG x0 p0 h (d0.grow (Grow.refl h)) s0) ?_
  rintro r h1 ⟨g1, p0a, rfl, a0a⟩
  simp +contextual (maxSteps := 2000000) only [go_sem, Nat.reduceEqDiff, reduceCtorEq, Nat.reduceAdd, Nat.reduceLeDiff]
  refine wp_call (k_toF x1 p1 n1 h1 (d1.grow ((Grow.refl h).trans g1)) s1) ?_
  rintro r h2 ⟨g2, p1a, n1a, rfl, a1a⟩
  simp +contextual (maxSteps := 2000000) only [go_sem, Nat.reduceEqDiff, reduceCtorEq, Nat.reduceAdd, Nat.reduceLeDiff]
  refine wp_call (k_sBindPart x0 x1 p0a p1a n1a h2 (a0a.sl.grow g2) (a1a.sl) s0 s1) ?_
  rintro r h3 ⟨g3, pw, Rw, rfl, w0⟩
  simp +contextual (maxSteps := 2000000) only [go_sem, Nat.reduceEqDiff, reduceCtorEq, Nat.reduceAdd, Nat.reduceLeDiff]
  refine wp_call (k_toG x0 p0 h3 (d0.grow ((((Grow.refl h).trans g1).trans g2).trans g3)) s0) ?_
  rintro r h4 ⟨g4, p0b, rfl, a0b⟩
  simp +contextual (maxSteps := 2000000) only [go_sem, Nat.reduceEqDiff, reduceCtorEq, Nat.reduceAdd, Nat.reduceLeDiff]
  refine wp_call (k_toF x1 p1 n1 h4 (d1.grow (((((Grow.refl h).trans g1).trans g2).trans g3).trans g4)) s1) ?_
  rintro r h5 ⟨g5, p1b, n1b, rfl, a1b⟩
  simp +contextual (maxSteps := 2000000) only [go_sem, Nat.reduceEqDiff, reduceCtorEq, Nat.reduceAdd, Nat.reduceLeDiff]
  refine wp_call (k_iBindPart x0 x1 p0b p1b n1b h5 (a0b.sl.grow g5) (a1b.sl) s0 s1) ?_
  rintro r h6 ⟨g6, pg, Rg, rfl, b0⟩
  have q0 := k_eqY (bindPartF x0 x1) (bindPartF x0 x1) pg pw h6 (b0.sl) (w0.sl.grow ((g4.trans g5).trans g6)) hR
  simp +contextual (maxSteps := 2000000) only [go_sem, Nat.reduceEqDiff, reduceCtorEq, Nat.reduceAdd, Nat.reduceLeDiff, q0, decide_true]
  refine wp_call (k_toG x0 p0 h6 (d0.grow (((((((Grow.refl h).trans g1).trans g2).trans g3).trans g4).trans g5).trans g6)) s0) ?_
  rintro r h7 ⟨g7, p0c, rfl, a0c⟩
  have q1 := k_eqG x0 x0 p0b p0c h7 (a0b.sl.grow ((g5.trans g6).trans g7)) a0c.sl s0
  simp +contextual (maxSteps := 2000000) only [go_sem, Nat.reduceEqDiff, reduceCtorEq, Nat.reduceAdd, Nat.reduceLeDiff, q1, decide_true]
  refine wp_call (k_toF x1 p1 n1 h7 (d1.grow ((((((((Grow.refl h).trans g1).trans g2).trans g3).trans g4).trans g5).trans g6).trans g7)) s1) ?_
  rintro r h8 ⟨g8, p1c, n1c, rfl, a1c⟩
  have q2 := k_eqF x1 x1 p1b n1b p1c n1c h8 (a1b.sl.grow ((g6.trans g7).trans g8)) a1c.sl s1
  simp +contextual (maxSteps := 2000000) only [go_sem, Nat.reduceEqDiff, reduceCtorEq, Nat.reduceAdd, Nat.reduceLeDiff, q2, decide_true]
  have k0 := cellsG_le s0
  have k1 := cellsF_le s1
  have G8 : Grow h3 h8 := ((((g4.trans g5).trans g6).trans g7).trans g8)
  refine wp_call (k_markG x0 p0b 1 h3 h4 h8 ((a0b.grow (((g5.trans g6).trans g7).trans g8))) a0b G8 (by omega) (by omega) s0) ?_
  rintro r h9 ⟨rfl, G80, m0, N0⟩
  have M0 := N0
  simp +contextual (maxSteps := 2000000) only [go_sem, Nat.reduceEqDiff, reduceCtorEq, Nat.reduceAdd, Nat.reduceLeDiff]
  refine wp_call (k_markF x1 p1b n1b _ h3 h5 h9 (((a1b.grow ((g6.trans g7).trans g8)).mid M0 (Nat.le_refl _)).from g4.n) (a1b.from g4.n) G80 (by omega) (by omega) s1) ?_
  rintro r h10 ⟨rfl, G81, m1, N1⟩
  have M1 : Mid h3.n h5.n h8 h10 := (M0.widen g5.n).trans N1
  have b1 := (b0.grow (g7.trans g8)).mid M1 (Nat.le_refl _)
  have w1 := w0.grow G81
  have qa := k_eqY (bindPartF x0 x1) (bindPartF x0 x1) pg pw h10 (b1.sl) (w1.sl) hR
  simp +contextual (maxSteps := 2000000) only [go_sem, Nat.reduceEqDiff, reduceCtorEq, Nat.reduceAdd, Nat.reduceLeDiff, qa, decide_true, decide_eq_false (show ¬ ((1 : Int) + (cellsG x0 : Nat) + (cellsF x1 : Nat) < 0) by omega)]
  have kr := cellsY_le hR
  have lh : h3.n ≤ h5.n := (g4.trans g5).n
  refine wp_call (k_markY (bindPartF x0 x1) pg Rg 1 h3 h6 h10 (b1.from lh) (b0.from lh) G81 (by omega) (by omega) hR) ?_
  rintro r h11 ⟨rfl, Gm, mr, Mr⟩
  have qh := k_heldY (bindPartF x0 x1) pg 1 h11 mr (by omega) (by omega) hR
  simp +contextual (maxSteps := 2000000) only [go_sem, Nat.reduceEqDiff, reduceCtorEq, Nat.reduceAdd, Nat.reduceLeDiff, qh, decide_true, decide_eq_false (show ¬ ((1 : Int) + (cellsY (bindPartF x0 x1) : Nat) < 0) by omega)]
  have H1 : Grow h h11 := ((((Grow.refl h).trans g1).trans g2).trans g3).trans Gm
  refine wp_call (k_toG x0 p0 h11 (d0.grow H1) s0) ?_
  rintro r h12 ⟨g12, p0d, rfl, a0d⟩
  simp +contextual (maxSteps := 2000000) only [go_sem, Nat.reduceEqDiff, reduceCtorEq, Nat.reduceAdd, Nat.reduceLeDiff]
  refine wp_call (k_toF x1 p1 n1 h12 (d1.grow (H1.trans g12)) s1) ?_
  rintro r h13 ⟨g13, p1d, n1d, rfl, a1d⟩
  simp +contextual (maxSteps := 2000000) only [go_sem, Nat.reduceEqDiff, reduceCtorEq, Nat.reduceAdd, Nat.reduceLeDiff]
  refine wp_call (k_iBindPart x0 x1 p0d p1d n1d h13 (a0d.sl.grow g13) (a1d.sl) s0 s1) ?_
  rintro r h14 ⟨g14, py, Ry, rfl, b2⟩
  have G9 : Grow h11 h14 := ((g12.trans g13).trans g14)
  have qz := k_eqY (bindPartF x0 x1) (bindPartF x0 x1) py pw h14 (b2.sl) ((w0.grow (Gm.trans G9)).sl) hR
  have qy := k_heldY (bindPartF x0 x1) pg 1 h14 (mr.grow G9) (by omega) (by omega) hR
  simp +contextual (maxSteps := 2000000) only [go_sem, Nat.reduceEqDiff, reduceCtorEq, Nat.reduceAdd, Nat.reduceLeDiff, qz, qy, decide_true, decide_eq_false (show ¬ ((1 : Int) + (cellsY (bindPartF x0 x1) : Nat) < 0) by omega)]
  exact gcK_of rfl (fun _ _ => rfl)
end Go.Proofs.Ytdalgphpacikkaa.Am
