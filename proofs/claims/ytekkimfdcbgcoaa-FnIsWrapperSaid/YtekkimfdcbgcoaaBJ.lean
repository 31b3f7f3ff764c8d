/- Contracts: what a call gives to the parameters, of the program. -/
import Derived.Test.YtekkimfdcbgcoaaA4
import Derived.Test.YtekkimfdcbgcoaaBI
namespace Go.Proofs.Ytekkimfdcbgcoaa.Am
open Go
set_option maxRecDepth 100000
set_option maxHeartbeats 4000000
set_option linter.unusedSimpArgs false
set_option linter.unusedVariables false
attribute [local go_sem ↓] bv_t bv_c ev_t ev_c put_same put_ne put_none kill_at pro_at lb_same lb_ne start_zero start_succ wpC_seq wpC_reg wpC_cond wpC_block wpC_skip wpC_exit wpC_ret thenQ_normal thenQ_exit thenQ_ret inBlk_normal inBlk_exit inBlk_ret wpS_nil wpS_step wpS_again wpS_guard wpO_mov wpO_load wpO_faddr wpO_nilCheck wpO_pick wpO_build wpO_bin wpO_eqb wpO_eqst wpO_eqnil wpO_not wpO_conv wpO_bytesStr wpO_iaddr wpO_idxStr wpO_field wpO_extract wpO_len wpO_lenStr wpO_cap wpO_min wpO_slice wpO_sliceStr wpO_alloc wpO_box wpO_store wpO_call wpO_callv wpO_mkfn wpO_buildSlice wpO_mkslice wpO_append wpO_appz proA_nil proA_cons tmpX_nil tmpX_tmp tmpX_cell doneB_normal doneB_ret agK_cons agK_nil agK_guard agG_tt agG_ff agG_tf agG_ft agG_undef pureB_load results_one results_two results_nil resBs_cons resBs_nil resB_tmp resB_cell
attribute [local go_sem] kill_v kill_lp_ne kill_lp_same pro_v pro_lp_same pro_lp_ne av_v av_lp optB_some optX_some valX_eq ldX_lp ldX_v faX_lp faX_v ncX_lp ncX_ptr ncX_fn boxK_one boxK_agg stL_some stK_lp_one stK_lp_agg stK_v_one stK_v_agg proM_v proM_lp callG_mk callVG_mk callvK_fn fnG_mk ptrsA_nil ptrsA_cons callH_some whenA_true whenA_false guardH_tt guardH_ff guardH_tf guardH_ft guardH_undef agV_one agV_agg lenO_sl lenStrO_str notO_bool pickO_bool convO_int eqbO_bool eqnilO_sl extractO_tup capO_sl minO_int loadL_one loadL_all storeL_eq fillA_nil fillA_one fillA_agg nat_ge neg_ge nat_lt neg_lt buildO bin_add bin_sub bin_mul bin_eql bin_neq bin_lss bin_leq bin_gtr bin_geq str_eql str_neq str_lss str_leq str_gtr str_geq retK_some endK_mk gcK_same gcK_int gcK_bool tupO_one tupO_agg rdy_self ib ii Option.map_none Option.map_some Option.some.injEq exists_eq_left' exists_eq_left ne_eq not_false_eq_true if_true if_false List.map_cons List.map_nil List.getElem?_cons_zero List.getElem?_cons_succ List.length_cons List.length_nil List.take_succ_cons List.take_zero List.take_nil List.drop_succ_cons List.drop_zero List.drop_nil List.cons_append List.nil_append List.append_nil List.set_cons_zero List.set_cons_succ Nat.zero_add forall_const true_and and_true and_self Bool.false_eq_true false_implies true_implies implies_true Bool.not_true Bool.not_false Bool.not_eq_true' Bool.not_eq_false' beq_self_eq_true Bool.bne_true Bool.bne_false
attribute [local go_sem] lenI lenS lenP lenQ lenB lenL lenT encI_0 encS_0 encP_0 encP_1 encQ_0 encQ_1 encQ_2 encQ_3 encB_0 encB_1 encL_0 encL_1 encT_0 encT_1
attribute [local go_sem low] whenA_bool guardH_bool
attribute [local go_sem] lenY encY_0 encY_1 encY_2
/-! impl.bind -/
def L70_0 : List AStep := [⟨.alloc 42 [(.sl none 0 (some 0))], (some 4), none, []⟩, ⟨.mov (.c (.sl none 0 (some 0))), (some 5), none, []⟩]
theorem v70_0 : VS L70_0.eq_1 := rfl
def L70_1 : List AStep := ⟨.box 38 (.t 0), (some 2), none, []⟩ :: ⟨.box 27 (.t 1), (some 3), none, []⟩ :: L70_0
theorem v70_1 : VS L70_1.eq_1 := rfl
def L70_2 : List AStep := [⟨.store 1 (.t 6) (.t 20), none, none, []⟩]
theorem v70_2 : VS L70_2.eq_1 := rfl
def L70_3 : List AStep := ⟨.build [(.sl none 0 (some 0))] [(0, 1, (.t 19))], (some 20), none, []⟩ :: ⟨.alloc 42 [(.sl none 0 (some 0))], (some 6), none, []⟩ :: L70_2
theorem v70_3 : VS L70_3.eq_1 := rfl
def L70_4 : List AStep := ⟨.len (.t 17), (some 18), none, []⟩ :: ⟨.mkslice 47 56 [(.bool false), (.sl none 0 (some 0)), (.sl none 0 (some 0))] (.t 18) (.t 18), (some 19), none, []⟩ :: L70_3
theorem v70_4 : VS L70_4.eq_1 := rfl
def L70_5 : List AStep := ⟨.faddr 0 (.t 2), (some 16), none, []⟩ :: ⟨.load 1 false (.t 16), (some 17), none, []⟩ :: L70_4
theorem v70_5 : VS L70_5.eq_1 := rfl
def L70_6 : List AStep := [⟨.mov (.c (.sl none 0 (some 0))), (some 7), none, []⟩]
theorem v70_6 : VS L70_6.eq_1 := rfl
def L70_7 : List AStep := [⟨.mov (.t 22), (some 8), none, []⟩]
theorem v70_7 : VS L70_7.eq_1 := rfl
def L70_8 : List AStep := ⟨.faddr 0 (.t 3), (some 21), none, []⟩ :: ⟨.load 1 false (.t 21), (some 22), none, []⟩ :: L70_7
theorem v70_8 : VS L70_8.eq_1 := rfl
def L70_9 : List AStep := [⟨.len (.t 24), (some 25), none, []⟩, ⟨.mov (.c (.int .i64 0)), (some 26), none, []⟩]
theorem v70_9 : VS L70_9.eq_1 := rfl
def L70_10 : List AStep := ⟨.faddr 0 (.t 2), (some 23), none, []⟩ :: ⟨.load 1 false (.t 23), (some 24), none, []⟩ :: L70_9
theorem v70_10 : VS L70_10.eq_1 := rfl
def L70_11 : List AStep := [⟨.bin .lss (.t 26) (.t 25), (some 27), none, []⟩]
theorem v70_11 : VS L70_11.eq_1 := rfl
def L70_12 : List AStep := [⟨.mov (.t 28), (some 9), none, []⟩, ⟨.store 4 (.t 10) (.t 30), none, none, []⟩]
theorem v70_12 : VS L70_12.eq_1 := rfl
def L70_13 : List AStep := ⟨.load 4 true (.t 29), (some 30), none, []⟩ :: ⟨.alloc 35 [(.str (strOfNums [])), (.int .i64 0), (.bool false), (.int .i64 0)], (some 10), none, []⟩ :: L70_12
theorem v70_13 : VS L70_13.eq_1 := rfl
def L70_14 : List AStep := ⟨.mov (.t 26), (some 28), none, []⟩ :: ⟨.iaddr 4 (.t 24) (.t 26), (some 29), none, []⟩ :: L70_13
theorem v70_14 : VS L70_14.eq_1 := rfl
def L70_15 : List AStep := [⟨.pick (.t 33) (.t 36) (.c (.bool false)), (some 37), none, []⟩]
theorem v70_15 : VS L70_15.eq_1 := rfl
def L70_16 : List AStep := ⟨.len (.t 34), (some 35), (some (33, true)), []⟩ :: ⟨.bin .gtr (.t 35) (.c (.int .i64 0)), (some 36), (some (33, true)), []⟩ :: L70_15
theorem v70_16 : VS L70_16.eq_1 := rfl
def L70_17 : List AStep := ⟨.mov (.t 32), (some 33), none, []⟩ :: ⟨.mov (.t 8), (some 34), (some (33, true)), []⟩ :: L70_16
theorem v70_17 : VS L70_17.eq_1 := rfl
def L70_18 : List AStep := ⟨.load 4 true (.t 10), (some 31), none, []⟩ :: ⟨.call 101 [(.t 31)], (some 32), none, []⟩ :: L70_17
theorem v70_18 : VS L70_18.eq_1 := rfl
def L70_19 : List AStep := [⟨.iaddr 3 (.t 39) (.t 40), (some 46), none, []⟩, ⟨.store 3 (.t 46) (.t 45), none, none, []⟩]
theorem v70_19 : VS L70_19.eq_1 := rfl
def L70_20 : List AStep := ⟨.buildSlice 3 1 [(.int .i64 0)] [(0, 1, (.t 43))], (some 44), none, []⟩ :: ⟨.build [(.bool false), (.sl none 0 (some 0)), (.sl none 0 (some 0))] [(0, 1, (.c (.bool true))), (1, 1, (.t 44))], (some 45), none, []⟩ :: L70_19
theorem v70_20 : VS L70_20.eq_1 := rfl
def L70_21 : List AStep := ⟨.iaddr 1 (.t 41) (.c (.int .i64 0)), (some 42), none, []⟩ :: ⟨.load 1 false (.t 42), (some 43), none, []⟩ :: L70_20
theorem v70_21 : VS L70_21.eq_1 := rfl
def L70_22 : List AStep := ⟨.mov (.t 9), (some 40), none, []⟩ :: ⟨.mov (.t 8), (some 41), none, []⟩ :: L70_21
theorem v70_22 : VS L70_22.eq_1 := rfl
def L70_23 : List AStep := ⟨.faddr 0 (.t 6), (some 38), none, []⟩ :: ⟨.load 1 false (.t 38), (some 39), none, []⟩ :: L70_22
theorem v70_23 : VS L70_23.eq_1 := rfl
def L70_24 : List AStep := [⟨.mov (.t 48), (some 8), none, []⟩]
theorem v70_24 : VS L70_24.eq_1 := rfl
def L70_25 : List AStep := ⟨.mov (.t 8), (some 47), none, []⟩ :: ⟨.slice 3 1 (.t 47) (some (.c (.int .i64 1))) none none, (some 48), none, []⟩ :: L70_24
theorem v70_25 : VS L70_25.eq_1 := rfl
def L70_26 : List AStep := [⟨.bin .eql (.t 50) (.c (.int .i64 2)), (some 51), none, []⟩]
theorem v70_26 : VS L70_26.eq_1 := rfl
def L70_27 : List AStep := ⟨.faddr 1 (.t 10), (some 49), none, []⟩ :: ⟨.load 1 false (.t 49), (some 50), none, []⟩ :: L70_26
theorem v70_27 : VS L70_27.eq_1 := rfl
def L70_28 : List AStep := [⟨.faddr 1 (.t 57), (some 58), none, []⟩, ⟨.store 1 (.t 58) (.t 56), none, none, []⟩]
theorem v70_28 : VS L70_28.eq_1 := rfl
def L70_29 : List AStep := ⟨.call 71 [(.t 55)], (some 56), none, [(.load 1 false (.t 52), (some 53), none)]⟩ :: ⟨.iaddr 3 (.t 53) (.t 54), (some 57), none, []⟩ :: L70_28
theorem v70_29 : VS L70_29.eq_1 := rfl
def L70_30 : List AStep := ⟨.mov (.t 9), (some 54), none, []⟩ :: ⟨.mov (.t 8), (some 55), none, []⟩ :: L70_29
theorem v70_30 : VS L70_30.eq_1 := rfl
def L70_31 : List AStep := ⟨.faddr 0 (.t 6), (some 52), none, []⟩ :: ⟨.load 1 false (.t 52), (some 53), none, []⟩ :: L70_30
theorem v70_31 : VS L70_31.eq_1 := rfl
def L70_32 : List AStep := [⟨.mov (.c (.sl none 0 (some 0))), (some 8), none, []⟩]
theorem v70_32 : VS L70_32.eq_1 := rfl
def L70_33 : List AStep := [⟨.bin .add (.t 26) (.c (.int .i64 1)), (some 59), none, []⟩, ⟨.mov (.t 59), (some 26), none, []⟩]
theorem v70_33 : VS L70_33.eq_1 := rfl
def L70_34 : List AStep := [⟨.bin .gtr (.t 61) (.c (.int .i64 0)), (some 62), none, []⟩]
theorem v70_34 : VS L70_34.eq_1 := rfl
def L70_35 : List AStep := ⟨.mov (.t 8), (some 60), none, []⟩ :: ⟨.len (.t 60), (some 61), none, []⟩ :: L70_34
theorem v70_35 : VS L70_35.eq_1 := rfl
def L70_36 : List AStep := [⟨.mov (.t 66), (some 7), none, []⟩]
theorem v70_36 : VS L70_36.eq_1 := rfl
def L70_37 : List AStep := ⟨.buildSlice 130 1 [(.int .i64 0), (.str (strOfNums []))] [(0, 2, (.t 64))], (some 65), none, []⟩ :: ⟨.append 130 2 24 (.t 63) (.t 65), (some 66), none, []⟩ :: L70_36
theorem v70_37 : VS L70_37.eq_1 := rfl
def L70_38 : List AStep := ⟨.mov (.t 7), (some 63), none, []⟩ :: ⟨.build [(.int .i64 0), (.str (strOfNums []))] [(0, 1, (.c (.int .i64 0))), (1, 1, (.c (.str (strOfNums []))))], (some 64), none, []⟩ :: L70_37
theorem v70_38 : VS L70_38.eq_1 := rfl
def L70_39 : List AStep := [⟨.len (.t 68), (some 69), none, []⟩, ⟨.mov (.c (.int .i64 0)), (some 70), none, []⟩]
theorem v70_39 : VS L70_39.eq_1 := rfl
def L70_40 : List AStep := ⟨.faddr 1 (.t 3), (some 67), none, []⟩ :: ⟨.load 1 false (.t 67), (some 68), none, []⟩ :: L70_39
theorem v70_40 : VS L70_40.eq_1 := rfl
def L70_41 : List AStep := [⟨.bin .lss (.t 70) (.t 69), (some 71), none, []⟩]
theorem v70_41 : VS L70_41.eq_1 := rfl
def L70_42 : List AStep := [⟨.alloc 53 [(.str (strOfNums [])), (.int .i64 0)], (some 12), none, []⟩, ⟨.store 2 (.t 12) (.t 73), none, none, []⟩]
theorem v70_42 : VS L70_42.eq_1 := rfl
def L70_43 : List AStep := ⟨.iaddr 2 (.t 68) (.t 70), (some 72), none, []⟩ :: ⟨.load 2 true (.t 72), (some 73), none, []⟩ :: L70_42
theorem v70_43 : VS L70_43.eq_1 := rfl
def L70_44 : List AStep := [⟨.mov (.t 77), (some 13), none, []⟩]
theorem v70_44 : VS L70_44.eq_1 := rfl
def L70_45 : List AStep := ⟨.load 1 false (.t 75), (some 76), none, []⟩ :: ⟨.call 123 [(.t 74), (.t 76)], (some 77), none, []⟩ :: L70_44
theorem v70_45 : VS L70_45.eq_1 := rfl
def L70_46 : List AStep := ⟨.load 1 true (.t 2), (some 74), none, []⟩ :: ⟨.faddr 0 (.t 12), (some 75), none, []⟩ :: L70_45
theorem v70_46 : VS L70_46.eq_1 := rfl
def L70_47 : List AStep := [⟨.mov (.t 88), (some 86), none, []⟩]
theorem v70_47 : VS L70_47.eq_1 := rfl
def L70_48 : List AStep := ⟨.mov (.t 13), (some 87), none, []⟩ :: ⟨.bin .lss (.t 87) (.c (.int .i64 0)), (some 88), none, []⟩ :: L70_47
theorem v70_48 : VS L70_48.eq_1 := rfl
def L70_49 : List AStep := [⟨.mov (.t 94), (some 7), none, []⟩]
theorem v70_49 : VS L70_49.eq_1 := rfl
def L70_50 : List AStep := ⟨.buildSlice 130 1 [(.int .i64 0), (.str (strOfNums []))] [(0, 2, (.t 92))], (some 93), none, []⟩ :: ⟨.append 130 2 24 (.t 89) (.t 93), (some 94), none, []⟩ :: L70_49
theorem v70_50 : VS L70_50.eq_1 := rfl
def L70_51 : List AStep := ⟨.load 1 false (.t 90), (some 91), none, []⟩ :: ⟨.build [(.int .i64 0), (.str (strOfNums []))] [(0, 1, (.c (.int .i64 1))), (1, 1, (.t 91))], (some 92), none, []⟩ :: L70_50
theorem v70_51 : VS L70_51.eq_1 := rfl
def L70_52 : List AStep := ⟨.mov (.t 7), (some 89), none, []⟩ :: ⟨.faddr 0 (.t 12), (some 90), none, []⟩ :: L70_51
theorem v70_52 : VS L70_52.eq_1 := rfl
def L70_53 : List AStep := [⟨.bin .eql (.t 101) (.c (.int .i64 4)), (some 102), none, []⟩, ⟨.mov (.t 102), (some 95), none, []⟩]
theorem v70_53 : VS L70_53.eq_1 := rfl
def L70_54 : List AStep := ⟨.faddr 1 (.t 99), (some 100), none, []⟩ :: ⟨.load 1 false (.t 100), (some 101), none, []⟩ :: L70_53
theorem v70_54 : VS L70_54.eq_1 := rfl
def L70_55 : List AStep := ⟨.mov (.t 13), (some 98), none, []⟩ :: ⟨.iaddr 4 (.t 97) (.t 98), (some 99), none, []⟩ :: L70_54
theorem v70_55 : VS L70_55.eq_1 := rfl
def L70_56 : List AStep := ⟨.faddr 0 (.t 2), (some 96), none, []⟩ :: ⟨.load 1 false (.t 96), (some 97), none, []⟩ :: L70_55
theorem v70_56 : VS L70_56.eq_1 := rfl
def L70_57 : List AStep := [⟨.store 1 (.t 116) (.t 114), none, none, []⟩]
theorem v70_57 : VS L70_57.eq_1 := rfl
def L70_58 : List AStep := ⟨.iaddr 3 (.t 104) (.t 105), (some 115), none, []⟩ :: ⟨.faddr 2 (.t 115), (some 116), none, []⟩ :: L70_57
theorem v70_58 : VS L70_58.eq_1 := rfl
def L70_59 : List AStep := ⟨.buildSlice 53 1 [(.str (strOfNums [])), (.int .i64 0)] [(0, 2, (.t 112))], (some 113), none, []⟩ :: ⟨.append 53 2 24 (.t 111) (.t 113), (some 114), none, [(.load 1 false (.t 103), (some 104), none)]⟩ :: L70_58
theorem v70_59 : VS L70_59.eq_1 := rfl
def L70_60 : List AStep := ⟨.load 1 false (.t 110), (some 111), none, []⟩ :: ⟨.load 2 true (.t 12), (some 112), none, []⟩ :: L70_59
theorem v70_60 : VS L70_60.eq_1 := rfl
def L70_61 : List AStep := ⟨.iaddr 3 (.t 107) (.t 108), (some 109), none, []⟩ :: ⟨.faddr 2 (.t 109), (some 110), none, []⟩ :: L70_60
theorem v70_61 : VS L70_61.eq_1 := rfl
def L70_62 : List AStep := ⟨.load 1 false (.t 106), (some 107), none, []⟩ :: ⟨.mov (.t 13), (some 108), none, []⟩ :: L70_61
theorem v70_62 : VS L70_62.eq_1 := rfl
def L70_63 : List AStep := ⟨.mov (.t 13), (some 105), none, []⟩ :: ⟨.faddr 0 (.t 6), (some 106), none, []⟩ :: L70_62
theorem v70_63 : VS L70_63.eq_1 := rfl
def L70_64 : List AStep := ⟨.faddr 0 (.t 6), (some 103), none, []⟩ :: ⟨.load 1 false (.t 103), (some 104), none, []⟩ :: L70_63
theorem v70_64 : VS L70_64.eq_1 := rfl
def L70_65 : List AStep := [⟨.mov (.t 123), (some 117), none, []⟩]
theorem v70_65 : VS L70_65.eq_1 := rfl
def L70_66 : List AStep := ⟨.faddr 0 (.t 121), (some 122), none, []⟩ :: ⟨.load 1 false (.t 122), (some 123), none, []⟩ :: L70_65
theorem v70_66 : VS L70_66.eq_1 := rfl
def L70_67 : List AStep := ⟨.mov (.t 13), (some 120), none, []⟩ :: ⟨.iaddr 3 (.t 119) (.t 120), (some 121), none, []⟩ :: L70_66
theorem v70_67 : VS L70_67.eq_1 := rfl
def L70_68 : List AStep := ⟨.faddr 0 (.t 6), (some 118), none, []⟩ :: ⟨.load 1 false (.t 118), (some 119), none, []⟩ :: L70_67
theorem v70_68 : VS L70_68.eq_1 := rfl
def L70_69 : List AStep := [⟨.mov (.t 129), (some 7), none, []⟩]
theorem v70_69 : VS L70_69.eq_1 := rfl
def L70_70 : List AStep := ⟨.buildSlice 130 1 [(.int .i64 0), (.str (strOfNums []))] [(0, 2, (.t 127))], (some 128), none, []⟩ :: ⟨.append 130 2 24 (.t 124) (.t 128), (some 129), none, []⟩ :: L70_69
theorem v70_70 : VS L70_70.eq_1 := rfl
def L70_71 : List AStep := ⟨.load 1 false (.t 125), (some 126), none, []⟩ :: ⟨.build [(.int .i64 0), (.str (strOfNums []))] [(0, 1, (.c (.int .i64 2))), (1, 1, (.t 126))], (some 127), none, []⟩ :: L70_70
theorem v70_71 : VS L70_71.eq_1 := rfl
def L70_72 : List AStep := ⟨.mov (.t 7), (some 124), none, []⟩ :: ⟨.faddr 0 (.t 12), (some 125), none, []⟩ :: L70_71
theorem v70_72 : VS L70_72.eq_1 := rfl
def L70_73 : List AStep := [⟨.store 3 (.t 85) (.t 84), none, none, []⟩]
theorem v70_73 : VS L70_73.eq_1 := rfl
def L70_74 : List AStep := ⟨.build [(.bool false), (.sl none 0 (some 0)), (.sl none 0 (some 0))] [(0, 1, (.c (.bool true))), (1, 1, (.t 83))], (some 84), none, []⟩ :: ⟨.iaddr 3 (.t 79) (.t 80), (some 85), none, []⟩ :: L70_73
theorem v70_74 : VS L70_74.eq_1 := rfl
def L70_75 : List AStep := ⟨.load 1 false (.t 81), (some 82), none, []⟩ :: ⟨.buildSlice 3 1 [(.int .i64 0)] [(0, 1, (.t 82))], (some 83), none, []⟩ :: L70_74
theorem v70_75 : VS L70_75.eq_1 := rfl
def L70_76 : List AStep := ⟨.mov (.t 13), (some 80), none, []⟩ :: ⟨.faddr 1 (.t 12), (some 81), none, []⟩ :: L70_75
theorem v70_76 : VS L70_76.eq_1 := rfl
def L70_77 : List AStep := ⟨.faddr 0 (.t 6), (some 78), none, []⟩ :: ⟨.load 1 false (.t 78), (some 79), none, []⟩ :: L70_76
theorem v70_77 : VS L70_77.eq_1 := rfl
def L70_78 : List AStep := [⟨.bin .add (.t 70) (.c (.int .i64 1)), (some 130), none, []⟩, ⟨.mov (.t 130), (some 70), none, []⟩]
theorem v70_78 : VS L70_78.eq_1 := rfl
def L70_79 : List AStep := [⟨.len (.t 132), (some 133), none, []⟩, ⟨.mov (.c (.int .i64 0)), (some 134), none, []⟩]
theorem v70_79 : VS L70_79.eq_1 := rfl
def L70_80 : List AStep := ⟨.faddr 0 (.t 2), (some 131), none, []⟩ :: ⟨.load 1 false (.t 131), (some 132), none, []⟩ :: L70_79
theorem v70_80 : VS L70_80.eq_1 := rfl
def L70_81 : List AStep := [⟨.bin .lss (.t 134) (.t 133), (some 135), none, []⟩]
theorem v70_81 : VS L70_81.eq_1 := rfl
def L70_82 : List AStep := [⟨.mov (.t 136), (some 14), none, []⟩, ⟨.store 4 (.t 15) (.t 138), none, none, []⟩]
theorem v70_82 : VS L70_82.eq_1 := rfl
def L70_83 : List AStep := ⟨.load 4 true (.t 137), (some 138), none, []⟩ :: ⟨.alloc 35 [(.str (strOfNums [])), (.int .i64 0), (.bool false), (.int .i64 0)], (some 15), none, []⟩ :: L70_82
theorem v70_83 : VS L70_83.eq_1 := rfl
def L70_84 : List AStep := ⟨.mov (.t 134), (some 136), none, []⟩ :: ⟨.iaddr 4 (.t 132) (.t 134), (some 137), none, []⟩ :: L70_83
theorem v70_84 : VS L70_84.eq_1 := rfl
def L70_85 : List AStep := [⟨.store 1 (.t 150) (.t 148), none, none, []⟩]
theorem v70_85 : VS L70_85.eq_1 := rfl
def L70_86 : List AStep := ⟨.iaddr 3 (.t 140) (.t 141), (some 149), none, []⟩ :: ⟨.faddr 2 (.t 149), (some 150), none, []⟩ :: L70_85
theorem v70_86 : VS L70_86.eq_1 := rfl
def L70_87 : List AStep := ⟨.load 1 false (.t 146), (some 147), none, []⟩ :: ⟨.call 124 [(.t 147)], (some 148), none, [(.load 1 false (.t 139), (some 140), none)]⟩ :: L70_86
theorem v70_87 : VS L70_87.eq_1 := rfl
def L70_88 : List AStep := ⟨.iaddr 3 (.t 143) (.t 144), (some 145), none, []⟩ :: ⟨.faddr 2 (.t 145), (some 146), none, []⟩ :: L70_87
theorem v70_88 : VS L70_88.eq_1 := rfl
def L70_89 : List AStep := ⟨.load 1 false (.t 142), (some 143), none, []⟩ :: ⟨.mov (.t 14), (some 144), none, []⟩ :: L70_88
theorem v70_89 : VS L70_89.eq_1 := rfl
def L70_90 : List AStep := ⟨.mov (.t 14), (some 141), none, []⟩ :: ⟨.faddr 0 (.t 6), (some 142), none, []⟩ :: L70_89
theorem v70_90 : VS L70_90.eq_1 := rfl
def L70_91 : List AStep := ⟨.faddr 0 (.t 6), (some 139), none, []⟩ :: ⟨.load 1 false (.t 139), (some 140), none, []⟩ :: L70_90
theorem v70_91 : VS L70_91.eq_1 := rfl
def L70_92 : List AStep := [⟨.not (.t 164), (some 165), (some (158, true)), []⟩, ⟨.pick (.t 158) (.t 165) (.c (.bool false)), (some 166), none, []⟩]
theorem v70_92 : VS L70_92.eq_1 := rfl
def L70_93 : List AStep := ⟨.faddr 0 (.t 162), (some 163), (some (158, true)), []⟩ :: ⟨.load 1 false (.t 163), (some 164), (some (158, true)), []⟩ :: L70_92
theorem v70_93 : VS L70_93.eq_1 := rfl
def L70_94 : List AStep := ⟨.mov (.t 14), (some 161), (some (158, true)), []⟩ :: ⟨.iaddr 3 (.t 160) (.t 161), (some 162), (some (158, true)), []⟩ :: L70_93
theorem v70_94 : VS L70_94.eq_1 := rfl
def L70_95 : List AStep := ⟨.faddr 0 (.t 6), (some 159), (some (158, true)), []⟩ :: ⟨.load 1 false (.t 159), (some 160), (some (158, true)), []⟩ :: L70_94
theorem v70_95 : VS L70_95.eq_1 := rfl
def L70_96 : List AStep := ⟨.pick (.t 153) (.t 156) (.c (.bool false)), (some 157), none, []⟩ :: ⟨.mov (.t 157), (some 158), none, []⟩ :: L70_95
theorem v70_96 : VS L70_96.eq_1 := rfl
def L70_97 : List AStep := ⟨.load 1 false (.t 154), (some 155), (some (153, true)), []⟩ :: ⟨.not (.t 155), (some 156), (some (153, true)), []⟩ :: L70_96
theorem v70_97 : VS L70_97.eq_1 := rfl
def L70_98 : List AStep := ⟨.mov (.t 152), (some 153), none, []⟩ :: ⟨.faddr 2 (.t 15), (some 154), (some (153, true)), []⟩ :: L70_97
theorem v70_98 : VS L70_98.eq_1 := rfl
def L70_99 : List AStep := ⟨.load 4 true (.t 15), (some 151), none, []⟩ :: ⟨.call 100 [(.t 151)], (some 152), none, []⟩ :: L70_98
theorem v70_99 : VS L70_99.eq_1 := rfl
def L70_100 : List AStep := [⟨.mov (.t 172), (some 7), none, []⟩]
theorem v70_100 : VS L70_100.eq_1 := rfl
def L70_101 : List AStep := ⟨.buildSlice 130 1 [(.int .i64 0), (.str (strOfNums []))] [(0, 2, (.t 170))], (some 171), none, []⟩ :: ⟨.append 130 2 24 (.t 167) (.t 171), (some 172), none, []⟩ :: L70_100
theorem v70_101 : VS L70_101.eq_1 := rfl
def L70_102 : List AStep := ⟨.load 1 false (.t 168), (some 169), none, []⟩ :: ⟨.build [(.int .i64 0), (.str (strOfNums []))] [(0, 1, (.c (.int .i64 3))), (1, 1, (.t 169))], (some 170), none, []⟩ :: L70_101
theorem v70_102 : VS L70_102.eq_1 := rfl
def L70_103 : List AStep := ⟨.mov (.t 7), (some 167), none, []⟩ :: ⟨.faddr 0 (.t 15), (some 168), none, []⟩ :: L70_102
theorem v70_103 : VS L70_103.eq_1 := rfl
def L70_104 : List AStep := [⟨.bin .add (.t 134) (.c (.int .i64 1)), (some 173), none, []⟩, ⟨.mov (.t 173), (some 134), none, []⟩]
theorem v70_104 : VS L70_104.eq_1 := rfl
def L70_105 : List AStep := [⟨.mov (.t 176), (some 5), none, []⟩]
theorem v70_105 : VS L70_105.eq_1 := rfl
def L70_106 : List AStep := ⟨.call 125 [(.t 175)], (some 176), none, [(.load 1 true (.t 6), (some 174), none)]⟩ :: ⟨.store 1 (.t 4) (.t 174), none, none, []⟩ :: L70_105
theorem v70_106 : VS L70_106.eq_1 := rfl
def L70_107 : List AStep := ⟨.load 1 true (.t 6), (some 174), none, []⟩ :: ⟨.mov (.t 7), (some 175), none, []⟩ :: L70_106
theorem v70_107 : VS L70_107.eq_1 := rfl
def C70_0 : ACode := .cond (.t 27) .skip (.exit 0)
theorem u70_0 : VC C70_0.eq_1 := rfl
def C70_1 : ACode := .seq (.reg L70_23) (.reg L70_25)
theorem u70_1 : VC C70_1.eq_1 := rfl
def C70_2 : ACode := .cond (.t 37) C70_1 .skip
theorem u70_2 : VC C70_2.eq_1 := rfl
def C70_3 : ACode := .seq (.reg L70_18) C70_2
theorem u70_3 : VC C70_3.eq_1 := rfl
def C70_4 : ACode := .seq (.reg L70_31) (.reg L70_32)
theorem u70_4 : VC C70_4.eq_1 := rfl
def C70_5 : ACode := .cond (.t 51) C70_4 .skip
theorem u70_5 : VC C70_5.eq_1 := rfl
def C70_6 : ACode := .seq (.reg L70_27) C70_5
theorem u70_6 : VC C70_6.eq_1 := rfl
def C70_7 : ACode := .seq C70_3 C70_6
theorem u70_7 : VC C70_7.eq_1 := rfl
def C70_8 : ACode := .seq (.reg L70_14) C70_7
theorem u70_8 : VC C70_8.eq_1 := rfl
def C70_9 : ACode := .block 1 C70_8
theorem u70_9 : VC C70_9.eq_1 := rfl
def C70_10 : ACode := .seq C70_9 (.reg L70_33)
theorem u70_10 : VC C70_10.eq_1 := rfl
def C70_11 : ACode := .seq C70_0 C70_10
theorem u70_11 : VC C70_11.eq_1 := rfl
def C70_12 : ACode := .seq (.reg L70_11) C70_11
theorem u70_12 : VC C70_12.eq_1 := rfl
def C70_13 : ACode := .block 0 (.loop C70_12)
theorem u70_13 : VC C70_13.eq_1 := rfl
def C70_14 : ACode := .seq (.reg L70_10) C70_13
theorem u70_14 : VC C70_14.eq_1 := rfl
def C70_15 : ACode := .cond (.t 62) (.reg L70_38) .skip
theorem u70_15 : VC C70_15.eq_1 := rfl
def C70_16 : ACode := .seq (.reg L70_35) C70_15
theorem u70_16 : VC C70_16.eq_1 := rfl
def C70_17 : ACode := .cond (.t 71) .skip (.exit 2)
theorem u70_17 : VC C70_17.eq_1 := rfl
def C70_18 : ACode := .cond (.t 117) (.reg L70_72) (.reg L70_77)
theorem u70_18 : VC C70_18.eq_1 := rfl
def C70_19 : ACode := .seq (.reg L70_68) C70_18
theorem u70_19 : VC C70_19.eq_1 := rfl
def C70_20 : ACode := .cond (.t 95) (.reg L70_64) C70_19
theorem u70_20 : VC C70_20.eq_1 := rfl
def C70_21 : ACode := .seq (.reg L70_56) C70_20
theorem u70_21 : VC C70_21.eq_1 := rfl
def C70_22 : ACode := .cond (.t 86) (.reg L70_52) C70_21
theorem u70_22 : VC C70_22.eq_1 := rfl
def C70_23 : ACode := .seq (.reg L70_48) C70_22
theorem u70_23 : VC C70_23.eq_1 := rfl
def C70_24 : ACode := .block 4 C70_23
theorem u70_24 : VC C70_24.eq_1 := rfl
def C70_25 : ACode := .seq (.reg L70_46) C70_24
theorem u70_25 : VC C70_25.eq_1 := rfl
def C70_26 : ACode := .seq (.reg L70_43) C70_25
theorem u70_26 : VC C70_26.eq_1 := rfl
def C70_27 : ACode := .block 3 C70_26
theorem u70_27 : VC C70_27.eq_1 := rfl
def C70_28 : ACode := .seq C70_27 (.reg L70_78)
theorem u70_28 : VC C70_28.eq_1 := rfl
def C70_29 : ACode := .seq C70_17 C70_28
theorem u70_29 : VC C70_29.eq_1 := rfl
def C70_30 : ACode := .seq (.reg L70_41) C70_29
theorem u70_30 : VC C70_30.eq_1 := rfl
def C70_31 : ACode := .block 2 (.loop C70_30)
theorem u70_31 : VC C70_31.eq_1 := rfl
def C70_32 : ACode := .seq (.reg L70_40) C70_31
theorem u70_32 : VC C70_32.eq_1 := rfl
def C70_33 : ACode := .cond (.t 135) .skip (.exit 5)
theorem u70_33 : VC C70_33.eq_1 := rfl
def C70_34 : ACode := .cond (.t 166) (.reg L70_103) .skip
theorem u70_34 : VC C70_34.eq_1 := rfl
def C70_35 : ACode := .seq (.reg L70_99) C70_34
theorem u70_35 : VC C70_35.eq_1 := rfl
def C70_36 : ACode := .seq (.reg L70_91) C70_35
theorem u70_36 : VC C70_36.eq_1 := rfl
def C70_37 : ACode := .seq (.reg L70_84) C70_36
theorem u70_37 : VC C70_37.eq_1 := rfl
def C70_38 : ACode := .block 6 C70_37
theorem u70_38 : VC C70_38.eq_1 := rfl
def C70_39 : ACode := .seq C70_38 (.reg L70_104)
theorem u70_39 : VC C70_39.eq_1 := rfl
def C70_40 : ACode := .seq C70_33 C70_39
theorem u70_40 : VC C70_40.eq_1 := rfl
def C70_41 : ACode := .seq (.reg L70_81) C70_40
theorem u70_41 : VC C70_41.eq_1 := rfl
def C70_42 : ACode := .block 5 (.loop C70_41)
theorem u70_42 : VC C70_42.eq_1 := rfl
def C70_43 : ACode := .seq (.reg L70_80) C70_42
theorem u70_43 : VC C70_43.eq_1 := rfl
def C70_44 : ACode := .seq (.reg L70_107) .ret
theorem u70_44 : VC C70_44.eq_1 := rfl
def C70_45 : ACode := .seq C70_43 C70_44
theorem u70_45 : VC C70_45.eq_1 := rfl
def C70_46 : ACode := .seq C70_32 C70_45
theorem u70_46 : VC C70_46.eq_1 := rfl
def C70_47 : ACode := .seq C70_16 C70_46
theorem u70_47 : VC C70_47.eq_1 := rfl
def C70_48 : ACode := .seq C70_14 C70_47
theorem u70_48 : VC C70_48.eq_1 := rfl
def C70_49 : ACode := .seq (.reg L70_8) C70_48
theorem u70_49 : VC C70_49.eq_1 := rfl
def C70_50 : ACode := .seq (.reg L70_6) C70_49
theorem u70_50 : VC C70_50.eq_1 := rfl
def C70_51 : ACode := .seq (.reg L70_5) C70_50
theorem u70_51 : VC C70_51.eq_1 := rfl
def C70_52 : ACode := .seq (.reg L70_1) C70_51
theorem u70_52 : VC C70_52.eq_1 := rfl
def F70 : AFunc := ⟨177, [.cell 4 1 true, .tmp 5], C70_52⟩
theorem cF70 : compB Try.prog 70 = some F70 := by kernel_rfl
attribute [local go_sem ↓] u70_0 u70_1 u70_2 u70_3 u70_4 u70_5 u70_6 u70_7 u70_8 u70_9 u70_10 u70_11 u70_12 u70_13 u70_14 u70_15 u70_16 u70_17 u70_18 u70_19 u70_20 u70_21 u70_22 u70_23 u70_24 u70_25 u70_26 u70_27 u70_28 u70_29 u70_30 u70_31 u70_32 u70_33 u70_34 u70_35 u70_36 u70_37 u70_38 u70_39 u70_40 u70_41 u70_42 u70_43 u70_44 u70_45 u70_46 u70_47 u70_48 u70_49 u70_50 u70_51 u70_52 v70_0 v70_1 v70_2 v70_3 v70_4 v70_5 v70_6 v70_7 v70_8 v70_9 v70_10 v70_11 v70_12 v70_13 v70_14 v70_15 v70_16 v70_17 v70_18 v70_19 v70_20 v70_21 v70_22 v70_23 v70_24 v70_25 v70_26 v70_27 v70_28 v70_29 v70_30 v70_31 v70_32 v70_33 v70_34 v70_35 v70_36 v70_37 v70_38 v70_39 v70_40 v70_41 v70_42 v70_43 v70_44 v70_45 v70_46 v70_47 v70_48 v70_49 v70_50 v70_51 v70_52 v70_53 v70_54 v70_55 v70_56 v70_57 v70_58 v70_59 v70_60 v70_61 v70_62 v70_63 v70_64 v70_65 v70_66 v70_67 v70_68 v70_69 v70_70 v70_71 v70_72 v70_73 v70_74 v70_75 v70_76 v70_77 v70_78 v70_79 v70_80 v70_81 v70_82 v70_83 v70_84 v70_85 v70_86 v70_87 v70_88 v70_89 v70_90 v70_91 v70_92 v70_93 v70_94 v70_95 v70_96 v70_97 v70_98 v70_99 v70_100 v70_101 v70_102 v70_103 v70_104 v70_105 v70_106 v70_107
theorem c_bind (l : List Param) (f : Flat) (q p n : CV) (h : H) (hl : SlQ h (.one q) l) (hf : SlF h p n f) (ok1 : okSig l = true) (ok2 : okFlat f = true) :
    callK (bm Try.prog 70 [.agg [q], .agg [p, n]] h) fun r h' => Grow h h' ∧ ∃ v w rs, r = .tup [.agg [v], .one w] ∧ BdY h h' v w rs (boundS l f) (wrong l f) := by
  refine bm_of cF70 ?_
  have o := Ord.of ok1
  have hn := okSig_len ok1
  obtain ⟨hb1, hb2, hb3⟩ := okFlat_sm ok2
  have sq : smQ l := ⟨by unfold big; omega, fun x hx => by have := okSig_name ok1 x hx; unfold big; omega⟩
  have pl0 := places_le (l := l)
  simp +contextual (maxSteps := 2000000) only [go_sem, Nat.reduceEqDiff, reduceCtorEq, Nat.reduceAdd, Nat.reduceLeDiff, F70, hl.len]
  refine wp_make (enc := encY) (k := 3) zeroR rfl (by omega) (by omega) ?_
  intro h1 v g1 n1 _
  obtain ⟨v, rfl⟩ := n1.one
  have k1 := hl.grow g1
  simp +contextual (maxSteps := 2000000) only [go_sem, Nat.reduceEqDiff, reduceCtorEq, Nat.reduceAdd, Nat.reduceLeDiff, k1.len]
  refine wpC_loop (fun i T L h' => Grow h h' ∧ T 2 = .lp 2 0 ∧ (L 2).2 = [q] ∧ T 3 = .lp 3 0 ∧ (L 3).2 = [p, n] ∧ T 4 = .lp 4 0 ∧ (L 4).2 = [.sl none 0 (some 0)] ∧ T 6 = .lp 6 0 ∧ (L 6).2 = [v] ∧ T 7 = .v (.one (.sl none 0 (some 0))) ∧ (∃ u, T 8 = .v u ∧ SlI h' u (leftAt l f.pl i) ∧ ∀ j, baseOf u = some j → j < h.n) ∧ T 24 = .v (.one q) ∧ T 25 = .v (.one (.int .i64 l.length)) ∧ T 26 = .v (.one (.int .i64 i)) ∧ ∃ rs, BdY h h' v (.sl none 0 (some 0)) rs (fillS l f.pl i) []) l.length ?_ ?_ (Nat.zero_le _) ?_
  · rintro i T L h' hi ⟨gg, t2, l2, t3, l3, t4, l4, t6, l6, t7, ⟨u, t8, xu, bu⟩, t24, t25, t26, rs, x⟩
    have kl := hl.grow gg
    have hrs : rs.length = l.length := x.len.trans fillS_len
    have hio : i < rs.length := by omega
    have hsl : i < (fillS l f.pl i).length := by rw [fillS_len]; exact hi
    have es := fun h => c_placed l[i] h
    simp only [encQ] at es
    have yi := x.sl.out.out.iaddr hio (kd := .i64)
    have sep : ∀ j, baseOf u = some j → baseOf (.one v) ≠ some j := fun j hj hv => by
      have := bu j hj
      have := (x.sl.out.out.lt hv).2
      omega
    cases b1 : byPlace l[i] with
    | true =>
      obtain ⟨la, lb⟩ := leftAt_place (pl := f.pl) o hi b1
      have nk : decide (l[i].kind = 2) = false := by rw [byPlace_iff] at b1; exact decide_eq_false (by omega)
      rw [la] at xu
      rw [lb]
      by_cases hj : i < f.pl.length
      · have hd : 0 < (f.pl.drop i).length := by simp; omega
        have d0 : decide (((f.pl.drop i).length : Int) > 0) = true := decide_eq_true (by omega)
        have ui : iaddrO 1 u (.one (.int .i64 0)) = some (.one (.ptr (some (elem 1 u 0)))) := xu.iaddr hd
        have uv : loadO 1 false h' (.one (.ptr (some (elem 1 u 0)))) = some (.one (.int .i64 f.pl[i])) := by
          rw [xu.oneO hd, encI_0]
          simp
        simp +contextual (maxSteps := 2000000) only [go_sem, Nat.reduceEqDiff, reduceCtorEq, Nat.reduceAdd, Nat.reduceLeDiff, t2, l2, t3, l3, t4, l4, t6, l6, t7, t8, t24, t25, t26, kl.iaddr hi, kl.whole hi, encQ, lt_true hi, es, b1, xu.len, d0, ui, uv, nk]
        refine wp_lit (enc := encI) (k := 1) (l := [f.pl[i]]) rfl rfl ?_
        intro h3 w3 g3 n3 b3
        obtain ⟨d, rfl⟩ := n3.one
        simp +contextual (maxSteps := 2000000) only [go_sem, Nat.reduceEqDiff, reduceCtorEq, Nat.reduceAdd, Nat.reduceLeDiff, t2, l2, t3, l3, t4, l4, t6, l6, t7, t8, t24, t25, t26, yi]
        refine wp_setE (x := ⟨true, d, .sl none 0 (some 0)⟩) lenY (x.sl.out.out.grow g3) hio rfl rfl (gg.trans g3) ?_
        intro h4 g4 n4 s4
        have xu4 := (xu.grow g3).of_stay s4 sep
        obtain ⟨u2, e2, xu2, bu2⟩ := xu4.dropB (i := 1) (by omega) (kd := .i64)
        have e3 : cutO 3 1 h4 u (some (.one (.int .i64 1))) none none = some u2 := e2
        rw [List.drop_drop, Nat.add_comm] at xu2
        have z := x.put hio g3 ⟨rfl, n3, .nil⟩ Sep.nil.symm n4 s4 gg.n (a := givenS f.pl[i])
        rw [← slotPl_place hi b1 hj, fillS_set] at z
        simp +contextual (maxSteps := 2000000) only [go_sem, Nat.reduceEqDiff, reduceCtorEq, Nat.reduceAdd, Nat.reduceLeDiff, t2, l2, t3, l3, t4, l4, t6, l6, t7, t8, t24, t25, t26, e3, nk]
        exact ⟨g4, ⟨u2, rfl, by rw [Nat.add_comm] at xu2; exact xu2, fun j hj => bu j (bu2 j hj)⟩, by rw [wrap_next hi (by omega)], _, z⟩
      · have d0 : decide (((f.pl.drop i).length : Int) > 0) = false := decide_eq_false (by simp; omega)
        simp +contextual (maxSteps := 2000000) only [go_sem, Nat.reduceEqDiff, reduceCtorEq, Nat.reduceAdd, Nat.reduceLeDiff, t2, l2, t3, l3, t4, l4, t6, l6, t7, t8, t24, t25, t26, kl.iaddr hi, kl.whole hi, encQ, lt_true hi, es, b1, xu.len, d0, nk]
        rw [fillS_skip hi (slotPl_none hi b1 hj)]
        rw [show f.pl.drop (i + 1) = f.pl.drop i by rw [List.drop_eq_nil_of_le (by omega), List.drop_eq_nil_of_le (by omega)]]
        exact ⟨gg, ⟨u, rfl, xu, bu⟩, by rw [wrap_next hi (by omega)], _, x⟩
    | false =>
      by_cases kk : l[i].kind = 2
      · obtain ⟨la, lb⟩ := leftAt_rest (pl := f.pl) o hi kk
        have nk : decide (l[i].kind = 2) = true := decide_eq_true kk
        rw [la] at xu
        rw [lb]
        simp +contextual (maxSteps := 2000000) only [go_sem, Nat.reduceEqDiff, reduceCtorEq, Nat.reduceAdd, Nat.reduceLeDiff, t2, l2, t3, l3, t4, l4, t6, l6, t7, t8, t24, t25, t26, kl.iaddr hi, kl.whole hi, encQ, lt_true hi, es, b1, nk]
        refine wp_call (c_cloneI _ _ h' xu (by simp; unfold big; omega)) ?_
        rintro r h3 ⟨g3, n3⟩
        obtain ⟨c, rfl⟩ := n3.one
        simp +contextual (maxSteps := 2000000) only [go_sem, Nat.reduceEqDiff, reduceCtorEq, Nat.reduceAdd, Nat.reduceLeDiff, t2, l2, t3, l3, t4, l4, t6, l6, t7, t8, t24, t25, t26, yi]
        refine wp_set (x := { rs[i] with lv := c }) (off := 1) (vs := [c]) lenY (x.sl.out.out.grow g3) hio rfl rfl (Nat.le_of_ble_eq_true rfl) (gg.trans g3) ?_
        intro h4 g4 n4 s4
        have z := x.app_list hio hsl (n3.from gg.n) (g3.stay _) (fun j hj => .inr (n3.lt hj).2) n4 s4
        have ez : ({ (fillS l f.pl i)[i] with list := f.pl.drop i } : Slot) = slotPl l f.pl i := by rw [fillS_at, slotPl_rest hi kk]; rfl
        rw [ez, fillS_set] at z
        simp +contextual (maxSteps := 2000000) only [go_sem, Nat.reduceEqDiff, reduceCtorEq, Nat.reduceAdd, Nat.reduceLeDiff, t2, l2, t3, l3, t4, l4, t6, l6, t7, t8, t24, t25, t26]
        exact ⟨g4, ⟨_, rfl, Sl.nil lenI, fun j hj => by simp [baseOf] at hj⟩, by rw [wrap_next hi (by omega)], _, z⟩
      · have nk : decide (l[i].kind = 2) = false := decide_eq_false kk
        simp +contextual (maxSteps := 2000000) only [go_sem, Nat.reduceEqDiff, reduceCtorEq, Nat.reduceAdd, Nat.reduceLeDiff, t2, l2, t3, l3, t4, l4, t6, l6, t7, t8, t24, t25, t26, kl.iaddr hi, kl.whole hi, encQ, lt_true hi, es, b1, nk]
        rw [fillS_skip hi (slotPl_else hi b1 kk), leftAt_else o hi b1 kk]
        exact ⟨gg, ⟨u, rfl, xu, bu⟩, by rw [wrap_next hi (by omega)], _, x⟩
  · rintro T L h' ⟨gg, t2, l2, t3, l3, t4, l4, t6, l6, t7, ⟨u, t8, xu, bu⟩, t24, t25, t26, rs, x⟩
    have k := hf.grow gg
    rw [fillS_all] at x
    by_cases hm : places l < f.pl.length ∧ hasRest l = false
    · have d1 : decide (((leftAt l f.pl l.length).length : Int) > 0) = true := decide_eq_true (by have := (leftAt_many o).2 hm; omega)
      have em : manyB l f.pl = [⟨0, strOfNums []⟩] := by unfold manyB; rw [if_pos hm]
      simp +contextual (maxSteps := 2000000) only [go_sem, Nat.reduceEqDiff, reduceCtorEq, Nat.reduceAdd, Nat.reduceLeDiff, t2, l2, t3, l3, t4, l4, t6, l6, t7, t8, t24, t25, t26, lt_false, xu.len, d1]
      refine wp_lit (enc := encB) (k := 2) (l := [⟨0, strOfNums []⟩]) rfl rfl ?_
      intro h3 w3 g3 n3 _
      simp +contextual (maxSteps := 2000000) only [go_sem, Nat.reduceEqDiff, reduceCtorEq, Nat.reduceAdd, Nat.reduceLeDiff, t2, l2, t3, l3, t4, l4, t6, l6, t7, t8, t24, t25, t26]
      refine wp_append lenB (x.pr.grow g3) (n3.sl lenB) (gg.trans g3) (by simp) ?_
      intro h4 s4 g4 n4 st4 hb4
      obtain ⟨c4, rfl⟩ := n4.one
      have x := (x.grow g3).push n4 st4 hb4
      rw [List.nil_append, ← em] at x
      have k := hf.grow g4
      simp +contextual (maxSteps := 2000000) only [go_sem, Nat.reduceEqDiff, reduceCtorEq, Nat.reduceAdd, Nat.reduceLeDiff, t2, l2, t3, l3, t4, l4, t6, l6, t7, t8, t24, t25, t26, k.nl.len]
      refine wpC_loop (fun i T L h' => Grow h h' ∧ T 2 = .lp 2 0 ∧ (L 2).2 = [q] ∧ T 3 = .lp 3 0 ∧ (L 3).2 = [p, n] ∧ T 4 = .lp 4 0 ∧ (L 4).2 = [.sl none 0 (some 0)] ∧ T 6 = .lp 6 0 ∧ (L 6).2 = [v] ∧ (∃ w rs, T 7 = .v (.one w) ∧ BdY h h' v w rs (nameF l f i).slots (nameF l f i).bad) ∧ T 68 = .v (.one n) ∧ T 69 = .v (.one (.int .i64 f.nl.length)) ∧ T 70 = .v (.one (.int .i64 i))) f.nl.length ?_ ?_ (Nat.zero_le _) ?_
      · rintro i T L h' hi ⟨gg, t2, l2, t3, l3, t4, l4, t6, l6, ⟨w, rs, t7, x⟩, t68, t69, tx⟩
        have k := hf.grow gg
        have kl := hl.grow gg
        have ok := BOk.nameF (l := l) (f := f) hb3 (i := i) (by omega)
        have hrs : rs.length = l.length := x.len.trans ok.len
        have tk := c_takes l q f.nl[i].name h' kl sq
        rw [nameF_next hi]
        rcases takes_cases l f.nl[i].name with e | ⟨j, hj, e⟩
        · rw [nameStep_no e]
          rw [e] at tk
          simp +contextual (maxSteps := 2000000) only [go_sem, Nat.reduceEqDiff, reduceCtorEq, Nat.reduceAdd, Nat.reduceLeDiff, t2, l2, t3, l3, t4, l4, t6, l6, t7, t68, t69, tx, k.nl.iaddr hi, k.nl.whole hi, encP, lt_true hi, tk]
          refine wp_lit (enc := encB) (k := 2) (l := [⟨1, f.nl[i].name⟩]) rfl rfl ?_
          intro h3 w3 g3 n3 _
          simp +contextual (maxSteps := 2000000) only [go_sem, Nat.reduceEqDiff, reduceCtorEq, Nat.reduceAdd, Nat.reduceLeDiff, t2, l2, t3, l3, t4, l4, t6, l6, t7, t68, t69, tx]
          refine wp_append lenB (x.pr.grow g3) (n3.sl lenB) (gg.trans g3) (by have := ok.bad; simp; omega) ?_
          intro h4 s4 g4 n4 st4 hb4
          obtain ⟨c4, rfl⟩ := n4.one
          simp +contextual (maxSteps := 2000000) only [go_sem, Nat.reduceEqDiff, reduceCtorEq, Nat.reduceAdd, Nat.reduceLeDiff, t2, l2, t3, l3, t4, l4, t6, l6, t7, t68, t69, tx]
          exact ⟨g4, ⟨c4, rs, rfl, (x.grow g3).push n4 st4 hb4⟩, by rw [wrap_next hi (by omega)]⟩
        · rw [e] at tk
          have hs : j < (nameF l f i).slots.length := by rw [ok.len]; exact hj
          have hio : j < rs.length := by omega
          have z := x.sl.at hio hs
          have yi := x.sl.out.out.iaddr hio (kd := .i64)
          have y0 := (x.sl.out.out.sl lenY).fieldO (off := 0) hio (by omega)
          have y2 := (x.sl.out.out.sl lenY).fieldO (off := 2) hio (by omega)
          rw [encY_0] at y0
          rw [encY_2] at y2
          have dj : decide ((j : Int) < 0) = false := decide_eq_false (by omega)
          by_cases kk : l[j].kind = 4
          · rw [nameStep_map e hj hs kk]
            have dk : decide (l[j].kind = 4) = true := decide_eq_true kk
            simp +contextual (maxSteps := 2000000) only [go_sem, Nat.reduceEqDiff, reduceCtorEq, Nat.reduceAdd, Nat.reduceLeDiff, t2, l2, t3, l3, t4, l4, t6, l6, t7, t68, t69, tx, k.nl.iaddr hi, k.nl.whole hi, encP, lt_true hi, tk, dj, kl.iaddr hj, kl.fieldO hj, dk, yi, y2]
            refine wp_lit (enc := encP) (k := 2) (l := [f.nl[i]]) rfl rfl ?_
            intro h3 w3 g3 n3 _
            simp +contextual (maxSteps := 2000000) only [go_sem, Nat.reduceEqDiff, reduceCtorEq, Nat.reduceAdd, Nat.reduceLeDiff, t2, l2, t3, l3, t4, l4, t6, l6, t7, t68, t69, tx]
            refine wp_append lenP (z.pairs.grow g3) (n3.sl lenP) (gg.trans g3) (by have := ok.pairs _ (List.getElem_mem hs); simp; omega) ?_
            intro h4 s4 g4 n4 st4 hb4
            obtain ⟨c4, rfl⟩ := n4.one
            simp +contextual (maxSteps := 2000000) only [go_sem, Nat.reduceEqDiff, reduceCtorEq, Nat.reduceAdd, Nat.reduceLeDiff, t2, l2, t3, l3, t4, l4, t6, l6, t7, t68, t69, tx, yi]
            refine wp_set (x := { rs[j] with pv := c4 }) (off := 2) (vs := [c4]) lenY ((x.sl.out.out.grow g3).stay st4 (x.sl.out.vpv _ hio)) hio rfl rfl (Nat.le_of_ble_eq_true rfl) g4 ?_
            intro h5 g5 n5 s5
            simp +contextual (maxSteps := 2000000) only [go_sem, Nat.reduceEqDiff, reduceCtorEq, Nat.reduceAdd, Nat.reduceLeDiff, t2, l2, t3, l3, t4, l4, t6, l6, t7, t68, t69, tx]
            exact ⟨g5, ⟨w, _, rfl, (x.grow g3).app_pairs hio hs n4 st4 hb4 n5 s5⟩, by rw [wrap_next hi (by omega)]⟩
          · have dk : decide (l[j].kind = 4) = false := decide_eq_false kk
            cases b : (nameF l f i).slots[j].given with
            | true =>
              rw [nameStep_twice e hj hs kk b]
              rw [z.given, b] at y0
              simp +contextual (maxSteps := 2000000) only [go_sem, Nat.reduceEqDiff, reduceCtorEq, Nat.reduceAdd, Nat.reduceLeDiff, t2, l2, t3, l3, t4, l4, t6, l6, t7, t68, t69, tx, k.nl.iaddr hi, k.nl.whole hi, encP, lt_true hi, tk, dj, kl.iaddr hj, kl.fieldO hj, dk, yi, y0]
              refine wp_lit (enc := encB) (k := 2) (l := [⟨2, f.nl[i].name⟩]) rfl rfl ?_
              intro h3 w3 g3 n3 _
              simp +contextual (maxSteps := 2000000) only [go_sem, Nat.reduceEqDiff, reduceCtorEq, Nat.reduceAdd, Nat.reduceLeDiff, t2, l2, t3, l3, t4, l4, t6, l6, t7, t68, t69, tx]
              refine wp_append lenB (x.pr.grow g3) (n3.sl lenB) (gg.trans g3) (by have := ok.bad; simp; omega) ?_
              intro h4 s4 g4 n4 st4 hb4
              obtain ⟨c4, rfl⟩ := n4.one
              simp +contextual (maxSteps := 2000000) only [go_sem, Nat.reduceEqDiff, reduceCtorEq, Nat.reduceAdd, Nat.reduceLeDiff, t2, l2, t3, l3, t4, l4, t6, l6, t7, t68, t69, tx]
              exact ⟨g4, ⟨c4, rs, rfl, (x.grow g3).push n4 st4 hb4⟩, by rw [wrap_next hi (by omega)]⟩
            | false =>
              rw [nameStep_give e hj hs kk b]
              rw [z.given, b] at y0
              simp +contextual (maxSteps := 2000000) only [go_sem, Nat.reduceEqDiff, reduceCtorEq, Nat.reduceAdd, Nat.reduceLeDiff, t2, l2, t3, l3, t4, l4, t6, l6, t7, t68, t69, tx, k.nl.iaddr hi, k.nl.whole hi, encP, lt_true hi, tk, dj, kl.iaddr hj, kl.fieldO hj, dk, yi, y0]
              refine wp_lit (enc := encI) (k := 1) (l := [f.nl[i].value]) rfl rfl ?_
              intro h3 w3 g3 n3 b3
              obtain ⟨d, rfl⟩ := n3.one
              simp +contextual (maxSteps := 2000000) only [go_sem, Nat.reduceEqDiff, reduceCtorEq, Nat.reduceAdd, Nat.reduceLeDiff, t2, l2, t3, l3, t4, l4, t6, l6, t7, t68, t69, tx, yi]
              refine wp_setE (x := ⟨true, d, .sl none 0 (some 0)⟩) lenY (x.sl.out.out.grow g3) hio rfl rfl (gg.trans g3) ?_
              intro h4 g4 n4 s4
              simp +contextual (maxSteps := 2000000) only [go_sem, Nat.reduceEqDiff, reduceCtorEq, Nat.reduceAdd, Nat.reduceLeDiff, t2, l2, t3, l3, t4, l4, t6, l6, t7, t68, t69, tx]
              exact ⟨g4, ⟨w, _, rfl, x.put hio g3 ⟨rfl, n3, .nil⟩ Sep.nil.symm n4 s4 gg.n⟩, by rw [wrap_next hi (by omega)]⟩
      · rintro T L h' ⟨gg, t2, l2, t3, l3, t4, l4, t6, l6, ⟨w, rs, t7, x⟩, t68, t69, tx⟩
        have kl := hl.grow gg
        have x : BdY h h' v w rs (boundS l f) (boundB l f ++ missF l (boundS l f) 0) := by rw [missF_zero, List.append_nil]; exact x
        have hbb : (boundB l f).length ≤ 9 := by have := (BOk.nameF (l := l) (f := f) hb3 (Nat.le_refl _)).bad; unfold boundB; omega
        simp +contextual (maxSteps := 2000000) only [go_sem, Nat.reduceEqDiff, reduceCtorEq, Nat.reduceAdd, Nat.reduceLeDiff, t2, l2, t3, l3, t4, l4, t6, l6, t7, t68, t69, tx, lt_false, kl.len]
        refine wpC_loop (fun i T L h' => Grow h h' ∧ T 2 = .lp 2 0 ∧ (L 2).2 = [q] ∧ T 3 = .lp 3 0 ∧ (L 3).2 = [p, n] ∧ T 4 = .lp 4 0 ∧ (L 4).2 = [.sl none 0 (some 0)] ∧ T 6 = .lp 6 0 ∧ (L 6).2 = [v] ∧ (∃ w rs, T 7 = .v (.one w) ∧ BdY h h' v w rs (boundS l f) (boundB l f ++ missF l (boundS l f) i)) ∧ T 132 = .v (.one q) ∧ T 133 = .v (.one (.int .i64 l.length)) ∧ T 134 = .v (.one (.int .i64 i))) l.length ?_ ?_ (Nat.zero_le _) ?_
        · rintro i T L h' hi ⟨gg, t2, l2, t3, l3, t4, l4, t6, l6, ⟨w, rs, t7, x⟩, t132, t133, t134⟩
          have kl := hl.grow gg
          have hsl : i < (boundS l f).length := by rw [boundS_len]; exact hi
          have hio : i < rs.length := by rw [x.len]; exact hsl
          have es := fun h => c_single l[i] h
          simp only [encQ] at es
          have yi := x.sl.out.out.iaddr hio (kd := .i64)
          have y2 := (x.sl.out.out.sl lenY).fieldO (off := 2) hio (by omega)
          rw [encY_2] at y2
          have el := lacks_eq hi hsl
          have em := missF_next (sl := boundS l f) hi
          have ml := missF_len (l := l) (sl := boundS l f) (i := i)
          have done : ∀ b, lacks l (boundS l f) i = b → b = false → missF l (boundS l f) (i + 1) = missF l (boundS l f) i := fun b e1 e2 => by rw [em, e1, e2]; simp
          simp +contextual (maxSteps := 2000000) only [go_sem, Nat.reduceEqDiff, reduceCtorEq, Nat.reduceAdd, Nat.reduceLeDiff, t2, l2, t3, l3, t4, l4, t6, l6, t7, t132, t133, t134, kl.iaddr hi, kl.whole hi, encQ, lt_true hi, yi, y2]
          refine wp_call (c_clipbP _ _ h' (x.sl.at hio hsl).pairs) ?_
          rintro r h3 ⟨rfl, n3, hb3⟩
          obtain ⟨c, rfl⟩ := n3.one
          simp +contextual (maxSteps := 2000000) only [go_sem, Nat.reduceEqDiff, reduceCtorEq, Nat.reduceAdd, Nat.reduceLeDiff, t2, l2, t3, l3, t4, l4, t6, l6, t7, t132, t133, t134, yi]
          refine wp_set (x := { rs[i] with pv := c }) (off := 2) (vs := [c]) lenY x.sl.out.out hio rfl rfl (Nat.le_of_ble_eq_true rfl) gg ?_
          intro h4 g4 n4 s4
          have z := x.app_pairs hio hsl n3 ((Grow.refl _).stay _) (fun j hj => .inl (hb3 j hj)) n4 s4
          have ez : ({ (boundS l f)[i] with pairs := (boundS l f)[i].pairs } : Slot) = (boundS l f)[i] := rfl
          rw [ez, List.set_getElem_self] at z
          have hio2 : i < (rs.set i { rs[i] with pv := c }).length := by simpa using hio
          have yi2 := z.sl.out.out.iaddr hio2 (kd := .i64)
          have y02 := (z.sl.out.out.sl lenY).fieldO (off := 0) hio2 (by omega)
          rw [encY_0, (z.sl.at hio2 hsl).given] at y02
          cases b1 : single l[i] with
          | false =>
            rw [b1, Bool.false_and] at el
            simp +contextual (maxSteps := 2000000) only [go_sem, Nat.reduceEqDiff, reduceCtorEq, Nat.reduceAdd, Nat.reduceLeDiff, t2, l2, t3, l3, t4, l4, t6, l6, t7, t132, t133, t134, es, b1]
            exact ⟨g4, ⟨w, _, rfl, by rw [done _ el rfl]; exact z⟩, by rw [wrap_next hi (by omega)]⟩
          | true =>
          cases b2 : l[i].has with
          | true =>
            rw [b1, b2] at el
            simp only [b2] at es
            simp +contextual (maxSteps := 2000000) only [go_sem, Nat.reduceEqDiff, reduceCtorEq, Nat.reduceAdd, Nat.reduceLeDiff, t2, l2, t3, l3, t4, l4, t6, l6, t7, t132, t133, t134, es, b1, b2]
            exact ⟨g4, ⟨w, _, rfl, by rw [done _ el rfl]; exact z⟩, by rw [wrap_next hi (by omega)]⟩
          | false =>
          simp only [b2] at es
          cases b3 : (boundS l f)[i].given with
          | true =>
            rw [b1, b2, b3] at el
            rw [b3] at y02
            simp +contextual (maxSteps := 2000000) only [go_sem, Nat.reduceEqDiff, reduceCtorEq, Nat.reduceAdd, Nat.reduceLeDiff, t2, l2, t3, l3, t4, l4, t6, l6, t7, t132, t133, t134, es, b1, b2, yi2, y02]
            exact ⟨g4, ⟨w, _, rfl, by rw [done _ el rfl]; exact z⟩, by rw [wrap_next hi (by omega)]⟩
          | false =>
            rw [b1, b2, b3] at el
            rw [b3] at y02
            simp +contextual (maxSteps := 2000000) only [go_sem, Nat.reduceEqDiff, reduceCtorEq, Nat.reduceAdd, Nat.reduceLeDiff, t2, l2, t3, l3, t4, l4, t6, l6, t7, t132, t133, t134, es, b1, b2, yi2, y02]
            refine wp_lit (enc := encB) (k := 2) (l := [⟨3, l[i].name⟩]) rfl rfl ?_
            intro h5 w5 g5 n5 _
            simp +contextual (maxSteps := 2000000) only [go_sem, Nat.reduceEqDiff, reduceCtorEq, Nat.reduceAdd, Nat.reduceLeDiff, t2, l2, t3, l3, t4, l4, t6, l6, t7, t132, t133, t134]
            refine wp_append lenB (z.pr.grow g5) (n5.sl lenB) (g4.trans g5) (by simp; omega) ?_
            intro h6 s6 g6 n6 st6 hb6
            obtain ⟨c6, rfl⟩ := n6.one
            have z6 := (z.grow g5).push n6 st6 hb6
            simp +contextual (maxSteps := 2000000) only [go_sem, Nat.reduceEqDiff, reduceCtorEq, Nat.reduceAdd, Nat.reduceLeDiff, t2, l2, t3, l3, t4, l4, t6, l6, t7, t132, t133, t134]
            have e9 : missF l (boundS l f) (i + 1) = missF l (boundS l f) i ++ [⟨3, l[i].name⟩] := by rw [em, el]; rfl
            rw [List.append_assoc, ← e9] at z6
            exact ⟨g6, ⟨c6, _, rfl, z6⟩, by rw [wrap_next hi (by omega)]⟩
        · rintro T L h' ⟨gg, t2, l2, t3, l3, t4, l4, t6, l6, ⟨w, rs, t7, x⟩, t132, t133, t134⟩
          simp +contextual (maxSteps := 2000000) only [go_sem, Nat.reduceEqDiff, reduceCtorEq, Nat.reduceAdd, Nat.reduceLeDiff, t2, l2, t3, l3, t4, l4, t6, l6, t7, t132, t133, t134, lt_false]
          refine wp_call (c_clipbB _ _ h' x.pr) ?_
          rintro r h3 ⟨rfl, n3, hb3⟩
          obtain ⟨c, rfl⟩ := n3.one
          have z := x.push n3 ((Grow.refl _).stay _) (fun j hj => .inl (hb3 j hj))
          simp +contextual (maxSteps := 2000000) only [go_sem, Nat.reduceEqDiff, reduceCtorEq, Nat.reduceAdd, Nat.reduceLeDiff, t2, l2, t3, l3, t4, l4, t6, l6]
          exact gcK_of ⟨gg, _, _, _, rfl, z⟩ (fun hs _ => by
            simp only [AV.scalar, AV.scalars, List.all_cons, List.all_nil, Bool.and_true, Bool.and_eq_true] at hs
            exact ⟨Grow.refl h, _, _, _, rfl, z.scalar hs.1 hs.2 h⟩)
        · simp +contextual (maxSteps := 2000000) only [go_sem, Nat.reduceEqDiff, reduceCtorEq, Nat.reduceAdd, Nat.reduceLeDiff, t2, l2, t3, l3, t4, l4, t6, l6, t7]
          exact ⟨gg, ⟨w, rs, rfl, x⟩, rfl⟩
      · simp +contextual (maxSteps := 2000000) only [go_sem, Nat.reduceEqDiff, reduceCtorEq, Nat.reduceAdd, Nat.reduceLeDiff, t2, l2, t3, l3, t4, l4, t6, l6, t7]
        rw [nameF_zero]
        exact ⟨g4, ⟨c4, _, rfl, x⟩, rfl⟩
    · have d1 : decide (((leftAt l f.pl l.length).length : Int) > 0) = false := decide_eq_false (fun h0 => hm ((leftAt_many o).1 (by omega)))
      have em : manyB l f.pl = [] := by unfold manyB; rw [if_neg hm]
      rw [← em] at x
      simp +contextual (maxSteps := 2000000) only [go_sem, Nat.reduceEqDiff, reduceCtorEq, Nat.reduceAdd, Nat.reduceLeDiff, t2, l2, t3, l3, t4, l4, t6, l6, t7, t8, t24, t25, t26, lt_false, xu.len, d1, k.nl.len]
      refine wpC_loop (fun i T L h' => Grow h h' ∧ T 2 = .lp 2 0 ∧ (L 2).2 = [q] ∧ T 3 = .lp 3 0 ∧ (L 3).2 = [p, n] ∧ T 4 = .lp 4 0 ∧ (L 4).2 = [.sl none 0 (some 0)] ∧ T 6 = .lp 6 0 ∧ (L 6).2 = [v] ∧ (∃ w rs, T 7 = .v (.one w) ∧ BdY h h' v w rs (nameF l f i).slots (nameF l f i).bad) ∧ T 68 = .v (.one n) ∧ T 69 = .v (.one (.int .i64 f.nl.length)) ∧ T 70 = .v (.one (.int .i64 i))) f.nl.length ?_ ?_ (Nat.zero_le _) ?_
      · rintro i T L h' hi ⟨gg, t2, l2, t3, l3, t4, l4, t6, l6, ⟨w, rs, t7, x⟩, t68, t69, tx⟩
        have k := hf.grow gg
        have kl := hl.grow gg
        have ok := BOk.nameF (l := l) (f := f) hb3 (i := i) (by omega)
        have hrs : rs.length = l.length := x.len.trans ok.len
        have tk := c_takes l q f.nl[i].name h' kl sq
        rw [nameF_next hi]
        rcases takes_cases l f.nl[i].name with e | ⟨j, hj, e⟩
        · rw [nameStep_no e]
          rw [e] at tk
          simp +contextual (maxSteps := 2000000) only [go_sem, Nat.reduceEqDiff, reduceCtorEq, Nat.reduceAdd, Nat.reduceLeDiff, t2, l2, t3, l3, t4, l4, t6, l6, t7, t68, t69, tx, k.nl.iaddr hi, k.nl.whole hi, encP, lt_true hi, tk]
          refine wp_lit (enc := encB) (k := 2) (l := [⟨1, f.nl[i].name⟩]) rfl rfl ?_
          intro h3 w3 g3 n3 _
          simp +contextual (maxSteps := 2000000) only [go_sem, Nat.reduceEqDiff, reduceCtorEq, Nat.reduceAdd, Nat.reduceLeDiff, t2, l2, t3, l3, t4, l4, t6, l6, t7, t68, t69, tx]
          refine wp_append lenB (x.pr.grow g3) (n3.sl lenB) (gg.trans g3) (by have := ok.bad; simp; omega) ?_
          intro h4 s4 g4 n4 st4 hb4
          obtain ⟨c4, rfl⟩ := n4.one
          simp +contextual (maxSteps := 2000000) only [go_sem, Nat.reduceEqDiff, reduceCtorEq, Nat.reduceAdd, Nat.reduceLeDiff, t2, l2, t3, l3, t4, l4, t6, l6, t7, t68, t69, tx]
          exact ⟨g4, ⟨c4, rs, rfl, (x.grow g3).push n4 st4 hb4⟩, by rw [wrap_next hi (by omega)]⟩
        · rw [e] at tk
          have hs : j < (nameF l f i).slots.length := by rw [ok.len]; exact hj
          have hio : j < rs.length := by omega
          have z := x.sl.at hio hs
          have yi := x.sl.out.out.iaddr hio (kd := .i64)
          have y0 := (x.sl.out.out.sl lenY).fieldO (off := 0) hio (by omega)
          have y2 := (x.sl.out.out.sl lenY).fieldO (off := 2) hio (by omega)
          rw [encY_0] at y0
          rw [encY_2] at y2
          have dj : decide ((j : Int) < 0) = false := decide_eq_false (by omega)
          by_cases kk : l[j].kind = 4
          · rw [nameStep_map e hj hs kk]
            have dk : decide (l[j].kind = 4) = true := decide_eq_true kk
            simp +contextual (maxSteps := 2000000) only [go_sem, Nat.reduceEqDiff, reduceCtorEq, Nat.reduceAdd, Nat.reduceLeDiff, t2, l2, t3, l3, t4, l4, t6, l6, t7, t68, t69, tx, k.nl.iaddr hi, k.nl.whole hi, encP, lt_true hi, tk, dj, kl.iaddr hj, kl.fieldO hj, dk, yi, y2]
            refine wp_lit (enc := encP) (k := 2) (l := [f.nl[i]]) rfl rfl ?_
            intro h3 w3 g3 n3 _
            simp +contextual (maxSteps := 2000000) only [go_sem, Nat.reduceEqDiff, reduceCtorEq, Nat.reduceAdd, Nat.reduceLeDiff, t2, l2, t3, l3, t4, l4, t6, l6, t7, t68, t69, tx]
            refine wp_append lenP (z.pairs.grow g3) (n3.sl lenP) (gg.trans g3) (by have := ok.pairs _ (List.getElem_mem hs); simp; omega) ?_
            intro h4 s4 g4 n4 st4 hb4
            obtain ⟨c4, rfl⟩ := n4.one
            simp +contextual (maxSteps := 2000000) only [go_sem, Nat.reduceEqDiff, reduceCtorEq, Nat.reduceAdd, Nat.reduceLeDiff, t2, l2, t3, l3, t4, l4, t6, l6, t7, t68, t69, tx, yi]
            refine wp_set (x := { rs[j] with pv := c4 }) (off := 2) (vs := [c4]) lenY ((x.sl.out.out.grow g3).stay st4 (x.sl.out.vpv _ hio)) hio rfl rfl (Nat.le_of_ble_eq_true rfl) g4 ?_
            intro h5 g5 n5 s5
            simp +contextual (maxSteps := 2000000) only [go_sem, Nat.reduceEqDiff, reduceCtorEq, Nat.reduceAdd, Nat.reduceLeDiff, t2, l2, t3, l3, t4, l4, t6, l6, t7, t68, t69, tx]
            exact ⟨g5, ⟨w, _, rfl, (x.grow g3).app_pairs hio hs n4 st4 hb4 n5 s5⟩, by rw [wrap_next hi (by omega)]⟩
          · have dk : decide (l[j].kind = 4) = false := decide_eq_false kk
            cases b : (nameF l f i).slots[j].given with
            | true =>
              rw [nameStep_twice e hj hs kk b]
              rw [z.given, b] at y0
              simp +contextual (maxSteps := 2000000) only [go_sem, Nat.reduceEqDiff, reduceCtorEq, Nat.reduceAdd, Nat.reduceLeDiff, t2, l2, t3, l3, t4, l4, t6, l6, t7, t68, t69, tx, k.nl.iaddr hi, k.nl.whole hi, encP, lt_true hi, tk, dj, kl.iaddr hj, kl.fieldO hj, dk, yi, y0]
              refine wp_lit (enc := encB) (k := 2) (l := [⟨2, f.nl[i].name⟩]) rfl rfl ?_
              intro h3 w3 g3 n3 _
              simp +contextual (maxSteps := 2000000) only [go_sem, Nat.reduceEqDiff, reduceCtorEq, Nat.reduceAdd, Nat.reduceLeDiff, t2, l2, t3, l3, t4, l4, t6, l6, t7, t68, t69, tx]
              refine wp_append lenB (x.pr.grow g3) (n3.sl lenB) (gg.trans g3) (by have := ok.bad; simp; omega) ?_
              intro h4 s4 g4 n4 st4 hb4
              obtain ⟨c4, rfl⟩ := n4.one
              simp +contextual (maxSteps := 2000000) only [go_sem, Nat.reduceEqDiff, reduceCtorEq, Nat.reduceAdd, Nat.reduceLeDiff, t2, l2, t3, l3, t4, l4, t6, l6, t7, t68, t69, tx]
              exact ⟨g4, ⟨c4, rs, rfl, (x.grow g3).push n4 st4 hb4⟩, by rw [wrap_next hi (by omega)]⟩
            | false =>
              rw [nameStep_give e hj hs kk b]
              rw [z.given, b] at y0
              simp +contextual (maxSteps := 2000000) only [go_sem, Nat.reduceEqDiff, reduceCtorEq, Nat.reduceAdd, Nat.reduceLeDiff, t2, l2, t3, l3, t4, l4, t6, l6, t7, t68, t69, tx, k.nl.iaddr hi, k.nl.whole hi, encP, lt_true hi, tk, dj, kl.iaddr hj, kl.fieldO hj, dk, yi, y0]
              refine wp_lit (enc := encI) (k := 1) (l := [f.nl[i].value]) rfl rfl ?_
              intro h3 w3 g3 n3 b3
              obtain ⟨d, rfl⟩ := n3.one
              simp +contextual (maxSteps := 2000000) only [go_sem, Nat.reduceEqDiff, reduceCtorEq, Nat.reduceAdd, Nat.reduceLeDiff, t2, l2, t3, l3, t4, l4, t6, l6, t7, t68, t69, tx, yi]
              refine wp_setE (x := ⟨true, d, .sl none 0 (some 0)⟩) lenY (x.sl.out.out.grow g3) hio rfl rfl (gg.trans g3) ?_
              intro h4 g4 n4 s4
              simp +contextual (maxSteps := 2000000) only [go_sem, Nat.reduceEqDiff, reduceCtorEq, Nat.reduceAdd, Nat.reduceLeDiff, t2, l2, t3, l3, t4, l4, t6, l6, t7, t68, t69, tx]
              exact ⟨g4, ⟨w, _, rfl, x.put hio g3 ⟨rfl, n3, .nil⟩ Sep.nil.symm n4 s4 gg.n⟩, by rw [wrap_next hi (by omega)]⟩
      · rintro T L h' ⟨gg, t2, l2, t3, l3, t4, l4, t6, l6, ⟨w, rs, t7, x⟩, t68, t69, tx⟩
        have kl := hl.grow gg
        have x : BdY h h' v w rs (boundS l f) (boundB l f ++ missF l (boundS l f) 0) := by rw [missF_zero, List.append_nil]; exact x
        have hbb : (boundB l f).length ≤ 9 := by have := (BOk.nameF (l := l) (f := f) hb3 (Nat.le_refl _)).bad; unfold boundB; omega
        simp +contextual (maxSteps := 2000000) only [go_sem, Nat.reduceEqDiff, reduceCtorEq, Nat.reduceAdd, Nat.reduceLeDiff, t2, l2, t3, l3, t4, l4, t6, l6, t7, t68, t69, tx, lt_false, kl.len]
        refine wpC_loop (fun i T L h' => Grow h h' ∧ T 2 = .lp 2 0 ∧ (L 2).2 = [q] ∧ T 3 = .lp 3 0 ∧ (L 3).2 = [p, n] ∧ T 4 = .lp 4 0 ∧ (L 4).2 = [.sl none 0 (some 0)] ∧ T 6 = .lp 6 0 ∧ (L 6).2 = [v] ∧ (∃ w rs, T 7 = .v (.one w) ∧ BdY h h' v w rs (boundS l f) (boundB l f ++ missF l (boundS l f) i)) ∧ T 132 = .v (.one q) ∧ T 133 = .v (.one (.int .i64 l.length)) ∧ T 134 = .v (.one (.int .i64 i))) l.length ?_ ?_ (Nat.zero_le _) ?_
        · rintro i T L h' hi ⟨gg, t2, l2, t3, l3, t4, l4, t6, l6, ⟨w, rs, t7, x⟩, t132, t133, t134⟩
          have kl := hl.grow gg
          have hsl : i < (boundS l f).length := by rw [boundS_len]; exact hi
          have hio : i < rs.length := by rw [x.len]; exact hsl
          have es := fun h => c_single l[i] h
          simp only [encQ] at es
          have yi := x.sl.out.out.iaddr hio (kd := .i64)
          have y2 := (x.sl.out.out.sl lenY).fieldO (off := 2) hio (by omega)
          rw [encY_2] at y2
          have el := lacks_eq hi hsl
          have em := missF_next (sl := boundS l f) hi
          have ml := missF_len (l := l) (sl := boundS l f) (i := i)
          have done : ∀ b, lacks l (boundS l f) i = b → b = false → missF l (boundS l f) (i + 1) = missF l (boundS l f) i := fun b e1 e2 => by rw [em, e1, e2]; simp
          simp +contextual (maxSteps := 2000000) only [go_sem, Nat.reduceEqDiff, reduceCtorEq, Nat.reduceAdd, Nat.reduceLeDiff, t2, l2, t3, l3, t4, l4, t6, l6, t7, t132, t133, t134, kl.iaddr hi, kl.whole hi, encQ, lt_true hi, yi, y2]
          refine wp_call (c_clipbP _ _ h' (x.sl.at hio hsl).pairs) ?_
          rintro r h3 ⟨rfl, n3, hb3⟩
          obtain ⟨c, rfl⟩ := n3.one
          simp +contextual (maxSteps := 2000000) only [go_sem, Nat.reduceEqDiff, reduceCtorEq, Nat.reduceAdd, Nat.reduceLeDiff, t2, l2, t3, l3, t4, l4, t6, l6, t7, t132, t133, t134, yi]
          refine wp_set (x := { rs[i] with pv := c }) (off := 2) (vs := [c]) lenY x.sl.out.out hio rfl rfl (Nat.le_of_ble_eq_true rfl) gg ?_
          intro h4 g4 n4 s4
          have z := x.app_pairs hio hsl n3 ((Grow.refl _).stay _) (fun j hj => .inl (hb3 j hj)) n4 s4
          have ez : ({ (boundS l f)[i] with pairs := (boundS l f)[i].pairs } : Slot) = (boundS l f)[i] := rfl
          rw [ez, List.set_getElem_self] at z
          have hio2 : i < (rs.set i { rs[i] with pv := c }).length := by simpa using hio
          have yi2 := z.sl.out.out.iaddr hio2 (kd := .i64)
          have y02 := (z.sl.out.out.sl lenY).fieldO (off := 0) hio2 (by omega)
          rw [encY_0, (z.sl.at hio2 hsl).given] at y02
          cases b1 : single l[i] with
          | false =>
            rw [b1, Bool.false_and] at el
            simp +contextual (maxSteps := 2000000) only [go_sem, Nat.reduceEqDiff, reduceCtorEq, Nat.reduceAdd, Nat.reduceLeDiff, t2, l2, t3, l3, t4, l4, t6, l6, t7, t132, t133, t134, es, b1]
            exact ⟨g4, ⟨w, _, rfl, by rw [done _ el rfl]; exact z⟩, by rw [wrap_next hi (by omega)]⟩
          | true =>
          cases b2 : l[i].has with
          | true =>
            rw [b1, b2] at el
            simp only [b2] at es
            simp +contextual (maxSteps := 2000000) only [go_sem, Nat.reduceEqDiff, reduceCtorEq, Nat.reduceAdd, Nat.reduceLeDiff, t2, l2, t3, l3, t4, l4, t6, l6, t7, t132, t133, t134, es, b1, b2]
            exact ⟨g4, ⟨w, _, rfl, by rw [done _ el rfl]; exact z⟩, by rw [wrap_next hi (by omega)]⟩
          | false =>
          simp only [b2] at es
          cases b3 : (boundS l f)[i].given with
          | true =>
            rw [b1, b2, b3] at el
            rw [b3] at y02
            simp +contextual (maxSteps := 2000000) only [go_sem, Nat.reduceEqDiff, reduceCtorEq, Nat.reduceAdd, Nat.reduceLeDiff, t2, l2, t3, l3, t4, l4, t6, l6, t7, t132, t133, t134, es, b1, b2, yi2, y02]
            exact ⟨g4, ⟨w, _, rfl, by rw [done _ el rfl]; exact z⟩, by rw [wrap_next hi (by omega)]⟩
          | false =>
            rw [b1, b2, b3] at el
            rw [b3] at y02
            simp +contextual (maxSteps := 2000000) only [go_sem, Nat.reduceEqDiff, reduceCtorEq, Nat.reduceAdd, Nat.reduceLeDiff, t2, l2, t3, l3, t4, l4, t6, l6, t7, t132, t133, t134, es, b1, b2, yi2, y02]
            refine wp_lit (enc := encB) (k := 2) (l := [⟨3, l[i].name⟩]) rfl rfl ?_
            intro h5 w5 g5 n5 _
            simp +contextual (maxSteps := 2000000) only [go_sem, Nat.reduceEqDiff, reduceCtorEq, Nat.reduceAdd, Nat.reduceLeDiff, t2, l2, t3, l3, t4, l4, t6, l6, t7, t132, t133, t134]
            refine wp_append lenB (z.pr.grow g5) (n5.sl lenB) (g4.trans g5) (by simp; omega) ?_
            intro h6 s6 g6 n6 st6 hb6
            obtain ⟨c6, rfl⟩ := n6.one
            have z6 := (z.grow g5).push n6 st6 hb6
            simp +contextual (maxSteps := 2000000) only [go_sem, Nat.reduceEqDiff, reduceCtorEq, Nat.reduceAdd, Nat.reduceLeDiff, t2, l2, t3, l3, t4, l4, t6, l6, t7, t132, t133, t134]
            have e9 : missF l (boundS l f) (i + 1) = missF l (boundS l f) i ++ [⟨3, l[i].name⟩] := by rw [em, el]; rfl
            rw [List.append_assoc, ← e9] at z6
            exact ⟨g6, ⟨c6, _, rfl, z6⟩, by rw [wrap_next hi (by omega)]⟩
        · rintro T L h' ⟨gg, t2, l2, t3, l3, t4, l4, t6, l6, ⟨w, rs, t7, x⟩, t132, t133, t134⟩
          simp +contextual (maxSteps := 2000000) only [go_sem, Nat.reduceEqDiff, reduceCtorEq, Nat.reduceAdd, Nat.reduceLeDiff, t2, l2, t3, l3, t4, l4, t6, l6, t7, t132, t133, t134, lt_false]
          refine wp_call (c_clipbB _ _ h' x.pr) ?_
          rintro r h3 ⟨rfl, n3, hb3⟩
          obtain ⟨c, rfl⟩ := n3.one
          have z := x.push n3 ((Grow.refl _).stay _) (fun j hj => .inl (hb3 j hj))
          simp +contextual (maxSteps := 2000000) only [go_sem, Nat.reduceEqDiff, reduceCtorEq, Nat.reduceAdd, Nat.reduceLeDiff, t2, l2, t3, l3, t4, l4, t6, l6]
          exact gcK_of ⟨gg, _, _, _, rfl, z⟩ (fun hs _ => by
            simp only [AV.scalar, AV.scalars, List.all_cons, List.all_nil, Bool.and_true, Bool.and_eq_true] at hs
            exact ⟨Grow.refl h, _, _, _, rfl, z.scalar hs.1 hs.2 h⟩)
        · simp +contextual (maxSteps := 2000000) only [go_sem, Nat.reduceEqDiff, reduceCtorEq, Nat.reduceAdd, Nat.reduceLeDiff, t2, l2, t3, l3, t4, l4, t6, l6, t7]
          exact ⟨gg, ⟨w, rs, rfl, x⟩, rfl⟩
      · simp +contextual (maxSteps := 2000000) only [go_sem, Nat.reduceEqDiff, reduceCtorEq, Nat.reduceAdd, Nat.reduceLeDiff, t2, l2, t3, l3, t4, l4, t6, l6, t7]
        rw [nameF_zero]
        exact ⟨gg, ⟨_, _, rfl, x⟩, rfl⟩
  · simp +contextual (maxSteps := 2000000) only [go_sem, Nat.reduceEqDiff, reduceCtorEq, Nat.reduceAdd, Nat.reduceLeDiff]
    have z0 : BdY h h1 v (.sl none 0 (some 0)) (List.replicate l.length zeroR) (fillS l f.pl 0) [] := by
      rw [fillS_zero]
      exact ⟨.zeros n1, .nil, Sep.nil, fun i hi => Sep.nil, fun i hi => Sep.nil⟩
    exact ⟨g1, ⟨.one p, rfl, by rw [leftAt_zero]; exact hf.pl.grow g1, fun j hj => hf.pl.lt_of hj⟩, rfl, _, z0⟩
end Go.Proofs.Ytekkimfdcbgcoaa.Am
