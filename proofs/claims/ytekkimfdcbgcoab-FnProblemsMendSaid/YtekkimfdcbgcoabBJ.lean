/- Contracts: what a call gives to the parameters, of the program. -/
import Derived.Test.YtekkimfdcbgcoabA4
import Derived.Test.YtekkimfdcbgcoabBI
namespace Go.Proofs.Ytekkimfdcbgcoab.Am
open Go
set_option maxRecDepth 100000
set_option maxHeartbeats 4000000
set_option linter.unusedSimpArgs false
set_option linter.unusedVariables false
attribute [local go_sem ↓] bv_t bv_c ev_t ev_c put_same put_ne put_none kill_at pro_at lb_same lb_ne start_zero start_succ wpC_seq wpC_reg wpC_cond wpC_block wpC_skip wpC_exit wpC_ret thenQ_normal thenQ_exit thenQ_ret inBlk_normal inBlk_exit inBlk_ret wpS_nil wpS_step wpS_again wpS_guard wpO_mov wpO_load wpO_faddr wpO_nilCheck wpO_pick wpO_build wpO_bin wpO_eqb wpO_eqst wpO_eqnil wpO_not wpO_conv wpO_bytesStr wpO_iaddr wpO_idxStr wpO_field wpO_extract wpO_len wpO_lenStr wpO_cap wpO_min wpO_slice wpO_sliceStr wpO_alloc wpO_box wpO_store wpO_call wpO_callv wpO_mkfn wpO_buildSlice wpO_mkslice wpO_append wpO_appz proA_nil proA_cons tmpX_nil tmpX_tmp tmpX_cell doneB_normal doneB_ret agK_cons agK_nil agK_guard agG_tt agG_ff agG_tf agG_ft agG_undef pureB_load results_one results_two results_nil resBs_cons resBs_nil resB_tmp resB_cell
attribute [local go_sem] kill_v kill_lp_ne kill_lp_same pro_v pro_lp_same pro_lp_ne av_v av_lp optB_some optX_some valX_eq ldX_lp ldX_v faX_lp faX_v ncX_lp ncX_ptr ncX_fn boxK_one boxK_agg stL_some stK_lp_one stK_lp_agg stK_v_one stK_v_agg proM_v proM_lp callG_mk callVG_mk callvK_fn fnG_mk ptrsA_nil ptrsA_cons callH_some whenA_true whenA_false guardH_tt guardH_ff guardH_tf guardH_ft guardH_undef agV_one agV_agg lenO_sl lenStrO_str notO_bool pickO_bool convO_int eqbO_bool eqnilO_sl extractO_tup capO_sl minO_int loadL_one loadL_all storeL_eq fillA_nil fillA_one fillA_agg nat_ge neg_ge nat_lt neg_lt buildO bin_add bin_sub bin_mul bin_eql bin_neq bin_lss bin_leq bin_gtr bin_geq str_eql str_neq str_lss str_leq str_gtr str_geq retK_some endK_mk gcK_same gcK_int gcK_bool tupO_one tupO_agg rdy_self ib ii Option.map_none Option.map_some Option.some.injEq exists_eq_left' exists_eq_left ne_eq not_false_eq_true if_true if_false List.map_cons List.map_nil List.getElem?_cons_zero List.getElem?_cons_succ List.length_cons List.length_nil List.take_succ_cons List.take_zero List.take_nil List.drop_succ_cons List.drop_zero List.drop_nil List.cons_append List.nil_append List.append_nil List.set_cons_zero List.set_cons_succ Nat.zero_add forall_const true_and and_true and_self Bool.false_eq_true false_implies true_implies implies_true Bool.not_true Bool.not_false Bool.not_eq_true' Bool.not_eq_false' beq_self_eq_true Bool.bne_true Bool.bne_false
attribute [local go_sem] lenI lenS lenP lenQ lenB lenL lenT encI_0 encS_0 encP_0 encP_1 encQ_0 encQ_1 encQ_2 encQ_3 encB_0 encB_1 encL_0 encL_1 encT_0 encT_1
attribute [local go_sem low] whenA_bool guardH_bool
attribute [local go_sem] lenY encY_0 encY_1 encY_2
/-! impl.bind -/
def L65_0 : List AStep := [⟨.alloc 56 [(.sl none 0 (some 0))], (some 4), none, []⟩, ⟨.mov (.c (.sl none 0 (some 0))), (some 5), none, []⟩]
theorem v65_0 : VS L65_0.eq_1 := rfl
def L65_1 : List AStep := ⟨.box 25 (.t 0), (some 2), none, []⟩ :: ⟨.box 29 (.t 1), (some 3), none, []⟩ :: L65_0
theorem v65_1 : VS L65_1.eq_1 := rfl
def L65_2 : List AStep := [⟨.store 1 (.t 6) (.t 20), none, none, []⟩]
theorem v65_2 : VS L65_2.eq_1 := rfl
def L65_3 : List AStep := ⟨.build [(.sl none 0 (some 0))] [(0, 1, (.t 19))], (some 20), none, []⟩ :: ⟨.alloc 56 [(.sl none 0 (some 0))], (some 6), none, []⟩ :: L65_2
theorem v65_3 : VS L65_3.eq_1 := rfl
def L65_4 : List AStep := ⟨.len (.t 17), (some 18), none, []⟩ :: ⟨.mkslice 94 56 [(.bool false), (.sl none 0 (some 0)), (.sl none 0 (some 0))] (.t 18) (.t 18), (some 19), none, []⟩ :: L65_3
theorem v65_4 : VS L65_4.eq_1 := rfl
def L65_5 : List AStep := ⟨.faddr 0 (.t 2), (some 16), none, []⟩ :: ⟨.load 1 false (.t 16), (some 17), none, []⟩ :: L65_4
theorem v65_5 : VS L65_5.eq_1 := rfl
def L65_6 : List AStep := [⟨.mov (.c (.sl none 0 (some 0))), (some 7), none, []⟩]
theorem v65_6 : VS L65_6.eq_1 := rfl
def L65_7 : List AStep := [⟨.mov (.t 22), (some 8), none, []⟩]
theorem v65_7 : VS L65_7.eq_1 := rfl
def L65_8 : List AStep := ⟨.faddr 0 (.t 3), (some 21), none, []⟩ :: ⟨.load 1 false (.t 21), (some 22), none, []⟩ :: L65_7
theorem v65_8 : VS L65_8.eq_1 := rfl
def L65_9 : List AStep := [⟨.len (.t 24), (some 25), none, []⟩, ⟨.mov (.c (.int .i64 0)), (some 26), none, []⟩]
theorem v65_9 : VS L65_9.eq_1 := rfl
def L65_10 : List AStep := ⟨.faddr 0 (.t 2), (some 23), none, []⟩ :: ⟨.load 1 false (.t 23), (some 24), none, []⟩ :: L65_9
theorem v65_10 : VS L65_10.eq_1 := rfl
def L65_11 : List AStep := [⟨.bin .lss (.t 26) (.t 25), (some 27), none, []⟩]
theorem v65_11 : VS L65_11.eq_1 := rfl
def L65_12 : List AStep := [⟨.mov (.t 28), (some 9), none, []⟩, ⟨.store 4 (.t 10) (.t 30), none, none, []⟩]
theorem v65_12 : VS L65_12.eq_1 := rfl
def L65_13 : List AStep := ⟨.load 4 true (.t 29), (some 30), none, []⟩ :: ⟨.alloc 39 [(.str (strOfNums [])), (.int .i64 0), (.bool false), (.int .i64 0)], (some 10), none, []⟩ :: L65_12
theorem v65_13 : VS L65_13.eq_1 := rfl
def L65_14 : List AStep := ⟨.mov (.t 26), (some 28), none, []⟩ :: ⟨.iaddr 4 (.t 24) (.t 26), (some 29), none, []⟩ :: L65_13
theorem v65_14 : VS L65_14.eq_1 := rfl
def L65_15 : List AStep := [⟨.pick (.t 33) (.t 36) (.c (.bool false)), (some 37), none, []⟩]
theorem v65_15 : VS L65_15.eq_1 := rfl
def L65_16 : List AStep := ⟨.len (.t 34), (some 35), (some (33, true)), []⟩ :: ⟨.bin .gtr (.t 35) (.c (.int .i64 0)), (some 36), (some (33, true)), []⟩ :: L65_15
theorem v65_16 : VS L65_16.eq_1 := rfl
def L65_17 : List AStep := ⟨.mov (.t 32), (some 33), none, []⟩ :: ⟨.mov (.t 8), (some 34), (some (33, true)), []⟩ :: L65_16
theorem v65_17 : VS L65_17.eq_1 := rfl
def L65_18 : List AStep := ⟨.load 4 true (.t 10), (some 31), none, []⟩ :: ⟨.call 51 [(.t 31)], (some 32), none, []⟩ :: L65_17
theorem v65_18 : VS L65_18.eq_1 := rfl
def L65_19 : List AStep := [⟨.iaddr 3 (.t 39) (.t 40), (some 46), none, []⟩, ⟨.store 3 (.t 46) (.t 45), none, none, []⟩]
theorem v65_19 : VS L65_19.eq_1 := rfl
def L65_20 : List AStep := ⟨.buildSlice 3 1 [(.int .i64 0)] [(0, 1, (.t 43))], (some 44), none, []⟩ :: ⟨.build [(.bool false), (.sl none 0 (some 0)), (.sl none 0 (some 0))] [(0, 1, (.c (.bool true))), (1, 1, (.t 44))], (some 45), none, []⟩ :: L65_19
theorem v65_20 : VS L65_20.eq_1 := rfl
def L65_21 : List AStep := ⟨.iaddr 1 (.t 41) (.c (.int .i64 0)), (some 42), none, []⟩ :: ⟨.load 1 false (.t 42), (some 43), none, []⟩ :: L65_20
theorem v65_21 : VS L65_21.eq_1 := rfl
def L65_22 : List AStep := ⟨.mov (.t 9), (some 40), none, []⟩ :: ⟨.mov (.t 8), (some 41), none, []⟩ :: L65_21
theorem v65_22 : VS L65_22.eq_1 := rfl
def L65_23 : List AStep := ⟨.faddr 0 (.t 6), (some 38), none, []⟩ :: ⟨.load 1 false (.t 38), (some 39), none, []⟩ :: L65_22
theorem v65_23 : VS L65_23.eq_1 := rfl
def L65_24 : List AStep := [⟨.mov (.t 48), (some 8), none, []⟩]
theorem v65_24 : VS L65_24.eq_1 := rfl
def L65_25 : List AStep := ⟨.mov (.t 8), (some 47), none, []⟩ :: ⟨.slice 3 1 (.t 47) (some (.c (.int .i64 1))) none none, (some 48), none, []⟩ :: L65_24
theorem v65_25 : VS L65_25.eq_1 := rfl
def L65_26 : List AStep := [⟨.bin .eql (.t 50) (.c (.int .i64 2)), (some 51), none, []⟩]
theorem v65_26 : VS L65_26.eq_1 := rfl
def L65_27 : List AStep := ⟨.faddr 1 (.t 10), (some 49), none, []⟩ :: ⟨.load 1 false (.t 49), (some 50), none, []⟩ :: L65_26
theorem v65_27 : VS L65_27.eq_1 := rfl
def L65_28 : List AStep := [⟨.faddr 1 (.t 57), (some 58), none, []⟩, ⟨.store 1 (.t 58) (.t 56), none, none, []⟩]
theorem v65_28 : VS L65_28.eq_1 := rfl
def L65_29 : List AStep := ⟨.call 109 [(.t 55)], (some 56), none, [(.load 1 false (.t 52), (some 53), none)]⟩ :: ⟨.iaddr 3 (.t 53) (.t 54), (some 57), none, []⟩ :: L65_28
theorem v65_29 : VS L65_29.eq_1 := rfl
def L65_30 : List AStep := ⟨.mov (.t 9), (some 54), none, []⟩ :: ⟨.mov (.t 8), (some 55), none, []⟩ :: L65_29
theorem v65_30 : VS L65_30.eq_1 := rfl
def L65_31 : List AStep := ⟨.faddr 0 (.t 6), (some 52), none, []⟩ :: ⟨.load 1 false (.t 52), (some 53), none, []⟩ :: L65_30
theorem v65_31 : VS L65_31.eq_1 := rfl
def L65_32 : List AStep := [⟨.mov (.c (.sl none 0 (some 0))), (some 8), none, []⟩]
theorem v65_32 : VS L65_32.eq_1 := rfl
def L65_33 : List AStep := [⟨.bin .add (.t 26) (.c (.int .i64 1)), (some 59), none, []⟩, ⟨.mov (.t 59), (some 26), none, []⟩]
theorem v65_33 : VS L65_33.eq_1 := rfl
def L65_34 : List AStep := [⟨.bin .gtr (.t 61) (.c (.int .i64 0)), (some 62), none, []⟩]
theorem v65_34 : VS L65_34.eq_1 := rfl
def L65_35 : List AStep := ⟨.mov (.t 8), (some 60), none, []⟩ :: ⟨.len (.t 60), (some 61), none, []⟩ :: L65_34
theorem v65_35 : VS L65_35.eq_1 := rfl
def L65_36 : List AStep := [⟨.mov (.t 66), (some 7), none, []⟩]
theorem v65_36 : VS L65_36.eq_1 := rfl
def L65_37 : List AStep := ⟨.buildSlice 52 1 [(.int .i64 0), (.str (strOfNums []))] [(0, 2, (.t 64))], (some 65), none, []⟩ :: ⟨.append 52 2 24 (.t 63) (.t 65), (some 66), none, []⟩ :: L65_36
theorem v65_37 : VS L65_37.eq_1 := rfl
def L65_38 : List AStep := ⟨.mov (.t 7), (some 63), none, []⟩ :: ⟨.build [(.int .i64 0), (.str (strOfNums []))] [(0, 1, (.c (.int .i64 0))), (1, 1, (.c (.str (strOfNums []))))], (some 64), none, []⟩ :: L65_37
theorem v65_38 : VS L65_38.eq_1 := rfl
def L65_39 : List AStep := [⟨.len (.t 68), (some 69), none, []⟩, ⟨.mov (.c (.int .i64 0)), (some 70), none, []⟩]
theorem v65_39 : VS L65_39.eq_1 := rfl
def L65_40 : List AStep := ⟨.faddr 1 (.t 3), (some 67), none, []⟩ :: ⟨.load 1 false (.t 67), (some 68), none, []⟩ :: L65_39
theorem v65_40 : VS L65_40.eq_1 := rfl
def L65_41 : List AStep := [⟨.bin .lss (.t 70) (.t 69), (some 71), none, []⟩]
theorem v65_41 : VS L65_41.eq_1 := rfl
def L65_42 : List AStep := [⟨.alloc 64 [(.str (strOfNums [])), (.int .i64 0)], (some 12), none, []⟩, ⟨.store 2 (.t 12) (.t 73), none, none, []⟩]
theorem v65_42 : VS L65_42.eq_1 := rfl
def L65_43 : List AStep := ⟨.iaddr 2 (.t 68) (.t 70), (some 72), none, []⟩ :: ⟨.load 2 true (.t 72), (some 73), none, []⟩ :: L65_42
theorem v65_43 : VS L65_43.eq_1 := rfl
def L65_44 : List AStep := [⟨.mov (.t 77), (some 13), none, []⟩]
theorem v65_44 : VS L65_44.eq_1 := rfl
def L65_45 : List AStep := ⟨.load 1 false (.t 75), (some 76), none, []⟩ :: ⟨.call 112 [(.t 74), (.t 76)], (some 77), none, []⟩ :: L65_44
theorem v65_45 : VS L65_45.eq_1 := rfl
def L65_46 : List AStep := ⟨.load 1 true (.t 2), (some 74), none, []⟩ :: ⟨.faddr 0 (.t 12), (some 75), none, []⟩ :: L65_45
theorem v65_46 : VS L65_46.eq_1 := rfl
def L65_47 : List AStep := [⟨.mov (.t 88), (some 86), none, []⟩]
theorem v65_47 : VS L65_47.eq_1 := rfl
def L65_48 : List AStep := ⟨.mov (.t 13), (some 87), none, []⟩ :: ⟨.bin .lss (.t 87) (.c (.int .i64 0)), (some 88), none, []⟩ :: L65_47
theorem v65_48 : VS L65_48.eq_1 := rfl
def L65_49 : List AStep := [⟨.mov (.t 94), (some 7), none, []⟩]
theorem v65_49 : VS L65_49.eq_1 := rfl
def L65_50 : List AStep := ⟨.buildSlice 52 1 [(.int .i64 0), (.str (strOfNums []))] [(0, 2, (.t 92))], (some 93), none, []⟩ :: ⟨.append 52 2 24 (.t 89) (.t 93), (some 94), none, []⟩ :: L65_49
theorem v65_50 : VS L65_50.eq_1 := rfl
def L65_51 : List AStep := ⟨.load 1 false (.t 90), (some 91), none, []⟩ :: ⟨.build [(.int .i64 0), (.str (strOfNums []))] [(0, 1, (.c (.int .i64 1))), (1, 1, (.t 91))], (some 92), none, []⟩ :: L65_50
theorem v65_51 : VS L65_51.eq_1 := rfl
def L65_52 : List AStep := ⟨.mov (.t 7), (some 89), none, []⟩ :: ⟨.faddr 0 (.t 12), (some 90), none, []⟩ :: L65_51
theorem v65_52 : VS L65_52.eq_1 := rfl
def L65_53 : List AStep := [⟨.bin .eql (.t 101) (.c (.int .i64 4)), (some 102), none, []⟩, ⟨.mov (.t 102), (some 95), none, []⟩]
theorem v65_53 : VS L65_53.eq_1 := rfl
def L65_54 : List AStep := ⟨.faddr 1 (.t 99), (some 100), none, []⟩ :: ⟨.load 1 false (.t 100), (some 101), none, []⟩ :: L65_53
theorem v65_54 : VS L65_54.eq_1 := rfl
def L65_55 : List AStep := ⟨.mov (.t 13), (some 98), none, []⟩ :: ⟨.iaddr 4 (.t 97) (.t 98), (some 99), none, []⟩ :: L65_54
theorem v65_55 : VS L65_55.eq_1 := rfl
def L65_56 : List AStep := ⟨.faddr 0 (.t 2), (some 96), none, []⟩ :: ⟨.load 1 false (.t 96), (some 97), none, []⟩ :: L65_55
theorem v65_56 : VS L65_56.eq_1 := rfl
def L65_57 : List AStep := [⟨.store 1 (.t 116) (.t 114), none, none, []⟩]
theorem v65_57 : VS L65_57.eq_1 := rfl
def L65_58 : List AStep := ⟨.iaddr 3 (.t 104) (.t 105), (some 115), none, []⟩ :: ⟨.faddr 2 (.t 115), (some 116), none, []⟩ :: L65_57
theorem v65_58 : VS L65_58.eq_1 := rfl
def L65_59 : List AStep := ⟨.buildSlice 64 1 [(.str (strOfNums [])), (.int .i64 0)] [(0, 2, (.t 112))], (some 113), none, []⟩ :: ⟨.append 64 2 24 (.t 111) (.t 113), (some 114), none, [(.load 1 false (.t 103), (some 104), none)]⟩ :: L65_58
theorem v65_59 : VS L65_59.eq_1 := rfl
def L65_60 : List AStep := ⟨.load 1 false (.t 110), (some 111), none, []⟩ :: ⟨.load 2 true (.t 12), (some 112), none, []⟩ :: L65_59
theorem v65_60 : VS L65_60.eq_1 := rfl
def L65_61 : List AStep := ⟨.iaddr 3 (.t 107) (.t 108), (some 109), none, []⟩ :: ⟨.faddr 2 (.t 109), (some 110), none, []⟩ :: L65_60
theorem v65_61 : VS L65_61.eq_1 := rfl
def L65_62 : List AStep := ⟨.load 1 false (.t 106), (some 107), none, []⟩ :: ⟨.mov (.t 13), (some 108), none, []⟩ :: L65_61
theorem v65_62 : VS L65_62.eq_1 := rfl
def L65_63 : List AStep := ⟨.mov (.t 13), (some 105), none, []⟩ :: ⟨.faddr 0 (.t 6), (some 106), none, []⟩ :: L65_62
theorem v65_63 : VS L65_63.eq_1 := rfl
def L65_64 : List AStep := ⟨.faddr 0 (.t 6), (some 103), none, []⟩ :: ⟨.load 1 false (.t 103), (some 104), none, []⟩ :: L65_63
theorem v65_64 : VS L65_64.eq_1 := rfl
def L65_65 : List AStep := [⟨.mov (.t 123), (some 117), none, []⟩]
theorem v65_65 : VS L65_65.eq_1 := rfl
def L65_66 : List AStep := ⟨.faddr 0 (.t 121), (some 122), none, []⟩ :: ⟨.load 1 false (.t 122), (some 123), none, []⟩ :: L65_65
theorem v65_66 : VS L65_66.eq_1 := rfl
def L65_67 : List AStep := ⟨.mov (.t 13), (some 120), none, []⟩ :: ⟨.iaddr 3 (.t 119) (.t 120), (some 121), none, []⟩ :: L65_66
theorem v65_67 : VS L65_67.eq_1 := rfl
def L65_68 : List AStep := ⟨.faddr 0 (.t 6), (some 118), none, []⟩ :: ⟨.load 1 false (.t 118), (some 119), none, []⟩ :: L65_67
theorem v65_68 : VS L65_68.eq_1 := rfl
def L65_69 : List AStep := [⟨.mov (.t 129), (some 7), none, []⟩]
theorem v65_69 : VS L65_69.eq_1 := rfl
def L65_70 : List AStep := ⟨.buildSlice 52 1 [(.int .i64 0), (.str (strOfNums []))] [(0, 2, (.t 127))], (some 128), none, []⟩ :: ⟨.append 52 2 24 (.t 124) (.t 128), (some 129), none, []⟩ :: L65_69
theorem v65_70 : VS L65_70.eq_1 := rfl
def L65_71 : List AStep := ⟨.load 1 false (.t 125), (some 126), none, []⟩ :: ⟨.build [(.int .i64 0), (.str (strOfNums []))] [(0, 1, (.c (.int .i64 2))), (1, 1, (.t 126))], (some 127), none, []⟩ :: L65_70
theorem v65_71 : VS L65_71.eq_1 := rfl
def L65_72 : List AStep := ⟨.mov (.t 7), (some 124), none, []⟩ :: ⟨.faddr 0 (.t 12), (some 125), none, []⟩ :: L65_71
theorem v65_72 : VS L65_72.eq_1 := rfl
def L65_73 : List AStep := [⟨.store 3 (.t 85) (.t 84), none, none, []⟩]
theorem v65_73 : VS L65_73.eq_1 := rfl
def L65_74 : List AStep := ⟨.build [(.bool false), (.sl none 0 (some 0)), (.sl none 0 (some 0))] [(0, 1, (.c (.bool true))), (1, 1, (.t 83))], (some 84), none, []⟩ :: ⟨.iaddr 3 (.t 79) (.t 80), (some 85), none, []⟩ :: L65_73
theorem v65_74 : VS L65_74.eq_1 := rfl
def L65_75 : List AStep := ⟨.load 1 false (.t 81), (some 82), none, []⟩ :: ⟨.buildSlice 3 1 [(.int .i64 0)] [(0, 1, (.t 82))], (some 83), none, []⟩ :: L65_74
theorem v65_75 : VS L65_75.eq_1 := rfl
def L65_76 : List AStep := ⟨.mov (.t 13), (some 80), none, []⟩ :: ⟨.faddr 1 (.t 12), (some 81), none, []⟩ :: L65_75
theorem v65_76 : VS L65_76.eq_1 := rfl
def L65_77 : List AStep := ⟨.faddr 0 (.t 6), (some 78), none, []⟩ :: ⟨.load 1 false (.t 78), (some 79), none, []⟩ :: L65_76
theorem v65_77 : VS L65_77.eq_1 := rfl
def L65_78 : List AStep := [⟨.bin .add (.t 70) (.c (.int .i64 1)), (some 130), none, []⟩, ⟨.mov (.t 130), (some 70), none, []⟩]
theorem v65_78 : VS L65_78.eq_1 := rfl
def L65_79 : List AStep := [⟨.len (.t 132), (some 133), none, []⟩, ⟨.mov (.c (.int .i64 0)), (some 134), none, []⟩]
theorem v65_79 : VS L65_79.eq_1 := rfl
def L65_80 : List AStep := ⟨.faddr 0 (.t 2), (some 131), none, []⟩ :: ⟨.load 1 false (.t 131), (some 132), none, []⟩ :: L65_79
theorem v65_80 : VS L65_80.eq_1 := rfl
def L65_81 : List AStep := [⟨.bin .lss (.t 134) (.t 133), (some 135), none, []⟩]
theorem v65_81 : VS L65_81.eq_1 := rfl
def L65_82 : List AStep := [⟨.mov (.t 136), (some 14), none, []⟩, ⟨.store 4 (.t 15) (.t 138), none, none, []⟩]
theorem v65_82 : VS L65_82.eq_1 := rfl
def L65_83 : List AStep := ⟨.load 4 true (.t 137), (some 138), none, []⟩ :: ⟨.alloc 39 [(.str (strOfNums [])), (.int .i64 0), (.bool false), (.int .i64 0)], (some 15), none, []⟩ :: L65_82
theorem v65_83 : VS L65_83.eq_1 := rfl
def L65_84 : List AStep := ⟨.mov (.t 134), (some 136), none, []⟩ :: ⟨.iaddr 4 (.t 132) (.t 134), (some 137), none, []⟩ :: L65_83
theorem v65_84 : VS L65_84.eq_1 := rfl
def L65_85 : List AStep := [⟨.store 1 (.t 150) (.t 148), none, none, []⟩]
theorem v65_85 : VS L65_85.eq_1 := rfl
def L65_86 : List AStep := ⟨.iaddr 3 (.t 140) (.t 141), (some 149), none, []⟩ :: ⟨.faddr 2 (.t 149), (some 150), none, []⟩ :: L65_85
theorem v65_86 : VS L65_86.eq_1 := rfl
def L65_87 : List AStep := ⟨.load 1 false (.t 146), (some 147), none, []⟩ :: ⟨.call 113 [(.t 147)], (some 148), none, [(.load 1 false (.t 139), (some 140), none)]⟩ :: L65_86
theorem v65_87 : VS L65_87.eq_1 := rfl
def L65_88 : List AStep := ⟨.iaddr 3 (.t 143) (.t 144), (some 145), none, []⟩ :: ⟨.faddr 2 (.t 145), (some 146), none, []⟩ :: L65_87
theorem v65_88 : VS L65_88.eq_1 := rfl
def L65_89 : List AStep := ⟨.load 1 false (.t 142), (some 143), none, []⟩ :: ⟨.mov (.t 14), (some 144), none, []⟩ :: L65_88
theorem v65_89 : VS L65_89.eq_1 := rfl
def L65_90 : List AStep := ⟨.mov (.t 14), (some 141), none, []⟩ :: ⟨.faddr 0 (.t 6), (some 142), none, []⟩ :: L65_89
theorem v65_90 : VS L65_90.eq_1 := rfl
def L65_91 : List AStep := ⟨.faddr 0 (.t 6), (some 139), none, []⟩ :: ⟨.load 1 false (.t 139), (some 140), none, []⟩ :: L65_90
theorem v65_91 : VS L65_91.eq_1 := rfl
def L65_92 : List AStep := [⟨.not (.t 164), (some 165), (some (158, true)), []⟩, ⟨.pick (.t 158) (.t 165) (.c (.bool false)), (some 166), none, []⟩]
theorem v65_92 : VS L65_92.eq_1 := rfl
def L65_93 : List AStep := ⟨.faddr 0 (.t 162), (some 163), (some (158, true)), []⟩ :: ⟨.load 1 false (.t 163), (some 164), (some (158, true)), []⟩ :: L65_92
theorem v65_93 : VS L65_93.eq_1 := rfl
def L65_94 : List AStep := ⟨.mov (.t 14), (some 161), (some (158, true)), []⟩ :: ⟨.iaddr 3 (.t 160) (.t 161), (some 162), (some (158, true)), []⟩ :: L65_93
theorem v65_94 : VS L65_94.eq_1 := rfl
def L65_95 : List AStep := ⟨.faddr 0 (.t 6), (some 159), (some (158, true)), []⟩ :: ⟨.load 1 false (.t 159), (some 160), (some (158, true)), []⟩ :: L65_94
theorem v65_95 : VS L65_95.eq_1 := rfl
def L65_96 : List AStep := ⟨.pick (.t 153) (.t 156) (.c (.bool false)), (some 157), none, []⟩ :: ⟨.mov (.t 157), (some 158), none, []⟩ :: L65_95
theorem v65_96 : VS L65_96.eq_1 := rfl
def L65_97 : List AStep := ⟨.load 1 false (.t 154), (some 155), (some (153, true)), []⟩ :: ⟨.not (.t 155), (some 156), (some (153, true)), []⟩ :: L65_96
theorem v65_97 : VS L65_97.eq_1 := rfl
def L65_98 : List AStep := ⟨.mov (.t 152), (some 153), none, []⟩ :: ⟨.faddr 2 (.t 15), (some 154), (some (153, true)), []⟩ :: L65_97
theorem v65_98 : VS L65_98.eq_1 := rfl
def L65_99 : List AStep := ⟨.load 4 true (.t 15), (some 151), none, []⟩ :: ⟨.call 76 [(.t 151)], (some 152), none, []⟩ :: L65_98
theorem v65_99 : VS L65_99.eq_1 := rfl
def L65_100 : List AStep := [⟨.mov (.t 172), (some 7), none, []⟩]
theorem v65_100 : VS L65_100.eq_1 := rfl
def L65_101 : List AStep := ⟨.buildSlice 52 1 [(.int .i64 0), (.str (strOfNums []))] [(0, 2, (.t 170))], (some 171), none, []⟩ :: ⟨.append 52 2 24 (.t 167) (.t 171), (some 172), none, []⟩ :: L65_100
theorem v65_101 : VS L65_101.eq_1 := rfl
def L65_102 : List AStep := ⟨.load 1 false (.t 168), (some 169), none, []⟩ :: ⟨.build [(.int .i64 0), (.str (strOfNums []))] [(0, 1, (.c (.int .i64 3))), (1, 1, (.t 169))], (some 170), none, []⟩ :: L65_101
theorem v65_102 : VS L65_102.eq_1 := rfl
def L65_103 : List AStep := ⟨.mov (.t 7), (some 167), none, []⟩ :: ⟨.faddr 0 (.t 15), (some 168), none, []⟩ :: L65_102
theorem v65_103 : VS L65_103.eq_1 := rfl
def L65_104 : List AStep := [⟨.bin .add (.t 134) (.c (.int .i64 1)), (some 173), none, []⟩, ⟨.mov (.t 173), (some 134), none, []⟩]
theorem v65_104 : VS L65_104.eq_1 := rfl
def L65_105 : List AStep := [⟨.mov (.t 176), (some 5), none, []⟩]
theorem v65_105 : VS L65_105.eq_1 := rfl
def L65_106 : List AStep := ⟨.call 114 [(.t 175)], (some 176), none, [(.load 1 true (.t 6), (some 174), none)]⟩ :: ⟨.store 1 (.t 4) (.t 174), none, none, []⟩ :: L65_105
theorem v65_106 : VS L65_106.eq_1 := rfl
def L65_107 : List AStep := ⟨.load 1 true (.t 6), (some 174), none, []⟩ :: ⟨.mov (.t 7), (some 175), none, []⟩ :: L65_106
theorem v65_107 : VS L65_107.eq_1 := rfl
def C65_0 : ACode := .cond (.t 27) .skip (.exit 0)
theorem u65_0 : VC C65_0.eq_1 := rfl
def C65_1 : ACode := .seq (.reg L65_23) (.reg L65_25)
theorem u65_1 : VC C65_1.eq_1 := rfl
def C65_2 : ACode := .cond (.t 37) C65_1 .skip
theorem u65_2 : VC C65_2.eq_1 := rfl
def C65_3 : ACode := .seq (.reg L65_18) C65_2
theorem u65_3 : VC C65_3.eq_1 := rfl
def C65_4 : ACode := .seq (.reg L65_31) (.reg L65_32)
theorem u65_4 : VC C65_4.eq_1 := rfl
def C65_5 : ACode := .cond (.t 51) C65_4 .skip
theorem u65_5 : VC C65_5.eq_1 := rfl
def C65_6 : ACode := .seq (.reg L65_27) C65_5
theorem u65_6 : VC C65_6.eq_1 := rfl
def C65_7 : ACode := .seq C65_3 C65_6
theorem u65_7 : VC C65_7.eq_1 := rfl
def C65_8 : ACode := .seq (.reg L65_14) C65_7
theorem u65_8 : VC C65_8.eq_1 := rfl
def C65_9 : ACode := .block 1 C65_8
theorem u65_9 : VC C65_9.eq_1 := rfl
def C65_10 : ACode := .seq C65_9 (.reg L65_33)
theorem u65_10 : VC C65_10.eq_1 := rfl
def C65_11 : ACode := .seq C65_0 C65_10
theorem u65_11 : VC C65_11.eq_1 := rfl
def C65_12 : ACode := .seq (.reg L65_11) C65_11
theorem u65_12 : VC C65_12.eq_1 := rfl
def C65_13 : ACode := .block 0 (.loop C65_12)
theorem u65_13 : VC C65_13.eq_1 := rfl
def C65_14 : ACode := .seq (.reg L65_10) C65_13
theorem u65_14 : VC C65_14.eq_1 := rfl
def C65_15 : ACode := .cond (.t 62) (.reg L65_38) .skip
theorem u65_15 : VC C65_15.eq_1 := rfl
def C65_16 : ACode := .seq (.reg L65_35) C65_15
theorem u65_16 : VC C65_16.eq_1 := rfl
def C65_17 : ACode := .cond (.t 71) .skip (.exit 2)
theorem u65_17 : VC C65_17.eq_1 := rfl
def C65_18 : ACode := .cond (.t 117) (.reg L65_72) (.reg L65_77)
theorem u65_18 : VC C65_18.eq_1 := rfl
def C65_19 : ACode := .seq (.reg L65_68) C65_18
theorem u65_19 : VC C65_19.eq_1 := rfl
def C65_20 : ACode := .cond (.t 95) (.reg L65_64) C65_19
theorem u65_20 : VC C65_20.eq_1 := rfl
def C65_21 : ACode := .seq (.reg L65_56) C65_20
theorem u65_21 : VC C65_21.eq_1 := rfl
def C65_22 : ACode := .cond (.t 86) (.reg L65_52) C65_21
theorem u65_22 : VC C65_22.eq_1 := rfl
def C65_23 : ACode := .seq (.reg L65_48) C65_22
theorem u65_23 : VC C65_23.eq_1 := rfl
def C65_24 : ACode := .block 4 C65_23
theorem u65_24 : VC C65_24.eq_1 := rfl
def C65_25 : ACode := .seq (.reg L65_46) C65_24
theorem u65_25 : VC C65_25.eq_1 := rfl
def C65_26 : ACode := .seq (.reg L65_43) C65_25
theorem u65_26 : VC C65_26.eq_1 := rfl
def C65_27 : ACode := .block 3 C65_26
theorem u65_27 : VC C65_27.eq_1 := rfl
def C65_28 : ACode := .seq C65_27 (.reg L65_78)
theorem u65_28 : VC C65_28.eq_1 := rfl
def C65_29 : ACode := .seq C65_17 C65_28
theorem u65_29 : VC C65_29.eq_1 := rfl
def C65_30 : ACode := .seq (.reg L65_41) C65_29
theorem u65_30 : VC C65_30.eq_1 := rfl
def C65_31 : ACode := .block 2 (.loop C65_30)
theorem u65_31 : VC C65_31.eq_1 := rfl
def C65_32 : ACode := .seq (.reg L65_40) C65_31
theorem u65_32 : VC C65_32.eq_1 := rfl
def C65_33 : ACode := .cond (.t 135) .skip (.exit 5)
theorem u65_33 : VC C65_33.eq_1 := rfl
def C65_34 : ACode := .cond (.t 166) (.reg L65_103) .skip
theorem u65_34 : VC C65_34.eq_1 := rfl
def C65_35 : ACode := .seq (.reg L65_99) C65_34
theorem u65_35 : VC C65_35.eq_1 := rfl
def C65_36 : ACode := .seq (.reg L65_91) C65_35
theorem u65_36 : VC C65_36.eq_1 := rfl
def C65_37 : ACode := .seq (.reg L65_84) C65_36
theorem u65_37 : VC C65_37.eq_1 := rfl
def C65_38 : ACode := .block 6 C65_37
theorem u65_38 : VC C65_38.eq_1 := rfl
def C65_39 : ACode := .seq C65_38 (.reg L65_104)
theorem u65_39 : VC C65_39.eq_1 := rfl
def C65_40 : ACode := .seq C65_33 C65_39
theorem u65_40 : VC C65_40.eq_1 := rfl
def C65_41 : ACode := .seq (.reg L65_81) C65_40
theorem u65_41 : VC C65_41.eq_1 := rfl
def C65_42 : ACode := .block 5 (.loop C65_41)
theorem u65_42 : VC C65_42.eq_1 := rfl
def C65_43 : ACode := .seq (.reg L65_80) C65_42
theorem u65_43 : VC C65_43.eq_1 := rfl
def C65_44 : ACode := .seq (.reg L65_107) .ret
theorem u65_44 : VC C65_44.eq_1 := rfl
def C65_45 : ACode := .seq C65_43 C65_44
theorem u65_45 : VC C65_45.eq_1 := rfl
def C65_46 : ACode := .seq C65_32 C65_45
theorem u65_46 : VC C65_46.eq_1 := rfl
def C65_47 : ACode := .seq C65_16 C65_46
theorem u65_47 : VC C65_47.eq_1 := rfl
def C65_48 : ACode := .seq C65_14 C65_47
theorem u65_48 : VC C65_48.eq_1 := rfl
def C65_49 : ACode := .seq (.reg L65_8) C65_48
theorem u65_49 : VC C65_49.eq_1 := rfl
def C65_50 : ACode := .seq (.reg L65_6) C65_49
theorem u65_50 : VC C65_50.eq_1 := rfl
def C65_51 : ACode := .seq (.reg L65_5) C65_50
theorem u65_51 : VC C65_51.eq_1 := rfl
def C65_52 : ACode := .seq (.reg L65_1) C65_51
theorem u65_52 : VC C65_52.eq_1 := rfl
def F65 : AFunc := ⟨177, [.cell 4 1 true, .tmp 5], C65_52⟩
theorem cF65 : compB Try.prog 65 = some F65 := by kernel_rfl
attribute [local go_sem ↓] u65_0 u65_1 u65_2 u65_3 u65_4 u65_5 u65_6 u65_7 u65_8 u65_9 u65_10 u65_11 u65_12 u65_13 u65_14 u65_15 u65_16 u65_17 u65_18 u65_19 u65_20 u65_21 u65_22 u65_23 u65_24 u65_25 u65_26 u65_27 u65_28 u65_29 u65_30 u65_31 u65_32 u65_33 u65_34 u65_35 u65_36 u65_37 u65_38 u65_39 u65_40 u65_41 u65_42 u65_43 u65_44 u65_45 u65_46 u65_47 u65_48 u65_49 u65_50 u65_51 u65_52 v65_0 v65_1 v65_2 v65_3 v65_4 v65_5 v65_6 v65_7 v65_8 v65_9 v65_10 v65_11 v65_12 v65_13 v65_14 v65_15 v65_16 v65_17 v65_18 v65_19 v65_20 v65_21 v65_22 v65_23 v65_24 v65_25 v65_26 v65_27 v65_28 v65_29 v65_30 v65_31 v65_32 v65_33 v65_34 v65_35 v65_36 v65_37 v65_38 v65_39 v65_40 v65_41 v65_42 v65_43 v65_44 v65_45 v65_46 v65_47 v65_48 v65_49 v65_50 v65_51 v65_52 v65_53 v65_54 v65_55 v65_56 v65_57 v65_58 v65_59 v65_60 v65_61 v65_62 v65_63 v65_64 v65_65 v65_66 v65_67 v65_68 v65_69 v65_70 v65_71 v65_72 v65_73 v65_74 v65_75 v65_76 v65_77 v65_78 v65_79 v65_80 v65_81 v65_82 v65_83 v65_84 v65_85 v65_86 v65_87 v65_88 v65_89 v65_90 v65_91 v65_92 v65_93 v65_94 v65_95 v65_96 v65_97 v65_98 v65_99 v65_100 v65_101 v65_102 v65_103 v65_104 v65_105 v65_106 v65_107
theorem c_bind (l : List Param) (f : Flat) (q p n : CV) (h : H) (hl : SlQ h (.one q) l) (hf : SlF h p n f) (ok1 : okSig l = true) (ok2 : okFlat f = true) :
    callK (bm Try.prog 65 [.agg [q], .agg [p, n]] h) fun r h' => Grow h h' ∧ ∃ v w rs, r = .tup [.agg [v], .one w] ∧ BdY h h' v w rs (boundS l f) (wrong l f) := by
  refine bm_of cF65 ?_
  have o := Ord.of ok1
  have hn := okSig_len ok1
  obtain ⟨hb1, hb2, hb3⟩ := okFlat_sm ok2
  have sq : smQ l := ⟨by unfold big; omega, fun x hx => by have := okSig_name ok1 x hx; unfold big; omega⟩
  have pl0 := places_le (l := l)
  simp +contextual (maxSteps := 2000000) only [go_sem, Nat.reduceEqDiff, reduceCtorEq, Nat.reduceAdd, Nat.reduceLeDiff, F65, hl.len]
  refine wp_make (enc := encY) (k := 3) zeroR rfl (by omega) (by omega) ?_
  intro h1 v g1 n1 _
  obtain ⟨v, rfl⟩ := n1.one
  have k1 := hl.grow g1
  simp +contextual (maxSteps := 2000000) only [go_sem, Nat.reduceEqDiff, reduceCtorEq, Nat.reduceAdd, Nat.reduceLeDiff, k1.len]
  refine wpC_loop (fun i T L h' => Grow h h' ∧ T 2 = .lp 2 0 ∧ (L 2).2 = [q] ∧ T 3 = .lp 3 0 ∧ (L 3).2 = [p, n] ∧ T 4 = .lp 4 0 ∧ (L 4).2 = [.sl none 0 (some 0)] ∧ T 6 = .lp 6 0 ∧ (L 6).2 = [v] ∧ T 7 = .v (.one (.sl none 0 (some 0))) ∧ (∃ u, T 8 = .v u ∧ SlI h' u (leftAt l f.pl i) ∧ ∀ j, baseOf u = some j → j < h.n) ∧ T 24 = .v (.one q) ∧ T 25 = .v (.one (.int .i64 l.length)) ∧ T 26 = .v (.one (.int .i64 i)) ∧ ∃ rs, BdY h h' v (.sl none 0 (some 0)) rs (fillS l f.pl i) []) l.length ?_ ?_ (Nat.zero_le _) ?_
  · rintro i T L h' hi ⟨gg, t2, l2, t3, l3, t4, l4, t6, l6, t7, ⟨u, t8, xu, bu⟩, t24, t25, t26, rs, x⟩
    have kl := hl.grow gg
    have hrs : rs.length = l.length := x.len.trans fillS_len
    have hio : i < rs.length := by omega
    have hsl : i < (fillS l f.pl i).length := by rw [fillS_len]; exact hi
    have es := fun h => c_placed l[i] h
    simp only [encQ] at es
    have yi := x.sl.out.out.iaddr hio (kd := .i64)
    have sep : ∀ j, baseOf u = some j → baseOf (.one v) ≠ some j := fun j hj hv => by
      have := bu j hj
      have := (x.sl.out.out.lt hv).2
      omega
    cases b1 : byPlace l[i] with
    | true =>
      obtain ⟨la, lb⟩ := leftAt_place (pl := f.pl) o hi b1
      have nk : decide (l[i].kind = 2) = false := by rw [byPlace_iff] at b1; exact decide_eq_false (by omega)
      rw [la] at xu
      rw [lb]
      by_cases hj : i < f.pl.length
      · have hd : 0 < (f.pl.drop i).length := by simp; omega
        have d0 : decide (((f.pl.drop i).length : Int) > 0) = true := decide_eq_true (by omega)
        have ui : iaddrO 1 u (.one (.int .i64 0)) = some (.one (.ptr (some (elem 1 u 0)))) := xu.iaddr hd
        have uv : loadO 1 false h' (.one (.ptr (some (elem 1 u 0)))) = some (.one (.int .i64 f.pl[i])) := by
          rw [xu.oneO hd, encI_0]
          simp
        simp +contextual (maxSteps := 2000000) only [go_sem, Nat.reduceEqDiff, reduceCtorEq, Nat.reduceAdd, Nat.reduceLeDiff, t2, l2, t3, l3, t4, l4, t6, l6, t7, t8, t24, t25, t26, kl.iaddr hi, kl.whole hi, encQ, lt_true hi, es, b1, xu.len, d0, ui, uv, nk]
        refine wp_lit (enc := encI) (k := 1) (l := [f.pl[i]]) rfl rfl ?_
        intro h3 w3 g3 n3 b3
        obtain ⟨d, rfl⟩ := n3.one
        simp +contextual (maxSteps := 2000000) only [go_sem, Nat.reduceEqDiff, reduceCtorEq, Nat.reduceAdd, Nat.reduceLeDiff, t2, l2, t3, l3, t4, l4, t6, l6, t7, t8, t24, t25, t26, yi]
        refine wp_setE (x := ⟨true, d, .sl none 0 (some 0)⟩) lenY (x.sl.out.out.grow g3) hio rfl rfl (gg.trans g3) ?_
        intro h4 g4 n4 s4
        have xu4 := (xu.grow g3).of_stay s4 sep
        obtain ⟨u2, e2, xu2, bu2⟩ := xu4.dropB (i := 1) (by omega) (kd := .i64)
        have e3 : cutO 3 1 h4 u (some (.one (.int .i64 1))) none none = some u2 := e2
        rw [List.drop_drop, Nat.add_comm] at xu2
        have z := x.put hio g3 ⟨rfl, n3, .nil⟩ Sep.nil.symm n4 s4 gg.n (a := givenS f.pl[i])
        rw [← slotPl_place hi b1 hj, fillS_set] at z
        simp +contextual (maxSteps := 2000000) only [go_sem, Nat.reduceEqDiff, reduceCtorEq, Nat.reduceAdd, Nat.reduceLeDiff, t2, l2, t3, l3, t4, l4, t6, l6, t7, t8, t24, t25, t26, e3, nk]
        exact ⟨g4, ⟨u2, rfl, by rw [Nat.add_comm] at xu2; exact xu2, fun j hj => bu j (bu2 j hj)⟩, by rw [wrap_next hi (by omega)], _, z⟩
      · have d0 : decide (((f.pl.drop i).length : Int) > 0) = false := decide_eq_false (by simp; omega)
        simp +contextual (maxSteps := 2000000) only [go_sem, Nat.reduceEqDiff, reduceCtorEq, Nat.reduceAdd, Nat.reduceLeDiff, t2, l2, t3, l3, t4, l4, t6, l6, t7, t8, t24, t25, t26, kl.iaddr hi, kl.whole hi, encQ, lt_true hi, es, b1, xu.len, d0, nk]
        rw [fillS_skip hi (slotPl_none hi b1 hj)]
        rw [show f.pl.drop (i + 1) = f.pl.drop i by rw [List.drop_eq_nil_of_le (by omega), List.drop_eq_nil_of_le (by omega)]]
        exact ⟨gg, ⟨u, rfl, xu, bu⟩, by rw [wrap_next hi (by omega)], _, x⟩
    | false =>
      by_cases kk : l[i].kind = 2
      · obtain ⟨la, lb⟩ := leftAt_rest (pl := f.pl) o hi kk
        have nk : decide (l[i].kind = 2) = true := decide_eq_true kk
        rw [la] at xu
        rw [lb]
        simp +contextual (maxSteps := 2000000) only [go_sem, Nat.reduceEqDiff, reduceCtorEq, Nat.reduceAdd, Nat.reduceLeDiff, t2, l2, t3, l3, t4, l4, t6, l6, t7, t8, t24, t25, t26, kl.iaddr hi, kl.whole hi, encQ, lt_true hi, es, b1, nk]
        refine wp_call (c_cloneI _ _ h' xu (by simp; unfold big; omega)) ?_
        rintro r h3 ⟨g3, n3⟩
        obtain ⟨c, rfl⟩ := n3.one
        simp +contextual (maxSteps := 2000000) only [go_sem, Nat.reduceEqDiff, reduceCtorEq, Nat.reduceAdd, Nat.reduceLeDiff, t2, l2, t3, l3, t4, l4, t6, l6, t7, t8, t24, t25, t26, yi]
        refine wp_set (x := { rs[i] with lv := c }) (off := 1) (vs := [c]) lenY (x.sl.out.out.grow g3) hio rfl rfl (Nat.le_of_ble_eq_true rfl) (gg.trans g3) ?_
        intro h4 g4 n4 s4
        have z := x.app_list hio hsl (n3.from gg.n) (g3.stay _) (fun j hj => .inr (n3.lt hj).2) n4 s4
        have ez : ({ (fillS l f.pl i)[i] with list := f.pl.drop i } : Slot) = slotPl l f.pl i := by rw [fillS_at, slotPl_rest hi kk]; rfl
        rw [ez, fillS_set] at z
        simp +contextual (maxSteps := 2000000) only [go_sem, Nat.reduceEqDiff, reduceCtorEq, Nat.reduceAdd, Nat.reduceLeDiff, t2, l2, t3, l3, t4, l4, t6, l6, t7, t8, t24, t25, t26]
        exact ⟨g4, ⟨_, rfl, Sl.nil lenI, fun j hj => by simp [baseOf] at hj⟩, by rw [wrap_next hi (by omega)], _, z⟩
      · have nk : decide (l[i].kind = 2) = false := decide_eq_false kk
        simp +contextual (maxSteps := 2000000) only [go_sem, Nat.reduceEqDiff, reduceCtorEq, Nat.reduceAdd, Nat.reduceLeDiff, t2, l2, t3, l3, t4, l4, t6, l6, t7, t8, t24, t25, t26, kl.iaddr hi, kl.whole hi, encQ, lt_true hi, es, b1, nk]
        rw [fillS_skip hi (slotPl_else hi b1 kk), leftAt_else o hi b1 kk]
        exact ⟨gg, ⟨u, rfl, xu, bu⟩, by rw [wrap_next hi (by omega)], _, x⟩
  · rintro T L h' ⟨gg, t2, l2, t3, l3, t4, l4, t6, l6, t7, ⟨u, t8, xu, bu⟩, t24, t25, t26, rs, x⟩
    have k := hf.grow gg
    rw [fillS_all] at x
    by_cases hm : places l < f.pl.length ∧ hasRest l = false
    · have d1 : decide (((leftAt l f.pl l.length).length : Int) > 0) = true := decide_eq_true (by have := (leftAt_many o).2 hm; omega)
      have em : manyB l f.pl = [⟨0, strOfNums []⟩] := by unfold manyB; rw [if_pos hm]
      simp +contextual (maxSteps := 2000000) only [go_sem, Nat.reduceEqDiff, reduceCtorEq, Nat.reduceAdd, Nat.reduceLeDiff, t2, l2, t3, l3, t4, l4, t6, l6, t7, t8, t24, t25, t26, lt_false, xu.len, d1]
      refine wp_lit (enc := encB) (k := 2) (l := [⟨0, strOfNums []⟩]) rfl rfl ?_
      intro h3 w3 g3 n3 _
      simp +contextual (maxSteps := 2000000) only [go_sem, Nat.reduceEqDiff, reduceCtorEq, Nat.reduceAdd, Nat.reduceLeDiff, t2, l2, t3, l3, t4, l4, t6, l6, t7, t8, t24, t25, t26]
      refine wp_append lenB (x.pr.grow g3) (n3.sl lenB) (gg.trans g3) (by simp) ?_
      intro h4 s4 g4 n4 st4 hb4
      obtain ⟨c4, rfl⟩ := n4.one
      have x := (x.grow g3).push n4 st4 hb4
      rw [List.nil_append, ← em] at x
      have k := hf.grow g4
      simp +contextual (maxSteps := 2000000) only [go_sem, Nat.reduceEqDiff, reduceCtorEq, Nat.reduceAdd, Nat.reduceLeDiff, t2, l2, t3, l3, t4, l4, t6, l6, t7, t8, t24, t25, t26, k.nl.len]
      refine wpC_loop (fun i T L h' => Grow h h' ∧ T 2 = .lp 2 0 ∧ (L 2).2 = [q] ∧ T 3 = .lp 3 0 ∧ (L 3).2 = [p, n] ∧ T 4 = .lp 4 0 ∧ (L 4).2 = [.sl none 0 (some 0)] ∧ T 6 = .lp 6 0 ∧ (L 6).2 = [v] ∧ (∃ w rs, T 7 = .v (.one w) ∧ BdY h h' v w rs (nameF l f i).slots (nameF l f i).bad) ∧ T 68 = .v (.one n) ∧ T 69 = .v (.one (.int .i64 f.nl.length)) ∧ T 70 = .v (.one (.int .i64 i))) f.nl.length ?_ ?_ (Nat.zero_le _) ?_
      · rintro i T L h' hi ⟨gg, t2, l2, t3, l3, t4, l4, t6, l6, ⟨w, rs, t7, x⟩, t68, t69, tx⟩
        have k := hf.grow gg
        have kl := hl.grow gg
        have ok := BOk.nameF (l := l) (f := f) hb3 (i := i) (by omega)
        have hrs : rs.length = l.length := x.len.trans ok.len
        have tk := c_takes l q f.nl[i].name h' kl sq
        rw [nameF_next hi]
        rcases takes_cases l f.nl[i].name with e | ⟨j, hj, e⟩
        · rw [nameStep_no e]
          rw [e] at tk
          simp +contextual (maxSteps := 2000000) only [go_sem, Nat.reduceEqDiff, reduceCtorEq, Nat.reduceAdd, Nat.reduceLeDiff, t2, l2, t3, l3, t4, l4, t6, l6, t7, t68, t69, tx, k.nl.iaddr hi, k.nl.whole hi, encP, lt_true hi, tk]
          refine wp_lit (enc := encB) (k := 2) (l := [⟨1, f.nl[i].name⟩]) rfl rfl ?_
          intro h3 w3 g3 n3 _
          simp +contextual (maxSteps := 2000000) only [go_sem, Nat.reduceEqDiff, reduceCtorEq, Nat.reduceAdd, Nat.reduceLeDiff, t2, l2, t3, l3, t4, l4, t6, l6, t7, t68, t69, tx]
          refine wp_append lenB (x.pr.grow g3) (n3.sl lenB) (gg.trans g3) (by have := ok.bad; simp; omega) ?_
          intro h4 s4 g4 n4 st4 hb4
          obtain ⟨c4, rfl⟩ := n4.one
          simp +contextual (maxSteps := 2000000) only [go_sem, Nat.reduceEqDiff, reduceCtorEq, Nat.reduceAdd, Nat.reduceLeDiff, t2, l2, t3, l3, t4, l4, t6, l6, t7, t68, t69, tx]
          exact ⟨g4, ⟨c4, rs, rfl, (x.grow g3).push n4 st4 hb4⟩, by rw [wrap_next hi (by omega)]⟩
        · rw [e] at tk
          have hs : j < (nameF l f i).slots.length := by rw [ok.len]; exact hj
          have hio : j < rs.length := by omega
          have z := x.sl.at hio hs
          have yi := x.sl.out.out.iaddr hio (kd := .i64)
          have y0 := (x.sl.out.out.sl lenY).fieldO (off := 0) hio (by omega)
          have y2 := (x.sl.out.out.sl lenY).fieldO (off := 2) hio (by omega)
          rw [encY_0] at y0
          rw [encY_2] at y2
          have dj : decide ((j : Int) < 0) = false := decide_eq_false (by omega)
          by_cases kk : l[j].kind = 4
          · rw [nameStep_map e hj hs kk]
            have dk : decide (l[j].kind = 4) = true := decide_eq_true kk
            simp +contextual (maxSteps := 2000000) only [go_sem, Nat.reduceEqDiff, reduceCtorEq, Nat.reduceAdd, Nat.reduceLeDiff, t2, l2, t3, l3, t4, l4, t6, l6, t7, t68, t69, tx, k.nl.iaddr hi, k.nl.whole hi, encP, lt_true hi, tk, dj, kl.iaddr hj, kl.fieldO hj, dk, yi, y2]
            refine wp_lit (enc := encP) (k := 2) (l := [f.nl[i]]) rfl rfl ?_
            intro h3 w3 g3 n3 _
            simp +contextual (maxSteps := 2000000) only [go_sem, Nat.reduceEqDiff, reduceCtorEq, Nat.reduceAdd, Nat.reduceLeDiff, t2, l2, t3, l3, t4, l4, t6, l6, t7, t68, t69, tx]
            refine wp_append lenP (z.pairs.grow g3) (n3.sl lenP) (gg.trans g3) (by have := ok.pairs _ (List.getElem_mem hs); simp; omega) ?_
            intro h4 s4 g4 n4 st4 hb4
            obtain ⟨c4, rfl⟩ := n4.one
            simp +contextual (maxSteps := 2000000) only [go_sem, Nat.reduceEqDiff, reduceCtorEq, Nat.reduceAdd, Nat.reduceLeDiff, t2, l2, t3, l3, t4, l4, t6, l6, t7, t68, t69, tx, yi]
            refine wp_set (x := { rs[j] with pv := c4 }) (off := 2) (vs := [c4]) lenY ((x.sl.out.out.grow g3).stay st4 (x.sl.out.vpv _ hio)) hio rfl rfl (Nat.le_of_ble_eq_true rfl) g4 ?_
            intro h5 g5 n5 s5
            simp +contextual (maxSteps := 2000000) only [go_sem, Nat.reduceEqDiff, reduceCtorEq, Nat.reduceAdd, Nat.reduceLeDiff, t2, l2, t3, l3, t4, l4, t6, l6, t7, t68, t69, tx]
            exact ⟨g5, ⟨w, _, rfl, (x.grow g3).app_pairs hio hs n4 st4 hb4 n5 s5⟩, by rw [wrap_next hi (by omega)]⟩
          · have dk : decide (l[j].kind = 4) = false := decide_eq_false kk
            cases b : (nameF l f i).slots[j].given with
            | true =>
              rw [nameStep_twice e hj hs kk b]
              rw [z.given, b] at y0
              simp +contextual (maxSteps := 2000000) only [go_sem, Nat.reduceEqDiff, reduceCtorEq, Nat.reduceAdd, Nat.reduceLeDiff, t2, l2, t3, l3, t4, l4, t6, l6, t7, t68, t69, tx, k.nl.iaddr hi, k.nl.whole hi, encP, lt_true hi, tk, dj, kl.iaddr hj, kl.fieldO hj, dk, yi, y0]
              refine wp_lit (enc := encB) (k := 2) (l := [⟨2, f.nl[i].name⟩]) rfl rfl ?_
              intro h3 w3 g3 n3 _
              simp +contextual (maxSteps := 2000000) only [go_sem, Nat.reduceEqDiff, reduceCtorEq, Nat.reduceAdd, Nat.reduceLeDiff, t2, l2, t3, l3, t4, l4, t6, l6, t7, t68, t69, tx]
              refine wp_append lenB (x.pr.grow g3) (n3.sl lenB) (gg.trans g3) (by have := ok.bad; simp; omega) ?_
              intro h4 s4 g4 n4 st4 hb4
              obtain ⟨c4, rfl⟩ := n4.one
              simp +contextual (maxSteps := 2000000) only [go_sem, Nat.reduceEqDiff, reduceCtorEq, Nat.reduceAdd, Nat.reduceLeDiff, t2, l2, t3, l3, t4, l4, t6, l6, t7, t68, t69, tx]
              exact ⟨g4, ⟨c4, rs, rfl, (x.grow g3).push n4 st4 hb4⟩, by rw [wrap_next hi (by omega)]⟩
            | false =>
              rw [nameStep_give e hj hs kk b]
              rw [z.given, b] at y0
              simp +contextual (maxSteps := 2000000) only [go_sem, Nat.reduceEqDiff, reduceCtorEq, Nat.reduceAdd, Nat.reduceLeDiff, t2, l2, t3, l3, t4, l4, t6, l6, t7, t68, t69, tx, k.nl.iaddr hi, k.nl.whole hi, encP, lt_true hi, tk, dj, kl.iaddr hj, kl.fieldO hj, dk, yi, y0]
              refine wp_lit (enc := encI) (k := 1) (l := [f.nl[i].value]) rfl rfl ?_
              intro h3 w3 g3 n3 b3
              obtain ⟨d, rfl⟩ := n3.one
              simp +contextual (maxSteps := 2000000) only [go_sem, Nat.reduceEqDiff, reduceCtorEq, Nat.reduceAdd, Nat.reduceLeDiff, t2, l2, t3, l3, t4, l4, t6, l6, t7, t68, t69, tx, yi]
              refine wp_setE (x := ⟨true, d, .sl none 0 (some 0)⟩) lenY (x.sl.out.out.grow g3) hio rfl rfl (gg.trans g3) ?_
              intro h4 g4 n4 s4
              simp +contextual (maxSteps := 2000000) only [go_sem, Nat.reduceEqDiff, reduceCtorEq, Nat.reduceAdd, Nat.reduceLeDiff, t2, l2, t3, l3, t4, l4, t6, l6, t7, t68, t69, tx]
              exact ⟨g4, ⟨w, _, rfl, x.put hio g3 ⟨rfl, n3, .nil⟩ Sep.nil.symm n4 s4 gg.n⟩, by rw [wrap_next hi (by omega)]⟩
      · rintro T L h' ⟨gg, t2, l2, t3, l3, t4, l4, t6, l6, ⟨w, rs, t7, x⟩, t68, t69, tx⟩
        have kl := hl.grow gg
        have x : BdY h h' v w rs (boundS l f) (boundB l f ++ missF l (boundS l f) 0) := by rw [missF_zero, List.append_nil]; exact x
        have hbb : (boundB l f).length ≤ 9 := by have := (BOk.nameF (l := l) (f := f) hb3 (Nat.le_refl _)).bad; unfold boundB; omega
        simp +contextual (maxSteps := 2000000) only [go_sem, Nat.reduceEqDiff, reduceCtorEq, Nat.reduceAdd, Nat.reduceLeDiff, t2, l2, t3, l3, t4, l4, t6, l6, t7, t68, t69, tx, lt_false, kl.len]
        refine wpC_loop (fun i T L h' => Grow h h' ∧ T 2 = .lp 2 0 ∧ (L 2).2 = [q] ∧ T 3 = .lp 3 0 ∧ (L 3).2 = [p, n] ∧ T 4 = .lp 4 0 ∧ (L 4).2 = [.sl none 0 (some 0)] ∧ T 6 = .lp 6 0 ∧ (L 6).2 = [v] ∧ (∃ w rs, T 7 = .v (.one w) ∧ BdY h h' v w rs (boundS l f) (boundB l f ++ missF l (boundS l f) i)) ∧ T 132 = .v (.one q) ∧ T 133 = .v (.one (.int .i64 l.length)) ∧ T 134 = .v (.one (.int .i64 i))) l.length ?_ ?_ (Nat.zero_le _) ?_
        · rintro i T L h' hi ⟨gg, t2, l2, t3, l3, t4, l4, t6, l6, ⟨w, rs, t7, x⟩, t132, t133, t134⟩
          have kl := hl.grow gg
          have hsl : i < (boundS l f).length := by rw [boundS_len]; exact hi
          have hio : i < rs.length := by rw [x.len]; exact hsl
          have es := fun h => c_single l[i] h
          simp only [encQ] at es
          have yi := x.sl.out.out.iaddr hio (kd := .i64)
          have y2 := (x.sl.out.out.sl lenY).fieldO (off := 2) hio (by omega)
          rw [encY_2] at y2
          have el := lacks_eq hi hsl
          have em := missF_next (sl := boundS l f) hi
          have ml := missF_len (l := l) (sl := boundS l f) (i := i)
          have done : ∀ b, lacks l (boundS l f) i = b → b = false → missF l (boundS l f) (i + 1) = missF l (boundS l f) i := fun b e1 e2 => by rw [em, e1, e2]; simp
          simp +contextual (maxSteps := 2000000) only [go_sem, Nat.reduceEqDiff, reduceCtorEq, Nat.reduceAdd, Nat.reduceLeDiff, t2, l2, t3, l3, t4, l4, t6, l6, t7, t132, t133, t134, kl.iaddr hi, kl.whole hi, encQ, lt_true hi, yi, y2]
          refine wp_call (c_clipbP _ _ h' (x.sl.at hio hsl).pairs) ?_
          rintro r h3 ⟨rfl, n3, hb3⟩
          obtain ⟨c, rfl⟩ := n3.one
          simp +contextual (maxSteps := 2000000) only [go_sem, Nat.reduceEqDiff, reduceCtorEq, Nat.reduceAdd, Nat.reduceLeDiff, t2, l2, t3, l3, t4, l4, t6, l6, t7, t132, t133, t134, yi]
          refine wp_set (x := { rs[i] with pv := c }) (off := 2) (vs := [c]) lenY x.sl.out.out hio rfl rfl (Nat.le_of_ble_eq_true rfl) gg ?_
          intro h4 g4 n4 s4
          have z := x.app_pairs hio hsl n3 ((Grow.refl _).stay _) (fun j hj => .inl (hb3 j hj)) n4 s4
          have ez : ({ (boundS l f)[i] with pairs := (boundS l f)[i].pairs } : Slot) = (boundS l f)[i] := rfl
          rw [ez, List.set_getElem_self] at z
          have hio2 : i < (rs.set i { rs[i] with pv := c }).length := by simpa using hio
          have yi2 := z.sl.out.out.iaddr hio2 (kd := .i64)
          have y02 := (z.sl.out.out.sl lenY).fieldO (off := 0) hio2 (by omega)
          rw [encY_0, (z.sl.at hio2 hsl).given] at y02
          cases b1 : single l[i] with
          | false =>
            rw [b1, Bool.false_and] at el
            simp +contextual (maxSteps := 2000000) only [go_sem, Nat.reduceEqDiff, reduceCtorEq, Nat.reduceAdd, Nat.reduceLeDiff, t2, l2, t3, l3, t4, l4, t6, l6, t7, t132, t133, t134, es, b1]
            exact ⟨g4, ⟨w, _, rfl, by rw [done _ el rfl]; exact z⟩, by rw [wrap_next hi (by omega)]⟩
          | true =>
          cases b2 : l[i].has with
          | true =>
            rw [b1, b2] at el
            simp only [b2] at es
            simp +contextual (maxSteps := 2000000) only [go_sem, Nat.reduceEqDiff, reduceCtorEq, Nat.reduceAdd, Nat.reduceLeDiff, t2, l2, t3, l3, t4, l4, t6, l6, t7, t132, t133, t134, es, b1, b2]
            exact ⟨g4, ⟨w, _, rfl, by rw [done _ el rfl]; exact z⟩, by rw [wrap_next hi (by omega)]⟩
          | false =>
          simp only [b2] at es
          cases b3 : (boundS l f)[i].given with
          | true =>
            rw [b1, b2, b3] at el
            rw [b3] at y02
            simp +contextual (maxSteps := 2000000) only [go_sem, Nat.reduceEqDiff, reduceCtorEq, Nat.reduceAdd, Nat.reduceLeDiff, t2, l2, t3, l3, t4, l4, t6, l6, t7, t132, t133, t134, es, b1, b2, yi2, y02]
            exact ⟨g4, ⟨w, _, rfl, by rw [done _ el rfl]; exact z⟩, by rw [wrap_next hi (by omega)]⟩
          | false =>
            rw [b1, b2, b3] at el
            rw [b3] at y02
            simp +contextual (maxSteps := 2000000) only [go_sem, Nat.reduceEqDiff, reduceCtorEq, Nat.reduceAdd, Nat.reduceLeDiff, t2, l2, t3, l3, t4, l4, t6, l6, t7, t132, t133, t134, es, b1, b2, yi2, y02]
            refine wp_lit (enc := encB) (k := 2) (l := [⟨3, l[i].name⟩]) rfl rfl ?_
            intro h5 w5 g5 n5 _
            simp +contextual (maxSteps := 2000000) only [go_sem, Nat.reduceEqDiff, reduceCtorEq, Nat.reduceAdd, Nat.reduceLeDiff, t2, l2, t3, l3, t4, l4, t6, l6, t7, t132, t133, t134]
            refine wp_append lenB (z.pr.grow g5) (n5.sl lenB) (g4.trans g5) (by simp; omega) ?_
            intro h6 s6 g6 n6 st6 hb6
            obtain ⟨c6, rfl⟩ := n6.one
            have z6 := (z.grow g5).push n6 st6 hb6
            simp +contextual (maxSteps := 2000000) only [go_sem, Nat.reduceEqDiff, reduceCtorEq, Nat.reduceAdd, Nat.reduceLeDiff, t2, l2, t3, l3, t4, l4, t6, l6, t7, t132, t133, t134]
            have e9 : missF l (boundS l f) (i + 1) = missF l (boundS l f) i ++ [⟨3, l[i].name⟩] := by rw [em, el]; rfl
            rw [List.append_assoc, ← e9] at z6
            exact ⟨g6, ⟨c6, _, rfl, z6⟩, by rw [wrap_next hi (by omega)]⟩
        · rintro T L h' ⟨gg, t2, l2, t3, l3, t4, l4, t6, l6, ⟨w, rs, t7, x⟩, t132, t133, t134⟩
          simp +contextual (maxSteps := 2000000) only [go_sem, Nat.reduceEqDiff, reduceCtorEq, Nat.reduceAdd, Nat.reduceLeDiff, t2, l2, t3, l3, t4, l4, t6, l6, t7, t132, t133, t134, lt_false]
          refine wp_call (c_clipbB _ _ h' x.pr) ?_
          rintro r h3 ⟨rfl, n3, hb3⟩
          obtain ⟨c, rfl⟩ := n3.one
          have z := x.push n3 ((Grow.refl _).stay _) (fun j hj => .inl (hb3 j hj))
          simp +contextual (maxSteps := 2000000) only [go_sem, Nat.reduceEqDiff, reduceCtorEq, Nat.reduceAdd, Nat.reduceLeDiff, t2, l2, t3, l3, t4, l4, t6, l6]
          exact gcK_of ⟨gg, _, _, _, rfl, z⟩ (fun hs _ => by
            simp only [AV.scalar, AV.scalars, List.all_cons, List.all_nil, Bool.and_true, Bool.and_eq_true] at hs
            exact ⟨Grow.refl h, _, _, _, rfl, z.scalar hs.1 hs.2 h⟩)
        · simp +contextual (maxSteps := 2000000) only [go_sem, Nat.reduceEqDiff, reduceCtorEq, Nat.reduceAdd, Nat.reduceLeDiff, t2, l2, t3, l3, t4, l4, t6, l6, t7]
          exact ⟨gg, ⟨w, rs, rfl, x⟩, rfl⟩
      · simp +contextual (maxSteps := 2000000) only [go_sem, Nat.reduceEqDiff, reduceCtorEq, Nat.reduceAdd, Nat.reduceLeDiff, t2, l2, t3, l3, t4, l4, t6, l6, t7]
        rw [nameF_zero]
        exact ⟨g4, ⟨c4, _, rfl, x⟩, rfl⟩
    · have d1 : decide (((leftAt l f.pl l.length).length : Int) > 0) = false := decide_eq_false (fun h0 => hm ((leftAt_many o).1 (by omega)))
      have em : manyB l f.pl = [] := by unfold manyB; rw [if_neg hm]
      rw [← em] at x
      simp +contextual (maxSteps := 2000000) only [go_sem, Nat.reduceEqDiff, reduceCtorEq, Nat.reduceAdd, Nat.reduceLeDiff, t2, l2, t3, l3, t4, l4, t6, l6, t7, t8, t24, t25, t26, lt_false, xu.len, d1, k.nl.len]
      refine wpC_loop (fun i T L h' => Grow h h' ∧ T 2 = .lp 2 0 ∧ (L 2).2 = [q] ∧ T 3 = .lp 3 0 ∧ (L 3).2 = [p, n] ∧ T 4 = .lp 4 0 ∧ (L 4).2 = [.sl none 0 (some 0)] ∧ T 6 = .lp 6 0 ∧ (L 6).2 = [v] ∧ (∃ w rs, T 7 = .v (.one w) ∧ BdY h h' v w rs (nameF l f i).slots (nameF l f i).bad) ∧ T 68 = .v (.one n) ∧ T 69 = .v (.one (.int .i64 f.nl.length)) ∧ T 70 = .v (.one (.int .i64 i))) f.nl.length ?_ ?_ (Nat.zero_le _) ?_
      · rintro i T L h' hi ⟨gg, t2, l2, t3, l3, t4, l4, t6, l6, ⟨w, rs, t7, x⟩, t68, t69, tx⟩
        have k := hf.grow gg
        have kl := hl.grow gg
        have ok := BOk.nameF (l := l) (f := f) hb3 (i := i) (by omega)
        have hrs : rs.length = l.length := x.len.trans ok.len
        have tk := c_takes l q f.nl[i].name h' kl sq
        rw [nameF_next hi]
        rcases takes_cases l f.nl[i].name with e | ⟨j, hj, e⟩
        · rw [nameStep_no e]
          rw [e] at tk
          simp +contextual (maxSteps := 2000000) only [go_sem, Nat.reduceEqDiff, reduceCtorEq, Nat.reduceAdd, Nat.reduceLeDiff, t2, l2, t3, l3, t4, l4, t6, l6, t7, t68, t69, tx, k.nl.iaddr hi, k.nl.whole hi, encP, lt_true hi, tk]
          refine wp_lit (enc := encB) (k := 2) (l := [⟨1, f.nl[i].name⟩]) rfl rfl ?_
          intro h3 w3 g3 n3 _
          simp +contextual (maxSteps := 2000000) only [go_sem, Nat.reduceEqDiff, reduceCtorEq, Nat.reduceAdd, Nat.reduceLeDiff, t2, l2, t3, l3, t4, l4, t6, l6, t7, t68, t69, tx]
          refine wp_append lenB (x.pr.grow g3) (n3.sl lenB) (gg.trans g3) (by have := ok.bad; simp; omega) ?_
          intro h4 s4 g4 n4 st4 hb4
          obtain ⟨c4, rfl⟩ := n4.one
          simp +contextual (maxSteps := 2000000) only [go_sem, Nat.reduceEqDiff, reduceCtorEq, Nat.reduceAdd, Nat.reduceLeDiff, t2, l2, t3, l3, t4, l4, t6, l6, t7, t68, t69, tx]
          exact ⟨g4, ⟨c4, rs, rfl, (x.grow g3).push n4 st4 hb4⟩, by rw [wrap_next hi (by omega)]⟩
        · rw [e] at tk
          have hs : j < (nameF l f i).slots.length := by rw [ok.len]; exact hj
          have hio : j < rs.length := by omega
          have z := x.sl.at hio hs
          have yi := x.sl.out.out.iaddr hio (kd := .i64)
          have y0 := (x.sl.out.out.sl lenY).fieldO (off := 0) hio (by omega)
          have y2 := (x.sl.out.out.sl lenY).fieldO (off := 2) hio (by omega)
          rw [encY_0] at y0
          rw [encY_2] at y2
          have dj : decide ((j : Int) < 0) = false := decide_eq_false (by omega)
          by_cases kk : l[j].kind = 4
          · rw [nameStep_map e hj hs kk]
            have dk : decide (l[j].kind = 4) = true := decide_eq_true kk
            simp +contextual (maxSteps := 2000000) only [go_sem, Nat.reduceEqDiff, reduceCtorEq, Nat.reduceAdd, Nat.reduceLeDiff, t2, l2, t3, l3, t4, l4, t6, l6, t7, t68, t69, tx, k.nl.iaddr hi, k.nl.whole hi, encP, lt_true hi, tk, dj, kl.iaddr hj, kl.fieldO hj, dk, yi, y2]
            refine wp_lit (enc := encP) (k := 2) (l := [f.nl[i]]) rfl rfl ?_
            intro h3 w3 g3 n3 _
            simp +contextual (maxSteps := 2000000) only [go_sem, Nat.reduceEqDiff, reduceCtorEq, Nat.reduceAdd, Nat.reduceLeDiff, t2, l2, t3, l3, t4, l4, t6, l6, t7, t68, t69, tx]
            refine wp_append lenP (z.pairs.grow g3) (n3.sl lenP) (gg.trans g3) (by have := ok.pairs _ (List.getElem_mem hs); simp; omega) ?_
            intro h4 s4 g4 n4 st4 hb4
            obtain ⟨c4, rfl⟩ := n4.one
            simp +contextual (maxSteps := 2000000) only [go_sem, Nat.reduceEqDiff, reduceCtorEq, Nat.reduceAdd, Nat.reduceLeDiff, t2, l2, t3, l3, t4, l4, t6, l6, t7, t68, t69, tx, yi]
            refine wp_set (x := { rs[j] with pv := c4 }) (off := 2) (vs := [c4]) lenY ((x.sl.out.out.grow g3).stay st4 (x.sl.out.vpv _ hio)) hio rfl rfl (Nat.le_of_ble_eq_true rfl) g4 ?_
            intro h5 g5 n5 s5
            simp +contextual (maxSteps := 2000000) only [go_sem, Nat.reduceEqDiff, reduceCtorEq, Nat.reduceAdd, Nat.reduceLeDiff, t2, l2, t3, l3, t4, l4, t6, l6, t7, t68, t69, tx]
            exact ⟨g5, ⟨w, _, rfl, (x.grow g3).app_pairs hio hs n4 st4 hb4 n5 s5⟩, by rw [wrap_next hi (by omega)]⟩
          · have dk : decide (l[j].kind = 4) = false := decide_eq_false kk
            cases b : (nameF l f i).slots[j].given with
            | true =>
              rw [nameStep_twice e hj hs kk b]
              rw [z.given, b] at y0
              simp +contextual (maxSteps := 2000000) only [go_sem, Nat.reduceEqDiff, reduceCtorEq, Nat.reduceAdd, Nat.reduceLeDiff, t2, l2, t3, l3, t4, l4, t6, l6, t7, t68, t69, tx, k.nl.iaddr hi, k.nl.whole hi, encP, lt_true hi, tk, dj, kl.iaddr hj, kl.fieldO hj, dk, yi, y0]
              refine wp_lit (enc := encB) (k := 2) (l := [⟨2, f.nl[i].name⟩]) rfl rfl ?_
              intro h3 w3 g3 n3 _
              simp +contextual (maxSteps := 2000000) only [go_sem, Nat.reduceEqDiff, reduceCtorEq, Nat.reduceAdd, Nat.reduceLeDiff, t2, l2, t3, l3, t4, l4, t6, l6, t7, t68, t69, tx]
              refine wp_append lenB (x.pr.grow g3) (n3.sl lenB) (gg.trans g3) (by have := ok.bad; simp; omega) ?_
              intro h4 s4 g4 n4 st4 hb4
              obtain ⟨c4, rfl⟩ := n4.one
              simp +contextual (maxSteps := 2000000) only [go_sem, Nat.reduceEqDiff, reduceCtorEq, Nat.reduceAdd, Nat.reduceLeDiff, t2, l2, t3, l3, t4, l4, t6, l6, t7, t68, t69, tx]
              exact ⟨g4, ⟨c4, rs, rfl, (x.grow g3).push n4 st4 hb4⟩, by rw [wrap_next hi (by omega)]⟩
            | false =>
              rw [nameStep_give e hj hs kk b]
              rw [z.given, b] at y0
              simp +contextual (maxSteps := 2000000) only [go_sem, Nat.reduceEqDiff, reduceCtorEq, Nat.reduceAdd, Nat.reduceLeDiff, t2, l2, t3, l3, t4, l4, t6, l6, t7, t68, t69, tx, k.nl.iaddr hi, k.nl.whole hi, encP, lt_true hi, tk, dj, kl.iaddr hj, kl.fieldO hj, dk, yi, y0]
              refine wp_lit (enc := encI) (k := 1) (l := [f.nl[i].value]) rfl rfl ?_
              intro h3 w3 g3 n3 b3
              obtain ⟨d, rfl⟩ := n3.one
              simp +contextual (maxSteps := 2000000) only [go_sem, Nat.reduceEqDiff, reduceCtorEq, Nat.reduceAdd, Nat.reduceLeDiff, t2, l2, t3, l3, t4, l4, t6, l6, t7, t68, t69, tx, yi]
              refine wp_setE (x := ⟨true, d, .sl none 0 (some 0)⟩) lenY (x.sl.out.out.grow g3) hio rfl rfl (gg.trans g3) ?_
              intro h4 g4 n4 s4
              simp +contextual (maxSteps := 2000000) only [go_sem, Nat.reduceEqDiff, reduceCtorEq, Nat.reduceAdd, Nat.reduceLeDiff, t2, l2, t3, l3, t4, l4, t6, l6, t7, t68, t69, tx]
              exact ⟨g4, ⟨w, _, rfl, x.put hio g3 ⟨rfl, n3, .nil⟩ Sep.nil.symm n4 s4 gg.n⟩, by rw [wrap_next hi (by omega)]⟩
      · rintro T L h' ⟨gg, t2, l2, t3, l3, t4, l4, t6, l6, ⟨w, rs, t7, x⟩, t68, t69, tx⟩
        have kl := hl.grow gg
        have x : BdY h h' v w rs (boundS l f) (boundB l f ++ missF l (boundS l f) 0) := by rw [missF_zero, List.append_nil]; exact x
        have hbb : (boundB l f).length ≤ 9 := by have := (BOk.nameF (l := l) (f := f) hb3 (Nat.le_refl _)).bad; unfold boundB; omega
        simp +contextual (maxSteps := 2000000) only [go_sem, Nat.reduceEqDiff, reduceCtorEq, Nat.reduceAdd, Nat.reduceLeDiff, t2, l2, t3, l3, t4, l4, t6, l6, t7, t68, t69, tx, lt_false, kl.len]
        refine wpC_loop (fun i T L h' => Grow h h' ∧ T 2 = .lp 2 0 ∧ (L 2).2 = [q] ∧ T 3 = .lp 3 0 ∧ (L 3).2 = [p, n] ∧ T 4 = .lp 4 0 ∧ (L 4).2 = [.sl none 0 (some 0)] ∧ T 6 = .lp 6 0 ∧ (L 6).2 = [v] ∧ (∃ w rs, T 7 = .v (.one w) ∧ BdY h h' v w rs (boundS l f) (boundB l f ++ missF l (boundS l f) i)) ∧ T 132 = .v (.one q) ∧ T 133 = .v (.one (.int .i64 l.length)) ∧ T 134 = .v (.one (.int .i64 i))) l.length ?_ ?_ (Nat.zero_le _) ?_
        · rintro i T L h' hi ⟨gg, t2, l2, t3, l3, t4, l4, t6, l6, ⟨w, rs, t7, x⟩, t132, t133, t134⟩
          have kl := hl.grow gg
          have hsl : i < (boundS l f).length := by rw [boundS_len]; exact hi
          have hio : i < rs.length := by rw [x.len]; exact hsl
          have es := fun h => c_single l[i] h
          simp only [encQ] at es
          have yi := x.sl.out.out.iaddr hio (kd := .i64)
          have y2 := (x.sl.out.out.sl lenY).fieldO (off := 2) hio (by omega)
          rw [encY_2] at y2
          have el := lacks_eq hi hsl
          have em := missF_next (sl := boundS l f) hi
          have ml := missF_len (l := l) (sl := boundS l f) (i := i)
          have done : ∀ b, lacks l (boundS l f) i = b → b = false → missF l (boundS l f) (i + 1) = missF l (boundS l f) i := fun b e1 e2 => by rw [em, e1, e2]; simp
          simp +contextual (maxSteps := 2000000) only [go_sem, Nat.reduceEqDiff, reduceCtorEq, Nat.reduceAdd, Nat.reduceLeDiff, t2, l2, t3, l3, t4, l4, t6, l6, t7, t132, t133, t134, kl.iaddr hi, kl.whole hi, encQ, lt_true hi, yi, y2]
          refine wp_call (c_clipbP _ _ h' (x.sl.at hio hsl).pairs) ?_
          rintro r h3 ⟨rfl, n3, hb3⟩
          obtain ⟨c, rfl⟩ := n3.one
          simp +contextual (maxSteps := 2000000) only [go_sem, Nat.reduceEqDiff, reduceCtorEq, Nat.reduceAdd, Nat.reduceLeDiff, t2, l2, t3, l3, t4, l4, t6, l6, t7, t132, t133, t134, yi]
          refine wp_set (x := { rs[i] with pv := c }) (off := 2) (vs := [c]) lenY x.sl.out.out hio rfl rfl (Nat.le_of_ble_eq_true rfl) gg ?_
          intro h4 g4 n4 s4
          have z := x.app_pairs hio hsl n3 ((Grow.refl _).stay _) (fun j hj => .inl (hb3 j hj)) n4 s4
          have ez : ({ (boundS l f)[i] with pairs := (boundS l f)[i].pairs } : Slot) = (boundS l f)[i] := rfl
          rw [ez, List.set_getElem_self] at z
          have hio2 : i < (rs.set i { rs[i] with pv := c }).length := by simpa using hio
          have yi2 := z.sl.out.out.iaddr hio2 (kd := .i64)
          have y02 := (z.sl.out.out.sl lenY).fieldO (off := 0) hio2 (by omega)
          rw [encY_0, (z.sl.at hio2 hsl).given] at y02
          cases b1 : single l[i] with
          | false =>
            rw [b1, Bool.false_and] at el
            simp +contextual (maxSteps := 2000000) only [go_sem, Nat.reduceEqDiff, reduceCtorEq, Nat.reduceAdd, Nat.reduceLeDiff, t2, l2, t3, l3, t4, l4, t6, l6, t7, t132, t133, t134, es, b1]
            exact ⟨g4, ⟨w, _, rfl, by rw [done _ el rfl]; exact z⟩, by rw [wrap_next hi (by omega)]⟩
          | true =>
          cases b2 : l[i].has with
          | true =>
            rw [b1, b2] at el
            simp only [b2] at es
            simp +contextual (maxSteps := 2000000) only [go_sem, Nat.reduceEqDiff, reduceCtorEq, Nat.reduceAdd, Nat.reduceLeDiff, t2, l2, t3, l3, t4, l4, t6, l6, t7, t132, t133, t134, es, b1, b2]
            exact ⟨g4, ⟨w, _, rfl, by rw [done _ el rfl]; exact z⟩, by rw [wrap_next hi (by omega)]⟩
          | false =>
          simp only [b2] at es
          cases b3 : (boundS l f)[i].given with
          | true =>
            rw [b1, b2, b3] at el
            rw [b3] at y02
            simp +contextual (maxSteps := 2000000) only [go_sem, Nat.reduceEqDiff, reduceCtorEq, Nat.reduceAdd, Nat.reduceLeDiff, t2, l2, t3, l3, t4, l4, t6, l6, t7, t132, t133, t134, es, b1, b2, yi2, y02]
            exact ⟨g4, ⟨w, _, rfl, by rw [done _ el rfl]; exact z⟩, by rw [wrap_next hi (by omega)]⟩
          | false =>
            rw [b1, b2, b3] at el
            rw [b3] at y02
            simp +contextual (maxSteps := 2000000) only [go_sem, Nat.reduceEqDiff, reduceCtorEq, Nat.reduceAdd, Nat.reduceLeDiff, t2, l2, t3, l3, t4, l4, t6, l6, t7, t132, t133, t134, es, b1, b2, yi2, y02]
            refine wp_lit (enc := encB) (k := 2) (l := [⟨3, l[i].name⟩]) rfl rfl ?_
            intro h5 w5 g5 n5 _
            simp +contextual (maxSteps := 2000000) only [go_sem, Nat.reduceEqDiff, reduceCtorEq, Nat.reduceAdd, Nat.reduceLeDiff, t2, l2, t3, l3, t4, l4, t6, l6, t7, t132, t133, t134]
            refine wp_append lenB (z.pr.grow g5) (n5.sl lenB) (g4.trans g5) (by simp; omega) ?_
            intro h6 s6 g6 n6 st6 hb6
            obtain ⟨c6, rfl⟩ := n6.one
            have z6 := (z.grow g5).push n6 st6 hb6
            simp +contextual (maxSteps := 2000000) only [go_sem, Nat.reduceEqDiff, reduceCtorEq, Nat.reduceAdd, Nat.reduceLeDiff, t2, l2, t3, l3, t4, l4, t6, l6, t7, t132, t133, t134]
            have e9 : missF l (boundS l f) (i + 1) = missF l (boundS l f) i ++ [⟨3, l[i].name⟩] := by rw [em, el]; rfl
            rw [List.append_assoc, ← e9] at z6
            exact ⟨g6, ⟨c6, _, rfl, z6⟩, by rw [wrap_next hi (by omega)]⟩
        · rintro T L h' ⟨gg, t2, l2, t3, l3, t4, l4, t6, l6, ⟨w, rs, t7, x⟩, t132, t133, t134⟩
          simp +contextual (maxSteps := 2000000) only [go_sem, Nat.reduceEqDiff, reduceCtorEq, Nat.reduceAdd, Nat.reduceLeDiff, t2, l2, t3, l3, t4, l4, t6, l6, t7, t132, t133, t134, lt_false]
          refine wp_call (c_clipbB _ _ h' x.pr) ?_
          rintro r h3 ⟨rfl, n3, hb3⟩
          obtain ⟨c, rfl⟩ := n3.one
          have z := x.push n3 ((Grow.refl _).stay _) (fun j hj => .inl (hb3 j hj))
          simp +contextual (maxSteps := 2000000) only [go_sem, Nat.reduceEqDiff, reduceCtorEq, Nat.reduceAdd, Nat.reduceLeDiff, t2, l2, t3, l3, t4, l4, t6, l6]
          exact gcK_of ⟨gg, _, _, _, rfl, z⟩ (fun hs _ => by
            simp only [AV.scalar, AV.scalars, List.all_cons, List.all_nil, Bool.and_true, Bool.and_eq_true] at hs
            exact ⟨Grow.refl h, _, _, _, rfl, z.scalar hs.1 hs.2 h⟩)
        · simp +contextual (maxSteps := 2000000) only [go_sem, Nat.reduceEqDiff, reduceCtorEq, Nat.reduceAdd, Nat.reduceLeDiff, t2, l2, t3, l3, t4, l4, t6, l6, t7]
          exact ⟨gg, ⟨w, rs, rfl, x⟩, rfl⟩
      · simp +contextual (maxSteps := 2000000) only [go_sem, Nat.reduceEqDiff, reduceCtorEq, Nat.reduceAdd, Nat.reduceLeDiff, t2, l2, t3, l3, t4, l4, t6, l6, t7]
        rw [nameF_zero]
        exact ⟨gg, ⟨_, _, rfl, x⟩, rfl⟩
  · simp +contextual (maxSteps := 2000000) only [go_sem, Nat.reduceEqDiff, reduceCtorEq, Nat.reduceAdd, Nat.reduceLeDiff]
    have z0 : BdY h h1 v (.sl none 0 (some 0)) (List.replicate l.length zeroR) (fillS l f.pl 0) [] := by
      rw [fillS_zero]
      exact ⟨.zeros n1, .nil, Sep.nil, fun i hi => Sep.nil, fun i hi => Sep.nil⟩
    exact ⟨g1, ⟨.one p, rfl, by rw [leftAt_zero]; exact hf.pl.grow g1, fun j hj => hf.pl.lt_of hj⟩, rfl, _, z0⟩
end Go.Proofs.Ytekkimfdcbgcoab.Am
