/- Contracts: what a call gives to the parameters, of the program. -/
import Derived.Test.YtekkimfdcbgcoacA4
import Derived.Test.YtekkimfdcbgcoacBI
namespace Go.Proofs.Ytekkimfdcbgcoac.Am
open Go
set_option maxRecDepth 100000
set_option maxHeartbeats 4000000
set_option linter.unusedSimpArgs false
set_option linter.unusedVariables false
attribute [local go_sem ↓] bv_t bv_c ev_t ev_c put_same put_ne put_none kill_at pro_at lb_same lb_ne start_zero start_succ wpC_seq wpC_reg wpC_cond wpC_block wpC_skip wpC_exit wpC_ret thenQ_normal thenQ_exit thenQ_ret inBlk_normal inBlk_exit inBlk_ret wpS_nil wpS_step wpS_again wpS_guard wpO_mov wpO_load wpO_faddr wpO_nilCheck wpO_pick wpO_build wpO_bin wpO_eqb wpO_eqst wpO_eqnil wpO_not wpO_conv wpO_bytesStr wpO_iaddr wpO_idxStr wpO_field wpO_extract wpO_len wpO_lenStr wpO_cap wpO_min wpO_slice wpO_sliceStr wpO_alloc wpO_box wpO_store wpO_call wpO_callv wpO_mkfn wpO_buildSlice wpO_mkslice wpO_append wpO_appz proA_nil proA_cons tmpX_nil tmpX_tmp tmpX_cell doneB_normal doneB_ret agK_cons agK_nil agK_guard agG_tt agG_ff agG_tf agG_ft agG_undef pureB_load results_one results_two results_nil resBs_cons resBs_nil resB_tmp resB_cell
attribute [local go_sem] kill_v kill_lp_ne kill_lp_same pro_v pro_lp_same pro_lp_ne av_v av_lp optB_some optX_some valX_eq ldX_lp ldX_v faX_lp faX_v ncX_lp ncX_ptr ncX_fn boxK_one boxK_agg stL_some stK_lp_one stK_lp_agg stK_v_one stK_v_agg proM_v proM_lp callG_mk callVG_mk callvK_fn fnG_mk ptrsA_nil ptrsA_cons callH_some whenA_true whenA_false guardH_tt guardH_ff guardH_tf guardH_ft guardH_undef agV_one agV_agg lenO_sl lenStrO_str notO_bool pickO_bool convO_int eqbO_bool eqnilO_sl extractO_tup capO_sl minO_int loadL_one loadL_all storeL_eq fillA_nil fillA_one fillA_agg nat_ge neg_ge nat_lt neg_lt buildO bin_add bin_sub bin_mul bin_eql bin_neq bin_lss bin_leq bin_gtr bin_geq str_eql str_neq str_lss str_leq str_gtr str_geq retK_some endK_mk gcK_same gcK_int gcK_bool tupO_one tupO_agg rdy_self ib ii Option.map_none Option.map_some Option.some.injEq exists_eq_left' exists_eq_left ne_eq not_false_eq_true if_true if_false List.map_cons List.map_nil List.getElem?_cons_zero List.getElem?_cons_succ List.length_cons List.length_nil List.take_succ_cons List.take_zero List.take_nil List.drop_succ_cons List.drop_zero List.drop_nil List.cons_append List.nil_append List.append_nil List.set_cons_zero List.set_cons_succ Nat.zero_add forall_const true_and and_true and_self Bool.false_eq_true false_implies true_implies implies_true Bool.not_true Bool.not_false Bool.not_eq_true' Bool.not_eq_false' beq_self_eq_true Bool.bne_true Bool.bne_false
attribute [local go_sem] lenI lenS lenP lenQ lenB lenL lenT encI_0 encS_0 encP_0 encP_1 encQ_0 encQ_1 encQ_2 encQ_3 encB_0 encB_1 encL_0 encL_1 encT_0 encT_1
attribute [local go_sem low] whenA_bool guardH_bool
attribute [local go_sem] lenY encY_0 encY_1 encY_2
/-! impl.bind -/
def L55_0 : List AStep := [⟨.alloc 39 [(.sl none 0 (some 0))], (some 4), none, []⟩, ⟨.mov (.c (.sl none 0 (some 0))), (some 5), none, []⟩]
theorem v55_0 : VS L55_0.eq_1 := rfl
def L55_1 : List AStep := ⟨.box 25 (.t 0), (some 2), none, []⟩ :: ⟨.box 29 (.t 1), (some 3), none, []⟩ :: L55_0
theorem v55_1 : VS L55_1.eq_1 := rfl
def L55_2 : List AStep := [⟨.store 1 (.t 6) (.t 20), none, none, []⟩]
theorem v55_2 : VS L55_2.eq_1 := rfl
def L55_3 : List AStep := ⟨.build [(.sl none 0 (some 0))] [(0, 1, (.t 19))], (some 20), none, []⟩ :: ⟨.alloc 39 [(.sl none 0 (some 0))], (some 6), none, []⟩ :: L55_2
theorem v55_3 : VS L55_3.eq_1 := rfl
def L55_4 : List AStep := ⟨.len (.t 17), (some 18), none, []⟩ :: ⟨.mkslice 46 56 [(.bool false), (.sl none 0 (some 0)), (.sl none 0 (some 0))] (.t 18) (.t 18), (some 19), none, []⟩ :: L55_3
theorem v55_4 : VS L55_4.eq_1 := rfl
def L55_5 : List AStep := ⟨.faddr 0 (.t 2), (some 16), none, []⟩ :: ⟨.load 1 false (.t 16), (some 17), none, []⟩ :: L55_4
theorem v55_5 : VS L55_5.eq_1 := rfl
def L55_6 : List AStep := [⟨.mov (.c (.sl none 0 (some 0))), (some 7), none, []⟩]
theorem v55_6 : VS L55_6.eq_1 := rfl
def L55_7 : List AStep := [⟨.mov (.t 22), (some 8), none, []⟩]
theorem v55_7 : VS L55_7.eq_1 := rfl
def L55_8 : List AStep := ⟨.faddr 0 (.t 3), (some 21), none, []⟩ :: ⟨.load 1 false (.t 21), (some 22), none, []⟩ :: L55_7
theorem v55_8 : VS L55_8.eq_1 := rfl
def L55_9 : List AStep := [⟨.len (.t 24), (some 25), none, []⟩, ⟨.mov (.c (.int .i64 0)), (some 26), none, []⟩]
theorem v55_9 : VS L55_9.eq_1 := rfl
def L55_10 : List AStep := ⟨.faddr 0 (.t 2), (some 23), none, []⟩ :: ⟨.load 1 false (.t 23), (some 24), none, []⟩ :: L55_9
theorem v55_10 : VS L55_10.eq_1 := rfl
def L55_11 : List AStep := [⟨.bin .lss (.t 26) (.t 25), (some 27), none, []⟩]
theorem v55_11 : VS L55_11.eq_1 := rfl
def L55_12 : List AStep := [⟨.mov (.t 28), (some 9), none, []⟩, ⟨.store 4 (.t 10) (.t 30), none, none, []⟩]
theorem v55_12 : VS L55_12.eq_1 := rfl
def L55_13 : List AStep := ⟨.load 4 true (.t 29), (some 30), none, []⟩ :: ⟨.alloc 44 [(.str (strOfNums [])), (.int .i64 0), (.bool false), (.int .i64 0)], (some 10), none, []⟩ :: L55_12
theorem v55_13 : VS L55_13.eq_1 := rfl
def L55_14 : List AStep := ⟨.mov (.t 26), (some 28), none, []⟩ :: ⟨.iaddr 4 (.t 24) (.t 26), (some 29), none, []⟩ :: L55_13
theorem v55_14 : VS L55_14.eq_1 := rfl
def L55_15 : List AStep := [⟨.pick (.t 33) (.t 36) (.c (.bool false)), (some 37), none, []⟩]
theorem v55_15 : VS L55_15.eq_1 := rfl
def L55_16 : List AStep := ⟨.len (.t 34), (some 35), (some (33, true)), []⟩ :: ⟨.bin .gtr (.t 35) (.c (.int .i64 0)), (some 36), (some (33, true)), []⟩ :: L55_15
theorem v55_16 : VS L55_16.eq_1 := rfl
def L55_17 : List AStep := ⟨.mov (.t 32), (some 33), none, []⟩ :: ⟨.mov (.t 8), (some 34), (some (33, true)), []⟩ :: L55_16
theorem v55_17 : VS L55_17.eq_1 := rfl
def L55_18 : List AStep := ⟨.load 4 true (.t 10), (some 31), none, []⟩ :: ⟨.call 61 [(.t 31)], (some 32), none, []⟩ :: L55_17
theorem v55_18 : VS L55_18.eq_1 := rfl
def L55_19 : List AStep := [⟨.iaddr 3 (.t 39) (.t 40), (some 46), none, []⟩, ⟨.store 3 (.t 46) (.t 45), none, none, []⟩]
theorem v55_19 : VS L55_19.eq_1 := rfl
def L55_20 : List AStep := ⟨.buildSlice 3 1 [(.int .i64 0)] [(0, 1, (.t 43))], (some 44), none, []⟩ :: ⟨.build [(.bool false), (.sl none 0 (some 0)), (.sl none 0 (some 0))] [(0, 1, (.c (.bool true))), (1, 1, (.t 44))], (some 45), none, []⟩ :: L55_19
theorem v55_20 : VS L55_20.eq_1 := rfl
def L55_21 : List AStep := ⟨.iaddr 1 (.t 41) (.c (.int .i64 0)), (some 42), none, []⟩ :: ⟨.load 1 false (.t 42), (some 43), none, []⟩ :: L55_20
theorem v55_21 : VS L55_21.eq_1 := rfl
def L55_22 : List AStep := ⟨.mov (.t 9), (some 40), none, []⟩ :: ⟨.mov (.t 8), (some 41), none, []⟩ :: L55_21
theorem v55_22 : VS L55_22.eq_1 := rfl
def L55_23 : List AStep := ⟨.faddr 0 (.t 6), (some 38), none, []⟩ :: ⟨.load 1 false (.t 38), (some 39), none, []⟩ :: L55_22
theorem v55_23 : VS L55_23.eq_1 := rfl
def L55_24 : List AStep := [⟨.mov (.t 48), (some 8), none, []⟩]
theorem v55_24 : VS L55_24.eq_1 := rfl
def L55_25 : List AStep := ⟨.mov (.t 8), (some 47), none, []⟩ :: ⟨.slice 3 1 (.t 47) (some (.c (.int .i64 1))) none none, (some 48), none, []⟩ :: L55_24
theorem v55_25 : VS L55_25.eq_1 := rfl
def L55_26 : List AStep := [⟨.bin .eql (.t 50) (.c (.int .i64 2)), (some 51), none, []⟩]
theorem v55_26 : VS L55_26.eq_1 := rfl
def L55_27 : List AStep := ⟨.faddr 1 (.t 10), (some 49), none, []⟩ :: ⟨.load 1 false (.t 49), (some 50), none, []⟩ :: L55_26
theorem v55_27 : VS L55_27.eq_1 := rfl
def L55_28 : List AStep := [⟨.faddr 1 (.t 57), (some 58), none, []⟩, ⟨.store 1 (.t 58) (.t 56), none, none, []⟩]
theorem v55_28 : VS L55_28.eq_1 := rfl
def L55_29 : List AStep := ⟨.call 103 [(.t 55)], (some 56), none, [(.load 1 false (.t 52), (some 53), none)]⟩ :: ⟨.iaddr 3 (.t 53) (.t 54), (some 57), none, []⟩ :: L55_28
theorem v55_29 : VS L55_29.eq_1 := rfl
def L55_30 : List AStep := ⟨.mov (.t 9), (some 54), none, []⟩ :: ⟨.mov (.t 8), (some 55), none, []⟩ :: L55_29
theorem v55_30 : VS L55_30.eq_1 := rfl
def L55_31 : List AStep := ⟨.faddr 0 (.t 6), (some 52), none, []⟩ :: ⟨.load 1 false (.t 52), (some 53), none, []⟩ :: L55_30
theorem v55_31 : VS L55_31.eq_1 := rfl
def L55_32 : List AStep := [⟨.mov (.c (.sl none 0 (some 0))), (some 8), none, []⟩]
theorem v55_32 : VS L55_32.eq_1 := rfl
def L55_33 : List AStep := [⟨.bin .add (.t 26) (.c (.int .i64 1)), (some 59), none, []⟩, ⟨.mov (.t 59), (some 26), none, []⟩]
theorem v55_33 : VS L55_33.eq_1 := rfl
def L55_34 : List AStep := [⟨.bin .gtr (.t 61) (.c (.int .i64 0)), (some 62), none, []⟩]
theorem v55_34 : VS L55_34.eq_1 := rfl
def L55_35 : List AStep := ⟨.mov (.t 8), (some 60), none, []⟩ :: ⟨.len (.t 60), (some 61), none, []⟩ :: L55_34
theorem v55_35 : VS L55_35.eq_1 := rfl
def L55_36 : List AStep := [⟨.mov (.t 66), (some 7), none, []⟩]
theorem v55_36 : VS L55_36.eq_1 := rfl
def L55_37 : List AStep := ⟨.buildSlice 86 1 [(.int .i64 0), (.str (strOfNums []))] [(0, 2, (.t 64))], (some 65), none, []⟩ :: ⟨.append 86 2 24 (.t 63) (.t 65), (some 66), none, []⟩ :: L55_36
theorem v55_37 : VS L55_37.eq_1 := rfl
def L55_38 : List AStep := ⟨.mov (.t 7), (some 63), none, []⟩ :: ⟨.build [(.int .i64 0), (.str (strOfNums []))] [(0, 1, (.c (.int .i64 0))), (1, 1, (.c (.str (strOfNums []))))], (some 64), none, []⟩ :: L55_37
theorem v55_38 : VS L55_38.eq_1 := rfl
def L55_39 : List AStep := [⟨.len (.t 68), (some 69), none, []⟩, ⟨.mov (.c (.int .i64 0)), (some 70), none, []⟩]
theorem v55_39 : VS L55_39.eq_1 := rfl
def L55_40 : List AStep := ⟨.faddr 1 (.t 3), (some 67), none, []⟩ :: ⟨.load 1 false (.t 67), (some 68), none, []⟩ :: L55_39
theorem v55_40 : VS L55_40.eq_1 := rfl
def L55_41 : List AStep := [⟨.bin .lss (.t 70) (.t 69), (some 71), none, []⟩]
theorem v55_41 : VS L55_41.eq_1 := rfl
def L55_42 : List AStep := [⟨.alloc 93 [(.str (strOfNums [])), (.int .i64 0)], (some 12), none, []⟩, ⟨.store 2 (.t 12) (.t 73), none, none, []⟩]
theorem v55_42 : VS L55_42.eq_1 := rfl
def L55_43 : List AStep := ⟨.iaddr 2 (.t 68) (.t 70), (some 72), none, []⟩ :: ⟨.load 2 true (.t 72), (some 73), none, []⟩ :: L55_42
theorem v55_43 : VS L55_43.eq_1 := rfl
def L55_44 : List AStep := [⟨.mov (.t 77), (some 13), none, []⟩]
theorem v55_44 : VS L55_44.eq_1 := rfl
def L55_45 : List AStep := ⟨.load 1 false (.t 75), (some 76), none, []⟩ :: ⟨.call 104 [(.t 74), (.t 76)], (some 77), none, []⟩ :: L55_44
theorem v55_45 : VS L55_45.eq_1 := rfl
def L55_46 : List AStep := ⟨.load 1 true (.t 2), (some 74), none, []⟩ :: ⟨.faddr 0 (.t 12), (some 75), none, []⟩ :: L55_45
theorem v55_46 : VS L55_46.eq_1 := rfl
def L55_47 : List AStep := [⟨.mov (.t 88), (some 86), none, []⟩]
theorem v55_47 : VS L55_47.eq_1 := rfl
def L55_48 : List AStep := ⟨.mov (.t 13), (some 87), none, []⟩ :: ⟨.bin .lss (.t 87) (.c (.int .i64 0)), (some 88), none, []⟩ :: L55_47
theorem v55_48 : VS L55_48.eq_1 := rfl
def L55_49 : List AStep := [⟨.mov (.t 94), (some 7), none, []⟩]
theorem v55_49 : VS L55_49.eq_1 := rfl
def L55_50 : List AStep := ⟨.buildSlice 86 1 [(.int .i64 0), (.str (strOfNums []))] [(0, 2, (.t 92))], (some 93), none, []⟩ :: ⟨.append 86 2 24 (.t 89) (.t 93), (some 94), none, []⟩ :: L55_49
theorem v55_50 : VS L55_50.eq_1 := rfl
def L55_51 : List AStep := ⟨.load 1 false (.t 90), (some 91), none, []⟩ :: ⟨.build [(.int .i64 0), (.str (strOfNums []))] [(0, 1, (.c (.int .i64 1))), (1, 1, (.t 91))], (some 92), none, []⟩ :: L55_50
theorem v55_51 : VS L55_51.eq_1 := rfl
def L55_52 : List AStep := ⟨.mov (.t 7), (some 89), none, []⟩ :: ⟨.faddr 0 (.t 12), (some 90), none, []⟩ :: L55_51
theorem v55_52 : VS L55_52.eq_1 := rfl
def L55_53 : List AStep := [⟨.bin .eql (.t 101) (.c (.int .i64 4)), (some 102), none, []⟩, ⟨.mov (.t 102), (some 95), none, []⟩]
theorem v55_53 : VS L55_53.eq_1 := rfl
def L55_54 : List AStep := ⟨.faddr 1 (.t 99), (some 100), none, []⟩ :: ⟨.load 1 false (.t 100), (some 101), none, []⟩ :: L55_53
theorem v55_54 : VS L55_54.eq_1 := rfl
def L55_55 : List AStep := ⟨.mov (.t 13), (some 98), none, []⟩ :: ⟨.iaddr 4 (.t 97) (.t 98), (some 99), none, []⟩ :: L55_54
theorem v55_55 : VS L55_55.eq_1 := rfl
def L55_56 : List AStep := ⟨.faddr 0 (.t 2), (some 96), none, []⟩ :: ⟨.load 1 false (.t 96), (some 97), none, []⟩ :: L55_55
theorem v55_56 : VS L55_56.eq_1 := rfl
def L55_57 : List AStep := [⟨.store 1 (.t 116) (.t 114), none, none, []⟩]
theorem v55_57 : VS L55_57.eq_1 := rfl
def L55_58 : List AStep := ⟨.iaddr 3 (.t 104) (.t 105), (some 115), none, []⟩ :: ⟨.faddr 2 (.t 115), (some 116), none, []⟩ :: L55_57
theorem v55_58 : VS L55_58.eq_1 := rfl
def L55_59 : List AStep := ⟨.buildSlice 93 1 [(.str (strOfNums [])), (.int .i64 0)] [(0, 2, (.t 112))], (some 113), none, []⟩ :: ⟨.append 93 2 24 (.t 111) (.t 113), (some 114), none, [(.load 1 false (.t 103), (some 104), none)]⟩ :: L55_58
theorem v55_59 : VS L55_59.eq_1 := rfl
def L55_60 : List AStep := ⟨.load 1 false (.t 110), (some 111), none, []⟩ :: ⟨.load 2 true (.t 12), (some 112), none, []⟩ :: L55_59
theorem v55_60 : VS L55_60.eq_1 := rfl
def L55_61 : List AStep := ⟨.iaddr 3 (.t 107) (.t 108), (some 109), none, []⟩ :: ⟨.faddr 2 (.t 109), (some 110), none, []⟩ :: L55_60
theorem v55_61 : VS L55_61.eq_1 := rfl
def L55_62 : List AStep := ⟨.load 1 false (.t 106), (some 107), none, []⟩ :: ⟨.mov (.t 13), (some 108), none, []⟩ :: L55_61
theorem v55_62 : VS L55_62.eq_1 := rfl
def L55_63 : List AStep := ⟨.mov (.t 13), (some 105), none, []⟩ :: ⟨.faddr 0 (.t 6), (some 106), none, []⟩ :: L55_62
theorem v55_63 : VS L55_63.eq_1 := rfl
def L55_64 : List AStep := ⟨.faddr 0 (.t 6), (some 103), none, []⟩ :: ⟨.load 1 false (.t 103), (some 104), none, []⟩ :: L55_63
theorem v55_64 : VS L55_64.eq_1 := rfl
def L55_65 : List AStep := [⟨.mov (.t 123), (some 117), none, []⟩]
theorem v55_65 : VS L55_65.eq_1 := rfl
def L55_66 : List AStep := ⟨.faddr 0 (.t 121), (some 122), none, []⟩ :: ⟨.load 1 false (.t 122), (some 123), none, []⟩ :: L55_65
theorem v55_66 : VS L55_66.eq_1 := rfl
def L55_67 : List AStep := ⟨.mov (.t 13), (some 120), none, []⟩ :: ⟨.iaddr 3 (.t 119) (.t 120), (some 121), none, []⟩ :: L55_66
theorem v55_67 : VS L55_67.eq_1 := rfl
def L55_68 : List AStep := ⟨.faddr 0 (.t 6), (some 118), none, []⟩ :: ⟨.load 1 false (.t 118), (some 119), none, []⟩ :: L55_67
theorem v55_68 : VS L55_68.eq_1 := rfl
def L55_69 : List AStep := [⟨.mov (.t 129), (some 7), none, []⟩]
theorem v55_69 : VS L55_69.eq_1 := rfl
def L55_70 : List AStep := ⟨.buildSlice 86 1 [(.int .i64 0), (.str (strOfNums []))] [(0, 2, (.t 127))], (some 128), none, []⟩ :: ⟨.append 86 2 24 (.t 124) (.t 128), (some 129), none, []⟩ :: L55_69
theorem v55_70 : VS L55_70.eq_1 := rfl
def L55_71 : List AStep := ⟨.load 1 false (.t 125), (some 126), none, []⟩ :: ⟨.build [(.int .i64 0), (.str (strOfNums []))] [(0, 1, (.c (.int .i64 2))), (1, 1, (.t 126))], (some 127), none, []⟩ :: L55_70
theorem v55_71 : VS L55_71.eq_1 := rfl
def L55_72 : List AStep := ⟨.mov (.t 7), (some 124), none, []⟩ :: ⟨.faddr 0 (.t 12), (some 125), none, []⟩ :: L55_71
theorem v55_72 : VS L55_72.eq_1 := rfl
def L55_73 : List AStep := [⟨.store 3 (.t 85) (.t 84), none, none, []⟩]
theorem v55_73 : VS L55_73.eq_1 := rfl
def L55_74 : List AStep := ⟨.build [(.bool false), (.sl none 0 (some 0)), (.sl none 0 (some 0))] [(0, 1, (.c (.bool true))), (1, 1, (.t 83))], (some 84), none, []⟩ :: ⟨.iaddr 3 (.t 79) (.t 80), (some 85), none, []⟩ :: L55_73
theorem v55_74 : VS L55_74.eq_1 := rfl
def L55_75 : List AStep := ⟨.load 1 false (.t 81), (some 82), none, []⟩ :: ⟨.buildSlice 3 1 [(.int .i64 0)] [(0, 1, (.t 82))], (some 83), none, []⟩ :: L55_74
theorem v55_75 : VS L55_75.eq_1 := rfl
def L55_76 : List AStep := ⟨.mov (.t 13), (some 80), none, []⟩ :: ⟨.faddr 1 (.t 12), (some 81), none, []⟩ :: L55_75
theorem v55_76 : VS L55_76.eq_1 := rfl
def L55_77 : List AStep := ⟨.faddr 0 (.t 6), (some 78), none, []⟩ :: ⟨.load 1 false (.t 78), (some 79), none, []⟩ :: L55_76
theorem v55_77 : VS L55_77.eq_1 := rfl
def L55_78 : List AStep := [⟨.bin .add (.t 70) (.c (.int .i64 1)), (some 130), none, []⟩, ⟨.mov (.t 130), (some 70), none, []⟩]
theorem v55_78 : VS L55_78.eq_1 := rfl
def L55_79 : List AStep := [⟨.len (.t 132), (some 133), none, []⟩, ⟨.mov (.c (.int .i64 0)), (some 134), none, []⟩]
theorem v55_79 : VS L55_79.eq_1 := rfl
def L55_80 : List AStep := ⟨.faddr 0 (.t 2), (some 131), none, []⟩ :: ⟨.load 1 false (.t 131), (some 132), none, []⟩ :: L55_79
theorem v55_80 : VS L55_80.eq_1 := rfl
def L55_81 : List AStep := [⟨.bin .lss (.t 134) (.t 133), (some 135), none, []⟩]
theorem v55_81 : VS L55_81.eq_1 := rfl
def L55_82 : List AStep := [⟨.mov (.t 136), (some 14), none, []⟩, ⟨.store 4 (.t 15) (.t 138), none, none, []⟩]
theorem v55_82 : VS L55_82.eq_1 := rfl
def L55_83 : List AStep := ⟨.load 4 true (.t 137), (some 138), none, []⟩ :: ⟨.alloc 44 [(.str (strOfNums [])), (.int .i64 0), (.bool false), (.int .i64 0)], (some 15), none, []⟩ :: L55_82
theorem v55_83 : VS L55_83.eq_1 := rfl
def L55_84 : List AStep := ⟨.mov (.t 134), (some 136), none, []⟩ :: ⟨.iaddr 4 (.t 132) (.t 134), (some 137), none, []⟩ :: L55_83
theorem v55_84 : VS L55_84.eq_1 := rfl
def L55_85 : List AStep := [⟨.store 1 (.t 150) (.t 148), none, none, []⟩]
theorem v55_85 : VS L55_85.eq_1 := rfl
def L55_86 : List AStep := ⟨.iaddr 3 (.t 140) (.t 141), (some 149), none, []⟩ :: ⟨.faddr 2 (.t 149), (some 150), none, []⟩ :: L55_85
theorem v55_86 : VS L55_86.eq_1 := rfl
def L55_87 : List AStep := ⟨.load 1 false (.t 146), (some 147), none, []⟩ :: ⟨.call 105 [(.t 147)], (some 148), none, [(.load 1 false (.t 139), (some 140), none)]⟩ :: L55_86
theorem v55_87 : VS L55_87.eq_1 := rfl
def L55_88 : List AStep := ⟨.iaddr 3 (.t 143) (.t 144), (some 145), none, []⟩ :: ⟨.faddr 2 (.t 145), (some 146), none, []⟩ :: L55_87
theorem v55_88 : VS L55_88.eq_1 := rfl
def L55_89 : List AStep := ⟨.load 1 false (.t 142), (some 143), none, []⟩ :: ⟨.mov (.t 14), (some 144), none, []⟩ :: L55_88
theorem v55_89 : VS L55_89.eq_1 := rfl
def L55_90 : List AStep := ⟨.mov (.t 14), (some 141), none, []⟩ :: ⟨.faddr 0 (.t 6), (some 142), none, []⟩ :: L55_89
theorem v55_90 : VS L55_90.eq_1 := rfl
def L55_91 : List AStep := ⟨.faddr 0 (.t 6), (some 139), none, []⟩ :: ⟨.load 1 false (.t 139), (some 140), none, []⟩ :: L55_90
theorem v55_91 : VS L55_91.eq_1 := rfl
def L55_92 : List AStep := [⟨.not (.t 164), (some 165), (some (158, true)), []⟩, ⟨.pick (.t 158) (.t 165) (.c (.bool false)), (some 166), none, []⟩]
theorem v55_92 : VS L55_92.eq_1 := rfl
def L55_93 : List AStep := ⟨.faddr 0 (.t 162), (some 163), (some (158, true)), []⟩ :: ⟨.load 1 false (.t 163), (some 164), (some (158, true)), []⟩ :: L55_92
theorem v55_93 : VS L55_93.eq_1 := rfl
def L55_94 : List AStep := ⟨.mov (.t 14), (some 161), (some (158, true)), []⟩ :: ⟨.iaddr 3 (.t 160) (.t 161), (some 162), (some (158, true)), []⟩ :: L55_93
theorem v55_94 : VS L55_94.eq_1 := rfl
def L55_95 : List AStep := ⟨.faddr 0 (.t 6), (some 159), (some (158, true)), []⟩ :: ⟨.load 1 false (.t 159), (some 160), (some (158, true)), []⟩ :: L55_94
theorem v55_95 : VS L55_95.eq_1 := rfl
def L55_96 : List AStep := ⟨.pick (.t 153) (.t 156) (.c (.bool false)), (some 157), none, []⟩ :: ⟨.mov (.t 157), (some 158), none, []⟩ :: L55_95
theorem v55_96 : VS L55_96.eq_1 := rfl
def L55_97 : List AStep := ⟨.load 1 false (.t 154), (some 155), (some (153, true)), []⟩ :: ⟨.not (.t 155), (some 156), (some (153, true)), []⟩ :: L55_96
theorem v55_97 : VS L55_97.eq_1 := rfl
def L55_98 : List AStep := ⟨.mov (.t 152), (some 153), none, []⟩ :: ⟨.faddr 2 (.t 15), (some 154), (some (153, true)), []⟩ :: L55_97
theorem v55_98 : VS L55_98.eq_1 := rfl
def L55_99 : List AStep := ⟨.load 4 true (.t 15), (some 151), none, []⟩ :: ⟨.call 69 [(.t 151)], (some 152), none, []⟩ :: L55_98
theorem v55_99 : VS L55_99.eq_1 := rfl
def L55_100 : List AStep := [⟨.mov (.t 172), (some 7), none, []⟩]
theorem v55_100 : VS L55_100.eq_1 := rfl
def L55_101 : List AStep := ⟨.buildSlice 86 1 [(.int .i64 0), (.str (strOfNums []))] [(0, 2, (.t 170))], (some 171), none, []⟩ :: ⟨.append 86 2 24 (.t 167) (.t 171), (some 172), none, []⟩ :: L55_100
theorem v55_101 : VS L55_101.eq_1 := rfl
def L55_102 : List AStep := ⟨.load 1 false (.t 168), (some 169), none, []⟩ :: ⟨.build [(.int .i64 0), (.str (strOfNums []))] [(0, 1, (.c (.int .i64 3))), (1, 1, (.t 169))], (some 170), none, []⟩ :: L55_101
theorem v55_102 : VS L55_102.eq_1 := rfl
def L55_103 : List AStep := ⟨.mov (.t 7), (some 167), none, []⟩ :: ⟨.faddr 0 (.t 15), (some 168), none, []⟩ :: L55_102
theorem v55_103 : VS L55_103.eq_1 := rfl
def L55_104 : List AStep := [⟨.bin .add (.t 134) (.c (.int .i64 1)), (some 173), none, []⟩, ⟨.mov (.t 173), (some 134), none, []⟩]
theorem v55_104 : VS L55_104.eq_1 := rfl
def L55_105 : List AStep := [⟨.mov (.t 176), (some 5), none, []⟩]
theorem v55_105 : VS L55_105.eq_1 := rfl
def L55_106 : List AStep := ⟨.call 106 [(.t 175)], (some 176), none, [(.load 1 true (.t 6), (some 174), none)]⟩ :: ⟨.store 1 (.t 4) (.t 174), none, none, []⟩ :: L55_105
theorem v55_106 : VS L55_106.eq_1 := rfl
def L55_107 : List AStep := ⟨.load 1 true (.t 6), (some 174), none, []⟩ :: ⟨.mov (.t 7), (some 175), none, []⟩ :: L55_106
theorem v55_107 : VS L55_107.eq_1 := rfl
def C55_0 : ACode := .cond (.t 27) .skip (.exit 0)
theorem u55_0 : VC C55_0.eq_1 := rfl
def C55_1 : ACode := .seq (.reg L55_23) (.reg L55_25)
theorem u55_1 : VC C55_1.eq_1 := rfl
def C55_2 : ACode := .cond (.t 37) C55_1 .skip
theorem u55_2 : VC C55_2.eq_1 := rfl
def C55_3 : ACode := .seq (.reg L55_18) C55_2
theorem u55_3 : VC C55_3.eq_1 := rfl
def C55_4 : ACode := .seq (.reg L55_31) (.reg L55_32)
theorem u55_4 : VC C55_4.eq_1 := rfl
def C55_5 : ACode := .cond (.t 51) C55_4 .skip
theorem u55_5 : VC C55_5.eq_1 := rfl
def C55_6 : ACode := .seq (.reg L55_27) C55_5
theorem u55_6 : VC C55_6.eq_1 := rfl
def C55_7 : ACode := .seq C55_3 C55_6
theorem u55_7 : VC C55_7.eq_1 := rfl
def C55_8 : ACode := .seq (.reg L55_14) C55_7
theorem u55_8 : VC C55_8.eq_1 := rfl
def C55_9 : ACode := .block 1 C55_8
theorem u55_9 : VC C55_9.eq_1 := rfl
def C55_10 : ACode := .seq C55_9 (.reg L55_33)
theorem u55_10 : VC C55_10.eq_1 := rfl
def C55_11 : ACode := .seq C55_0 C55_10
theorem u55_11 : VC C55_11.eq_1 := rfl
def C55_12 : ACode := .seq (.reg L55_11) C55_11
theorem u55_12 : VC C55_12.eq_1 := rfl
def C55_13 : ACode := .block 0 (.loop C55_12)
theorem u55_13 : VC C55_13.eq_1 := rfl
def C55_14 : ACode := .seq (.reg L55_10) C55_13
theorem u55_14 : VC C55_14.eq_1 := rfl
def C55_15 : ACode := .cond (.t 62) (.reg L55_38) .skip
theorem u55_15 : VC C55_15.eq_1 := rfl
def C55_16 : ACode := .seq (.reg L55_35) C55_15
theorem u55_16 : VC C55_16.eq_1 := rfl
def C55_17 : ACode := .cond (.t 71) .skip (.exit 2)
theorem u55_17 : VC C55_17.eq_1 := rfl
def C55_18 : ACode := .cond (.t 117) (.reg L55_72) (.reg L55_77)
theorem u55_18 : VC C55_18.eq_1 := rfl
def C55_19 : ACode := .seq (.reg L55_68) C55_18
theorem u55_19 : VC C55_19.eq_1 := rfl
def C55_20 : ACode := .cond (.t 95) (.reg L55_64) C55_19
theorem u55_20 : VC C55_20.eq_1 := rfl
def C55_21 : ACode := .seq (.reg L55_56) C55_20
theorem u55_21 : VC C55_21.eq_1 := rfl
def C55_22 : ACode := .cond (.t 86) (.reg L55_52) C55_21
theorem u55_22 : VC C55_22.eq_1 := rfl
def C55_23 : ACode := .seq (.reg L55_48) C55_22
theorem u55_23 : VC C55_23.eq_1 := rfl
def C55_24 : ACode := .block 4 C55_23
theorem u55_24 : VC C55_24.eq_1 := rfl
def C55_25 : ACode := .seq (.reg L55_46) C55_24
theorem u55_25 : VC C55_25.eq_1 := rfl
def C55_26 : ACode := .seq (.reg L55_43) C55_25
theorem u55_26 : VC C55_26.eq_1 := rfl
def C55_27 : ACode := .block 3 C55_26
theorem u55_27 : VC C55_27.eq_1 := rfl
def C55_28 : ACode := .seq C55_27 (.reg L55_78)
theorem u55_28 : VC C55_28.eq_1 := rfl
def C55_29 : ACode := .seq C55_17 C55_28
theorem u55_29 : VC C55_29.eq_1 := rfl
def C55_30 : ACode := .seq (.reg L55_41) C55_29
theorem u55_30 : VC C55_30.eq_1 := rfl
def C55_31 : ACode := .block 2 (.loop C55_30)
theorem u55_31 : VC C55_31.eq_1 := rfl
def C55_32 : ACode := .seq (.reg L55_40) C55_31
theorem u55_32 : VC C55_32.eq_1 := rfl
def C55_33 : ACode := .cond (.t 135) .skip (.exit 5)
theorem u55_33 : VC C55_33.eq_1 := rfl
def C55_34 : ACode := .cond (.t 166) (.reg L55_103) .skip
theorem u55_34 : VC C55_34.eq_1 := rfl
def C55_35 : ACode := .seq (.reg L55_99) C55_34
theorem u55_35 : VC C55_35.eq_1 := rfl
def C55_36 : ACode := .seq (.reg L55_91) C55_35
theorem u55_36 : VC C55_36.eq_1 := rfl
def C55_37 : ACode := .seq (.reg L55_84) C55_36
theorem u55_37 : VC C55_37.eq_1 := rfl
def C55_38 : ACode := .block 6 C55_37
theorem u55_38 : VC C55_38.eq_1 := rfl
def C55_39 : ACode := .seq C55_38 (.reg L55_104)
theorem u55_39 : VC C55_39.eq_1 := rfl
def C55_40 : ACode := .seq C55_33 C55_39
theorem u55_40 : VC C55_40.eq_1 := rfl
def C55_41 : ACode := .seq (.reg L55_81) C55_40
theorem u55_41 : VC C55_41.eq_1 := rfl
def C55_42 : ACode := .block 5 (.loop C55_41)
theorem u55_42 : VC C55_42.eq_1 := rfl
def C55_43 : ACode := .seq (.reg L55_80) C55_42
theorem u55_43 : VC C55_43.eq_1 := rfl
def C55_44 : ACode := .seq (.reg L55_107) .ret
theorem u55_44 : VC C55_44.eq_1 := rfl
def C55_45 : ACode := .seq C55_43 C55_44
theorem u55_45 : VC C55_45.eq_1 := rfl
def C55_46 : ACode := .seq C55_32 C55_45
theorem u55_46 : VC C55_46.eq_1 := rfl
def C55_47 : ACode := .seq C55_16 C55_46
theorem u55_47 : VC C55_47.eq_1 := rfl
def C55_48 : ACode := .seq C55_14 C55_47
theorem u55_48 : VC C55_48.eq_1 := rfl
def C55_49 : ACode := .seq (.reg L55_8) C55_48
theorem u55_49 : VC C55_49.eq_1 := rfl
def C55_50 : ACode := .seq (.reg L55_6) C55_49
theorem u55_50 : VC C55_50.eq_1 := rfl
def C55_51 : ACode := .seq (.reg L55_5) C55_50
theorem u55_51 : VC C55_51.eq_1 := rfl
def C55_52 : ACode := .seq (.reg L55_1) C55_51
theorem u55_52 : VC C55_52.eq_1 := rfl
def F55 : AFunc := ⟨177, [.cell 4 1 true, .tmp 5], C55_52⟩
theorem cF55 : compB Try.prog 55 = some F55 := by kernel_rfl
attribute [local go_sem ↓] u55_0 u55_1 u55_2 u55_3 u55_4 u55_5 u55_6 u55_7 u55_8 u55_9 u55_10 u55_11 u55_12 u55_13 u55_14 u55_15 u55_16 u55_17 u55_18 u55_19 u55_20 u55_21 u55_22 u55_23 u55_24 u55_25 u55_26 u55_27 u55_28 u55_29 u55_30 u55_31 u55_32 u55_33 u55_34 u55_35 u55_36 u55_37 u55_38 u55_39 u55_40 u55_41 u55_42 u55_43 u55_44 u55_45 u55_46 u55_47 u55_48 u55_49 u55_50 u55_51 u55_52 v55_0 v55_1 v55_2 v55_3 v55_4 v55_5 v55_6 v55_7 v55_8 v55_9 v55_10 v55_11 v55_12 v55_13 v55_14 v55_15 v55_16 v55_17 v55_18 v55_19 v55_20 v55_21 v55_22 v55_23 v55_24 v55_25 v55_26 v55_27 v55_28 v55_29 v55_30 v55_31 v55_32 v55_33 v55_34 v55_35 v55_36 v55_37 v55_38 v55_39 v55_40 v55_41 v55_42 v55_43 v55_44 v55_45 v55_46 v55_47 v55_48 v55_49 v55_50 v55_51 v55_52 v55_53 v55_54 v55_55 v55_56 v55_57 v55_58 v55_59 v55_60 v55_61 v55_62 v55_63 v55_64 v55_65 v55_66 v55_67 v55_68 v55_69 v55_70 v55_71 v55_72 v55_73 v55_74 v55_75 v55_76 v55_77 v55_78 v55_79 v55_80 v55_81 v55_82 v55_83 v55_84 v55_85 v55_86 v55_87 v55_88 v55_89 v55_90 v55_91 v55_92 v55_93 v55_94 v55_95 v55_96 v55_97 v55_98 v55_99 v55_100 v55_101 v55_102 v55_103 v55_104 v55_105 v55_106 v55_107
theorem c_bind (l : List Param) (f : Flat) (q p n : CV) (h : H) (hl : SlQ h (.one q) l) (hf : SlF h p n f) (ok1 : okSig l = true) (ok2 : okFlat f = true) :
    callK (bm Try.prog 55 [.agg [q], .agg [p, n]] h) fun r h' => Grow h h' ∧ ∃ v w rs, r = .tup [.agg [v], .one w] ∧ BdY h h' v w rs (boundS l f) (wrong l f) := by
  refine bm_of cF55 ?_
  have o := Ord.of ok1
  have hn := okSig_len ok1
  obtain ⟨hb1, hb2, hb3⟩ := okFlat_sm ok2
  have sq : smQ l := ⟨by unfold big; omega, fun x hx => by have := okSig_name ok1 x hx; unfold big; omega⟩
  have pl0 := places_le (l := l)
  simp +contextual (maxSteps := 2000000) only [go_sem, Nat.reduceEqDiff, reduceCtorEq, Nat.reduceAdd, Nat.reduceLeDiff, F55, hl.len]
  refine wp_make (enc := encY) (k := 3) zeroR rfl (by omega) (by omega) ?_
  intro h1 v g1 n1 _
  obtain ⟨v, rfl⟩ := n1.one
  have k1 := hl.grow g1
  simp +contextual (maxSteps := 2000000) only [go_sem, Nat.reduceEqDiff, reduceCtorEq, Nat.reduceAdd, Nat.reduceLeDiff, k1.len]
  refine wpC_loop (fun i T L h' => Grow h h' ∧ T 2 = .lp 2 0 ∧ (L 2).2 = [q] ∧ T 3 = .lp 3 0 ∧ (L 3).2 = [p, n] ∧ T 4 = .lp 4 0 ∧ (L 4).2 = [.sl none 0 (some 0)] ∧ T 6 = .lp 6 0 ∧ (L 6).2 = [v] ∧ T 7 = .v (.one (.sl none 0 (some 0))) ∧ (∃ u, T 8 = .v u ∧ SlI h' u (leftAt l f.pl i) ∧ ∀ j, baseOf u = some j → j < h.n) ∧ T 24 = .v (.one q) ∧ T 25 = .v (.one (.int .i64 l.length)) ∧ T 26 = .v (.one (.int .i64 i)) ∧ ∃ rs, BdY h h' v (.sl none 0 (some 0)) rs (fillS l f.pl i) []) l.length ?_ ?_ (Nat.zero_le _) ?_
  · rintro i T L h' hi ⟨gg, t2, l2, t3, l3, t4, l4, t6, l6, t7, ⟨u, t8, xu, bu⟩, t24, t25, t26, rs, x⟩
    have kl := hl.grow gg
    have hrs : rs.length = l.length := x.len.trans fillS_len
    have hio : i < rs.length := by omega
    have hsl : i < (fillS l f.pl i).length := by rw [fillS_len]; exact hi
    have es := fun h => c_placed l[i] h
    simp only [encQ] at es
    have yi := x.sl.out.out.iaddr hio (kd := .i64)
    have sep : ∀ j, baseOf u = some j → baseOf (.one v) ≠ some j := fun j hj hv => by
      have := bu j hj
      have := (x.sl.out.out.lt hv).2
      omega
    cases b1 : byPlace l[i] with
    | true =>
      obtain ⟨la, lb⟩ := leftAt_place (pl := f.pl) o hi b1
      have nk : decide (l[i].kind = 2) = false := by rw [byPlace_iff] at b1; exact decide_eq_false (by omega)
      rw [la] at xu
      rw [lb]
      by_cases hj : i < f.pl.length
      · have hd : 0 < (f.pl.drop i).length := by simp; omega
        have d0 : decide (((f.pl.drop i).length : Int) > 0) = true := decide_eq_true (by omega)
        have ui : iaddrO 1 u (.one (.int .i64 0)) = some (.one (.ptr (some (elem 1 u 0)))) := xu.iaddr hd
        have uv : loadO 1 false h' (.one (.ptr (some (elem 1 u 0)))) = some (.one (.int .i64 f.pl[i])) := by
          rw [xu.oneO hd, encI_0]
          simp
        simp +contextual (maxSteps := 2000000) only [go_sem, Nat.reduceEqDiff, reduceCtorEq, Nat.reduceAdd, Nat.reduceLeDiff, t2, l2, t3, l3, t4, l4, t6, l6, t7, t8, t24, t25, t26, kl.iaddr hi, kl.whole hi, encQ, lt_true hi, es, b1, xu.len, d0, ui, uv, nk]
        refine wp_lit (enc := encI) (k := 1) (l := [f.pl[i]]) rfl rfl ?_
        intro h3 w3 g3 n3 b3
        obtain ⟨d, rfl⟩ := n3.one
        simp +contextual (maxSteps := 2000000) only [go_sem, Nat.reduceEqDiff, reduceCtorEq, Nat.reduceAdd, Nat.reduceLeDiff, t2, l2, t3, l3, t4, l4, t6, l6, t7, t8, t24, t25, t26, yi]
        refine wp_setE (x := ⟨true, d, .sl none 0 (some 0)⟩) lenY (x.sl.out.out.grow g3) hio rfl rfl (gg.trans g3) ?_
        intro h4 g4 n4 s4
        have xu4 := (xu.grow g3).of_stay s4 sep
        obtain ⟨u2, e2, xu2, bu2⟩ := xu4.dropB (i := 1) (by omega) (kd := .i64)
        have e3 : cutO 3 1 h4 u (some (.one (.int .i64 1))) none none = some u2 := e2
        rw [List.drop_drop, Nat.add_comm] at xu2
        have z := x.put hio g3 ⟨rfl, n3, .nil⟩ Sep.nil.symm n4 s4 gg.n (a := givenS f.pl[i])
        rw [← slotPl_place hi b1 hj, fillS_set] at z
        simp +contextual (maxSteps := 2000000) only [go_sem, Nat.reduceEqDiff, reduceCtorEq, Nat.reduceAdd, Nat.reduceLeDiff, t2, l2, t3, l3, t4, l4, t6, l6, t7, t8, t24, t25, t26, e3, nk]
        exact ⟨g4, ⟨u2, rfl, by rw [Nat.add_comm] at xu2; exact xu2, fun j hj => bu j (bu2 j hj)⟩, by rw [wrap_next hi (by omega)], _, z⟩
      · have d0 : decide (((f.pl.drop i).length : Int) > 0) = false := decide_eq_false (by simp; omega)
        simp +contextual (maxSteps := 2000000) only [go_sem, Nat.reduceEqDiff, reduceCtorEq, Nat.reduceAdd, Nat.reduceLeDiff, t2, l2, t3, l3, t4, l4, t6, l6, t7, t8, t24, t25, t26, kl.iaddr hi, kl.whole hi, encQ, lt_true hi, es, b1, xu.len, d0, nk]
        rw [fillS_skip hi (slotPl_none hi b1 hj)]
        rw [show f.pl.drop (i + 1) = f.pl.drop i by rw [List.drop_eq_nil_of_le (by omega), List.drop_eq_nil_of_le (by omega)]]
        exact ⟨gg, ⟨u, rfl, xu, bu⟩, by rw [wrap_next hi (by omega)], _, x⟩
    | false =>
      by_cases kk : l[i].kind = 2
      · obtain ⟨la, lb⟩ := leftAt_rest (pl := f.pl) o hi kk
        have nk : decide (l[i].kind = 2) = true := decide_eq_true kk
        rw [la] at xu
        rw [lb]
        simp +contextual (maxSteps := 2000000) only [go_sem, Nat.reduceEqDiff, reduceCtorEq, Nat.reduceAdd, Nat.reduceLeDiff, t2, l2, t3, l3, t4, l4, t6, l6, t7, t8, t24, t25, t26, kl.iaddr hi, kl.whole hi, encQ, lt_true hi, es, b1, nk]
        refine wp_call (c_cloneI _ _ h' xu (by simp; unfold big; omega)) ?_
        rintro r h3 ⟨g3, n3⟩
        obtain ⟨c, rfl⟩ := n3.one
        simp +contextual (maxSteps := 2000000) only [go_sem, Nat.reduceEqDiff, reduceCtorEq, Nat.reduceAdd, Nat.reduceLeDiff, t2, l2, t3, l3, t4, l4, t6, l6, t7, t8, t24, t25, t26, yi]
        refine wp_set (x := { rs[i] with lv := c }) (off := 1) (vs := [c]) lenY (x.sl.out.out.grow g3) hio rfl rfl (Nat.le_of_ble_eq_true rfl) (gg.trans g3) ?_
        intro h4 g4 n4 s4
        have z := x.app_list hio hsl (n3.from gg.n) (g3.stay _) (fun j hj => .inr (n3.lt hj).2) n4 s4
        have ez : ({ (fillS l f.pl i)[i] with list := f.pl.drop i } : Slot) = slotPl l f.pl i := by rw [fillS_at, slotPl_rest hi kk]; rfl
        rw [ez, fillS_set] at z
        simp +contextual (maxSteps := 2000000) only [go_sem, Nat.reduceEqDiff, reduceCtorEq, Nat.reduceAdd, Nat.reduceLeDiff, t2, l2, t3, l3, t4, l4, t6, l6, t7, t8, t24, t25, t26]
        exact ⟨g4, ⟨_, rfl, Sl.nil lenI, fun j hj => by simp [baseOf] at hj⟩, by rw [wrap_next hi (by omega)], _, z⟩
      · have nk : decide (l[i].kind = 2) = false := decide_eq_false kk
        simp +contextual (maxSteps := 2000000) only [go_sem, Nat.reduceEqDiff, reduceCtorEq, Nat.reduceAdd, Nat.reduceLeDiff, t2, l2, t3, l3, t4, l4, t6, l6, t7, t8, t24, t25, t26, kl.iaddr hi, kl.whole hi, encQ, lt_true hi, es, b1, nk]
        rw [fillS_skip hi (slotPl_else hi b1 kk), leftAt_else o hi b1 kk]
        exact ⟨gg, ⟨u, rfl, xu, bu⟩, by rw [wrap_next hi (by omega)], _, x⟩
  · rintro T L h' ⟨gg, t2, l2, t3, l3, t4, l4, t6, l6, t7, ⟨u, t8, xu, bu⟩, t24, t25, t26, rs, x⟩
    have k := hf.grow gg
    rw [fillS_all] at x
    by_cases hm : places l < f.pl.length ∧ hasRest l = false
    · have d1 : decide (((leftAt l f.pl l.length).length : Int) > 0) = true := decide_eq_true (by have := (leftAt_many o).2 hm; omega)
      have em : manyB l f.pl = [⟨0, strOfNums []⟩] := by unfold manyB; rw [if_pos hm]
      simp +contextual (maxSteps := 2000000) only [go_sem, Nat.reduceEqDiff, reduceCtorEq, Nat.reduceAdd, Nat.reduceLeDiff, t2, l2, t3, l3, t4, l4, t6, l6, t7, t8, t24, t25, t26, lt_false, xu.len, d1]
      refine wp_lit (enc := encB) (k := 2) (l := [⟨0, strOfNums []⟩]) rfl rfl ?_
      intro h3 w3 g3 n3 _
      simp +contextual (maxSteps := 2000000) only [go_sem, Nat.reduceEqDiff, reduceCtorEq, Nat.reduceAdd, Nat.reduceLeDiff, t2, l2, t3, l3, t4, l4, t6, l6, t7, t8, t24, t25, t26]
      refine wp_append lenB (x.pr.grow g3) (n3.sl lenB) (gg.trans g3) (by simp) ?_
      intro h4 s4 g4 n4 st4 hb4
      obtain ⟨c4, rfl⟩ := n4.one
      have x := (x.grow g3).push n4 st4 hb4
      rw [List.nil_append, ← em] at x
      have k := hf.grow g4
      simp +contextual (maxSteps := 2000000) only [go_sem, Nat.reduceEqDiff, reduceCtorEq, Nat.reduceAdd, Nat.reduceLeDiff, t2, l2, t3, l3, t4, l4, t6, l6, t7, t8, t24, t25, t26, k.nl.len]
      refine wpC_loop (fun i T L h' => Grow h h' ∧ T 2 = .lp 2 0 ∧ (L 2).2 = [q] ∧ T 3 = .lp 3 0 ∧ (L 3).2 = [p, n] ∧ T 4 = .lp 4 0 ∧ (L 4).2 = [.sl none 0 (some 0)] ∧ T 6 = .lp 6 0 ∧ (L 6).2 = [v] ∧ (∃ w rs, T 7 = .v (.one w) ∧ BdY h h' v w rs (nameF l f i).slots (nameF l f i).bad) ∧ T 68 = .v (.one n) ∧ T 69 = .v (.one (.int .i64 f.nl.length)) ∧ T 70 = .v (.one (.int .i64 i))) f.nl.length ?_ ?_ (Nat.zero_le _) ?_
      · rintro i T L h' hi ⟨gg, t2, l2, t3, l3, t4, l4, t6, l6, ⟨w, rs, t7, x⟩, t68, t69, tx⟩
        have k := hf.grow gg
        have kl := hl.grow gg
        have ok := BOk.nameF (l := l) (f := f) hb3 (i := i) (by omega)
        have hrs : rs.length = l.length := x.len.trans ok.len
        have tk := c_takes l q f.nl[i].name h' kl sq
        rw [nameF_next hi]
        rcases takes_cases l f.nl[i].name with e | ⟨j, hj, e⟩
        · rw [nameStep_no e]
          rw [e] at tk
          simp +contextual (maxSteps := 2000000) only [go_sem, Nat.reduceEqDiff, reduceCtorEq, Nat.reduceAdd, Nat.reduceLeDiff, t2, l2, t3, l3, t4, l4, t6, l6, t7, t68, t69, tx, k.nl.iaddr hi, k.nl.whole hi, encP, lt_true hi, tk]
          refine wp_lit (enc := encB) (k := 2) (l := [⟨1, f.nl[i].name⟩]) rfl rfl ?_
          intro h3 w3 g3 n3 _
          simp +contextual (maxSteps := 2000000) only [go_sem, Nat.reduceEqDiff, reduceCtorEq, Nat.reduceAdd, Nat.reduceLeDiff, t2, l2, t3, l3, t4, l4, t6, l6, t7, t68, t69, tx]
          refine wp_append lenB (x.pr.grow g3) (n3.sl lenB) (gg.trans g3) (by have := ok.bad; simp; omega) ?_
          intro h4 s4 g4 n4 st4 hb4
          obtain ⟨c4, rfl⟩ := n4.one
          simp +contextual (maxSteps := 2000000) only [go_sem, Nat.reduceEqDiff, reduceCtorEq, Nat.reduceAdd, Nat.reduceLeDiff, t2, l2, t3, l3, t4, l4, t6, l6, t7, t68, t69, tx]
          exact ⟨g4, ⟨c4, rs, rfl, (x.grow g3).push n4 st4 hb4⟩, by rw [wrap_next hi (by omega)]⟩
        · rw [e] at tk
          have hs : j < (nameF l f i).slots.length := by rw [ok.len]; exact hj
          have hio : j < rs.length := by omega
          have z := x.sl.at hio hs
          have yi := x.sl.out.out.iaddr hio (kd := .i64)
          have y0 := (x.sl.out.out.sl lenY).fieldO (off := 0) hio (by omega)
          have y2 := (x.sl.out.out.sl lenY).fieldO (off := 2) hio (by omega)
          rw [encY_0] at y0
          rw [encY_2] at y2
          have dj : decide ((j : Int) < 0) = false := decide_eq_false (by omega)
          by_cases kk : l[j].kind = 4
          · rw [nameStep_map e hj hs kk]
            have dk : decide (l[j].kind = 4) = true := decide_eq_true kk
            simp +contextual (maxSteps := 2000000) only [go_sem, Nat.reduceEqDiff, reduceCtorEq, Nat.reduceAdd, Nat.reduceLeDiff, t2, l2, t3, l3, t4, l4, t6, l6, t7, t68, t69, tx, k.nl.iaddr hi, k.nl.whole hi, encP, lt_true hi, tk, dj, kl.iaddr hj, kl.fieldO hj, dk, yi, y2]
            refine wp_lit (enc := encP) (k := 2) (l := [f.nl[i]]) rfl rfl ?_
            intro h3 w3 g3 n3 _
            simp +contextual (maxSteps := 2000000) only [go_sem, Nat.reduceEqDiff, reduceCtorEq, Nat.reduceAdd, Nat.reduceLeDiff, t2, l2, t3, l3, t4, l4, t6, l6, t7, t68, t69, tx]
            refine wp_append lenP (z.pairs.grow g3) (n3.sl lenP) (gg.trans g3) (by have := ok.pairs _ (List.getElem_mem hs); simp; omega) ?_
            intro h4 s4 g4 n4 st4 hb4
            obtain ⟨c4, rfl⟩ := n4.one
            simp +contextual (maxSteps := 2000000) only [go_sem, Nat.reduceEqDiff, reduceCtorEq, Nat.reduceAdd, Nat.reduceLeDiff, t2, l2, t3, l3, t4, l4, t6, l6, t7, t68, t69, tx, yi]
            refine wp_set (x := { rs[j] with pv := c4 }) (off := 2) (vs := [c4]) lenY ((x.sl.out.out.grow g3).stay st4 (x.sl.out.vpv _ hio)) hio rfl rfl (Nat.le_of_ble_eq_true rfl) g4 ?_
            intro h5 g5 n5 s5
            simp +contextual (maxSteps := 2000000) only [go_sem, Nat.reduceEqDiff, reduceCtorEq, Nat.reduceAdd, Nat.reduceLeDiff, t2, l2, t3, l3, t4, l4, t6, l6, t7, t68, t69, tx]
            exact ⟨g5, ⟨w, _, rfl, (x.grow g3).app_pairs hio hs n4 st4 hb4 n5 s5⟩, by rw [wrap_next hi (by omega)]⟩
          · have dk : decide (l[j].kind = 4) = false := decide_eq_false kk
            cases b : (nameF l f i).slots[j].given with
            | true =>
              rw [nameStep_twice e hj hs kk b]
              rw [z.given, b] at y0
              simp +contextual (maxSteps := 2000000) only [go_sem, Nat.reduceEqDiff, reduceCtorEq, Nat.reduceAdd, Nat.reduceLeDiff, t2, l2, t3, l3, t4, l4, t6, l6, t7, t68, t69, tx, k.nl.iaddr hi, k.nl.whole hi, encP, lt_true hi, tk, dj, kl.iaddr hj, kl.fieldO hj, dk, yi, y0]
              refine wp_lit (enc := encB) (k := 2) (l := [⟨2, f.nl[i].name⟩]) rfl rfl ?_
              intro h3 w3 g3 n3 _
              simp +contextual (maxSteps := 2000000) only [go_sem, Nat.reduceEqDiff, reduceCtorEq, Nat.reduceAdd, Nat.reduceLeDiff, t2, l2, t3, l3, t4, l4, t6, l6, t7, t68, t69, tx]
              refine wp_append lenB (x.pr.grow g3) (n3.sl lenB) (gg.trans g3) (by have := ok.bad; simp; omega) ?_
              intro h4 s4 g4 n4 st4 hb4
              obtain ⟨c4, rfl⟩ := n4.one
              simp +contextual (maxSteps := 2000000) only [go_sem, Nat.reduceEqDiff, reduceCtorEq, Nat.reduceAdd, Nat.reduceLeDiff, t2, l2, t3, l3, t4, l4, t6, l6, t7, t68, t69, tx]
              exact ⟨g4, ⟨c4, rs, rfl, (x.grow g3).push n4 st4 hb4⟩, by rw [wrap_next hi (by omega)]⟩
            | false =>
              rw [nameStep_give e hj hs kk b]
              rw [z.given, b] at y0
              simp +contextual (maxSteps := 2000000) only [go_sem, Nat.reduceEqDiff, reduceCtorEq, Nat.reduceAdd, Nat.reduceLeDiff, t2, l2, t3, l3, t4, l4, t6, l6, t7, t68, t69, tx, k.nl.iaddr hi, k.nl.whole hi, encP, lt_true hi, tk, dj, kl.iaddr hj, kl.fieldO hj, dk, yi, y0]
              refine wp_lit (enc := encI) (k := 1) (l := [f.nl[i].value]) rfl rfl ?_
              intro h3 w3 g3 n3 b3
              obtain ⟨d, rfl⟩ := n3.one
              simp +contextual (maxSteps := 2000000) only [go_sem, Nat.reduceEqDiff, reduceCtorEq, Nat.reduceAdd, Nat.reduceLeDiff, t2, l2, t3, l3, t4, l4, t6, l6, t7, t68, t69, tx, yi]
              refine wp_setE (x := ⟨true, d, .sl none 0 (some 0)⟩) lenY (x.sl.out.out.grow g3) hio rfl rfl (gg.trans g3) ?_
              intro h4 g4 n4 s4
              simp +contextual (maxSteps := 2000000) only [go_sem, Nat.reduceEqDiff, reduceCtorEq, Nat.reduceAdd, Nat.reduceLeDiff, t2, l2, t3, l3, t4, l4, t6, l6, t7, t68, t69, tx]
              exact ⟨g4, ⟨w, _, rfl, x.put hio g3 ⟨rfl, n3, .nil⟩ Sep.nil.symm n4 s4 gg.n⟩, by rw [wrap_next hi (by omega)]⟩
      · rintro T L h' ⟨gg, t2, l2, t3, l3, t4, l4, t6, l6, ⟨w, rs, t7, x⟩, t68, t69, tx⟩
        have kl := hl.grow gg
        have x : BdY h h' v w rs (boundS l f) (boundB l f ++ missF l (boundS l f) 0) := by rw [missF_zero, List.append_nil]; exact x
        have hbb : (boundB l f).length ≤ 9 := by have := (BOk.nameF (l := l) (f := f) hb3 (Nat.le_refl _)).bad; unfold boundB; omega
        simp +contextual (maxSteps := 2000000) only [go_sem, Nat.reduceEqDiff, reduceCtorEq, Nat.reduceAdd, Nat.reduceLeDiff, t2, l2, t3, l3, t4, l4, t6, l6, t7, t68, t69, tx, lt_false, kl.len]
        refine wpC_loop (fun i T L h' => Grow h h' ∧ T 2 = .lp 2 0 ∧ (L 2).2 = [q] ∧ T 3 = .lp 3 0 ∧ (L 3).2 = [p, n] ∧ T 4 = .lp 4 0 ∧ (L 4).2 = [.sl none 0 (some 0)] ∧ T 6 = .lp 6 0 ∧ (L 6).2 = [v] ∧ (∃ w rs, T 7 = .v (.one w) ∧ BdY h h' v w rs (boundS l f) (boundB l f ++ missF l (boundS l f) i)) ∧ T 132 = .v (.one q) ∧ T 133 = .v (.one (.int .i64 l.length)) ∧ T 134 = .v (.one (.int .i64 i))) l.length ?_ ?_ (Nat.zero_le _) ?_
        · rintro i T L h' hi ⟨gg, t2, l2, t3, l3, t4, l4, t6, l6, ⟨w, rs, t7, x⟩, t132, t133, t134⟩
          have kl := hl.grow gg
          have hsl : i < (boundS l f).length := by rw [boundS_len]; exact hi
          have hio : i < rs.length := by rw [x.len]; exact hsl
          have es := fun h => c_single l[i] h
          simp only [encQ] at es
          have yi := x.sl.out.out.iaddr hio (kd := .i64)
          have y2 := (x.sl.out.out.sl lenY).fieldO (off := 2) hio (by omega)
          rw [encY_2] at y2
          have el := lacks_eq hi hsl
          have em := missF_next (sl := boundS l f) hi
          have ml := missF_len (l := l) (sl := boundS l f) (i := i)
          have done : ∀ b, lacks l (boundS l f) i = b → b = false → missF l (boundS l f) (i + 1) = missF l (boundS l f) i := fun b e1 e2 => by rw [em, e1, e2]; simp
          simp +contextual (maxSteps := 2000000) only [go_sem, Nat.reduceEqDiff, reduceCtorEq, Nat.reduceAdd, Nat.reduceLeDiff, t2, l2, t3, l3, t4, l4, t6, l6, t7, t132, t133, t134, kl.iaddr hi, kl.whole hi, encQ, lt_true hi, yi, y2]
          refine wp_call (c_clipbP _ _ h' (x.sl.at hio hsl).pairs) ?_
          rintro r h3 ⟨rfl, n3, hb3⟩
          obtain ⟨c, rfl⟩ := n3.one
          simp +contextual (maxSteps := 2000000) only [go_sem, Nat.reduceEqDiff, reduceCtorEq, Nat.reduceAdd, Nat.reduceLeDiff, t2, l2, t3, l3, t4, l4, t6, l6, t7, t132, t133, t134, yi]
          refine wp_set (x := { rs[i] with pv := c }) (off := 2) (vs := [c]) lenY x.sl.out.out hio rfl rfl (Nat.le_of_ble_eq_true rfl) gg ?_
          intro h4 g4 n4 s4
          have z := x.app_pairs hio hsl n3 ((Grow.refl _).stay _) (fun j hj => .inl (hb3 j hj)) n4 s4
          have ez : ({ (boundS l f)[i] with pairs := (boundS l f)[i].pairs } : Slot) = (boundS l f)[i] := rfl
          rw [ez, List.set_getElem_self] at z
          have hio2 : i < (rs.set i { rs[i] with pv := c }).length := by simpa using hio
          have yi2 := z.sl.out.out.iaddr hio2 (kd := .i64)
          have y02 := (z.sl.out.out.sl lenY).fieldO (off := 0) hio2 (by omega)
          rw [encY_0, (z.sl.at hio2 hsl).given] at y02
          cases b1 : single l[i] with
          | false =>
            rw [b1, Bool.false_and] at el
            simp +contextual (maxSteps := 2000000) only [go_sem, Nat.reduceEqDiff, reduceCtorEq, Nat.reduceAdd, Nat.reduceLeDiff, t2, l2, t3, l3, t4, l4, t6, l6, t7, t132, t133, t134, es, b1]
            exact ⟨g4, ⟨w, _, rfl, by rw [done _ el rfl]; exact z⟩, by rw [wrap_next hi (by omega)]⟩
          | true =>
          cases b2 : l[i].has with
          | true =>
            rw [b1, b2] at el
            simp only [b2] at es
            simp +contextual (maxSteps := 2000000) only [go_sem, Nat.reduceEqDiff, reduceCtorEq, Nat.reduceAdd, Nat.reduceLeDiff, t2, l2, t3, l3, t4, l4, t6, l6, t7, t132, t133, t134, es, b1, b2]
            exact ⟨g4, ⟨w, _, rfl, by rw [done _ el rfl]; exact z⟩, by rw [wrap_next hi (by omega)]⟩
          | false =>
          simp only [b2] at es
          cases b3 : (boundS l f)[i].given with
          | true =>
            rw [b1, b2, b3] at el
            rw [b3] at y02
            simp +contextual (maxSteps := 2000000) only [go_sem, Nat.reduceEqDiff, reduceCtorEq, Nat.reduceAdd, Nat.reduceLeDiff, t2, l2, t3, l3, t4, l4, t6, l6, t7, t132, t133, t134, es, b1, b2, yi2, y02]
            exact ⟨g4, ⟨w, _, rfl, by rw [done _ el rfl]; exact z⟩, by rw [wrap_next hi (by omega)]⟩
          | false =>
            rw [b1, b2, b3] at el
            rw [b3] at y02
            simp +contextual (maxSteps := 2000000) only [go_sem, Nat.reduceEqDiff, reduceCtorEq, Nat.reduceAdd, Nat.reduceLeDiff, t2, l2, t3, l3, t4, l4, t6, l6, t7, t132, t133, t134, es, b1, b2, yi2, y02]
            refine wp_lit (enc := encB) (k := 2) (l := [⟨3, l[i].name⟩]) rfl rfl ?_
            intro h5 w5 g5 n5 _
            simp +contextual (maxSteps := 2000000) only [go_sem, Nat.reduceEqDiff, reduceCtorEq, Nat.reduceAdd, Nat.reduceLeDiff, t2, l2, t3, l3, t4, l4, t6, l6, t7, t132, t133, t134]
            refine wp_append lenB (z.pr.grow g5) (n5.sl lenB) (g4.trans g5) (by simp; omega) ?_
            intro h6 s6 g6 n6 st6 hb6
            obtain ⟨c6, rfl⟩ := n6.one
            have z6 := (z.grow g5).push n6 st6 hb6
            simp +contextual (maxSteps := 2000000) only [go_sem, Nat.reduceEqDiff, reduceCtorEq, Nat.reduceAdd, Nat.reduceLeDiff, t2, l2, t3, l3, t4, l4, t6, l6, t7, t132, t133, t134]
            have e9 : missF l (boundS l f) (i + 1) = missF l (boundS l f) i ++ [⟨3, l[i].name⟩] := by rw [em, el]; rfl
            rw [List.append_assoc, ← e9] at z6
            exact ⟨g6, ⟨c6, _, rfl, z6⟩, by rw [wrap_next hi (by omega)]⟩
        · rintro T L h' ⟨gg, t2, l2, t3, l3, t4, l4, t6, l6, ⟨w, rs, t7, x⟩, t132, t133, t134⟩
          simp +contextual (maxSteps := 2000000) only [go_sem, Nat.reduceEqDiff, reduceCtorEq, Nat.reduceAdd, Nat.reduceLeDiff, t2, l2, t3, l3, t4, l4, t6, l6, t7, t132, t133, t134, lt_false]
          refine wp_call (c_clipbB _ _ h' x.pr) ?_
          rintro r h3 ⟨rfl, n3, hb3⟩
          obtain ⟨c, rfl⟩ := n3.one
          have z := x.push n3 ((Grow.refl _).stay _) (fun j hj => .inl (hb3 j hj))
          simp +contextual (maxSteps := 2000000) only [go_sem, Nat.reduceEqDiff, reduceCtorEq, Nat.reduceAdd, Nat.reduceLeDiff, t2, l2, t3, l3, t4, l4, t6, l6]
          exact gcK_of ⟨gg, _, _, _, rfl, z⟩ (fun hs _ => by
            simp only [AV.scalar, AV.scalars, List.all_cons, List.all_nil, Bool.and_true, Bool.and_eq_true] at hs
            exact ⟨Grow.refl h, _, _, _, rfl, z.scalar hs.1 hs.2 h⟩)
        · simp +contextual (maxSteps := 2000000) only [go_sem, Nat.reduceEqDiff, reduceCtorEq, Nat.reduceAdd, Nat.reduceLeDiff, t2, l2, t3, l3, t4, l4, t6, l6, t7]
          exact ⟨gg, ⟨w, rs, rfl, x⟩, rfl⟩
      · simp +contextual (maxSteps := 2000000) only [go_sem, Nat.reduceEqDiff, reduceCtorEq, Nat.reduceAdd, Nat.reduceLeDiff, t2, l2, t3, l3, t4, l4, t6, l6, t7]
        rw [nameF_zero]
        exact ⟨g4, ⟨c4, _, rfl, x⟩, rfl⟩
    · have d1 : decide (((leftAt l f.pl l.length).length : Int) > 0) = false := decide_eq_false (fun h0 => hm ((leftAt_many o).1 (by omega)))
      have em : manyB l f.pl = [] := by unfold manyB; rw [if_neg hm]
      rw [← em] at x
      simp +contextual (maxSteps := 2000000) only [go_sem, Nat.reduceEqDiff, reduceCtorEq, Nat.reduceAdd, Nat.reduceLeDiff, t2, l2, t3, l3, t4, l4, t6, l6, t7, t8, t24, t25, t26, lt_false, xu.len, d1, k.nl.len]
      refine wpC_loop (fun i T L h' => Grow h h' ∧ T 2 = .lp 2 0 ∧ (L 2).2 = [q] ∧ T 3 = .lp 3 0 ∧ (L 3).2 = [p, n] ∧ T 4 = .lp 4 0 ∧ (L 4).2 = [.sl none 0 (some 0)] ∧ T 6 = .lp 6 0 ∧ (L 6).2 = [v] ∧ (∃ w rs, T 7 = .v (.one w) ∧ BdY h h' v w rs (nameF l f i).slots (nameF l f i).bad) ∧ T 68 = .v (.one n) ∧ T 69 = .v (.one (.int .i64 f.nl.length)) ∧ T 70 = .v (.one (.int .i64 i))) f.nl.length ?_ ?_ (Nat.zero_le _) ?_
      · rintro i T L h' hi ⟨gg, t2, l2, t3, l3, t4, l4, t6, l6, ⟨w, rs, t7, x⟩, t68, t69, tx⟩
        have k := hf.grow gg
        have kl := hl.grow gg
        have ok := BOk.nameF (l := l) (f := f) hb3 (i := i) (by omega)
        have hrs : rs.length = l.length := x.len.trans ok.len
        have tk := c_takes l q f.nl[i].name h' kl sq
        rw [nameF_next hi]
        rcases takes_cases l f.nl[i].name with e | ⟨j, hj, e⟩
        · rw [nameStep_no e]
          rw [e] at tk
          simp +contextual (maxSteps := 2000000) only [go_sem, Nat.reduceEqDiff, reduceCtorEq, Nat.reduceAdd, Nat.reduceLeDiff, t2, l2, t3, l3, t4, l4, t6, l6, t7, t68, t69, tx, k.nl.iaddr hi, k.nl.whole hi, encP, lt_true hi, tk]
          refine wp_lit (enc := encB) (k := 2) (l := [⟨1, f.nl[i].name⟩]) rfl rfl ?_
          intro h3 w3 g3 n3 _
          simp +contextual (maxSteps := 2000000) only [go_sem, Nat.reduceEqDiff, reduceCtorEq, Nat.reduceAdd, Nat.reduceLeDiff, t2, l2, t3, l3, t4, l4, t6, l6, t7, t68, t69, tx]
          refine wp_append lenB (x.pr.grow g3) (n3.sl lenB) (gg.trans g3) (by have := ok.bad; simp; omega) ?_
          intro h4 s4 g4 n4 st4 hb4
          obtain ⟨c4, rfl⟩ := n4.one
          simp +contextual (maxSteps := 2000000) only [go_sem, Nat.reduceEqDiff, reduceCtorEq, Nat.reduceAdd, Nat.reduceLeDiff, t2, l2, t3, l3, t4, l4, t6, l6, t7, t68, t69, tx]
          exact ⟨g4, ⟨c4, rs, rfl, (x.grow g3).push n4 st4 hb4⟩, by rw [wrap_next hi (by omega)]⟩
        · rw [e] at tk
          have hs : j < (nameF l f i).slots.length := by rw [ok.len]; exact hj
          have hio : j < rs.length := by omega
          have z := x.sl.at hio hs
          have yi := x.sl.out.out.iaddr hio (kd := .i64)
          have y0 := (x.sl.out.out.sl lenY).fieldO (off := 0) hio (by omega)
          have y2 := (x.sl.out.out.sl lenY).fieldO (off := 2) hio (by omega)
          rw [encY_0] at y0
          rw [encY_2] at y2
          have dj : decide ((j : Int) < 0) = false := decide_eq_false (by omega)
          by_cases kk : l[j].kind = 4
          · rw [nameStep_map e hj hs kk]
            have dk : decide (l[j].kind = 4) = true := decide_eq_true kk
            simp +contextual (maxSteps := 2000000) only [go_sem, Nat.reduceEqDiff, reduceCtorEq, Nat.reduceAdd, Nat.reduceLeDiff, t2, l2, t3, l3, t4, l4, t6, l6, t7, t68, t69, tx, k.nl.iaddr hi, k.nl.whole hi, encP, lt_true hi, tk, dj, kl.iaddr hj, kl.fieldO hj, dk, yi, y2]
            refine wp_lit (enc := encP) (k := 2) (l := [f.nl[i]]) rfl rfl ?_
            intro h3 w3 g3 n3 _
            simp +contextual (maxSteps := 2000000) only [go_sem, Nat.reduceEqDiff, reduceCtorEq, Nat.reduceAdd, Nat.reduceLeDiff, t2, l2, t3, l3, t4, l4, t6, l6, t7, t68, t69, tx]
            refine wp_append lenP (z.pairs.grow g3) (n3.sl lenP) (gg.trans g3) (by have := ok.pairs _ (List.getElem_mem hs); simp; omega) ?_
            intro h4 s4 g4 n4 st4 hb4
            obtain ⟨c4, rfl⟩ := n4.one
            simp +contextual (maxSteps := 2000000) only [go_sem, Nat.reduceEqDiff, reduceCtorEq, Nat.reduceAdd, Nat.reduceLeDiff, t2, l2, t3, l3, t4, l4, t6, l6, t7, t68, t69, tx, yi]
            refine wp_set (x := { rs[j] with pv := c4 }) (off := 2) (vs := [c4]) lenY ((x.sl.out.out.grow g3).stay st4 (x.sl.out.vpv _ hio)) hio rfl rfl (Nat.le_of_ble_eq_true rfl) g4 ?_
            intro h5 g5 n5 s5
            simp +contextual (maxSteps := 2000000) only [go_sem, Nat.reduceEqDiff, reduceCtorEq, Nat.reduceAdd, Nat.reduceLeDiff, t2, l2, t3, l3, t4, l4, t6, l6, t7, t68, t69, tx]
            exact ⟨g5, ⟨w, _, rfl, (x.grow g3).app_pairs hio hs n4 st4 hb4 n5 s5⟩, by rw [wrap_next hi (by omega)]⟩
          · have dk : decide (l[j].kind = 4) = false := decide_eq_false kk
            cases b : (nameF l f i).slots[j].given with
            | true =>
              rw [nameStep_twice e hj hs kk b]
              rw [z.given, b] at y0
              simp +contextual (maxSteps := 2000000) only [go_sem, Nat.reduceEqDiff, reduceCtorEq, Nat.reduceAdd, Nat.reduceLeDiff, t2, l2, t3, l3, t4, l4, t6, l6, t7, t68, t69, tx, k.nl.iaddr hi, k.nl.whole hi, encP, lt_true hi, tk, dj, kl.iaddr hj, kl.fieldO hj, dk, yi, y0]
              refine wp_lit (enc := encB) (k := 2) (l := [⟨2, f.nl[i].name⟩]) rfl rfl ?_
              intro h3 w3 g3 n3 _
              simp +contextual (maxSteps := 2000000) only [go_sem, Nat.reduceEqDiff, reduceCtorEq, Nat.reduceAdd, Nat.reduceLeDiff, t2, l2, t3, l3, t4, l4, t6, l6, t7, t68, t69, tx]
              refine wp_append lenB (x.pr.grow g3) (n3.sl lenB) (gg.trans g3) (by have := ok.bad; simp; omega) ?_
              intro h4 s4 g4 n4 st4 hb4
              obtain ⟨c4, rfl⟩ := n4.one
              simp +contextual (maxSteps := 2000000) only [go_sem, Nat.reduceEqDiff, reduceCtorEq, Nat.reduceAdd, Nat.reduceLeDiff, t2, l2, t3, l3, t4, l4, t6, l6, t7, t68, t69, tx]
              exact ⟨g4, ⟨c4, rs, rfl, (x.grow g3).push n4 st4 hb4⟩, by rw [wrap_next hi (by omega)]⟩
            | false =>
              rw [nameStep_give e hj hs kk b]
              rw [z.given, b] at y0
              simp +contextual (maxSteps := 2000000) only [go_sem, Nat.reduceEqDiff, reduceCtorEq, Nat.reduceAdd, Nat.reduceLeDiff, t2, l2, t3, l3, t4, l4, t6, l6, t7, t68, t69, tx, k.nl.iaddr hi, k.nl.whole hi, encP, lt_true hi, tk, dj, kl.iaddr hj, kl.fieldO hj, dk, yi, y0]
              refine wp_lit (enc := encI) (k := 1) (l := [f.nl[i].value]) rfl rfl ?_
              intro h3 w3 g3 n3 b3
              obtain ⟨d, rfl⟩ := n3.one
              simp +contextual (maxSteps := 2000000) only [go_sem, Nat.reduceEqDiff, reduceCtorEq, Nat.reduceAdd, Nat.reduceLeDiff, t2, l2, t3, l3, t4, l4, t6, l6, t7, t68, t69, tx, yi]
              refine wp_setE (x := ⟨true, d, .sl none 0 (some 0)⟩) lenY (x.sl.out.out.grow g3) hio rfl rfl (gg.trans g3) ?_
              intro h4 g4 n4 s4
              simp +contextual (maxSteps := 2000000) only [go_sem, Nat.reduceEqDiff, reduceCtorEq, Nat.reduceAdd, Nat.reduceLeDiff, t2, l2, t3, l3, t4, l4, t6, l6, t7, t68, t69, tx]
              exact ⟨g4, ⟨w, _, rfl, x.put hio g3 ⟨rfl, n3, .nil⟩ Sep.nil.symm n4 s4 gg.n⟩, by rw [wrap_next hi (by omega)]⟩
      · rintro T L h' ⟨gg, t2, l2, t3, l3, t4, l4, t6, l6, ⟨w, rs, t7, x⟩, t68, t69, tx⟩
        have kl := hl.grow gg
        have x : BdY h h' v w rs (boundS l f) (boundB l f ++ missF l (boundS l f) 0) := by rw [missF_zero, List.append_nil]; exact x
        have hbb : (boundB l f).length ≤ 9 := by have := (BOk.nameF (l := l) (f := f) hb3 (Nat.le_refl _)).bad; unfold boundB; omega
        simp +contextual (maxSteps := 2000000) only [go_sem, Nat.reduceEqDiff, reduceCtorEq, Nat.reduceAdd, Nat.reduceLeDiff, t2, l2, t3, l3, t4, l4, t6, l6, t7, t68, t69, tx, lt_false, kl.len]
        refine wpC_loop (fun i T L h' => Grow h h' ∧ T 2 = .lp 2 0 ∧ (L 2).2 = [q] ∧ T 3 = .lp 3 0 ∧ (L 3).2 = [p, n] ∧ T 4 = .lp 4 0 ∧ (L 4).2 = [.sl none 0 (some 0)] ∧ T 6 = .lp 6 0 ∧ (L 6).2 = [v] ∧ (∃ w rs, T 7 = .v (.one w) ∧ BdY h h' v w rs (boundS l f) (boundB l f ++ missF l (boundS l f) i)) ∧ T 132 = .v (.one q) ∧ T 133 = .v (.one (.int .i64 l.length)) ∧ T 134 = .v (.one (.int .i64 i))) l.length ?_ ?_ (Nat.zero_le _) ?_
        · rintro i T L h' hi ⟨gg, t2, l2, t3, l3, t4, l4, t6, l6, ⟨w, rs, t7, x⟩, t132, t133, t134⟩
          have kl := hl.grow gg
          have hsl : i < (boundS l f).length := by rw [boundS_len]; exact hi
          have hio : i < rs.length := by rw [x.len]; exact hsl
          have es := fun h => c_single l[i] h
          simp only [encQ] at es
          have yi := x.sl.out.out.iaddr hio (kd := .i64)
          have y2 := (x.sl.out.out.sl lenY).fieldO (off := 2) hio (by omega)
          rw [encY_2] at y2
          have el := lacks_eq hi hsl
          have em := missF_next (sl := boundS l f) hi
          have ml := missF_len (l := l) (sl := boundS l f) (i := i)
          have done : ∀ b, lacks l (boundS l f) i = b → b = false → missF l (boundS l f) (i + 1) = missF l (boundS l f) i := fun b e1 e2 => by rw [em, e1, e2]; simp
          simp +contextual (maxSteps := 2000000) only [go_sem, Nat.reduceEqDiff, reduceCtorEq, Nat.reduceAdd, Nat.reduceLeDiff, t2, l2, t3, l3, t4, l4, t6, l6, t7, t132, t133, t134, kl.iaddr hi, kl.whole hi, encQ, lt_true hi, yi, y2]
          refine wp_call (c_clipbP _ _ h' (x.sl.at hio hsl).pairs) ?_
          rintro r h3 ⟨rfl, n3, hb3⟩
          obtain ⟨c, rfl⟩ := n3.one
          simp +contextual (maxSteps := 2000000) only [go_sem, Nat.reduceEqDiff, reduceCtorEq, Nat.reduceAdd, Nat.reduceLeDiff, t2, l2, t3, l3, t4, l4, t6, l6, t7, t132, t133, t134, yi]
          refine wp_set (x := { rs[i] with pv := c }) (off := 2) (vs := [c]) lenY x.sl.out.out hio rfl rfl (Nat.le_of_ble_eq_true rfl) gg ?_
          intro h4 g4 n4 s4
          have z := x.app_pairs hio hsl n3 ((Grow.refl _).stay _) (fun j hj => .inl (hb3 j hj)) n4 s4
          have ez : ({ (boundS l f)[i] with pairs := (boundS l f)[i].pairs } : Slot) = (boundS l f)[i] := rfl
          rw [ez, List.set_getElem_self] at z
          have hio2 : i < (rs.set i { rs[i] with pv := c }).length := by simpa using hio
          have yi2 := z.sl.out.out.iaddr hio2 (kd := .i64)
          have y02 := (z.sl.out.out.sl lenY).fieldO (off := 0) hio2 (by omega)
          rw [encY_0, (z.sl.at hio2 hsl).given] at y02
          cases b1 : single l[i] with
          | false =>
            rw [b1, Bool.false_and] at el
            simp +contextual (maxSteps := 2000000) only [go_sem, Nat.reduceEqDiff, reduceCtorEq, Nat.reduceAdd, Nat.reduceLeDiff, t2, l2, t3, l3, t4, l4, t6, l6, t7, t132, t133, t134, es, b1]
            exact ⟨g4, ⟨w, _, rfl, by rw [done _ el rfl]; exact z⟩, by rw [wrap_next hi (by omega)]⟩
          | true =>
          cases b2 : l[i].has with
          | true =>
            rw [b1, b2] at el
            simp only [b2] at es
            simp +contextual (maxSteps := 2000000) only [go_sem, Nat.reduceEqDiff, reduceCtorEq, Nat.reduceAdd, Nat.reduceLeDiff, t2, l2, t3, l3, t4, l4, t6, l6, t7, t132, t133, t134, es, b1, b2]
            exact ⟨g4, ⟨w, _, rfl, by rw [done _ el rfl]; exact z⟩, by rw [wrap_next hi (by omega)]⟩
          | false =>
          simp only [b2] at es
          cases b3 : (boundS l f)[i].given with
          | true =>
            rw [b1, b2, b3] at el
            rw [b3] at y02
            simp +contextual (maxSteps := 2000000) only [go_sem, Nat.reduceEqDiff, reduceCtorEq, Nat.reduceAdd, Nat.reduceLeDiff, t2, l2, t3, l3, t4, l4, t6, l6, t7, t132, t133, t134, es, b1, b2, yi2, y02]
            exact ⟨g4, ⟨w, _, rfl, by rw [done _ el rfl]; exact z⟩, by rw [wrap_next hi (by omega)]⟩
          | false =>
            rw [b1, b2, b3] at el
            rw [b3] at y02
            simp +contextual (maxSteps := 2000000) only [go_sem, Nat.reduceEqDiff, reduceCtorEq, Nat.reduceAdd, Nat.reduceLeDiff, t2, l2, t3, l3, t4, l4, t6, l6, t7, t132, t133, t134, es, b1, b2, yi2, y02]
            refine wp_lit (enc := encB) (k := 2) (l := [⟨3, l[i].name⟩]) rfl rfl ?_
            intro h5 w5 g5 n5 _
            simp +contextual (maxSteps := 2000000) only [go_sem, Nat.reduceEqDiff, reduceCtorEq, Nat.reduceAdd, Nat.reduceLeDiff, t2, l2, t3, l3, t4, l4, t6, l6, t7, t132, t133, t134]
            refine wp_append lenB (z.pr.grow g5) (n5.sl lenB) (g4.trans g5) (by simp; omega) ?_
            intro h6 s6 g6 n6 st6 hb6
            obtain ⟨c6, rfl⟩ := n6.one
            have z6 := (z.grow g5).push n6 st6 hb6
            simp +contextual (maxSteps := 2000000) only [go_sem, Nat.reduceEqDiff, reduceCtorEq, Nat.reduceAdd, Nat.reduceLeDiff, t2, l2, t3, l3, t4, l4, t6, l6, t7, t132, t133, t134]
            have e9 : missF l (boundS l f) (i + 1) = missF l (boundS l f) i ++ [⟨3, l[i].name⟩] := by rw [em, el]; rfl
            rw [List.append_assoc, ← e9] at z6
            exact ⟨g6, ⟨c6, _, rfl, z6⟩, by rw [wrap_next hi (by omega)]⟩
        · rintro T L h' ⟨gg, t2, l2, t3, l3, t4, l4, t6, l6, ⟨w, rs, t7, x⟩, t132, t133, t134⟩
          simp +contextual (maxSteps := 2000000) only [go_sem, Nat.reduceEqDiff, reduceCtorEq, Nat.reduceAdd, Nat.reduceLeDiff, t2, l2, t3, l3, t4, l4, t6, l6, t7, t132, t133, t134, lt_false]
          refine wp_call (c_clipbB _ _ h' x.pr) ?_
          rintro r h3 ⟨rfl, n3, hb3⟩
          obtain ⟨c, rfl⟩ := n3.one
          have z := x.push n3 ((Grow.refl _).stay _) (fun j hj => .inl (hb3 j hj))
          simp +contextual (maxSteps := 2000000) only [go_sem, Nat.reduceEqDiff, reduceCtorEq, Nat.reduceAdd, Nat.reduceLeDiff, t2, l2, t3, l3, t4, l4, t6, l6]
          exact gcK_of ⟨gg, _, _, _, rfl, z⟩ (fun hs _ => by
            simp only [AV.scalar, AV.scalars, List.all_cons, List.all_nil, Bool.and_true, Bool.and_eq_true] at hs
            exact ⟨Grow.refl h, _, _, _, rfl, z.scalar hs.1 hs.2 h⟩)
        · simp +contextual (maxSteps := 2000000) only [go_sem, Nat.reduceEqDiff, reduceCtorEq, Nat.reduceAdd, Nat.reduceLeDiff, t2, l2, t3, l3, t4, l4, t6, l6, t7]
          exact ⟨gg, ⟨w, rs, rfl, x⟩, rfl⟩
      · simp +contextual (maxSteps := 2000000) only [go_sem, Nat.reduceEqDiff, reduceCtorEq, Nat.reduceAdd, Nat.reduceLeDiff, t2, l2, t3, l3, t4, l4, t6, l6, t7]
        rw [nameF_zero]
        exact ⟨gg, ⟨_, _, rfl, x⟩, rfl⟩
  · simp +contextual (maxSteps := 2000000) only [go_sem, Nat.reduceEqDiff, reduceCtorEq, Nat.reduceAdd, Nat.reduceLeDiff]
    have z0 : BdY h h1 v (.sl none 0 (some 0)) (List.replicate l.length zeroR) (fillS l f.pl 0) [] := by
      rw [fillS_zero]
      exact ⟨.zeros n1, .nil, Sep.nil, fun i hi => Sep.nil, fun i hi => Sep.nil⟩
    exact ⟨g1, ⟨.one p, rfl, by rw [leftAt_zero]; exact hf.pl.grow g1, fun j hj => hf.pl.lt_of hj⟩, rfl, _, z0⟩
end Go.Proofs.Ytekkimfdcbgcoac.Am
