/- The law FnTurnSignatureCall. -/
import Derived.Test.YtekkimfdcbgcoaaL1
import Derived.Test.YtekkimfdcbgcoaaC1
import Derived.Test.YtekkimfdcbgcoaaBK
import Derived.Test.YtekkimfdcbgcoaaPT
import Derived.Test.YtekkimfdcbgcoaaDU
namespace Go.Proofs.Ytekkimfdcbgcoaa.Am
open Go
set_option maxRecDepth 100000
set_option maxHeartbeats 4000000
set_option linter.unusedSimpArgs false
set_option linter.unusedVariables false
attribute [local go_sem ↓] bv_t bv_c ev_t ev_c put_same put_ne put_none kill_at pro_at lb_same lb_ne start_zero start_succ wpC_seq wpC_reg wpC_cond wpC_block wpC_skip wpC_exit wpC_ret thenQ_normal thenQ_exit thenQ_ret inBlk_normal inBlk_exit inBlk_ret wpS_nil wpS_step wpS_again wpS_guard wpO_mov wpO_load wpO_faddr wpO_nilCheck wpO_pick wpO_build wpO_bin wpO_eqb wpO_eqst wpO_eqnil wpO_not wpO_conv wpO_bytesStr wpO_iaddr wpO_idxStr wpO_field wpO_extract wpO_len wpO_lenStr wpO_cap wpO_min wpO_slice wpO_sliceStr wpO_alloc wpO_box wpO_store wpO_call wpO_callv wpO_mkfn wpO_buildSlice wpO_mkslice wpO_append wpO_appz proA_nil proA_cons tmpX_nil tmpX_tmp tmpX_cell doneB_normal doneB_ret agK_cons agK_nil agK_guard agG_tt agG_ff agG_tf agG_ft agG_undef pureB_load results_one results_two results_nil resBs_cons resBs_nil resB_tmp resB_cell
attribute [local go_sem] kill_v kill_lp_ne kill_lp_same pro_v pro_lp_same pro_lp_ne av_v av_lp optB_some optX_some valX_eq ldX_lp ldX_v faX_lp faX_v ncX_lp ncX_ptr ncX_fn boxK_one boxK_agg stL_some stK_lp_one stK_lp_agg stK_v_one stK_v_agg proM_v proM_lp callG_mk callVG_mk callvK_fn fnG_mk ptrsA_nil ptrsA_cons callH_some whenA_true whenA_false guardH_tt guardH_ff guardH_tf guardH_ft guardH_undef agV_one agV_agg lenO_sl lenStrO_str notO_bool pickO_bool convO_int eqbO_bool eqnilO_sl extractO_tup capO_sl minO_int loadL_one loadL_all storeL_eq fillA_nil fillA_one fillA_agg nat_ge neg_ge nat_lt neg_lt buildO bin_add bin_sub bin_mul bin_eql bin_neq bin_lss bin_leq bin_gtr bin_geq str_eql str_neq str_lss str_leq str_gtr str_geq retK_some endK_mk gcK_same gcK_int gcK_bool tupO_one tupO_agg rdy_self ib ii Option.map_none Option.map_some Option.some.injEq exists_eq_left' exists_eq_left ne_eq not_false_eq_true if_true if_false List.map_cons List.map_nil List.getElem?_cons_zero List.getElem?_cons_succ List.length_cons List.length_nil List.take_succ_cons List.take_zero List.take_nil List.drop_succ_cons List.drop_zero List.drop_nil List.cons_append List.nil_append List.append_nil List.set_cons_zero List.set_cons_succ Nat.zero_add forall_const true_and and_true and_self Bool.false_eq_true false_implies true_implies implies_true Bool.not_true Bool.not_false Bool.not_eq_true' Bool.not_eq_false' beq_self_eq_true Bool.bne_true Bool.bne_false
attribute [local go_sem] lenI lenS lenP lenQ lenB lenL lenT encI_0 encS_0 encP_0 encP_1 encQ_0 encQ_1 encQ_2 encQ_3 encB_0 encB_1 encL_0 encL_1 encT_0 encT_1
attribute [local go_sem low] whenA_bool guardH_bool
def sig4 : List Param := [⟨strOfNums [97], 1, false, 0⟩, ⟨strOfNums [120], 1, true, 0⟩, ⟨strOfNums [98], 3, true, 2⟩, ⟨strOfNums [100], 4, false, 0⟩]
theorem sig4_ok : okSig sig4 = true := by decide +kernel
theorem sig4_mini : miniG sig4 := ⟨by decide, fun x hx => by
  simp only [sig4, List.mem_cons, List.not_mem_nil, or_false] at hx
  rcases hx with rfl | rfl | rfl | rfl <;> exact Nat.le_of_ble_eq_true rfl⟩
/-! laws.FnTurnSignatureCall -/
def L3_0 : List AStep := [⟨.mov (.c (.bool false)), (some 2), none, []⟩]
theorem v3_0 : VS L3_0.eq_1 := rfl
def L3_1 : List AStep := [⟨.bin .gtr (.t 14) (.c (.int .i64 1048576)), (some 15), none, []⟩]
theorem v3_1 : VS L3_1.eq_1 := rfl
def L3_2 : List AStep := ⟨.mov (.t 0), (some 13), none, []⟩ :: ⟨.len (.t 13), (some 14), none, []⟩ :: L3_1
theorem v3_2 : VS L3_2.eq_1 := rfl
def L3_3 : List AStep := [⟨.mov (.c (.bool true)), (some 2), none, []⟩]
theorem v3_3 : VS L3_3.eq_1 := rfl
def L3_4 : List AStep := [⟨.mov (.t 19), (some 3), none, []⟩, ⟨.store 2 (.t 4) (.t 20), none, none, []⟩]
theorem v3_4 : VS L3_4.eq_1 := rfl
def L3_5 : List AStep := ⟨.extract (.t 16) 1, (some 20), none, []⟩ :: ⟨.alloc 27 [(.sl none 0 (some 0)), (.sl none 0 (some 0))], (some 4), none, []⟩ :: L3_4
theorem v3_5 : VS L3_5.eq_1 := rfl
def L3_6 : List AStep := ⟨.mov (.t 18), (some 16), none, []⟩ :: ⟨.extract (.t 16) 0, (some 19), none, []⟩ :: L3_5
theorem v3_6 : VS L3_6.eq_1 := rfl
def L3_7 : List AStep := ⟨.mov (.t 0), (some 17), none, []⟩ :: ⟨.call 12 [(.t 17)], (some 18), none, []⟩ :: L3_6
theorem v3_7 : VS L3_7.eq_1 := rfl
def L3_8 : List AStep := [⟨.store 2 (.t 5) (.t 23), none, none, []⟩]
theorem v3_8 : VS L3_8.eq_1 := rfl
def L3_9 : List AStep := ⟨.call 13 [(.t 21), (.t 22)], (some 23), none, []⟩ :: ⟨.alloc 27 [(.sl none 0 (some 0)), (.sl none 0 (some 0))], (some 5), none, []⟩ :: L3_8
theorem v3_9 : VS L3_9.eq_1 := rfl
def L3_10 : List AStep := ⟨.mov (.t 3), (some 21), none, []⟩ :: ⟨.load 2 true (.t 4), (some 22), none, []⟩ :: L3_9
theorem v3_10 : VS L3_10.eq_1 := rfl
def L3_11 : List AStep := [⟨.not (.t 37), (some 38), (some (35, false)), []⟩, ⟨.pick (.t 35) (.c (.bool true)) (.t 38), (some 39), none, []⟩]
theorem v3_11 : VS L3_11.eq_1 := rfl
def L3_12 : List AStep := ⟨.load 2 true (.t 4), (some 36), (some (35, false)), []⟩ :: ⟨.call 17 [(.t 36)], (some 37), (some (35, false)), []⟩ :: L3_11
theorem v3_12 : VS L3_12.eq_1 := rfl
def L3_13 : List AStep := ⟨.pick (.t 30) (.c (.bool true)) (.t 33), (some 34), none, []⟩ :: ⟨.mov (.t 34), (some 35), none, []⟩ :: L3_12
theorem v3_13 : VS L3_13.eq_1 := rfl
def L3_14 : List AStep := ⟨.call 16 [(.t 31)], (some 32), (some (30, false)), []⟩ :: ⟨.not (.t 32), (some 33), (some (30, false)), []⟩ :: L3_13
theorem v3_14 : VS L3_14.eq_1 := rfl
def L3_15 : List AStep := ⟨.mov (.t 29), (some 30), none, []⟩ :: ⟨.mov (.t 3), (some 31), (some (30, false)), []⟩ :: L3_14
theorem v3_15 : VS L3_15.eq_1 := rfl
def L3_16 : List AStep := ⟨.call 14 [(.t 24), (.t 27)], (some 28), none, []⟩ :: ⟨.not (.t 28), (some 29), none, []⟩ :: L3_15
theorem v3_16 : VS L3_16.eq_1 := rfl
def L3_17 : List AStep := ⟨.load 2 true (.t 4), (some 26), none, []⟩ :: ⟨.call 15 [(.t 25), (.t 26)], (some 27), none, [(.load 2 true (.t 5), (some 24), none)]⟩ :: L3_16
theorem v3_17 : VS L3_17.eq_1 := rfl
def L3_18 : List AStep := ⟨.load 2 true (.t 5), (some 24), none, []⟩ :: ⟨.mov (.t 3), (some 25), none, []⟩ :: L3_17
theorem v3_18 : VS L3_18.eq_1 := rfl
def L3_19 : List AStep := [⟨.call 14 [(.t 40), (.t 43)], (some 44), none, []⟩, ⟨.mov (.t 44), (some 2), none, []⟩]
theorem v3_19 : VS L3_19.eq_1 := rfl
def L3_20 : List AStep := ⟨.load 2 true (.t 4), (some 42), none, []⟩ :: ⟨.call 15 [(.t 41), (.t 42)], (some 43), none, [(.load 2 true (.t 5), (some 40), none)]⟩ :: L3_19
theorem v3_20 : VS L3_20.eq_1 := rfl
def L3_21 : List AStep := ⟨.load 2 true (.t 5), (some 40), none, []⟩ :: ⟨.mov (.t 3), (some 41), none, []⟩ :: L3_20
theorem v3_21 : VS L3_21.eq_1 := rfl
def L3_22 : List AStep := [⟨.alloc 38 [(.sl none 0 (some 0))], (some 6), none, []⟩, ⟨.store 1 (.t 6) (.t 50), none, none, []⟩]
theorem v3_22 : VS L3_22.eq_1 := rfl
def L3_23 : List AStep := ⟨.buildSlice 35 4 [(.str (strOfNums [])), (.int .i64 0), (.bool false), (.int .i64 0)] [(0, 4, (.t 45)), (4, 4, (.t 46)), (8, 4, (.t 47)), (12, 4, (.t 48))], (some 49), none, []⟩ :: ⟨.build [(.sl none 0 (some 0))] [(0, 1, (.t 49))], (some 50), none, []⟩ :: L3_22
theorem v3_23 : VS L3_23.eq_1 := rfl
def L3_24 : List AStep := ⟨.build [(.str (strOfNums [])), (.int .i64 0), (.bool false), (.int .i64 0)] [(0, 1, (.c (.str (strOfNums [98])))), (1, 1, (.c (.int .i64 3))), (2, 1, (.c (.bool true))), (3, 1, (.c (.int .i64 2)))], (some 47), none, []⟩ :: ⟨.build [(.str (strOfNums [])), (.int .i64 0), (.bool false), (.int .i64 0)] [(0, 1, (.c (.str (strOfNums [100])))), (1, 1, (.c (.int .i64 4)))], (some 48), none, []⟩ :: L3_23
theorem v3_24 : VS L3_24.eq_1 := rfl
def L3_25 : List AStep := ⟨.build [(.str (strOfNums [])), (.int .i64 0), (.bool false), (.int .i64 0)] [(0, 1, (.c (.str (strOfNums [97])))), (1, 1, (.c (.int .i64 1)))], (some 45), none, []⟩ :: ⟨.build [(.str (strOfNums [])), (.int .i64 0), (.bool false), (.int .i64 0)] [(0, 1, (.c (.str (strOfNums [120])))), (1, 1, (.c (.int .i64 1))), (2, 1, (.c (.bool true)))], (some 46), none, []⟩ :: L3_24
theorem v3_25 : VS L3_25.eq_1 := rfl
def L3_26 : List AStep := [⟨.store 1 (.t 7) (.t 53), none, none, []⟩]
theorem v3_26 : VS L3_26.eq_1 := rfl
def L3_27 : List AStep := ⟨.call 18 [(.t 51), (.t 52)], (some 53), none, []⟩ :: ⟨.alloc 38 [(.sl none 0 (some 0))], (some 7), none, []⟩ :: L3_26
theorem v3_27 : VS L3_27.eq_1 := rfl
def L3_28 : List AStep := ⟨.mov (.t 3), (some 51), none, []⟩ :: ⟨.load 1 true (.t 6), (some 52), none, []⟩ :: L3_27
theorem v3_28 : VS L3_28.eq_1 := rfl
def L3_29 : List AStep := [⟨.mov (.t 59), (some 9), none, []⟩]
theorem v3_29 : VS L3_29.eq_1 := rfl
def L3_30 : List AStep := ⟨.alloc 42 [(.sl none 0 (some 0))], (some 8), none, []⟩ :: ⟨.store 1 (.t 8) (.t 58), none, none, []⟩ :: L3_29
theorem v3_30 : VS L3_30.eq_1 := rfl
def L3_31 : List AStep := ⟨.extract (.t 54) 0, (some 58), none, []⟩ :: ⟨.extract (.t 54) 1, (some 59), none, []⟩ :: L3_30
theorem v3_31 : VS L3_31.eq_1 := rfl
def L3_32 : List AStep := ⟨.call 19 [(.t 55), (.t 56)], (some 57), none, []⟩ :: ⟨.mov (.t 57), (some 54), none, []⟩ :: L3_31
theorem v3_32 : VS L3_32.eq_1 := rfl
def L3_33 : List AStep := ⟨.load 1 true (.t 6), (some 55), none, []⟩ :: ⟨.load 2 true (.t 4), (some 56), none, []⟩ :: L3_32
theorem v3_33 : VS L3_33.eq_1 := rfl
def L3_34 : List AStep := [⟨.mov (.t 65), (some 11), none, []⟩]
theorem v3_34 : VS L3_34.eq_1 := rfl
def L3_35 : List AStep := ⟨.alloc 42 [(.sl none 0 (some 0))], (some 10), none, []⟩ :: ⟨.store 1 (.t 10) (.t 64), none, none, []⟩ :: L3_34
theorem v3_35 : VS L3_35.eq_1 := rfl
def L3_36 : List AStep := ⟨.extract (.t 60) 0, (some 64), none, []⟩ :: ⟨.extract (.t 60) 1, (some 65), none, []⟩ :: L3_35
theorem v3_36 : VS L3_36.eq_1 := rfl
def L3_37 : List AStep := ⟨.call 19 [(.t 61), (.t 62)], (some 63), none, []⟩ :: ⟨.mov (.t 63), (some 60), none, []⟩ :: L3_36
theorem v3_37 : VS L3_37.eq_1 := rfl
def L3_38 : List AStep := ⟨.load 1 true (.t 7), (some 61), none, []⟩ :: ⟨.load 2 true (.t 5), (some 62), none, []⟩ :: L3_37
theorem v3_38 : VS L3_38.eq_1 := rfl
def L3_39 : List AStep := [⟨.mov (.c (.int .i64 0)), (some 12), none, []⟩]
theorem v3_39 : VS L3_39.eq_1 := rfl
def L3_40 : List AStep := [⟨.mov (.t 11), (some 72), (some (71, true)), []⟩, ⟨.pick (.t 71) (.t 72) (.c (.bool false)), (some 73), none, []⟩]
theorem v3_40 : VS L3_40.eq_1 := rfl
def L3_41 : List AStep := ⟨.bin .lss (.t 66) (.t 69), (some 70), none, []⟩ :: ⟨.mov (.t 70), (some 71), none, []⟩ :: L3_40
theorem v3_41 : VS L3_41.eq_1 := rfl
def L3_42 : List AStep := ⟨.load 1 false (.t 67), (some 68), none, []⟩ :: ⟨.len (.t 68), (some 69), none, []⟩ :: L3_41
theorem v3_42 : VS L3_42.eq_1 := rfl
def L3_43 : List AStep := ⟨.mov (.t 12), (some 66), none, []⟩ :: ⟨.faddr 0 (.t 8), (some 67), none, []⟩ :: L3_42
theorem v3_43 : VS L3_43.eq_1 := rfl
def L3_44 : List AStep := [⟨.pick (.t 90) (.c (.bool true)) (.t 103), (some 104), none, []⟩]
theorem v3_44 : VS L3_44.eq_1 := rfl
def L3_45 : List AStep := ⟨.load 1 false (.t 101), (some 102), (some (90, false)), []⟩ :: ⟨.eqb true (.t 96) (.t 102), (some 103), (some (90, false)), []⟩ :: L3_44
theorem v3_45 : VS L3_45.eq_1 := rfl
def L3_46 : List AStep := ⟨.iaddr 3 (.t 98) (.t 99), (some 100), (some (90, false)), []⟩ :: ⟨.faddr 0 (.t 100), (some 101), (some (90, false)), []⟩ :: L3_45
theorem v3_46 : VS L3_46.eq_1 := rfl
def L3_47 : List AStep := ⟨.load 1 false (.t 97), (some 98), (some (90, false)), []⟩ :: ⟨.mov (.t 12), (some 99), (some (90, false)), []⟩ :: L3_46
theorem v3_47 : VS L3_47.eq_1 := rfl
def L3_48 : List AStep := ⟨.load 1 false (.t 95), (some 96), (some (90, false)), []⟩ :: ⟨.faddr 0 (.t 10), (some 97), (some (90, false)), []⟩ :: L3_47
theorem v3_48 : VS L3_48.eq_1 := rfl
def L3_49 : List AStep := ⟨.iaddr 3 (.t 92) (.t 93), (some 94), (some (90, false)), []⟩ :: ⟨.faddr 0 (.t 94), (some 95), (some (90, false)), []⟩ :: L3_48
theorem v3_49 : VS L3_49.eq_1 := rfl
def L3_50 : List AStep := ⟨.load 1 false (.t 91), (some 92), (some (90, false)), []⟩ :: ⟨.mov (.t 12), (some 93), (some (90, false)), []⟩ :: L3_49
theorem v3_50 : VS L3_50.eq_1 := rfl
def L3_51 : List AStep := ⟨.mov (.t 89), (some 90), none, []⟩ :: ⟨.faddr 0 (.t 8), (some 91), (some (90, false)), []⟩ :: L3_50
theorem v3_51 : VS L3_51.eq_1 := rfl
def L3_52 : List AStep := ⟨.call 20 [(.t 81), (.t 87)], (some 88), none, []⟩ :: ⟨.not (.t 88), (some 89), none, []⟩ :: L3_51
theorem v3_52 : VS L3_52.eq_1 := rfl
def L3_53 : List AStep := ⟨.faddr 1 (.t 85), (some 86), none, []⟩ :: ⟨.load 1 false (.t 86), (some 87), none, []⟩ :: L3_52
theorem v3_53 : VS L3_53.eq_1 := rfl
def L3_54 : List AStep := ⟨.mov (.t 12), (some 84), none, []⟩ :: ⟨.iaddr 3 (.t 83) (.t 84), (some 85), none, []⟩ :: L3_53
theorem v3_54 : VS L3_54.eq_1 := rfl
def L3_55 : List AStep := ⟨.faddr 0 (.t 10), (some 82), none, []⟩ :: ⟨.load 1 false (.t 82), (some 83), none, []⟩ :: L3_54
theorem v3_55 : VS L3_55.eq_1 := rfl
def L3_56 : List AStep := ⟨.faddr 1 (.t 79), (some 80), none, []⟩ :: ⟨.load 1 false (.t 80), (some 81), none, []⟩ :: L3_55
theorem v3_56 : VS L3_56.eq_1 := rfl
def L3_57 : List AStep := ⟨.mov (.t 12), (some 78), none, []⟩ :: ⟨.iaddr 3 (.t 77) (.t 78), (some 79), none, []⟩ :: L3_56
theorem v3_57 : VS L3_57.eq_1 := rfl
def L3_58 : List AStep := ⟨.faddr 0 (.t 8), (some 76), none, []⟩ :: ⟨.load 1 false (.t 76), (some 77), none, []⟩ :: L3_57
theorem v3_58 : VS L3_58.eq_1 := rfl
def L3_59 : List AStep := [⟨.mov (.c (.bool false)), (some 2), none, []⟩]
theorem v3_59 : VS L3_59.eq_1 := rfl
def L3_60 : List AStep := [⟨.mov (.t 75), (some 12), none, []⟩]
theorem v3_60 : VS L3_60.eq_1 := rfl
def L3_61 : List AStep := ⟨.mov (.t 12), (some 74), none, []⟩ :: ⟨.bin .add (.t 74) (.c (.int .i64 1)), (some 75), none, []⟩ :: L3_60
theorem v3_61 : VS L3_61.eq_1 := rfl
def L3_62 : List AStep := [⟨.mov (.t 116), (some 2), none, []⟩]
theorem v3_62 : VS L3_62.eq_1 := rfl
def L3_63 : List AStep := ⟨.eqb false (.t 111) (.t 114), (some 115), (some (108, true)), []⟩ :: ⟨.pick (.t 108) (.t 115) (.c (.bool false)), (some 116), none, []⟩ :: L3_62
theorem v3_63 : VS L3_63.eq_1 := rfl
def L3_64 : List AStep := ⟨.call 21 [(.t 109), (.t 110)], (some 111), (some (108, true)), [(.load 1 true (.t 7), (some 112), (some (108, true))), (.load 2 true (.t 5), (some 113), (some (108, true)))]⟩ :: ⟨.call 21 [(.t 112), (.t 113)], (some 114), (some (108, true)), []⟩ :: L3_63
theorem v3_64 : VS L3_64.eq_1 := rfl
def L3_65 : List AStep := ⟨.load 1 true (.t 7), (some 112), (some (108, true)), []⟩ :: ⟨.load 2 true (.t 5), (some 113), (some (108, true)), []⟩ :: L3_64
theorem v3_65 : VS L3_65.eq_1 := rfl
def L3_66 : List AStep := ⟨.load 1 true (.t 6), (some 109), (some (108, true)), []⟩ :: ⟨.load 2 true (.t 4), (some 110), (some (108, true)), []⟩ :: L3_65
theorem v3_66 : VS L3_66.eq_1 := rfl
def L3_67 : List AStep := ⟨.eqb false (.t 105) (.t 106), (some 107), none, []⟩ :: ⟨.mov (.t 107), (some 108), none, []⟩ :: L3_66
theorem v3_67 : VS L3_67.eq_1 := rfl
def L3_68 : List AStep := ⟨.mov (.t 9), (some 105), none, []⟩ :: ⟨.mov (.t 11), (some 106), none, []⟩ :: L3_67
theorem v3_68 : VS L3_68.eq_1 := rfl
def C3_0 : ACode := .seq (.reg L3_3) .ret
theorem u3_0 : VC C3_0.eq_1 := rfl
def C3_1 : ACode := .cond (.t 15) C3_0 .skip
theorem u3_1 : VC C3_1.eq_1 := rfl
def C3_2 : ACode := .seq (.reg L3_2) C3_1
theorem u3_2 : VC C3_2.eq_1 := rfl
def C3_3 : ACode := .seq (.reg L3_21) .ret
theorem u3_3 : VC C3_3.eq_1 := rfl
def C3_4 : ACode := .cond (.t 39) C3_3 .skip
theorem u3_4 : VC C3_4.eq_1 := rfl
def C3_5 : ACode := .seq (.reg L3_18) C3_4
theorem u3_5 : VC C3_5.eq_1 := rfl
def C3_6 : ACode := .cond (.t 73) .skip (.exit 0)
theorem u3_6 : VC C3_6.eq_1 := rfl
def C3_7 : ACode := .seq (.reg L3_43) C3_6
theorem u3_7 : VC C3_7.eq_1 := rfl
def C3_8 : ACode := .seq (.reg L3_59) .ret
theorem u3_8 : VC C3_8.eq_1 := rfl
def C3_9 : ACode := .cond (.t 104) C3_8 .skip
theorem u3_9 : VC C3_9.eq_1 := rfl
def C3_10 : ACode := .seq (.reg L3_58) C3_9
theorem u3_10 : VC C3_10.eq_1 := rfl
def C3_11 : ACode := .block 1 C3_10
theorem u3_11 : VC C3_11.eq_1 := rfl
def C3_12 : ACode := .seq C3_11 (.reg L3_61)
theorem u3_12 : VC C3_12.eq_1 := rfl
def C3_13 : ACode := .seq C3_7 C3_12
theorem u3_13 : VC C3_13.eq_1 := rfl
def C3_14 : ACode := .block 0 (.loop C3_13)
theorem u3_14 : VC C3_14.eq_1 := rfl
def C3_15 : ACode := .seq (.reg L3_39) C3_14
theorem u3_15 : VC C3_15.eq_1 := rfl
def C3_16 : ACode := .seq (.reg L3_68) .ret
theorem u3_16 : VC C3_16.eq_1 := rfl
def C3_17 : ACode := .seq C3_15 C3_16
theorem u3_17 : VC C3_17.eq_1 := rfl
def C3_18 : ACode := .seq (.reg L3_38) C3_17
theorem u3_18 : VC C3_18.eq_1 := rfl
def C3_19 : ACode := .seq (.reg L3_33) C3_18
theorem u3_19 : VC C3_19.eq_1 := rfl
def C3_20 : ACode := .seq (.reg L3_28) C3_19
theorem u3_20 : VC C3_20.eq_1 := rfl
def C3_21 : ACode := .seq (.reg L3_25) C3_20
theorem u3_21 : VC C3_21.eq_1 := rfl
def C3_22 : ACode := .seq C3_5 C3_21
theorem u3_22 : VC C3_22.eq_1 := rfl
def C3_23 : ACode := .seq (.reg L3_10) C3_22
theorem u3_23 : VC C3_23.eq_1 := rfl
def C3_24 : ACode := .seq (.reg L3_7) C3_23
theorem u3_24 : VC C3_24.eq_1 := rfl
def C3_25 : ACode := .seq C3_2 C3_24
theorem u3_25 : VC C3_25.eq_1 := rfl
def C3_26 : ACode := .seq (.reg L3_0) C3_25
theorem u3_26 : VC C3_26.eq_1 := rfl
def F3 : AFunc := ⟨117, [.tmp 2], C3_26⟩
theorem cF3 : compB Try.prog 3 = some F3 := by kernel_rfl
attribute [local go_sem ↓] u3_0 u3_1 u3_2 u3_3 u3_4 u3_5 u3_6 u3_7 u3_8 u3_9 u3_10 u3_11 u3_12 u3_13 u3_14 u3_15 u3_16 u3_17 u3_18 u3_19 u3_20 u3_21 u3_22 u3_23 u3_24 u3_25 u3_26 v3_0 v3_1 v3_2 v3_3 v3_4 v3_5 v3_6 v3_7 v3_8 v3_9 v3_10 v3_11 v3_12 v3_13 v3_14 v3_15 v3_16 v3_17 v3_18 v3_19 v3_20 v3_21 v3_22 v3_23 v3_24 v3_25 v3_26 v3_27 v3_28 v3_29 v3_30 v3_31 v3_32 v3_33 v3_34 v3_35 v3_36 v3_37 v3_38 v3_39 v3_40 v3_41 v3_42 v3_43 v3_44 v3_45 v3_46 v3_47 v3_48 v3_49 v3_50 v3_51 v3_52 v3_53 v3_54 v3_55 v3_56 v3_57 v3_58 v3_59 v3_60 v3_61 v3_62 v3_63 v3_64 v3_65 v3_66 v3_67 v3_68
theorem law3 (h : H) (avs : List AV) (hok : okVs Try.prog h 6 [ 22 ] avs) : callK (bm Try.prog 3 avs h) fun r _ => r = ib true := by
  obtain ⟨v0, avs, rfl, hv0, hok⟩ := okVs_cons hok
  obtain rfl := okVs_nil hok
  obtain ⟨v, code, rfl, s0, hc, k0⟩ := dBytes hv0
  refine bm_of cF3 ?_
  cases b0 : decide ((code.length : Int) > 1048576) with
  | true => simp +contextual (maxSteps := 2000000) only [go_sem, Nat.reduceEqDiff, reduceCtorEq, Nat.reduceAdd, Nat.reduceLeDiff, F3, s0.len, b0]
  | false =>
  simp +contextual (maxSteps := 2000000) only [go_sem, Nat.reduceEqDiff, reduceCtorEq, Nat.reduceAdd, Nat.reduceLeDiff, F3, s0.len, b0]
  refine wp_call (c_drawTurnFlat code v h s0 hc) ?_
  rintro q h1 ⟨g1, t, x, y, l, f, rfl, zt, zf, tl, mf⟩
  have ml := tl.mini
  have st : SlU h1 t l := ⟨zt.sl lenT⟩
  simp +contextual (maxSteps := 2000000) only [go_sem, Nat.reduceEqDiff, reduceCtorEq, Nat.reduceAdd, Nat.reduceLeDiff]
  refine wp_call (k_iTurnFlat l f t x y h1 st zf.sl ml mf) ?_
  rintro q2 h2 ⟨g2, c, d, rfl, zo⟩
  have st2 := st.grow g2
  have sf2 := zf.sl.grow g2
  simp +contextual (maxSteps := 2000000) only [go_sem, Nat.reduceEqDiff, reduceCtorEq, Nat.reduceAdd, Nat.reduceLeDiff]
  refine wp_call (k_sTurnFlat l f t x y h2 st2 sf2 ml mf) ?_
  rintro q3 h3 ⟨g3, c3, d3, rfl, zw⟩
  have st3 := st2.grow g3
  have sf3 := sf2.grow g3
  have zo3 := (zo.grow g3).sl
  have mo : miniF (turnFlat l f) := .turn ml mf
  have eqs : ∀ (h' : H) (p q r s : CV), SlF h' p q (turnFlat l f) → SlF h' r s (turnFlat l f) → bm Try.prog 14 [.agg [p, q], .agg [r, s]] h' = some (ib true, h') := fun h' p q r s a b => by
    have := c_equalFlat (turnFlat l f) (turnFlat l f) p q r s h' a.pl a.nl b.pl b.nl (Nat.le_trans mo.pl (by decide)) (Nat.le_trans mo.nl (by decide))
    rwa [decide_eq_true rfl] at this
  have eq1 := eqs h3 _ _ _ _ zo3 zw.sl
  have evt := c_ValidTurns l (.one t) h3 st3.out ml
  have evf := c_ValidFlat f x y h3 sf3.pl sf3.nl mf.sm
  have again : callK (bm Try.prog 15 [.one t, .agg [x, y]] h3) fun r h' => Grow h3 h' ∧ ∃ p' n', r = .agg [p', n'] ∧ NwF h3 h' p' n' (turnFlat l f) := k_sTurnFlat l f t x y h3 st3 sf3 ml mf
  cases b1 : okTurns l with
  | false =>
    simp +contextual (maxSteps := 2000000) only [go_sem, Nat.reduceEqDiff, reduceCtorEq, Nat.reduceAdd, Nat.reduceLeDiff, eq1, evt, b1]
    refine wp_call again ?_
    rintro q4 h4 ⟨g4, c4, d4, rfl, z4⟩
    have eq2 := eqs h4 _ _ _ _ (zo3.grow g4) z4.sl
    simp +contextual (maxSteps := 2000000) only [go_sem, Nat.reduceEqDiff, reduceCtorEq, Nat.reduceAdd, Nat.reduceLeDiff, eq2]
    exact gcK_of rfl (fun _ _ => rfl)
  | true =>
  cases b2 : okFlat f with
  | false =>
    simp +contextual (maxSteps := 2000000) only [go_sem, Nat.reduceEqDiff, reduceCtorEq, Nat.reduceAdd, Nat.reduceLeDiff, eq1, evt, b1, evf, b2]
    refine wp_call again ?_
    rintro q4 h4 ⟨g4, c4, d4, rfl, z4⟩
    have eq2 := eqs h4 _ _ _ _ (zo3.grow g4) z4.sl
    simp +contextual (maxSteps := 2000000) only [go_sem, Nat.reduceEqDiff, reduceCtorEq, Nat.reduceAdd, Nat.reduceLeDiff, eq2]
    exact gcK_of rfl (fun _ _ => rfl)
  | true =>
  have et : turnFlat l f = ⟨f.pl, f.nl.map (turnP l)⟩ := by unfold turnFlat; rw [if_pos ⟨b1, b2⟩]
  have es : turnSig l sig4 = sig4.map (turnQ l) := by unfold turnSig; rw [if_pos ⟨b1, sig4_ok⟩]
  have ea := accepts_turn b1 sig4_ok b2
  have eb := fun (j : Nat) h1 h2 => bound_turn b1 sig4_ok b2 (j := j) h1 h2
  rw [← et, ← es] at ea eb
  simp +contextual (maxSteps := 2000000) only [go_sem, Nat.reduceEqDiff, reduceCtorEq, Nat.reduceAdd, Nat.reduceLeDiff, eq1, evt, b1, evf, b2]
  refine wp_lit (enc := encQ) (k := 4) (l := sig4) rfl rfl ?_
  intro h4 w4 g4 n4 b4
  obtain ⟨s4, rfl⟩ := n4.one
  have sg4 : SlG h4 s4 sig4 := ⟨n4.sl lenQ⟩
  simp +contextual (maxSteps := 2000000) only [go_sem, Nat.reduceEqDiff, reduceCtorEq, Nat.reduceAdd, Nat.reduceLeDiff]
  refine wp_call (k_iTurnSignature l sig4 t s4 h4 (st3.grow g4) sg4 ml sig4_mini) ?_
  rintro q5 h5 ⟨g5, s5, rfl, z5⟩
  have mt : miniG (turnSig l sig4) := miniG.turn ml sig4_mini
  simp +contextual (maxSteps := 2000000) only [go_sem, Nat.reduceEqDiff, reduceCtorEq, Nat.reduceAdd, Nat.reduceLeDiff]
  refine wp_call (k_iBind sig4 f s4 x y h5 (sg4.grow g5) ((sf3.grow g4).grow g5) sig4_mini mf) ?_
  rintro q6 h6 ⟨g6, v6, r6, rfl, y6⟩
  simp +contextual (maxSteps := 2000000) only [go_sem, Nat.reduceEqDiff, reduceCtorEq, Nat.reduceAdd, Nat.reduceLeDiff]
  refine wp_call (k_iBind (turnSig l sig4) (turnFlat l f) s5 c d h6 ((z5.sl).grow g6) (((zo3.grow g4).grow g5).grow g6) mt mo) ?_
  rintro q7 h7 ⟨g7, v7, r7, rfl, y7⟩
  have i1 := k_iAccepts sig4 f s4 x y h7 (((sg4.grow g5).grow g6).grow g7) ((((sf3.grow g4).grow g5).grow g6).grow g7) sig4_mini mf
  have i2 := k_iAccepts (turnSig l sig4) (turnFlat l f) s5 c d h7 ((z5.sl.grow g6).grow g7) ((((zo3.grow g4).grow g5).grow g6).grow g7) mt mo
  rw [ea] at i2
  have ebb : ∀ b : Bool, (b == b) = true := fun b => by cases b <;> rfl
  obtain ⟨rs, X⟩ := (y6.grow g7).sl.ex
  obtain ⟨qs, Y⟩ := y7.sl.ex
  cases b3 : acceptsF sig4 f with
  | false =>
    have e0 : bindF sig4 f = [] := by unfold bindF; rw [b3]; rfl
    rw [e0] at X
    have len1 := X.out.len
    rw [X.len] at len1
    have hz : decide (((([] : List Slot).length : Nat) : Int) > 0) = false := rfl
    rw [b3] at i1 i2
    simp +contextual (maxSteps := 2000000) only [go_sem, Nat.reduceEqDiff, reduceCtorEq, Nat.reduceAdd, Nat.reduceLeDiff, ea, b3]
    refine wpC_loop (fun i T L h' => h' = h7 ∧ T 6 = .lp 6 0 ∧ (L 6).2 = [s4] ∧ T 4 = .lp 4 0 ∧ (L 4).2 = [x, y] ∧ T 7 = .lp 7 0 ∧ (L 7).2 = [s5] ∧ T 5 = .lp 5 0 ∧ (L 5).2 = [c, d] ∧ T 8 = .lp 8 0 ∧ (L 8).2 = [v6] ∧ T 9 = .v (.one (.bool false)) ∧ T 10 = .lp 10 0 ∧ (L 10).2 = [v7] ∧ T 11 = .v (.one (.bool false)) ∧ T 12 = .v (.one (.int .i64 (i : Nat)))) 0 ?_ ?_ (Nat.zero_le _) ?_
    · intro i T L h' hi; omega
    · rintro T L h' ⟨rfl, t6, l6, t4, l4, t7, l7, t5, l5, t8, l8, t9, t10, l10, t11, t12⟩
      have hlt : decide (((0 : Nat) : Int) < ((0 : Nat) : Int)) = false := rfl
      simp +contextual (maxSteps := 2000000) only [go_sem, Nat.reduceEqDiff, reduceCtorEq, Nat.reduceAdd, Nat.reduceLeDiff, t6, l6, t4, l4, t7, l7, t5, l5, t8, l8, t9, t10, l10, t11, t12, len1, hlt, i1, i2, ebb]
      try exact gcK_of rfl (fun _ _ => rfl)
    · simp +contextual (maxSteps := 2000000) only [go_sem, Nat.reduceEqDiff, reduceCtorEq, Nat.reduceAdd, Nat.reduceLeDiff]
      rfl
  | true =>
    have e0 : bindF sig4 f = boundS sig4 f := by unfold bindF; rw [b3]; rfl
    have e1 : bindF (turnSig l sig4) (turnFlat l f) = boundS (turnSig l sig4) (turnFlat l f) := by unfold bindF; rw [ea, b3]; rfl
    rw [e0] at X
    rw [e1] at Y
    have len1 := X.out.len
    rw [X.len] at len1
    have hlen : (boundS (turnSig l sig4) (turnFlat l f)).length = (boundS sig4 f).length := by rw [boundS_len, boundS_len, es]; simp
    have hb := (bound_ok (l := sig4) b2)
    have h4 : (boundS sig4 f).length = 4 := boundS_len
    rw [b3] at i1 i2
    simp +contextual (maxSteps := 2000000) only [go_sem, Nat.reduceEqDiff, reduceCtorEq, Nat.reduceAdd, Nat.reduceLeDiff, ea, b3]
    refine wpC_loop (fun i T L h' => h' = h7 ∧ T 6 = .lp 6 0 ∧ (L 6).2 = [s4] ∧ T 4 = .lp 4 0 ∧ (L 4).2 = [x, y] ∧ T 7 = .lp 7 0 ∧ (L 7).2 = [s5] ∧ T 5 = .lp 5 0 ∧ (L 5).2 = [c, d] ∧ T 8 = .lp 8 0 ∧ (L 8).2 = [v6] ∧ T 9 = .v (.one (.bool true)) ∧ T 10 = .lp 10 0 ∧ (L 10).2 = [v7] ∧ T 11 = .v (.one (.bool true)) ∧ T 12 = .v (.one (.int .i64 (i : Nat)))) (boundS sig4 f).length ?_ ?_ (Nat.zero_le _) ?_
    · rintro i T L h' hi ⟨rfl, t6, l6, t4, l4, t7, l7, t5, l5, t8, l8, t9, t10, l10, t11, t12⟩
      have hi1 : i < rs.length := by rw [X.len]; exact hi
      have hj : i < (boundS (turnSig l sig4) (turnFlat l f)).length := by rw [hlen]; exact hi
      have hi2 : i < qs.length := by rw [Y.len]; exact hj
      have hx := X.el i hi1
      have hy := Y.el i hi2
      rw [getY_eq hi] at hx
      rw [getY_eq hj] at hy
      obtain ⟨k1, k2⟩ := eb i hi hj
      have hyl := hy.list
      rw [k1] at hyl
      have eqi := c_equalInts _ _ _ _ h' hx.list hyl (Nat.le_trans (hb.list _ (List.getElem_mem hi)) (by have := (okFlat_sm b2).1; unfold big; omega))
      rw [decide_eq_true rfl] at eqi
      have eg : rs[i].given = (boundS sig4 f)[i].given := hx.given
      have eg2 : qs[i].given = (boundS sig4 f)[i].given := hy.given.trans k2
      simp +contextual (maxSteps := 2000000) only [go_sem, Nat.reduceEqDiff, reduceCtorEq, Nat.reduceAdd, Nat.reduceLeDiff, t6, l6, t4, l4, t7, l7, t5, l5, t8, l8, t9, t10, l10, t11, t12, len1, X.out.iaddr hi1, Y.out.iaddr hi2, X.out.fieldO hi1, Y.out.fieldO hi2, encY, eqi, eg, eg2, lt_true hi]
      rw [wrap_next hi (by omega)]
    · rintro T L h' ⟨rfl, t6, l6, t4, l4, t7, l7, t5, l5, t8, l8, t9, t10, l10, t11, t12⟩
      simp +contextual (maxSteps := 2000000) only [go_sem, Nat.reduceEqDiff, reduceCtorEq, Nat.reduceAdd, Nat.reduceLeDiff, t6, l6, t4, l4, t7, l7, t5, l5, t8, l8, t9, t10, l10, t11, t12, len1, lt_false, i1, i2, ebb]
      try exact gcK_of rfl (fun _ _ => rfl)
    · simp +contextual (maxSteps := 2000000) only [go_sem, Nat.reduceEqDiff, reduceCtorEq, Nat.reduceAdd, Nat.reduceLeDiff]
      rfl
end Go.Proofs.Ytekkimfdcbgcoaa.Am
