/- The law FnExactStarCall. -/
import Derived.Test.YtnphlonhogcedaaK
import Derived.Test.YtnphlonhogcedaaN1
import Derived.Test.YtnphlonhogcedaaE1
namespace Go.Proofs.Ytnphlonhogcedaa.Am
open Go
set_option maxRecDepth 100000
set_option maxHeartbeats 4000000
set_option linter.unusedSimpArgs false
set_option linter.unusedVariables false
attribute [local go_sem ↓] bv_t bv_c ev_t ev_c put_same put_ne put_none kill_at pro_at lb_same lb_ne start_zero start_succ wpC_seq wpC_reg wpC_cond wpC_block wpC_skip wpC_exit wpC_ret thenQ_normal thenQ_exit thenQ_ret inBlk_normal inBlk_exit inBlk_ret wpS_nil wpS_step wpS_again wpS_guard wpO_mov wpO_load wpO_faddr wpO_nilCheck wpO_pick wpO_build wpO_bin wpO_eqb wpO_eqst wpO_eqnil wpO_not wpO_conv wpO_bytesStr wpO_iaddr wpO_idxStr wpO_field wpO_extract wpO_len wpO_lenStr wpO_cap wpO_min wpO_slice wpO_sliceStr wpO_alloc wpO_box wpO_store wpO_call wpO_callv wpO_mkfn wpO_buildSlice wpO_mkslice wpO_append wpO_appz proA_nil proA_cons tmpX_nil tmpX_tmp tmpX_cell doneB_normal doneB_ret agK_cons agK_nil pureB_load results_one results_two results_nil resBs_cons resBs_nil resB_tmp resB_cell
attribute [local go_sem] kill_v kill_lp_ne kill_lp_same pro_v pro_lp_same pro_lp_ne av_v av_lp optB_some optX_some valX_eq ldX_lp ldX_v faX_lp faX_v ncX_lp ncX_ptr ncX_fn boxK_one boxK_agg stL_some stK_lp_one stK_lp_agg stK_v_one stK_v_agg proM_v proM_lp callG_mk callVG_mk callvK_fn fnG_mk ptrsA_nil ptrsA_cons callH_some whenA_true whenA_false guardH_tt guardH_ff guardH_tf guardH_ft guardH_undef agV_one agV_agg lenO_sl lenStrO_str notO_bool pickO_bool convO_int eqbO_bool eqnilO_sl extractO_tup capO_sl minO_int loadL_one loadL_all storeL_eq fillA_nil fillA_one fillA_agg nat_ge neg_ge nat_lt neg_lt buildO bin_add bin_sub bin_mul bin_eql bin_neq bin_lss bin_leq bin_gtr bin_geq str_eql str_neq str_lss str_leq str_gtr str_geq retK_some endK_mk gcK_same gcK_int gcK_bool tupO_one tupO_agg rdy_self ib ii Option.map_none Option.map_some Option.some.injEq exists_eq_left' exists_eq_left ne_eq not_false_eq_true if_true if_false List.map_cons List.map_nil List.getElem?_cons_zero List.getElem?_cons_succ List.length_cons List.length_nil List.take_succ_cons List.take_zero List.take_nil List.drop_succ_cons List.drop_zero List.drop_nil List.cons_append List.nil_append List.append_nil List.set_cons_zero List.set_cons_succ Nat.zero_add forall_const true_and and_true and_self Bool.false_eq_true false_implies true_implies implies_true Bool.not_true Bool.not_false Bool.not_eq_true' Bool.not_eq_false' beq_self_eq_true Bool.bne_true Bool.bne_false
attribute [local go_sem] lenI lenS lenP lenQ lenB lenL lenT encI_0 encS_0 encP_0 encP_1 encQ_0 encQ_1 encQ_2 encQ_3 encB_0 encB_1 encL_0 encL_1 encT_0 encT_1
attribute [local go_sem low] whenA_bool guardH_bool
section
variable {P : Program} {T : Tb} {L : Lb} {h : H} {Q : PostC} {K : Post}
/-! laws.FnExactStarCall -/
def L8_0 : List AStep := [⟨.box 63 (.t 0), (some 1), none, []⟩, ⟨.mov (.c (.bool false)), (some 2), none, []⟩]
theorem v8_0 : wpS P L8_0 T L (rdy h) K = wpS P ([⟨.box 63 (.t 0), (some 1), none, []⟩, ⟨.mov (.c (.bool false)), (some 2), none, []⟩]) T L (rdy h) K := rfl
def L8_1 : List AStep := [⟨.mov (.c (.int .i64 1048576)), (some 3), none, []⟩]
theorem v8_1 : wpS P L8_1 T L (rdy h) K = wpS P ([⟨.mov (.c (.int .i64 1048576)), (some 3), none, []⟩]) T L (rdy h) K := rfl
def L8_2 : List AStep := [⟨.call 33 [(.t 11), (.t 12)], (some 13), none, []⟩, ⟨.mov (.t 13), (some 3), none, []⟩]
theorem v8_2 : wpS P L8_2 T L (rdy h) K = wpS P ([⟨.call 33 [(.t 11), (.t 12)], (some 13), none, []⟩, ⟨.mov (.t 13), (some 3), none, []⟩]) T L (rdy h) K := rfl
def L8_3 : List AStep := ⟨.load 2 true (.t 1), (some 11), none, []⟩ :: ⟨.mov (.t 3), (some 12), none, []⟩ :: L8_2
theorem v8_3 : wpS P L8_3 T L (rdy h) K = wpS P (⟨.load 2 true (.t 1), (some 11), none, []⟩ :: ⟨.mov (.t 3), (some 12), none, []⟩ :: L8_2) T L (rdy h) K := rfl
def L8_4 : List AStep := [⟨.mov (.t 3), (some 14), none, []⟩, ⟨.bin .lss (.t 14) (.c (.int .i64 0)), (some 15), none, []⟩]
theorem v8_4 : wpS P L8_4 T L (rdy h) K = wpS P ([⟨.mov (.t 3), (some 14), none, []⟩, ⟨.bin .lss (.t 14) (.c (.int .i64 0)), (some 15), none, []⟩]) T L (rdy h) K := rfl
def L8_5 : List AStep := [⟨.mov (.c (.bool true)), (some 2), none, []⟩]
theorem v8_5 : wpS P L8_5 T L (rdy h) K = wpS P ([⟨.mov (.c (.bool true)), (some 2), none, []⟩]) T L (rdy h) K := rfl
def L8_6 : List AStep := [⟨.store 1 (.t 4) (.t 18), none, none, []⟩]
theorem v8_6 : wpS P L8_6 T L (rdy h) K = wpS P ([⟨.store 1 (.t 4) (.t 18), none, none, []⟩]) T L (rdy h) K := rfl
def L8_7 : List AStep := ⟨.call 44 [(.t 17)], (some 18), none, []⟩ :: ⟨.alloc 25 [(.sl none 0 (some 0))], (some 4), none, []⟩ :: L8_6
theorem v8_7 : wpS P L8_7 T L (rdy h) K = wpS P (⟨.call 44 [(.t 17)], (some 18), none, []⟩ :: ⟨.alloc 25 [(.sl none 0 (some 0))], (some 4), none, []⟩ :: L8_6) T L (rdy h) K := rfl
def L8_8 : List AStep := ⟨.load 2 true (.t 1), (some 16), none, []⟩ :: ⟨.call 35 [(.t 16)], (some 17), none, []⟩ :: L8_7
theorem v8_8 : wpS P L8_8 T L (rdy h) K = wpS P (⟨.load 2 true (.t 1), (some 16), none, []⟩ :: ⟨.call 35 [(.t 16)], (some 17), none, []⟩ :: L8_7) T L (rdy h) K := rfl
def L8_9 : List AStep := [⟨.alloc 30 [(.sl none 0 (some 0)), (.sl none 0 (some 0))], (some 5), none, []⟩, ⟨.store 2 (.t 5) (.t 20), none, none, []⟩]
theorem v8_9 : wpS P L8_9 T L (rdy h) K = wpS P ([⟨.alloc 30 [(.sl none 0 (some 0)), (.sl none 0 (some 0))], (some 5), none, []⟩, ⟨.store 2 (.t 5) (.t 20), none, none, []⟩]) T L (rdy h) K := rfl
def L8_10 : List AStep := ⟨.load 2 true (.t 1), (some 19), none, []⟩ :: ⟨.call 35 [(.t 19)], (some 20), none, []⟩ :: L8_9
theorem v8_10 : wpS P L8_10 T L (rdy h) K = wpS P (⟨.load 2 true (.t 1), (some 19), none, []⟩ :: ⟨.call 35 [(.t 19)], (some 20), none, []⟩ :: L8_9) T L (rdy h) K := rfl
def L8_11 : List AStep := [⟨.alloc 25 [(.sl none 0 (some 0))], (some 6), none, []⟩, ⟨.store 1 (.t 6) (.t 22), none, none, []⟩]
theorem v8_11 : wpS P L8_11 T L (rdy h) K = wpS P ([⟨.alloc 25 [(.sl none 0 (some 0))], (some 6), none, []⟩, ⟨.store 1 (.t 6) (.t 22), none, none, []⟩]) T L (rdy h) K := rfl
def L8_12 : List AStep := ⟨.load 2 true (.t 5), (some 21), none, []⟩ :: ⟨.call 45 [(.t 21)], (some 22), none, []⟩ :: L8_11
theorem v8_12 : wpS P L8_12 T L (rdy h) K = wpS P (⟨.load 2 true (.t 5), (some 21), none, []⟩ :: ⟨.call 45 [(.t 21)], (some 22), none, []⟩ :: L8_11) T L (rdy h) K := rfl
def L8_13 : List AStep := [⟨.call 36 [(.t 23), (.t 24)], (some 25), none, []⟩, ⟨.not (.t 25), (some 26), none, []⟩]
theorem v8_13 : wpS P L8_13 T L (rdy h) K = wpS P ([⟨.call 36 [(.t 23), (.t 24)], (some 25), none, []⟩, ⟨.not (.t 25), (some 26), none, []⟩]) T L (rdy h) K := rfl
def L8_14 : List AStep := ⟨.load 1 true (.t 6), (some 23), none, []⟩ :: ⟨.load 1 true (.t 4), (some 24), none, []⟩ :: L8_13
theorem v8_14 : wpS P L8_14 T L (rdy h) K = wpS P (⟨.load 1 true (.t 6), (some 23), none, []⟩ :: ⟨.load 1 true (.t 4), (some 24), none, []⟩ :: L8_13) T L (rdy h) K := rfl
def L8_15 : List AStep := [⟨.mov (.c (.bool false)), (some 2), none, []⟩]
theorem v8_15 : wpS P L8_15 T L (rdy h) K = wpS P ([⟨.mov (.c (.bool false)), (some 2), none, []⟩]) T L (rdy h) K := rfl
def L8_16 : List AStep := [⟨.not (.t 30), (some 31), none, []⟩]
theorem v8_16 : wpS P L8_16 T L (rdy h) K = wpS P ([⟨.not (.t 30), (some 31), none, []⟩]) T L (rdy h) K := rfl
def L8_17 : List AStep := ⟨.call 35 [(.t 28)], (some 29), none, [(.load 2 true (.t 5), (some 27), none)]⟩ :: ⟨.call 37 [(.t 27), (.t 29)], (some 30), none, []⟩ :: L8_16
theorem v8_17 : wpS P L8_17 T L (rdy h) K = wpS P (⟨.call 35 [(.t 28)], (some 29), none, [(.load 2 true (.t 5), (some 27), none)]⟩ :: ⟨.call 37 [(.t 27), (.t 29)], (some 30), none, []⟩ :: L8_16) T L (rdy h) K := rfl
def L8_18 : List AStep := ⟨.load 2 true (.t 5), (some 27), none, []⟩ :: ⟨.load 2 true (.t 1), (some 28), none, []⟩ :: L8_17
theorem v8_18 : wpS P L8_18 T L (rdy h) K = wpS P (⟨.load 2 true (.t 5), (some 27), none, []⟩ :: ⟨.load 2 true (.t 1), (some 28), none, []⟩ :: L8_17) T L (rdy h) K := rfl
def L8_19 : List AStep := [⟨.mov (.c (.bool false)), (some 2), none, []⟩]
theorem v8_19 : wpS P L8_19 T L (rdy h) K = wpS P ([⟨.mov (.c (.bool false)), (some 2), none, []⟩]) T L (rdy h) K := rfl
def L8_20 : List AStep := [⟨.mov (.c (.int .i64 1)), (some 7), none, []⟩]
theorem v8_20 : wpS P L8_20 T L (rdy h) K = wpS P ([⟨.mov (.c (.int .i64 1)), (some 7), none, []⟩]) T L (rdy h) K := rfl
def L8_21 : List AStep := [⟨.call 38 [(.t 32), (.t 33)], (some 34), none, []⟩, ⟨.mov (.t 34), (some 7), none, []⟩]
theorem v8_21 : wpS P L8_21 T L (rdy h) K = wpS P ([⟨.call 38 [(.t 32), (.t 33)], (some 34), none, []⟩, ⟨.mov (.t 34), (some 7), none, []⟩]) T L (rdy h) K := rfl
def L8_22 : List AStep := ⟨.load 2 true (.t 5), (some 32), none, []⟩ :: ⟨.mov (.t 7), (some 33), none, []⟩ :: L8_21
theorem v8_22 : wpS P L8_22 T L (rdy h) K = wpS P (⟨.load 2 true (.t 5), (some 32), none, []⟩ :: ⟨.mov (.t 7), (some 33), none, []⟩ :: L8_21) T L (rdy h) K := rfl
def L8_23 : List AStep := [⟨.not (.t 40), (some 41), (some (37, false)), []⟩, ⟨.pick (.t 37) (.c (.bool true)) (.t 41), (some 42), none, []⟩]
theorem v8_23 : wpS P L8_23 T L (rdy h) K = wpS P ([⟨.not (.t 40), (some 41), (some (37, false)), []⟩, ⟨.pick (.t 37) (.c (.bool true)) (.t 41), (some 42), none, []⟩]) T L (rdy h) K := rfl
def L8_24 : List AStep := ⟨.load 1 true (.t 4), (some 39), (some (37, false)), []⟩ :: ⟨.call 36 [(.t 38), (.t 39)], (some 40), (some (37, false)), []⟩ :: L8_23
theorem v8_24 : wpS P L8_24 T L (rdy h) K = wpS P (⟨.load 1 true (.t 4), (some 39), (some (37, false)), []⟩ :: ⟨.call 36 [(.t 38), (.t 39)], (some 40), (some (37, false)), []⟩ :: L8_23) T L (rdy h) K := rfl
def L8_25 : List AStep := ⟨.mov (.t 36), (some 37), none, []⟩ :: ⟨.load 1 true (.t 6), (some 38), (some (37, false)), []⟩ :: L8_24
theorem v8_25 : wpS P L8_25 T L (rdy h) K = wpS P (⟨.mov (.t 36), (some 37), none, []⟩ :: ⟨.load 1 true (.t 6), (some 38), (some (37, false)), []⟩ :: L8_24) T L (rdy h) K := rfl
def L8_26 : List AStep := ⟨.mov (.t 7), (some 35), none, []⟩ :: ⟨.bin .lss (.t 35) (.c (.int .i64 0)), (some 36), none, []⟩ :: L8_25
theorem v8_26 : wpS P L8_26 T L (rdy h) K = wpS P (⟨.mov (.t 7), (some 35), none, []⟩ :: ⟨.bin .lss (.t 35) (.c (.int .i64 0)), (some 36), none, []⟩ :: L8_25) T L (rdy h) K := rfl
def L8_27 : List AStep := [⟨.mov (.c (.bool false)), (some 2), none, []⟩]
theorem v8_27 : wpS P L8_27 T L (rdy h) K = wpS P ([⟨.mov (.c (.bool false)), (some 2), none, []⟩]) T L (rdy h) K := rfl
def L8_28 : List AStep := [⟨.mov (.c (.int .i64 1)), (some 8), none, []⟩]
theorem v8_28 : wpS P L8_28 T L (rdy h) K = wpS P ([⟨.mov (.c (.int .i64 1)), (some 8), none, []⟩]) T L (rdy h) K := rfl
def L8_29 : List AStep := [⟨.call 39 [(.t 43), (.t 44)], (some 45), none, []⟩, ⟨.mov (.t 45), (some 8), none, []⟩]
theorem v8_29 : wpS P L8_29 T L (rdy h) K = wpS P ([⟨.call 39 [(.t 43), (.t 44)], (some 45), none, []⟩, ⟨.mov (.t 45), (some 8), none, []⟩]) T L (rdy h) K := rfl
def L8_30 : List AStep := ⟨.load 1 true (.t 6), (some 43), none, []⟩ :: ⟨.mov (.t 8), (some 44), none, []⟩ :: L8_29
theorem v8_30 : wpS P L8_30 T L (rdy h) K = wpS P (⟨.load 1 true (.t 6), (some 43), none, []⟩ :: ⟨.mov (.t 8), (some 44), none, []⟩ :: L8_29) T L (rdy h) K := rfl
def L8_31 : List AStep := [⟨.mov (.c (.int .i64 1)), (some 9), none, []⟩]
theorem v8_31 : wpS P L8_31 T L (rdy h) K = wpS P ([⟨.mov (.c (.int .i64 1)), (some 9), none, []⟩]) T L (rdy h) K := rfl
def L8_32 : List AStep := [⟨.call 40 [(.t 46), (.t 47)], (some 48), none, []⟩, ⟨.mov (.t 48), (some 9), none, []⟩]
theorem v8_32 : wpS P L8_32 T L (rdy h) K = wpS P ([⟨.call 40 [(.t 46), (.t 47)], (some 48), none, []⟩, ⟨.mov (.t 48), (some 9), none, []⟩]) T L (rdy h) K := rfl
def L8_33 : List AStep := ⟨.load 1 true (.t 6), (some 46), none, []⟩ :: ⟨.mov (.t 9), (some 47), none, []⟩ :: L8_32
theorem v8_33 : wpS P L8_33 T L (rdy h) K = wpS P (⟨.load 1 true (.t 6), (some 46), none, []⟩ :: ⟨.mov (.t 9), (some 47), none, []⟩ :: L8_32) T L (rdy h) K := rfl
def L8_34 : List AStep := [⟨.mov (.t 9), (some 49), none, []⟩, ⟨.bin .lss (.t 49) (.c (.int .i64 0)), (some 50), none, []⟩]
theorem v8_34 : wpS P L8_34 T L (rdy h) K = wpS P ([⟨.mov (.t 9), (some 49), none, []⟩, ⟨.bin .lss (.t 49) (.c (.int .i64 0)), (some 50), none, []⟩]) T L (rdy h) K := rfl
def L8_35 : List AStep := [⟨.mov (.c (.bool false)), (some 2), none, []⟩]
theorem v8_35 : wpS P L8_35 T L (rdy h) K = wpS P ([⟨.mov (.c (.bool false)), (some 2), none, []⟩]) T L (rdy h) K := rfl
def L8_36 : List AStep := [⟨.bin .neq (.t 51) (.t 52), (some 53), none, []⟩]
theorem v8_36 : wpS P L8_36 T L (rdy h) K = wpS P ([⟨.bin .neq (.t 51) (.t 52), (some 53), none, []⟩]) T L (rdy h) K := rfl
def L8_37 : List AStep := ⟨.mov (.t 9), (some 51), none, []⟩ :: ⟨.mov (.t 8), (some 52), none, []⟩ :: L8_36
theorem v8_37 : wpS P L8_37 T L (rdy h) K = wpS P (⟨.mov (.t 9), (some 51), none, []⟩ :: ⟨.mov (.t 8), (some 52), none, []⟩ :: L8_36) T L (rdy h) K := rfl
def L8_38 : List AStep := [⟨.mov (.c (.bool false)), (some 2), none, []⟩]
theorem v8_38 : wpS P L8_38 T L (rdy h) K = wpS P ([⟨.mov (.c (.bool false)), (some 2), none, []⟩]) T L (rdy h) K := rfl
def L8_39 : List AStep := [⟨.store 1 (.t 10) (.t 56), none, none, []⟩]
theorem v8_39 : wpS P L8_39 T L (rdy h) K = wpS P ([⟨.store 1 (.t 10) (.t 56), none, none, []⟩]) T L (rdy h) K := rfl
def L8_40 : List AStep := ⟨.call 45 [(.t 55)], (some 56), none, []⟩ :: ⟨.alloc 25 [(.sl none 0 (some 0))], (some 10), none, []⟩ :: L8_39
theorem v8_40 : wpS P L8_40 T L (rdy h) K = wpS P (⟨.call 45 [(.t 55)], (some 56), none, []⟩ :: ⟨.alloc 25 [(.sl none 0 (some 0))], (some 10), none, []⟩ :: L8_39) T L (rdy h) K := rfl
def L8_41 : List AStep := ⟨.load 2 true (.t 1), (some 54), none, []⟩ :: ⟨.call 35 [(.t 54)], (some 55), none, []⟩ :: L8_40
theorem v8_41 : wpS P L8_41 T L (rdy h) K = wpS P (⟨.load 2 true (.t 1), (some 54), none, []⟩ :: ⟨.call 35 [(.t 54)], (some 55), none, []⟩ :: L8_40) T L (rdy h) K := rfl
def L8_42 : List AStep := [⟨.call 36 [(.t 57), (.t 58)], (some 59), none, []⟩, ⟨.not (.t 59), (some 60), none, []⟩]
theorem v8_42 : wpS P L8_42 T L (rdy h) K = wpS P ([⟨.call 36 [(.t 57), (.t 58)], (some 59), none, []⟩, ⟨.not (.t 59), (some 60), none, []⟩]) T L (rdy h) K := rfl
def L8_43 : List AStep := ⟨.load 1 true (.t 10), (some 57), none, []⟩ :: ⟨.load 1 true (.t 4), (some 58), none, []⟩ :: L8_42
theorem v8_43 : wpS P L8_43 T L (rdy h) K = wpS P (⟨.load 1 true (.t 10), (some 57), none, []⟩ :: ⟨.load 1 true (.t 4), (some 58), none, []⟩ :: L8_42) T L (rdy h) K := rfl
def L8_44 : List AStep := [⟨.mov (.c (.bool false)), (some 2), none, []⟩]
theorem v8_44 : wpS P L8_44 T L (rdy h) K = wpS P ([⟨.mov (.c (.bool false)), (some 2), none, []⟩]) T L (rdy h) K := rfl
def L8_45 : List AStep := [⟨.mov (.c (.int .i64 1)), (some 9), none, []⟩]
theorem v8_45 : wpS P L8_45 T L (rdy h) K = wpS P ([⟨.mov (.c (.int .i64 1)), (some 9), none, []⟩]) T L (rdy h) K := rfl
def L8_46 : List AStep := [⟨.call 40 [(.t 61), (.t 62)], (some 63), none, []⟩, ⟨.mov (.t 63), (some 9), none, []⟩]
theorem v8_46 : wpS P L8_46 T L (rdy h) K = wpS P ([⟨.call 40 [(.t 61), (.t 62)], (some 63), none, []⟩, ⟨.mov (.t 63), (some 9), none, []⟩]) T L (rdy h) K := rfl
def L8_47 : List AStep := ⟨.load 1 true (.t 6), (some 61), none, []⟩ :: ⟨.mov (.t 9), (some 62), none, []⟩ :: L8_46
theorem v8_47 : wpS P L8_47 T L (rdy h) K = wpS P (⟨.load 1 true (.t 6), (some 61), none, []⟩ :: ⟨.mov (.t 9), (some 62), none, []⟩ :: L8_46) T L (rdy h) K := rfl
def L8_48 : List AStep := [⟨.mov (.t 9), (some 64), none, []⟩, ⟨.bin .lss (.t 64) (.c (.int .i64 0)), (some 65), none, []⟩]
theorem v8_48 : wpS P L8_48 T L (rdy h) K = wpS P ([⟨.mov (.t 9), (some 64), none, []⟩, ⟨.bin .lss (.t 64) (.c (.int .i64 0)), (some 65), none, []⟩]) T L (rdy h) K := rfl
def L8_49 : List AStep := [⟨.mov (.c (.bool false)), (some 2), none, []⟩]
theorem v8_49 : wpS P L8_49 T L (rdy h) K = wpS P ([⟨.mov (.c (.bool false)), (some 2), none, []⟩]) T L (rdy h) K := rfl
def L8_50 : List AStep := [⟨.bin .neq (.t 66) (.t 67), (some 68), none, []⟩]
theorem v8_50 : wpS P L8_50 T L (rdy h) K = wpS P ([⟨.bin .neq (.t 66) (.t 67), (some 68), none, []⟩]) T L (rdy h) K := rfl
def L8_51 : List AStep := ⟨.mov (.t 9), (some 66), none, []⟩ :: ⟨.mov (.t 8), (some 67), none, []⟩ :: L8_50
theorem v8_51 : wpS P L8_51 T L (rdy h) K = wpS P (⟨.mov (.t 9), (some 66), none, []⟩ :: ⟨.mov (.t 8), (some 67), none, []⟩ :: L8_50) T L (rdy h) K := rfl
def L8_52 : List AStep := [⟨.mov (.c (.bool false)), (some 2), none, []⟩]
theorem v8_52 : wpS P L8_52 T L (rdy h) K = wpS P ([⟨.mov (.c (.bool false)), (some 2), none, []⟩]) T L (rdy h) K := rfl
def L8_53 : List AStep := [⟨.mov (.c (.bool true)), (some 2), none, []⟩]
theorem v8_53 : wpS P L8_53 T L (rdy h) K = wpS P ([⟨.mov (.c (.bool true)), (some 2), none, []⟩]) T L (rdy h) K := rfl
def C8_0 : ACode := .seq (.reg L8_5) .ret
theorem u8_0 : wpC P C8_0 T L (rdy h) Q = wpC P (.seq (.reg L8_5) .ret) T L (rdy h) Q := rfl
def C8_1 : ACode := .cond (.t 15) C8_0 .skip
theorem u8_1 : wpC P C8_1 T L (rdy h) Q = wpC P (.cond (.t 15) C8_0 .skip) T L (rdy h) Q := rfl
def C8_2 : ACode := .seq (.reg L8_4) C8_1
theorem u8_2 : wpC P C8_2 T L (rdy h) Q = wpC P (.seq (.reg L8_4) C8_1) T L (rdy h) Q := rfl
def C8_3 : ACode := .seq (.reg L8_15) .ret
theorem u8_3 : wpC P C8_3 T L (rdy h) Q = wpC P (.seq (.reg L8_15) .ret) T L (rdy h) Q := rfl
def C8_4 : ACode := .cond (.t 26) C8_3 .skip
theorem u8_4 : wpC P C8_4 T L (rdy h) Q = wpC P (.cond (.t 26) C8_3 .skip) T L (rdy h) Q := rfl
def C8_5 : ACode := .seq (.reg L8_14) C8_4
theorem u8_5 : wpC P C8_5 T L (rdy h) Q = wpC P (.seq (.reg L8_14) C8_4) T L (rdy h) Q := rfl
def C8_6 : ACode := .seq (.reg L8_19) .ret
theorem u8_6 : wpC P C8_6 T L (rdy h) Q = wpC P (.seq (.reg L8_19) .ret) T L (rdy h) Q := rfl
def C8_7 : ACode := .cond (.t 31) C8_6 .skip
theorem u8_7 : wpC P C8_7 T L (rdy h) Q = wpC P (.cond (.t 31) C8_6 .skip) T L (rdy h) Q := rfl
def C8_8 : ACode := .seq (.reg L8_18) C8_7
theorem u8_8 : wpC P C8_8 T L (rdy h) Q = wpC P (.seq (.reg L8_18) C8_7) T L (rdy h) Q := rfl
def C8_9 : ACode := .seq (.reg L8_27) .ret
theorem u8_9 : wpC P C8_9 T L (rdy h) Q = wpC P (.seq (.reg L8_27) .ret) T L (rdy h) Q := rfl
def C8_10 : ACode := .cond (.t 42) C8_9 .skip
theorem u8_10 : wpC P C8_10 T L (rdy h) Q = wpC P (.cond (.t 42) C8_9 .skip) T L (rdy h) Q := rfl
def C8_11 : ACode := .seq (.reg L8_26) C8_10
theorem u8_11 : wpC P C8_11 T L (rdy h) Q = wpC P (.seq (.reg L8_26) C8_10) T L (rdy h) Q := rfl
def C8_12 : ACode := .seq (.reg L8_35) .ret
theorem u8_12 : wpC P C8_12 T L (rdy h) Q = wpC P (.seq (.reg L8_35) .ret) T L (rdy h) Q := rfl
def C8_13 : ACode := .cond (.t 50) C8_12 .skip
theorem u8_13 : wpC P C8_13 T L (rdy h) Q = wpC P (.cond (.t 50) C8_12 .skip) T L (rdy h) Q := rfl
def C8_14 : ACode := .seq (.reg L8_34) C8_13
theorem u8_14 : wpC P C8_14 T L (rdy h) Q = wpC P (.seq (.reg L8_34) C8_13) T L (rdy h) Q := rfl
def C8_15 : ACode := .seq (.reg L8_38) .ret
theorem u8_15 : wpC P C8_15 T L (rdy h) Q = wpC P (.seq (.reg L8_38) .ret) T L (rdy h) Q := rfl
def C8_16 : ACode := .cond (.t 53) C8_15 .skip
theorem u8_16 : wpC P C8_16 T L (rdy h) Q = wpC P (.cond (.t 53) C8_15 .skip) T L (rdy h) Q := rfl
def C8_17 : ACode := .seq (.reg L8_37) C8_16
theorem u8_17 : wpC P C8_17 T L (rdy h) Q = wpC P (.seq (.reg L8_37) C8_16) T L (rdy h) Q := rfl
def C8_18 : ACode := .seq (.reg L8_44) .ret
theorem u8_18 : wpC P C8_18 T L (rdy h) Q = wpC P (.seq (.reg L8_44) .ret) T L (rdy h) Q := rfl
def C8_19 : ACode := .cond (.t 60) C8_18 .skip
theorem u8_19 : wpC P C8_19 T L (rdy h) Q = wpC P (.cond (.t 60) C8_18 .skip) T L (rdy h) Q := rfl
def C8_20 : ACode := .seq (.reg L8_43) C8_19
theorem u8_20 : wpC P C8_20 T L (rdy h) Q = wpC P (.seq (.reg L8_43) C8_19) T L (rdy h) Q := rfl
def C8_21 : ACode := .seq (.reg L8_49) .ret
theorem u8_21 : wpC P C8_21 T L (rdy h) Q = wpC P (.seq (.reg L8_49) .ret) T L (rdy h) Q := rfl
def C8_22 : ACode := .cond (.t 65) C8_21 .skip
theorem u8_22 : wpC P C8_22 T L (rdy h) Q = wpC P (.cond (.t 65) C8_21 .skip) T L (rdy h) Q := rfl
def C8_23 : ACode := .seq (.reg L8_48) C8_22
theorem u8_23 : wpC P C8_23 T L (rdy h) Q = wpC P (.seq (.reg L8_48) C8_22) T L (rdy h) Q := rfl
def C8_24 : ACode := .seq (.reg L8_52) .ret
theorem u8_24 : wpC P C8_24 T L (rdy h) Q = wpC P (.seq (.reg L8_52) .ret) T L (rdy h) Q := rfl
def C8_25 : ACode := .cond (.t 68) C8_24 .skip
theorem u8_25 : wpC P C8_25 T L (rdy h) Q = wpC P (.cond (.t 68) C8_24 .skip) T L (rdy h) Q := rfl
def C8_26 : ACode := .seq (.reg L8_51) C8_25
theorem u8_26 : wpC P C8_26 T L (rdy h) Q = wpC P (.seq (.reg L8_51) C8_25) T L (rdy h) Q := rfl
def C8_27 : ACode := .seq (.reg L8_53) .ret
theorem u8_27 : wpC P C8_27 T L (rdy h) Q = wpC P (.seq (.reg L8_53) .ret) T L (rdy h) Q := rfl
def C8_28 : ACode := .seq C8_26 C8_27
theorem u8_28 : wpC P C8_28 T L (rdy h) Q = wpC P (.seq C8_26 C8_27) T L (rdy h) Q := rfl
def C8_29 : ACode := .seq C8_23 C8_28
theorem u8_29 : wpC P C8_29 T L (rdy h) Q = wpC P (.seq C8_23 C8_28) T L (rdy h) Q := rfl
def C8_30 : ACode := .seq (.reg L8_47) C8_29
theorem u8_30 : wpC P C8_30 T L (rdy h) Q = wpC P (.seq (.reg L8_47) C8_29) T L (rdy h) Q := rfl
def C8_31 : ACode := .seq (.reg L8_45) C8_30
theorem u8_31 : wpC P C8_31 T L (rdy h) Q = wpC P (.seq (.reg L8_45) C8_30) T L (rdy h) Q := rfl
def C8_32 : ACode := .seq C8_20 C8_31
theorem u8_32 : wpC P C8_32 T L (rdy h) Q = wpC P (.seq C8_20 C8_31) T L (rdy h) Q := rfl
def C8_33 : ACode := .seq (.reg L8_41) C8_32
theorem u8_33 : wpC P C8_33 T L (rdy h) Q = wpC P (.seq (.reg L8_41) C8_32) T L (rdy h) Q := rfl
def C8_34 : ACode := .seq C8_17 C8_33
theorem u8_34 : wpC P C8_34 T L (rdy h) Q = wpC P (.seq C8_17 C8_33) T L (rdy h) Q := rfl
def C8_35 : ACode := .seq C8_14 C8_34
theorem u8_35 : wpC P C8_35 T L (rdy h) Q = wpC P (.seq C8_14 C8_34) T L (rdy h) Q := rfl
def C8_36 : ACode := .seq (.reg L8_33) C8_35
theorem u8_36 : wpC P C8_36 T L (rdy h) Q = wpC P (.seq (.reg L8_33) C8_35) T L (rdy h) Q := rfl
def C8_37 : ACode := .seq (.reg L8_31) C8_36
theorem u8_37 : wpC P C8_37 T L (rdy h) Q = wpC P (.seq (.reg L8_31) C8_36) T L (rdy h) Q := rfl
def C8_38 : ACode := .seq (.reg L8_30) C8_37
theorem u8_38 : wpC P C8_38 T L (rdy h) Q = wpC P (.seq (.reg L8_30) C8_37) T L (rdy h) Q := rfl
def C8_39 : ACode := .seq (.reg L8_28) C8_38
theorem u8_39 : wpC P C8_39 T L (rdy h) Q = wpC P (.seq (.reg L8_28) C8_38) T L (rdy h) Q := rfl
def C8_40 : ACode := .seq C8_11 C8_39
theorem u8_40 : wpC P C8_40 T L (rdy h) Q = wpC P (.seq C8_11 C8_39) T L (rdy h) Q := rfl
def C8_41 : ACode := .seq (.reg L8_22) C8_40
theorem u8_41 : wpC P C8_41 T L (rdy h) Q = wpC P (.seq (.reg L8_22) C8_40) T L (rdy h) Q := rfl
def C8_42 : ACode := .seq (.reg L8_20) C8_41
theorem u8_42 : wpC P C8_42 T L (rdy h) Q = wpC P (.seq (.reg L8_20) C8_41) T L (rdy h) Q := rfl
def C8_43 : ACode := .seq C8_8 C8_42
theorem u8_43 : wpC P C8_43 T L (rdy h) Q = wpC P (.seq C8_8 C8_42) T L (rdy h) Q := rfl
def C8_44 : ACode := .seq C8_5 C8_43
theorem u8_44 : wpC P C8_44 T L (rdy h) Q = wpC P (.seq C8_5 C8_43) T L (rdy h) Q := rfl
def C8_45 : ACode := .seq (.reg L8_12) C8_44
theorem u8_45 : wpC P C8_45 T L (rdy h) Q = wpC P (.seq (.reg L8_12) C8_44) T L (rdy h) Q := rfl
def C8_46 : ACode := .seq (.reg L8_10) C8_45
theorem u8_46 : wpC P C8_46 T L (rdy h) Q = wpC P (.seq (.reg L8_10) C8_45) T L (rdy h) Q := rfl
def C8_47 : ACode := .seq (.reg L8_8) C8_46
theorem u8_47 : wpC P C8_47 T L (rdy h) Q = wpC P (.seq (.reg L8_8) C8_46) T L (rdy h) Q := rfl
def C8_48 : ACode := .seq C8_2 C8_47
theorem u8_48 : wpC P C8_48 T L (rdy h) Q = wpC P (.seq C8_2 C8_47) T L (rdy h) Q := rfl
def C8_49 : ACode := .seq (.reg L8_3) C8_48
theorem u8_49 : wpC P C8_49 T L (rdy h) Q = wpC P (.seq (.reg L8_3) C8_48) T L (rdy h) Q := rfl
def C8_50 : ACode := .seq (.reg L8_1) C8_49
theorem u8_50 : wpC P C8_50 T L (rdy h) Q = wpC P (.seq (.reg L8_1) C8_49) T L (rdy h) Q := rfl
def C8_51 : ACode := .seq (.reg L8_0) C8_50
theorem u8_51 : wpC P C8_51 T L (rdy h) Q = wpC P (.seq (.reg L8_0) C8_50) T L (rdy h) Q := rfl
def F8 : AFunc := ⟨69, [.tmp 2], C8_51⟩
theorem cF8 : compB Try.prog 8 = some F8 := by kernel_rfl
end
attribute [local go_sem ↓] u8_0 u8_1 u8_2 u8_3 u8_4 u8_5 u8_6 u8_7 u8_8 u8_9 u8_10 u8_11 u8_12 u8_13 u8_14 u8_15 u8_16 u8_17 u8_18 u8_19 u8_20 u8_21 u8_22 u8_23 u8_24 u8_25 u8_26 u8_27 u8_28 u8_29 u8_30 u8_31 u8_32 u8_33 u8_34 u8_35 u8_36 u8_37 u8_38 u8_39 u8_40 u8_41 u8_42 u8_43 u8_44 u8_45 u8_46 u8_47 u8_48 u8_49 u8_50 u8_51 v8_0 v8_1 v8_2 v8_3 v8_4 v8_5 v8_6 v8_7 v8_8 v8_9 v8_10 v8_11 v8_12 v8_13 v8_14 v8_15 v8_16 v8_17 v8_18 v8_19 v8_20 v8_21 v8_22 v8_23 v8_24 v8_25 v8_26 v8_27 v8_28 v8_29 v8_30 v8_31 v8_32 v8_33 v8_34 v8_35 v8_36 v8_37 v8_38 v8_39 v8_40 v8_41 v8_42 v8_43 v8_44 v8_45 v8_46 v8_47 v8_48 v8_49 v8_50 v8_51 v8_52 v8_53
theorem law8 (h : H) (avs : List AV) (hok : okVs Try.prog h 6 [ 63 ] avs) : callK (bm Try.prog 8 avs h) fun r _ => r = ib true := by
  obtain ⟨v0, avs, rfl, hv0, hok⟩ := okVs_cons hok
  obtain rfl := okVs_nil hok
  obtain ⟨p0, n0, x0, rfl, d0⟩ := dF hv0
  refine bm_of cF8 ?_
  have z0 := k_szF x0 p0 n0 1048576 h (by omega) (by omega) d0
  by_cases y0 : szr 1048576 (wtF x0) < 0
  · simp +contextual (maxSteps := 2000000) only [go_sem, Nat.reduceEqDiff, reduceCtorEq, Nat.reduceAdd, Nat.reduceLeDiff, F8, z0, decide_eq_true y0]
  obtain ⟨e0, u0⟩ := szr_ge y0
  have s0 : miniF x0 := wtF_sm (by omega)
  have hR : miniC (starCall x0) := .starCall s0
  simp +contextual (maxSteps := 2000000) only [go_sem, Nat.reduceEqDiff, reduceCtorEq, Nat.reduceAdd, Nat.reduceLeDiff, F8, z0, decide_eq_false y0]
  refine wp_call (k_toF x0 p0 n0 h (d0.grow (Grow.refl h)) s0) ?_
  rintro r h1 ⟨g1, p0a, n0a, rfl, a0a⟩
  simp +contextual (maxSteps := 2000000) only [go_sem, Nat.reduceEqDiff, reduceCtorEq, Nat.reduceAdd, Nat.reduceLeDiff]
  refine wp_call (k_sStarCall x0 p0a n0a h1 (a0a.sl) s0) ?_
  rintro r h2 ⟨g2, pw, Rw, rfl, w0⟩
  simp +contextual (maxSteps := 2000000) only [go_sem, Nat.reduceEqDiff, reduceCtorEq, Nat.reduceAdd, Nat.reduceLeDiff]
  refine wp_call (k_toF x0 p0 n0 h2 (d0.grow (((Grow.refl h).trans g1).trans g2)) s0) ?_
  rintro r h3 ⟨g3, p0b, n0b, rfl, a0b⟩
  simp +contextual (maxSteps := 2000000) only [go_sem, Nat.reduceEqDiff, reduceCtorEq, Nat.reduceAdd, Nat.reduceLeDiff]
  refine wp_call (k_iStarCall x0 p0b n0b h3 (a0b.sl) s0) ?_
  rintro r h4 ⟨g4, pg, Rg, rfl, b0⟩
  have q0 := k_eqC (starCall x0) (starCall x0) pg pw h4 (b0.sl) (w0.sl.grow (g3.trans g4)) hR
  simp +contextual (maxSteps := 2000000) only [go_sem, Nat.reduceEqDiff, reduceCtorEq, Nat.reduceAdd, Nat.reduceLeDiff, q0, decide_true]
  refine wp_call (k_toF x0 p0 n0 h4 (d0.grow (((((Grow.refl h).trans g1).trans g2).trans g3).trans g4)) s0) ?_
  rintro r h5 ⟨g5, p0c, n0c, rfl, a0c⟩
  have q1 := k_eqF x0 x0 p0b n0b p0c n0c h5 (a0b.sl.grow (g4.trans g5)) a0c.sl s0
  simp +contextual (maxSteps := 2000000) only [go_sem, Nat.reduceEqDiff, reduceCtorEq, Nat.reduceAdd, Nat.reduceLeDiff, q1, decide_true]
  have k0 := cellsF_le s0
  have G8 : Grow h2 h5 := ((g3.trans g4).trans g5)
  refine wp_call (k_markF x0 p0b n0b 1 h2 h3 h5 ((a0b.grow (g4.trans g5))) a0b G8 (by omega) (by omega) s0) ?_
  rintro r h6 ⟨rfl, G80, m0, N0⟩
  have M0 := N0
  have b1 := (b0.grow g5).mid M0 (Nat.le_refl _)
  have w1 := w0.grow G80
  have qa := k_eqC (starCall x0) (starCall x0) pg pw h6 (b1.sl) (w1.sl) hR
  simp +contextual (maxSteps := 2000000) only [go_sem, Nat.reduceEqDiff, reduceCtorEq, Nat.reduceAdd, Nat.reduceLeDiff, qa, decide_true, decide_eq_false (show ¬ ((1 : Int) + (cellsF x0 : Nat) < 0) by omega)]
  have kr := cellsC_le hR
  have lh : h2.n ≤ h3.n := g3.n
  refine wp_call (k_markC (starCall x0) pg Rg 1 h2 h4 h6 (b1.from lh) (b0.from lh) G80 (by omega) (by omega) hR) ?_
  rintro r h7 ⟨rfl, Gm, mr, Mr⟩
  have qh := k_heldC (starCall x0) pg 1 h7 mr (by omega) (by omega) hR
  simp +contextual (maxSteps := 2000000) only [go_sem, Nat.reduceEqDiff, reduceCtorEq, Nat.reduceAdd, Nat.reduceLeDiff, qh, decide_true, decide_eq_false (show ¬ ((1 : Int) + (cellsC (starCall x0) : Nat) < 0) by omega)]
  have H1 : Grow h h7 := (((Grow.refl h).trans g1).trans g2).trans Gm
  refine wp_call (k_toF x0 p0 n0 h7 (d0.grow H1) s0) ?_
  rintro r h8 ⟨g8, p0d, n0d, rfl, a0d⟩
  simp +contextual (maxSteps := 2000000) only [go_sem, Nat.reduceEqDiff, reduceCtorEq, Nat.reduceAdd, Nat.reduceLeDiff]
  refine wp_call (k_iStarCall x0 p0d n0d h8 (a0d.sl) s0) ?_
  rintro r h9 ⟨g9, py, Ry, rfl, b2⟩
  have G9 : Grow h7 h9 := (g8.trans g9)
  have qz := k_eqC (starCall x0) (starCall x0) py pw h9 (b2.sl) ((w0.grow (Gm.trans G9)).sl) hR
  have qy := k_heldC (starCall x0) pg 1 h9 (mr.grow G9) (by omega) (by omega) hR
  simp +contextual (maxSteps := 2000000) only [go_sem, Nat.reduceEqDiff, reduceCtorEq, Nat.reduceAdd, Nat.reduceLeDiff, qz, qy, decide_true, decide_eq_false (show ¬ ((1 : Int) + (cellsC (starCall x0) : Nat) < 0) by omega)]
  exact gcK_of rfl (fun _ _ => rfl)
end Go.Proofs.Ytnphlonhogcedaa.Am
