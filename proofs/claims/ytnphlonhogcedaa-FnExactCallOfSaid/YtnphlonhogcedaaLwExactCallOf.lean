/- The law FnExactCallOf. -/
import Derived.Test.YtnphlonhogcedaaK
import Derived.Test.YtnphlonhogcedaaN1
import Derived.Test.YtnphlonhogcedaaE1
namespace Go.Proofs.Ytnphlonhogcedaa.Am
open Go
set_option maxRecDepth 100000
set_option maxHeartbeats 4000000
set_option linter.unusedSimpArgs false
set_option linter.unusedVariables false
attribute [local go_sem ↓] bv_t bv_c ev_t ev_c put_same put_ne put_none kill_at pro_at lb_same lb_ne start_zero start_succ wpC_seq wpC_reg wpC_cond wpC_block wpC_skip wpC_exit wpC_ret thenQ_normal thenQ_exit thenQ_ret inBlk_normal inBlk_exit inBlk_ret wpS_nil wpS_step wpS_again wpS_guard wpO_mov wpO_load wpO_faddr wpO_nilCheck wpO_pick wpO_build wpO_bin wpO_eqb wpO_eqst wpO_eqnil wpO_not wpO_conv wpO_bytesStr wpO_iaddr wpO_idxStr wpO_field wpO_extract wpO_len wpO_lenStr wpO_cap wpO_min wpO_slice wpO_sliceStr wpO_alloc wpO_box wpO_store wpO_call wpO_callv wpO_mkfn wpO_buildSlice wpO_mkslice wpO_append wpO_appz proA_nil proA_cons tmpX_nil tmpX_tmp tmpX_cell doneB_normal doneB_ret agK_cons agK_nil pureB_load results_one results_two results_nil resBs_cons resBs_nil resB_tmp resB_cell
attribute [local go_sem] kill_v kill_lp_ne kill_lp_same pro_v pro_lp_same pro_lp_ne av_v av_lp optB_some optX_some valX_eq ldX_lp ldX_v faX_lp faX_v ncX_lp ncX_ptr ncX_fn boxK_one boxK_agg stL_some stK_lp_one stK_lp_agg stK_v_one stK_v_agg proM_v proM_lp callG_mk callVG_mk callvK_fn fnG_mk ptrsA_nil ptrsA_cons callH_some whenA_true whenA_false guardH_tt guardH_ff guardH_tf guardH_ft guardH_undef agV_one agV_agg lenO_sl lenStrO_str notO_bool pickO_bool convO_int eqbO_bool eqnilO_sl extractO_tup capO_sl minO_int loadL_one loadL_all storeL_eq fillA_nil fillA_one fillA_agg nat_ge neg_ge nat_lt neg_lt buildO bin_add bin_sub bin_mul bin_eql bin_neq bin_lss bin_leq bin_gtr bin_geq str_eql str_neq str_lss str_leq str_gtr str_geq retK_some endK_mk gcK_same gcK_int gcK_bool tupO_one tupO_agg rdy_self ib ii Option.map_none Option.map_some Option.some.injEq exists_eq_left' exists_eq_left ne_eq not_false_eq_true if_true if_false List.map_cons List.map_nil List.getElem?_cons_zero List.getElem?_cons_succ List.length_cons List.length_nil List.take_succ_cons List.take_zero List.take_nil List.drop_succ_cons List.drop_zero List.drop_nil List.cons_append List.nil_append List.append_nil List.set_cons_zero List.set_cons_succ Nat.zero_add forall_const true_and and_true and_self Bool.false_eq_true false_implies true_implies implies_true Bool.not_true Bool.not_false Bool.not_eq_true' Bool.not_eq_false' beq_self_eq_true Bool.bne_true Bool.bne_false
attribute [local go_sem] lenI lenS lenP lenQ lenB lenL lenT encI_0 encS_0 encP_0 encP_1 encQ_0 encQ_1 encQ_2 encQ_3 encB_0 encB_1 encL_0 encL_1 encT_0 encT_1
attribute [local go_sem low] whenA_bool guardH_bool
section
variable {P : Program} {T : Tb} {L : Lb} {h : H} {Q : PostC} {K : Post}
/-! laws.FnExactCallOf -/
def L6_0 : List AStep := [⟨.box 63 (.t 0), (some 1), none, []⟩, ⟨.mov (.c (.bool false)), (some 2), none, []⟩]
theorem v6_0 : wpS P L6_0 T L (rdy h) K = wpS P ([⟨.box 63 (.t 0), (some 1), none, []⟩, ⟨.mov (.c (.bool false)), (some 2), none, []⟩]) T L (rdy h) K := rfl
def L6_1 : List AStep := [⟨.mov (.c (.int .i64 1048576)), (some 3), none, []⟩]
theorem v6_1 : wpS P L6_1 T L (rdy h) K = wpS P ([⟨.mov (.c (.int .i64 1048576)), (some 3), none, []⟩]) T L (rdy h) K := rfl
def L6_2 : List AStep := [⟨.call 33 [(.t 11), (.t 12)], (some 13), none, []⟩, ⟨.mov (.t 13), (some 3), none, []⟩]
theorem v6_2 : wpS P L6_2 T L (rdy h) K = wpS P ([⟨.call 33 [(.t 11), (.t 12)], (some 13), none, []⟩, ⟨.mov (.t 13), (some 3), none, []⟩]) T L (rdy h) K := rfl
def L6_3 : List AStep := ⟨.load 2 true (.t 1), (some 11), none, []⟩ :: ⟨.mov (.t 3), (some 12), none, []⟩ :: L6_2
theorem v6_3 : wpS P L6_3 T L (rdy h) K = wpS P (⟨.load 2 true (.t 1), (some 11), none, []⟩ :: ⟨.mov (.t 3), (some 12), none, []⟩ :: L6_2) T L (rdy h) K := rfl
def L6_4 : List AStep := [⟨.mov (.t 3), (some 14), none, []⟩, ⟨.bin .lss (.t 14) (.c (.int .i64 0)), (some 15), none, []⟩]
theorem v6_4 : wpS P L6_4 T L (rdy h) K = wpS P ([⟨.mov (.t 3), (some 14), none, []⟩, ⟨.bin .lss (.t 14) (.c (.int .i64 0)), (some 15), none, []⟩]) T L (rdy h) K := rfl
def L6_5 : List AStep := [⟨.mov (.c (.bool true)), (some 2), none, []⟩]
theorem v6_5 : wpS P L6_5 T L (rdy h) K = wpS P ([⟨.mov (.c (.bool true)), (some 2), none, []⟩]) T L (rdy h) K := rfl
def L6_6 : List AStep := [⟨.store 1 (.t 4) (.t 18), none, none, []⟩]
theorem v6_6 : wpS P L6_6 T L (rdy h) K = wpS P ([⟨.store 1 (.t 4) (.t 18), none, none, []⟩]) T L (rdy h) K := rfl
def L6_7 : List AStep := ⟨.call 34 [(.t 17)], (some 18), none, []⟩ :: ⟨.alloc 25 [(.sl none 0 (some 0))], (some 4), none, []⟩ :: L6_6
theorem v6_7 : wpS P L6_7 T L (rdy h) K = wpS P (⟨.call 34 [(.t 17)], (some 18), none, []⟩ :: ⟨.alloc 25 [(.sl none 0 (some 0))], (some 4), none, []⟩ :: L6_6) T L (rdy h) K := rfl
def L6_8 : List AStep := ⟨.load 2 true (.t 1), (some 16), none, []⟩ :: ⟨.call 35 [(.t 16)], (some 17), none, []⟩ :: L6_7
theorem v6_8 : wpS P L6_8 T L (rdy h) K = wpS P (⟨.load 2 true (.t 1), (some 16), none, []⟩ :: ⟨.call 35 [(.t 16)], (some 17), none, []⟩ :: L6_7) T L (rdy h) K := rfl
def L6_9 : List AStep := [⟨.alloc 30 [(.sl none 0 (some 0)), (.sl none 0 (some 0))], (some 5), none, []⟩, ⟨.store 2 (.t 5) (.t 20), none, none, []⟩]
theorem v6_9 : wpS P L6_9 T L (rdy h) K = wpS P ([⟨.alloc 30 [(.sl none 0 (some 0)), (.sl none 0 (some 0))], (some 5), none, []⟩, ⟨.store 2 (.t 5) (.t 20), none, none, []⟩]) T L (rdy h) K := rfl
def L6_10 : List AStep := ⟨.load 2 true (.t 1), (some 19), none, []⟩ :: ⟨.call 35 [(.t 19)], (some 20), none, []⟩ :: L6_9
theorem v6_10 : wpS P L6_10 T L (rdy h) K = wpS P (⟨.load 2 true (.t 1), (some 19), none, []⟩ :: ⟨.call 35 [(.t 19)], (some 20), none, []⟩ :: L6_9) T L (rdy h) K := rfl
def L6_11 : List AStep := [⟨.alloc 25 [(.sl none 0 (some 0))], (some 6), none, []⟩, ⟨.store 1 (.t 6) (.t 22), none, none, []⟩]
theorem v6_11 : wpS P L6_11 T L (rdy h) K = wpS P ([⟨.alloc 25 [(.sl none 0 (some 0))], (some 6), none, []⟩, ⟨.store 1 (.t 6) (.t 22), none, none, []⟩]) T L (rdy h) K := rfl
def L6_12 : List AStep := ⟨.load 2 true (.t 5), (some 21), none, []⟩ :: ⟨.call 19 [(.t 21)], (some 22), none, []⟩ :: L6_11
theorem v6_12 : wpS P L6_12 T L (rdy h) K = wpS P (⟨.load 2 true (.t 5), (some 21), none, []⟩ :: ⟨.call 19 [(.t 21)], (some 22), none, []⟩ :: L6_11) T L (rdy h) K := rfl
def L6_13 : List AStep := [⟨.call 36 [(.t 23), (.t 24)], (some 25), none, []⟩, ⟨.not (.t 25), (some 26), none, []⟩]
theorem v6_13 : wpS P L6_13 T L (rdy h) K = wpS P ([⟨.call 36 [(.t 23), (.t 24)], (some 25), none, []⟩, ⟨.not (.t 25), (some 26), none, []⟩]) T L (rdy h) K := rfl
def L6_14 : List AStep := ⟨.load 1 true (.t 6), (some 23), none, []⟩ :: ⟨.load 1 true (.t 4), (some 24), none, []⟩ :: L6_13
theorem v6_14 : wpS P L6_14 T L (rdy h) K = wpS P (⟨.load 1 true (.t 6), (some 23), none, []⟩ :: ⟨.load 1 true (.t 4), (some 24), none, []⟩ :: L6_13) T L (rdy h) K := rfl
def L6_15 : List AStep := [⟨.mov (.c (.bool false)), (some 2), none, []⟩]
theorem v6_15 : wpS P L6_15 T L (rdy h) K = wpS P ([⟨.mov (.c (.bool false)), (some 2), none, []⟩]) T L (rdy h) K := rfl
def L6_16 : List AStep := [⟨.not (.t 30), (some 31), none, []⟩]
theorem v6_16 : wpS P L6_16 T L (rdy h) K = wpS P ([⟨.not (.t 30), (some 31), none, []⟩]) T L (rdy h) K := rfl
def L6_17 : List AStep := ⟨.call 35 [(.t 28)], (some 29), none, [(.load 2 true (.t 5), (some 27), none)]⟩ :: ⟨.call 37 [(.t 27), (.t 29)], (some 30), none, []⟩ :: L6_16
theorem v6_17 : wpS P L6_17 T L (rdy h) K = wpS P (⟨.call 35 [(.t 28)], (some 29), none, [(.load 2 true (.t 5), (some 27), none)]⟩ :: ⟨.call 37 [(.t 27), (.t 29)], (some 30), none, []⟩ :: L6_16) T L (rdy h) K := rfl
def L6_18 : List AStep := ⟨.load 2 true (.t 5), (some 27), none, []⟩ :: ⟨.load 2 true (.t 1), (some 28), none, []⟩ :: L6_17
theorem v6_18 : wpS P L6_18 T L (rdy h) K = wpS P (⟨.load 2 true (.t 5), (some 27), none, []⟩ :: ⟨.load 2 true (.t 1), (some 28), none, []⟩ :: L6_17) T L (rdy h) K := rfl
def L6_19 : List AStep := [⟨.mov (.c (.bool false)), (some 2), none, []⟩]
theorem v6_19 : wpS P L6_19 T L (rdy h) K = wpS P ([⟨.mov (.c (.bool false)), (some 2), none, []⟩]) T L (rdy h) K := rfl
def L6_20 : List AStep := [⟨.mov (.c (.int .i64 1)), (some 7), none, []⟩]
theorem v6_20 : wpS P L6_20 T L (rdy h) K = wpS P ([⟨.mov (.c (.int .i64 1)), (some 7), none, []⟩]) T L (rdy h) K := rfl
def L6_21 : List AStep := [⟨.call 38 [(.t 32), (.t 33)], (some 34), none, []⟩, ⟨.mov (.t 34), (some 7), none, []⟩]
theorem v6_21 : wpS P L6_21 T L (rdy h) K = wpS P ([⟨.call 38 [(.t 32), (.t 33)], (some 34), none, []⟩, ⟨.mov (.t 34), (some 7), none, []⟩]) T L (rdy h) K := rfl
def L6_22 : List AStep := ⟨.load 2 true (.t 5), (some 32), none, []⟩ :: ⟨.mov (.t 7), (some 33), none, []⟩ :: L6_21
theorem v6_22 : wpS P L6_22 T L (rdy h) K = wpS P (⟨.load 2 true (.t 5), (some 32), none, []⟩ :: ⟨.mov (.t 7), (some 33), none, []⟩ :: L6_21) T L (rdy h) K := rfl
def L6_23 : List AStep := [⟨.not (.t 40), (some 41), (some (37, false)), []⟩, ⟨.pick (.t 37) (.c (.bool true)) (.t 41), (some 42), none, []⟩]
theorem v6_23 : wpS P L6_23 T L (rdy h) K = wpS P ([⟨.not (.t 40), (some 41), (some (37, false)), []⟩, ⟨.pick (.t 37) (.c (.bool true)) (.t 41), (some 42), none, []⟩]) T L (rdy h) K := rfl
def L6_24 : List AStep := ⟨.load 1 true (.t 4), (some 39), (some (37, false)), []⟩ :: ⟨.call 36 [(.t 38), (.t 39)], (some 40), (some (37, false)), []⟩ :: L6_23
theorem v6_24 : wpS P L6_24 T L (rdy h) K = wpS P (⟨.load 1 true (.t 4), (some 39), (some (37, false)), []⟩ :: ⟨.call 36 [(.t 38), (.t 39)], (some 40), (some (37, false)), []⟩ :: L6_23) T L (rdy h) K := rfl
def L6_25 : List AStep := ⟨.mov (.t 36), (some 37), none, []⟩ :: ⟨.load 1 true (.t 6), (some 38), (some (37, false)), []⟩ :: L6_24
theorem v6_25 : wpS P L6_25 T L (rdy h) K = wpS P (⟨.mov (.t 36), (some 37), none, []⟩ :: ⟨.load 1 true (.t 6), (some 38), (some (37, false)), []⟩ :: L6_24) T L (rdy h) K := rfl
def L6_26 : List AStep := ⟨.mov (.t 7), (some 35), none, []⟩ :: ⟨.bin .lss (.t 35) (.c (.int .i64 0)), (some 36), none, []⟩ :: L6_25
theorem v6_26 : wpS P L6_26 T L (rdy h) K = wpS P (⟨.mov (.t 7), (some 35), none, []⟩ :: ⟨.bin .lss (.t 35) (.c (.int .i64 0)), (some 36), none, []⟩ :: L6_25) T L (rdy h) K := rfl
def L6_27 : List AStep := [⟨.mov (.c (.bool false)), (some 2), none, []⟩]
theorem v6_27 : wpS P L6_27 T L (rdy h) K = wpS P ([⟨.mov (.c (.bool false)), (some 2), none, []⟩]) T L (rdy h) K := rfl
def L6_28 : List AStep := [⟨.mov (.c (.int .i64 1)), (some 8), none, []⟩]
theorem v6_28 : wpS P L6_28 T L (rdy h) K = wpS P ([⟨.mov (.c (.int .i64 1)), (some 8), none, []⟩]) T L (rdy h) K := rfl
def L6_29 : List AStep := [⟨.call 39 [(.t 43), (.t 44)], (some 45), none, []⟩, ⟨.mov (.t 45), (some 8), none, []⟩]
theorem v6_29 : wpS P L6_29 T L (rdy h) K = wpS P ([⟨.call 39 [(.t 43), (.t 44)], (some 45), none, []⟩, ⟨.mov (.t 45), (some 8), none, []⟩]) T L (rdy h) K := rfl
def L6_30 : List AStep := ⟨.load 1 true (.t 6), (some 43), none, []⟩ :: ⟨.mov (.t 8), (some 44), none, []⟩ :: L6_29
theorem v6_30 : wpS P L6_30 T L (rdy h) K = wpS P (⟨.load 1 true (.t 6), (some 43), none, []⟩ :: ⟨.mov (.t 8), (some 44), none, []⟩ :: L6_29) T L (rdy h) K := rfl
def L6_31 : List AStep := [⟨.mov (.c (.int .i64 1)), (some 9), none, []⟩]
theorem v6_31 : wpS P L6_31 T L (rdy h) K = wpS P ([⟨.mov (.c (.int .i64 1)), (some 9), none, []⟩]) T L (rdy h) K := rfl
def L6_32 : List AStep := [⟨.call 40 [(.t 46), (.t 47)], (some 48), none, []⟩, ⟨.mov (.t 48), (some 9), none, []⟩]
theorem v6_32 : wpS P L6_32 T L (rdy h) K = wpS P ([⟨.call 40 [(.t 46), (.t 47)], (some 48), none, []⟩, ⟨.mov (.t 48), (some 9), none, []⟩]) T L (rdy h) K := rfl
def L6_33 : List AStep := ⟨.load 1 true (.t 6), (some 46), none, []⟩ :: ⟨.mov (.t 9), (some 47), none, []⟩ :: L6_32
theorem v6_33 : wpS P L6_33 T L (rdy h) K = wpS P (⟨.load 1 true (.t 6), (some 46), none, []⟩ :: ⟨.mov (.t 9), (some 47), none, []⟩ :: L6_32) T L (rdy h) K := rfl
def L6_34 : List AStep := [⟨.mov (.t 9), (some 49), none, []⟩, ⟨.bin .lss (.t 49) (.c (.int .i64 0)), (some 50), none, []⟩]
theorem v6_34 : wpS P L6_34 T L (rdy h) K = wpS P ([⟨.mov (.t 9), (some 49), none, []⟩, ⟨.bin .lss (.t 49) (.c (.int .i64 0)), (some 50), none, []⟩]) T L (rdy h) K := rfl
def L6_35 : List AStep := [⟨.mov (.c (.bool false)), (some 2), none, []⟩]
theorem v6_35 : wpS P L6_35 T L (rdy h) K = wpS P ([⟨.mov (.c (.bool false)), (some 2), none, []⟩]) T L (rdy h) K := rfl
def L6_36 : List AStep := [⟨.bin .neq (.t 51) (.t 52), (some 53), none, []⟩]
theorem v6_36 : wpS P L6_36 T L (rdy h) K = wpS P ([⟨.bin .neq (.t 51) (.t 52), (some 53), none, []⟩]) T L (rdy h) K := rfl
def L6_37 : List AStep := ⟨.mov (.t 9), (some 51), none, []⟩ :: ⟨.mov (.t 8), (some 52), none, []⟩ :: L6_36
theorem v6_37 : wpS P L6_37 T L (rdy h) K = wpS P (⟨.mov (.t 9), (some 51), none, []⟩ :: ⟨.mov (.t 8), (some 52), none, []⟩ :: L6_36) T L (rdy h) K := rfl
def L6_38 : List AStep := [⟨.mov (.c (.bool false)), (some 2), none, []⟩]
theorem v6_38 : wpS P L6_38 T L (rdy h) K = wpS P ([⟨.mov (.c (.bool false)), (some 2), none, []⟩]) T L (rdy h) K := rfl
def L6_39 : List AStep := [⟨.store 1 (.t 10) (.t 56), none, none, []⟩]
theorem v6_39 : wpS P L6_39 T L (rdy h) K = wpS P ([⟨.store 1 (.t 10) (.t 56), none, none, []⟩]) T L (rdy h) K := rfl
def L6_40 : List AStep := ⟨.call 19 [(.t 55)], (some 56), none, []⟩ :: ⟨.alloc 25 [(.sl none 0 (some 0))], (some 10), none, []⟩ :: L6_39
theorem v6_40 : wpS P L6_40 T L (rdy h) K = wpS P (⟨.call 19 [(.t 55)], (some 56), none, []⟩ :: ⟨.alloc 25 [(.sl none 0 (some 0))], (some 10), none, []⟩ :: L6_39) T L (rdy h) K := rfl
def L6_41 : List AStep := ⟨.load 2 true (.t 1), (some 54), none, []⟩ :: ⟨.call 35 [(.t 54)], (some 55), none, []⟩ :: L6_40
theorem v6_41 : wpS P L6_41 T L (rdy h) K = wpS P (⟨.load 2 true (.t 1), (some 54), none, []⟩ :: ⟨.call 35 [(.t 54)], (some 55), none, []⟩ :: L6_40) T L (rdy h) K := rfl
def L6_42 : List AStep := [⟨.call 36 [(.t 57), (.t 58)], (some 59), none, []⟩, ⟨.not (.t 59), (some 60), none, []⟩]
theorem v6_42 : wpS P L6_42 T L (rdy h) K = wpS P ([⟨.call 36 [(.t 57), (.t 58)], (some 59), none, []⟩, ⟨.not (.t 59), (some 60), none, []⟩]) T L (rdy h) K := rfl
def L6_43 : List AStep := ⟨.load 1 true (.t 10), (some 57), none, []⟩ :: ⟨.load 1 true (.t 4), (some 58), none, []⟩ :: L6_42
theorem v6_43 : wpS P L6_43 T L (rdy h) K = wpS P (⟨.load 1 true (.t 10), (some 57), none, []⟩ :: ⟨.load 1 true (.t 4), (some 58), none, []⟩ :: L6_42) T L (rdy h) K := rfl
def L6_44 : List AStep := [⟨.mov (.c (.bool false)), (some 2), none, []⟩]
theorem v6_44 : wpS P L6_44 T L (rdy h) K = wpS P ([⟨.mov (.c (.bool false)), (some 2), none, []⟩]) T L (rdy h) K := rfl
def L6_45 : List AStep := [⟨.mov (.c (.int .i64 1)), (some 9), none, []⟩]
theorem v6_45 : wpS P L6_45 T L (rdy h) K = wpS P ([⟨.mov (.c (.int .i64 1)), (some 9), none, []⟩]) T L (rdy h) K := rfl
def L6_46 : List AStep := [⟨.call 40 [(.t 61), (.t 62)], (some 63), none, []⟩, ⟨.mov (.t 63), (some 9), none, []⟩]
theorem v6_46 : wpS P L6_46 T L (rdy h) K = wpS P ([⟨.call 40 [(.t 61), (.t 62)], (some 63), none, []⟩, ⟨.mov (.t 63), (some 9), none, []⟩]) T L (rdy h) K := rfl
def L6_47 : List AStep := ⟨.load 1 true (.t 6), (some 61), none, []⟩ :: ⟨.mov (.t 9), (some 62), none, []⟩ :: L6_46
theorem v6_47 : wpS P L6_47 T L (rdy h) K = wpS P (⟨.load 1 true (.t 6), (some 61), none, []⟩ :: ⟨.mov (.t 9), (some 62), none, []⟩ :: L6_46) T L (rdy h) K := rfl
def L6_48 : List AStep := [⟨.mov (.t 9), (some 64), none, []⟩, ⟨.bin .lss (.t 64) (.c (.int .i64 0)), (some 65), none, []⟩]
theorem v6_48 : wpS P L6_48 T L (rdy h) K = wpS P ([⟨.mov (.t 9), (some 64), none, []⟩, ⟨.bin .lss (.t 64) (.c (.int .i64 0)), (some 65), none, []⟩]) T L (rdy h) K := rfl
def L6_49 : List AStep := [⟨.mov (.c (.bool false)), (some 2), none, []⟩]
theorem v6_49 : wpS P L6_49 T L (rdy h) K = wpS P ([⟨.mov (.c (.bool false)), (some 2), none, []⟩]) T L (rdy h) K := rfl
def L6_50 : List AStep := [⟨.bin .neq (.t 66) (.t 67), (some 68), none, []⟩]
theorem v6_50 : wpS P L6_50 T L (rdy h) K = wpS P ([⟨.bin .neq (.t 66) (.t 67), (some 68), none, []⟩]) T L (rdy h) K := rfl
def L6_51 : List AStep := ⟨.mov (.t 9), (some 66), none, []⟩ :: ⟨.mov (.t 8), (some 67), none, []⟩ :: L6_50
theorem v6_51 : wpS P L6_51 T L (rdy h) K = wpS P (⟨.mov (.t 9), (some 66), none, []⟩ :: ⟨.mov (.t 8), (some 67), none, []⟩ :: L6_50) T L (rdy h) K := rfl
def L6_52 : List AStep := [⟨.mov (.c (.bool false)), (some 2), none, []⟩]
theorem v6_52 : wpS P L6_52 T L (rdy h) K = wpS P ([⟨.mov (.c (.bool false)), (some 2), none, []⟩]) T L (rdy h) K := rfl
def L6_53 : List AStep := [⟨.mov (.c (.bool true)), (some 2), none, []⟩]
theorem v6_53 : wpS P L6_53 T L (rdy h) K = wpS P ([⟨.mov (.c (.bool true)), (some 2), none, []⟩]) T L (rdy h) K := rfl
def C6_0 : ACode := .seq (.reg L6_5) .ret
theorem u6_0 : wpC P C6_0 T L (rdy h) Q = wpC P (.seq (.reg L6_5) .ret) T L (rdy h) Q := rfl
def C6_1 : ACode := .cond (.t 15) C6_0 .skip
theorem u6_1 : wpC P C6_1 T L (rdy h) Q = wpC P (.cond (.t 15) C6_0 .skip) T L (rdy h) Q := rfl
def C6_2 : ACode := .seq (.reg L6_4) C6_1
theorem u6_2 : wpC P C6_2 T L (rdy h) Q = wpC P (.seq (.reg L6_4) C6_1) T L (rdy h) Q := rfl
def C6_3 : ACode := .seq (.reg L6_15) .ret
theorem u6_3 : wpC P C6_3 T L (rdy h) Q = wpC P (.seq (.reg L6_15) .ret) T L (rdy h) Q := rfl
def C6_4 : ACode := .cond (.t 26) C6_3 .skip
theorem u6_4 : wpC P C6_4 T L (rdy h) Q = wpC P (.cond (.t 26) C6_3 .skip) T L (rdy h) Q := rfl
def C6_5 : ACode := .seq (.reg L6_14) C6_4
theorem u6_5 : wpC P C6_5 T L (rdy h) Q = wpC P (.seq (.reg L6_14) C6_4) T L (rdy h) Q := rfl
def C6_6 : ACode := .seq (.reg L6_19) .ret
theorem u6_6 : wpC P C6_6 T L (rdy h) Q = wpC P (.seq (.reg L6_19) .ret) T L (rdy h) Q := rfl
def C6_7 : ACode := .cond (.t 31) C6_6 .skip
theorem u6_7 : wpC P C6_7 T L (rdy h) Q = wpC P (.cond (.t 31) C6_6 .skip) T L (rdy h) Q := rfl
def C6_8 : ACode := .seq (.reg L6_18) C6_7
theorem u6_8 : wpC P C6_8 T L (rdy h) Q = wpC P (.seq (.reg L6_18) C6_7) T L (rdy h) Q := rfl
def C6_9 : ACode := .seq (.reg L6_27) .ret
theorem u6_9 : wpC P C6_9 T L (rdy h) Q = wpC P (.seq (.reg L6_27) .ret) T L (rdy h) Q := rfl
def C6_10 : ACode := .cond (.t 42) C6_9 .skip
theorem u6_10 : wpC P C6_10 T L (rdy h) Q = wpC P (.cond (.t 42) C6_9 .skip) T L (rdy h) Q := rfl
def C6_11 : ACode := .seq (.reg L6_26) C6_10
theorem u6_11 : wpC P C6_11 T L (rdy h) Q = wpC P (.seq (.reg L6_26) C6_10) T L (rdy h) Q := rfl
def C6_12 : ACode := .seq (.reg L6_35) .ret
theorem u6_12 : wpC P C6_12 T L (rdy h) Q = wpC P (.seq (.reg L6_35) .ret) T L (rdy h) Q := rfl
def C6_13 : ACode := .cond (.t 50) C6_12 .skip
theorem u6_13 : wpC P C6_13 T L (rdy h) Q = wpC P (.cond (.t 50) C6_12 .skip) T L (rdy h) Q := rfl
def C6_14 : ACode := .seq (.reg L6_34) C6_13
theorem u6_14 : wpC P C6_14 T L (rdy h) Q = wpC P (.seq (.reg L6_34) C6_13) T L (rdy h) Q := rfl
def C6_15 : ACode := .seq (.reg L6_38) .ret
theorem u6_15 : wpC P C6_15 T L (rdy h) Q = wpC P (.seq (.reg L6_38) .ret) T L (rdy h) Q := rfl
def C6_16 : ACode := .cond (.t 53) C6_15 .skip
theorem u6_16 : wpC P C6_16 T L (rdy h) Q = wpC P (.cond (.t 53) C6_15 .skip) T L (rdy h) Q := rfl
def C6_17 : ACode := .seq (.reg L6_37) C6_16
theorem u6_17 : wpC P C6_17 T L (rdy h) Q = wpC P (.seq (.reg L6_37) C6_16) T L (rdy h) Q := rfl
def C6_18 : ACode := .seq (.reg L6_44) .ret
theorem u6_18 : wpC P C6_18 T L (rdy h) Q = wpC P (.seq (.reg L6_44) .ret) T L (rdy h) Q := rfl
def C6_19 : ACode := .cond (.t 60) C6_18 .skip
theorem u6_19 : wpC P C6_19 T L (rdy h) Q = wpC P (.cond (.t 60) C6_18 .skip) T L (rdy h) Q := rfl
def C6_20 : ACode := .seq (.reg L6_43) C6_19
theorem u6_20 : wpC P C6_20 T L (rdy h) Q = wpC P (.seq (.reg L6_43) C6_19) T L (rdy h) Q := rfl
def C6_21 : ACode := .seq (.reg L6_49) .ret
theorem u6_21 : wpC P C6_21 T L (rdy h) Q = wpC P (.seq (.reg L6_49) .ret) T L (rdy h) Q := rfl
def C6_22 : ACode := .cond (.t 65) C6_21 .skip
theorem u6_22 : wpC P C6_22 T L (rdy h) Q = wpC P (.cond (.t 65) C6_21 .skip) T L (rdy h) Q := rfl
def C6_23 : ACode := .seq (.reg L6_48) C6_22
theorem u6_23 : wpC P C6_23 T L (rdy h) Q = wpC P (.seq (.reg L6_48) C6_22) T L (rdy h) Q := rfl
def C6_24 : ACode := .seq (.reg L6_52) .ret
theorem u6_24 : wpC P C6_24 T L (rdy h) Q = wpC P (.seq (.reg L6_52) .ret) T L (rdy h) Q := rfl
def C6_25 : ACode := .cond (.t 68) C6_24 .skip
theorem u6_25 : wpC P C6_25 T L (rdy h) Q = wpC P (.cond (.t 68) C6_24 .skip) T L (rdy h) Q := rfl
def C6_26 : ACode := .seq (.reg L6_51) C6_25
theorem u6_26 : wpC P C6_26 T L (rdy h) Q = wpC P (.seq (.reg L6_51) C6_25) T L (rdy h) Q := rfl
def C6_27 : ACode := .seq (.reg L6_53) .ret
theorem u6_27 : wpC P C6_27 T L (rdy h) Q = wpC P (.seq (.reg L6_53) .ret) T L (rdy h) Q := rfl
def C6_28 : ACode := .seq C6_26 C6_27
theorem u6_28 : wpC P C6_28 T L (rdy h) Q = wpC P (.seq C6_26 C6_27) T L (rdy h) Q := rfl
def C6_29 : ACode := .seq C6_23 C6_28
theorem u6_29 : wpC P C6_29 T L (rdy h) Q = wpC P (.seq C6_23 C6_28) T L (rdy h) Q := rfl
def C6_30 : ACode := .seq (.reg L6_47) C6_29
theorem u6_30 : wpC P C6_30 T L (rdy h) Q = wpC P (.seq (.reg L6_47) C6_29) T L (rdy h) Q := rfl
def C6_31 : ACode := .seq (.reg L6_45) C6_30
theorem u6_31 : wpC P C6_31 T L (rdy h) Q = wpC P (.seq (.reg L6_45) C6_30) T L (rdy h) Q := rfl
def C6_32 : ACode := .seq C6_20 C6_31
theorem u6_32 : wpC P C6_32 T L (rdy h) Q = wpC P (.seq C6_20 C6_31) T L (rdy h) Q := rfl
def C6_33 : ACode := .seq (.reg L6_41) C6_32
theorem u6_33 : wpC P C6_33 T L (rdy h) Q = wpC P (.seq (.reg L6_41) C6_32) T L (rdy h) Q := rfl
def C6_34 : ACode := .seq C6_17 C6_33
theorem u6_34 : wpC P C6_34 T L (rdy h) Q = wpC P (.seq C6_17 C6_33) T L (rdy h) Q := rfl
def C6_35 : ACode := .seq C6_14 C6_34
theorem u6_35 : wpC P C6_35 T L (rdy h) Q = wpC P (.seq C6_14 C6_34) T L (rdy h) Q := rfl
def C6_36 : ACode := .seq (.reg L6_33) C6_35
theorem u6_36 : wpC P C6_36 T L (rdy h) Q = wpC P (.seq (.reg L6_33) C6_35) T L (rdy h) Q := rfl
def C6_37 : ACode := .seq (.reg L6_31) C6_36
theorem u6_37 : wpC P C6_37 T L (rdy h) Q = wpC P (.seq (.reg L6_31) C6_36) T L (rdy h) Q := rfl
def C6_38 : ACode := .seq (.reg L6_30) C6_37
theorem u6_38 : wpC P C6_38 T L (rdy h) Q = wpC P (.seq (.reg L6_30) C6_37) T L (rdy h) Q := rfl
def C6_39 : ACode := .seq (.reg L6_28) C6_38
theorem u6_39 : wpC P C6_39 T L (rdy h) Q = wpC P (.seq (.reg L6_28) C6_38) T L (rdy h) Q := rfl
def C6_40 : ACode := .seq C6_11 C6_39
theorem u6_40 : wpC P C6_40 T L (rdy h) Q = wpC P (.seq C6_11 C6_39) T L (rdy h) Q := rfl
def C6_41 : ACode := .seq (.reg L6_22) C6_40
theorem u6_41 : wpC P C6_41 T L (rdy h) Q = wpC P (.seq (.reg L6_22) C6_40) T L (rdy h) Q := rfl
def C6_42 : ACode := .seq (.reg L6_20) C6_41
theorem u6_42 : wpC P C6_42 T L (rdy h) Q = wpC P (.seq (.reg L6_20) C6_41) T L (rdy h) Q := rfl
def C6_43 : ACode := .seq C6_8 C6_42
theorem u6_43 : wpC P C6_43 T L (rdy h) Q = wpC P (.seq C6_8 C6_42) T L (rdy h) Q := rfl
def C6_44 : ACode := .seq C6_5 C6_43
theorem u6_44 : wpC P C6_44 T L (rdy h) Q = wpC P (.seq C6_5 C6_43) T L (rdy h) Q := rfl
def C6_45 : ACode := .seq (.reg L6_12) C6_44
theorem u6_45 : wpC P C6_45 T L (rdy h) Q = wpC P (.seq (.reg L6_12) C6_44) T L (rdy h) Q := rfl
def C6_46 : ACode := .seq (.reg L6_10) C6_45
theorem u6_46 : wpC P C6_46 T L (rdy h) Q = wpC P (.seq (.reg L6_10) C6_45) T L (rdy h) Q := rfl
def C6_47 : ACode := .seq (.reg L6_8) C6_46
theorem u6_47 : wpC P C6_47 T L (rdy h) Q = wpC P (.seq (.reg L6_8) C6_46) T L (rdy h) Q := rfl
def C6_48 : ACode := .seq C6_2 C6_47
theorem u6_48 : wpC P C6_48 T L (rdy h) Q = wpC P (.seq C6_2 C6_47) T L (rdy h) Q := rfl
def C6_49 : ACode := .seq (.reg L6_3) C6_48
theorem u6_49 : wpC P C6_49 T L (rdy h) Q = wpC P (.seq (.reg L6_3) C6_48) T L (rdy h) Q := rfl
def C6_50 : ACode := .seq (.reg L6_1) C6_49
theorem u6_50 : wpC P C6_50 T L (rdy h) Q = wpC P (.seq (.reg L6_1) C6_49) T L (rdy h) Q := rfl
def C6_51 : ACode := .seq (.reg L6_0) C6_50
theorem u6_51 : wpC P C6_51 T L (rdy h) Q = wpC P (.seq (.reg L6_0) C6_50) T L (rdy h) Q := rfl
def F6 : AFunc := ⟨69, [.tmp 2], C6_51⟩
theorem cF6 : compB Try.prog 6 = some F6 := by kernel_rfl
end
attribute [local go_sem ↓] u6_0 u6_1 u6_2 u6_3 u6_4 u6_5 u6_6 u6_7 u6_8 u6_9 u6_10 u6_11 u6_12 u6_13 u6_14 u6_15 u6_16 u6_17 u6_18 u6_19 u6_20 u6_21 u6_22 u6_23 u6_24 u6_25 u6_26 u6_27 u6_28 u6_29 u6_30 u6_31 u6_32 u6_33 u6_34 u6_35 u6_36 u6_37 u6_38 u6_39 u6_40 u6_41 u6_42 u6_43 u6_44 u6_45 u6_46 u6_47 u6_48 u6_49 u6_50 u6_51 v6_0 v6_1 v6_2 v6_3 v6_4 v6_5 v6_6 v6_7 v6_8 v6_9 v6_10 v6_11 v6_12 v6_13 v6_14 v6_15 v6_16 v6_17 v6_18 v6_19 v6_20 v6_21 v6_22 v6_23 v6_24 v6_25 v6_26 v6_27 v6_28 v6_29 v6_30 v6_31 v6_32 v6_33 v6_34 v6_35 v6_36 v6_37 v6_38 v6_39 v6_40 v6_41 v6_42 v6_43 v6_44 v6_45 v6_46 v6_47 v6_48 v6_49 v6_50 v6_51 v6_52 v6_53
theorem law6 (h : H) (avs : List AV) (hok : okVs Try.prog h 6 [ 63 ] avs) : callK (bm Try.prog 6 avs h) fun r _ => r = ib true := by
  obtain ⟨v0, avs, rfl, hv0, hok⟩ := okVs_cons hok
  obtain rfl := okVs_nil hok
  obtain ⟨p0, n0, x0, rfl, d0⟩ := dF hv0
  refine bm_of cF6 ?_
  have z0 := k_szF x0 p0 n0 1048576 h (by omega) (by omega) d0
  by_cases y0 : szr 1048576 (wtF x0) < 0
  · simp +contextual (maxSteps := 2000000) only [go_sem, Nat.reduceEqDiff, reduceCtorEq, Nat.reduceAdd, Nat.reduceLeDiff, F6, z0, decide_eq_true y0]
  obtain ⟨e0, u0⟩ := szr_ge y0
  have s0 : miniF x0 := wtF_sm (by omega)
  have hR : miniC (callOf x0) := .callOf s0
  simp +contextual (maxSteps := 2000000) only [go_sem, Nat.reduceEqDiff, reduceCtorEq, Nat.reduceAdd, Nat.reduceLeDiff, F6, z0, decide_eq_false y0]
  refine wp_call (k_toF x0 p0 n0 h (d0.grow (Grow.refl h)) s0) ?_
  rintro r h1 ⟨g1, p0a, n0a, rfl, a0a⟩
  simp +contextual (maxSteps := 2000000) only [go_sem, Nat.reduceEqDiff, reduceCtorEq, Nat.reduceAdd, Nat.reduceLeDiff]
  refine wp_call (k_sCallOf x0 p0a n0a h1 (a0a.sl) s0) ?_
  rintro r h2 ⟨g2, pw, Rw, rfl, w0⟩
  simp +contextual (maxSteps := 2000000) only [go_sem, Nat.reduceEqDiff, reduceCtorEq, Nat.reduceAdd, Nat.reduceLeDiff]
  refine wp_call (k_toF x0 p0 n0 h2 (d0.grow (((Grow.refl h).trans g1).trans g2)) s0) ?_
  rintro r h3 ⟨g3, p0b, n0b, rfl, a0b⟩
  simp +contextual (maxSteps := 2000000) only [go_sem, Nat.reduceEqDiff, reduceCtorEq, Nat.reduceAdd, Nat.reduceLeDiff]
  refine wp_call (k_iCallOf x0 p0b n0b h3 (a0b.sl) s0) ?_
  rintro r h4 ⟨g4, pg, Rg, rfl, b0⟩
  have q0 := k_eqC (callOf x0) (callOf x0) pg pw h4 (b0.sl) (w0.sl.grow (g3.trans g4)) hR
  simp +contextual (maxSteps := 2000000) only [go_sem, Nat.reduceEqDiff, reduceCtorEq, Nat.reduceAdd, Nat.reduceLeDiff, q0, decide_true]
  refine wp_call (k_toF x0 p0 n0 h4 (d0.grow (((((Grow.refl h).trans g1).trans g2).trans g3).trans g4)) s0) ?_
  rintro r h5 ⟨g5, p0c, n0c, rfl, a0c⟩
  have q1 := k_eqF x0 x0 p0b n0b p0c n0c h5 (a0b.sl.grow (g4.trans g5)) a0c.sl s0
  simp +contextual (maxSteps := 2000000) only [go_sem, Nat.reduceEqDiff, reduceCtorEq, Nat.reduceAdd, Nat.reduceLeDiff, q1, decide_true]
  have k0 := cellsF_le s0
  have G8 : Grow h2 h5 := ((g3.trans g4).trans g5)
  refine wp_call (k_markF x0 p0b n0b 1 h2 h3 h5 ((a0b.grow (g4.trans g5))) a0b G8 (by omega) (by omega) s0) ?_
  rintro r h6 ⟨rfl, G80, m0, N0⟩
  have M0 := N0
  have b1 := (b0.grow g5).mid M0 (Nat.le_refl _)
  have w1 := w0.grow G80
  have qa := k_eqC (callOf x0) (callOf x0) pg pw h6 (b1.sl) (w1.sl) hR
  simp +contextual (maxSteps := 2000000) only [go_sem, Nat.reduceEqDiff, reduceCtorEq, Nat.reduceAdd, Nat.reduceLeDiff, qa, decide_true, decide_eq_false (show ¬ ((1 : Int) + (cellsF x0 : Nat) < 0) by omega)]
  have kr := cellsC_le hR
  have lh : h2.n ≤ h3.n := g3.n
  refine wp_call (k_markC (callOf x0) pg Rg 1 h2 h4 h6 (b1.from lh) (b0.from lh) G80 (by omega) (by omega) hR) ?_
  rintro r h7 ⟨rfl, Gm, mr, Mr⟩
  have qh := k_heldC (callOf x0) pg 1 h7 mr (by omega) (by omega) hR
  simp +contextual (maxSteps := 2000000) only [go_sem, Nat.reduceEqDiff, reduceCtorEq, Nat.reduceAdd, Nat.reduceLeDiff, qh, decide_true, decide_eq_false (show ¬ ((1 : Int) + (cellsC (callOf x0) : Nat) < 0) by omega)]
  have H1 : Grow h h7 := (((Grow.refl h).trans g1).trans g2).trans Gm
  refine wp_call (k_toF x0 p0 n0 h7 (d0.grow H1) s0) ?_
  rintro r h8 ⟨g8, p0d, n0d, rfl, a0d⟩
  simp +contextual (maxSteps := 2000000) only [go_sem, Nat.reduceEqDiff, reduceCtorEq, Nat.reduceAdd, Nat.reduceLeDiff]
  refine wp_call (k_iCallOf x0 p0d n0d h8 (a0d.sl) s0) ?_
  rintro r h9 ⟨g9, py, Ry, rfl, b2⟩
  have G9 : Grow h7 h9 := (g8.trans g9)
  have qz := k_eqC (callOf x0) (callOf x0) py pw h9 (b2.sl) ((w0.grow (Gm.trans G9)).sl) hR
  have qy := k_heldC (callOf x0) pg 1 h9 (mr.grow G9) (by omega) (by omega) hR
  simp +contextual (maxSteps := 2000000) only [go_sem, Nat.reduceEqDiff, reduceCtorEq, Nat.reduceAdd, Nat.reduceLeDiff, qz, qy, decide_true, decide_eq_false (show ¬ ((1 : Int) + (cellsC (callOf x0) : Nat) < 0) by omega)]
  exact gcK_of rfl (fun _ _ => rfl)
end Go.Proofs.Ytnphlonhogcedaa.Am
