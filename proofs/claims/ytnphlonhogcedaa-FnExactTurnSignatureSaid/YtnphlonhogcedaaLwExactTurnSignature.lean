/- The law FnExactTurnSignature. -/
import Derived.Test.YtnphlonhogcedaaK
import Derived.Test.YtnphlonhogcedaaC1
namespace Go.Proofs.Ytnphlonhogcedaa.Am
open Go
set_option maxRecDepth 100000
set_option maxHeartbeats 4000000
set_option linter.unusedSimpArgs false
set_option linter.unusedVariables false
attribute [local go_sem ↓] bv_t bv_c ev_t ev_c put_same put_ne put_none kill_at pro_at lb_same lb_ne start_zero start_succ wpC_seq wpC_reg wpC_cond wpC_block wpC_skip wpC_exit wpC_ret thenQ_normal thenQ_exit thenQ_ret inBlk_normal inBlk_exit inBlk_ret wpS_nil wpS_step wpS_again wpS_guard wpO_mov wpO_load wpO_faddr wpO_nilCheck wpO_pick wpO_build wpO_bin wpO_eqb wpO_eqst wpO_eqnil wpO_not wpO_conv wpO_bytesStr wpO_iaddr wpO_idxStr wpO_field wpO_extract wpO_len wpO_lenStr wpO_cap wpO_min wpO_slice wpO_sliceStr wpO_alloc wpO_box wpO_store wpO_call wpO_callv wpO_mkfn wpO_buildSlice wpO_mkslice wpO_append wpO_appz proA_nil proA_cons tmpX_nil tmpX_tmp tmpX_cell doneB_normal doneB_ret agK_cons agK_nil pureB_load results_one results_two results_nil resBs_cons resBs_nil resB_tmp resB_cell
attribute [local go_sem] kill_v kill_lp_ne kill_lp_same pro_v pro_lp_same pro_lp_ne av_v av_lp optB_some optX_some valX_eq ldX_lp ldX_v faX_lp faX_v ncX_lp ncX_ptr ncX_fn boxK_one boxK_agg stL_some stK_lp_one stK_lp_agg stK_v_one stK_v_agg proM_v proM_lp callG_mk callVG_mk callvK_fn fnG_mk ptrsA_nil ptrsA_cons callH_some whenA_true whenA_false guardH_tt guardH_ff guardH_tf guardH_ft guardH_undef agV_one agV_agg lenO_sl lenStrO_str notO_bool pickO_bool convO_int eqbO_bool eqnilO_sl extractO_tup capO_sl minO_int loadL_one loadL_all storeL_eq fillA_nil fillA_one fillA_agg nat_ge neg_ge nat_lt neg_lt buildO bin_add bin_sub bin_mul bin_eql bin_neq bin_lss bin_leq bin_gtr bin_geq str_eql str_neq str_lss str_leq str_gtr str_geq retK_some endK_mk gcK_same gcK_int gcK_bool tupO_one tupO_agg rdy_self ib ii Option.map_none Option.map_some Option.some.injEq exists_eq_left' exists_eq_left ne_eq not_false_eq_true if_true if_false List.map_cons List.map_nil List.getElem?_cons_zero List.getElem?_cons_succ List.length_cons List.length_nil List.take_succ_cons List.take_zero List.take_nil List.drop_succ_cons List.drop_zero List.drop_nil List.cons_append List.nil_append List.append_nil List.set_cons_zero List.set_cons_succ Nat.zero_add forall_const true_and and_true and_self Bool.false_eq_true false_implies true_implies implies_true Bool.not_true Bool.not_false Bool.not_eq_true' Bool.not_eq_false' beq_self_eq_true Bool.bne_true Bool.bne_false
attribute [local go_sem] lenI lenS lenP lenQ lenB lenL lenT encI_0 encS_0 encP_0 encP_1 encQ_0 encQ_1 encQ_2 encQ_3 encB_0 encB_1 encL_0 encL_1 encT_0 encT_1
attribute [local go_sem low] whenA_bool guardH_bool
section
variable {P : Program} {T : Tb} {L : Lb} {h : H} {Q : PostC} {K : Post}
/-! laws.FnExactTurnSignature -/
def L13_0 : List AStep := [⟨.box 74 (.t 1), (some 3), none, []⟩, ⟨.mov (.c (.bool false)), (some 4), none, []⟩]
theorem v13_0 : wpS P L13_0 T L (rdy h) K = wpS P ([⟨.box 74 (.t 1), (some 3), none, []⟩, ⟨.mov (.c (.bool false)), (some 4), none, []⟩]) T L (rdy h) K := rfl
def L13_1 : List AStep := [⟨.mov (.c (.int .i64 1048576)), (some 5), none, []⟩]
theorem v13_1 : wpS P L13_1 T L (rdy h) K = wpS P ([⟨.mov (.c (.int .i64 1048576)), (some 5), none, []⟩]) T L (rdy h) K := rfl
def L13_2 : List AStep := [⟨.call 61 [(.t 14), (.t 15)], (some 16), none, []⟩, ⟨.mov (.t 16), (some 5), none, []⟩]
theorem v13_2 : wpS P L13_2 T L (rdy h) K = wpS P ([⟨.call 61 [(.t 14), (.t 15)], (some 16), none, []⟩, ⟨.mov (.t 16), (some 5), none, []⟩]) T L (rdy h) K := rfl
def L13_3 : List AStep := ⟨.mov (.t 0), (some 14), none, []⟩ :: ⟨.mov (.t 5), (some 15), none, []⟩ :: L13_2
theorem v13_3 : wpS P L13_3 T L (rdy h) K = wpS P (⟨.mov (.t 0), (some 14), none, []⟩ :: ⟨.mov (.t 5), (some 15), none, []⟩ :: L13_2) T L (rdy h) K := rfl
def L13_4 : List AStep := [⟨.mov (.t 5), (some 17), none, []⟩, ⟨.bin .lss (.t 17) (.c (.int .i64 0)), (some 18), none, []⟩]
theorem v13_4 : wpS P L13_4 T L (rdy h) K = wpS P ([⟨.mov (.t 5), (some 17), none, []⟩, ⟨.bin .lss (.t 17) (.c (.int .i64 0)), (some 18), none, []⟩]) T L (rdy h) K := rfl
def L13_5 : List AStep := [⟨.mov (.c (.bool true)), (some 4), none, []⟩]
theorem v13_5 : wpS P L13_5 T L (rdy h) K = wpS P ([⟨.mov (.c (.bool true)), (some 4), none, []⟩]) T L (rdy h) K := rfl
def L13_6 : List AStep := [⟨.call 46 [(.t 19), (.t 20)], (some 21), none, []⟩, ⟨.mov (.t 21), (some 5), none, []⟩]
theorem v13_6 : wpS P L13_6 T L (rdy h) K = wpS P ([⟨.call 46 [(.t 19), (.t 20)], (some 21), none, []⟩, ⟨.mov (.t 21), (some 5), none, []⟩]) T L (rdy h) K := rfl
def L13_7 : List AStep := ⟨.load 1 true (.t 3), (some 19), none, []⟩ :: ⟨.mov (.t 5), (some 20), none, []⟩ :: L13_6
theorem v13_7 : wpS P L13_7 T L (rdy h) K = wpS P (⟨.load 1 true (.t 3), (some 19), none, []⟩ :: ⟨.mov (.t 5), (some 20), none, []⟩ :: L13_6) T L (rdy h) K := rfl
def L13_8 : List AStep := [⟨.mov (.t 5), (some 22), none, []⟩, ⟨.bin .lss (.t 22) (.c (.int .i64 0)), (some 23), none, []⟩]
theorem v13_8 : wpS P L13_8 T L (rdy h) K = wpS P ([⟨.mov (.t 5), (some 22), none, []⟩, ⟨.bin .lss (.t 22) (.c (.int .i64 0)), (some 23), none, []⟩]) T L (rdy h) K := rfl
def L13_9 : List AStep := [⟨.mov (.c (.bool true)), (some 4), none, []⟩]
theorem v13_9 : wpS P L13_9 T L (rdy h) K = wpS P ([⟨.mov (.c (.bool true)), (some 4), none, []⟩]) T L (rdy h) K := rfl
def L13_10 : List AStep := [⟨.store 1 (.t 6) (.t 28), none, none, []⟩]
theorem v13_10 : wpS P L13_10 T L (rdy h) K = wpS P ([⟨.store 1 (.t 6) (.t 28), none, none, []⟩]) T L (rdy h) K := rfl
def L13_11 : List AStep := ⟨.call 48 [(.t 26)], (some 27), none, []⟩ :: ⟨.call 62 [(.t 25), (.t 27)], (some 28), none, []⟩ :: L13_10
theorem v13_11 : wpS P L13_11 T L (rdy h) K = wpS P (⟨.call 48 [(.t 26)], (some 27), none, []⟩ :: ⟨.call 62 [(.t 25), (.t 27)], (some 28), none, []⟩ :: L13_10) T L (rdy h) K := rfl
def L13_12 : List AStep := ⟨.alloc 51 [(.sl none 0 (some 0))], (some 6), none, []⟩ :: ⟨.call 63 [(.t 24)], (some 25), none, [(.load 1 true (.t 3), (some 26), none)]⟩ :: L13_11
theorem v13_12 : wpS P L13_12 T L (rdy h) K = wpS P (⟨.alloc 51 [(.sl none 0 (some 0))], (some 6), none, []⟩ :: ⟨.call 63 [(.t 24)], (some 25), none, [(.load 1 true (.t 3), (some 26), none)]⟩ :: L13_11) T L (rdy h) K := rfl
def L13_13 : List AStep := ⟨.mov (.t 0), (some 24), none, []⟩ :: ⟨.load 1 true (.t 3), (some 26), none, []⟩ :: L13_12
theorem v13_13 : wpS P L13_13 T L (rdy h) K = wpS P (⟨.mov (.t 0), (some 24), none, []⟩ :: ⟨.load 1 true (.t 3), (some 26), none, []⟩ :: L13_12) T L (rdy h) K := rfl
def L13_14 : List AStep := [⟨.mov (.t 30), (some 7), none, []⟩]
theorem v13_14 : wpS P L13_14 T L (rdy h) K = wpS P ([⟨.mov (.t 30), (some 7), none, []⟩]) T L (rdy h) K := rfl
def L13_15 : List AStep := ⟨.mov (.t 0), (some 29), none, []⟩ :: ⟨.call 63 [(.t 29)], (some 30), none, []⟩ :: L13_14
theorem v13_15 : wpS P L13_15 T L (rdy h) K = wpS P (⟨.mov (.t 0), (some 29), none, []⟩ :: ⟨.call 63 [(.t 29)], (some 30), none, []⟩ :: L13_14) T L (rdy h) K := rfl
def L13_16 : List AStep := [⟨.alloc 51 [(.sl none 0 (some 0))], (some 8), none, []⟩, ⟨.store 1 (.t 8) (.t 32), none, none, []⟩]
theorem v13_16 : wpS P L13_16 T L (rdy h) K = wpS P ([⟨.alloc 51 [(.sl none 0 (some 0))], (some 8), none, []⟩, ⟨.store 1 (.t 8) (.t 32), none, none, []⟩]) T L (rdy h) K := rfl
def L13_17 : List AStep := ⟨.load 1 true (.t 3), (some 31), none, []⟩ :: ⟨.call 48 [(.t 31)], (some 32), none, []⟩ :: L13_16
theorem v13_17 : wpS P L13_17 T L (rdy h) K = wpS P (⟨.load 1 true (.t 3), (some 31), none, []⟩ :: ⟨.call 48 [(.t 31)], (some 32), none, []⟩ :: L13_16) T L (rdy h) K := rfl
def L13_18 : List AStep := [⟨.store 1 (.t 9) (.t 35), none, none, []⟩]
theorem v13_18 : wpS P L13_18 T L (rdy h) K = wpS P ([⟨.store 1 (.t 9) (.t 35), none, none, []⟩]) T L (rdy h) K := rfl
def L13_19 : List AStep := ⟨.call 64 [(.t 33), (.t 34)], (some 35), none, []⟩ :: ⟨.alloc 51 [(.sl none 0 (some 0))], (some 9), none, []⟩ :: L13_18
theorem v13_19 : wpS P L13_19 T L (rdy h) K = wpS P (⟨.call 64 [(.t 33), (.t 34)], (some 35), none, []⟩ :: ⟨.alloc 51 [(.sl none 0 (some 0))], (some 9), none, []⟩ :: L13_18) T L (rdy h) K := rfl
def L13_20 : List AStep := ⟨.mov (.t 7), (some 33), none, []⟩ :: ⟨.load 1 true (.t 8), (some 34), none, []⟩ :: L13_19
theorem v13_20 : wpS P L13_20 T L (rdy h) K = wpS P (⟨.mov (.t 7), (some 33), none, []⟩ :: ⟨.load 1 true (.t 8), (some 34), none, []⟩ :: L13_19) T L (rdy h) K := rfl
def L13_21 : List AStep := [⟨.call 50 [(.t 36), (.t 37)], (some 38), none, []⟩, ⟨.not (.t 38), (some 39), none, []⟩]
theorem v13_21 : wpS P L13_21 T L (rdy h) K = wpS P ([⟨.call 50 [(.t 36), (.t 37)], (some 38), none, []⟩, ⟨.not (.t 38), (some 39), none, []⟩]) T L (rdy h) K := rfl
def L13_22 : List AStep := ⟨.load 1 true (.t 9), (some 36), none, []⟩ :: ⟨.load 1 true (.t 6), (some 37), none, []⟩ :: L13_21
theorem v13_22 : wpS P L13_22 T L (rdy h) K = wpS P (⟨.load 1 true (.t 9), (some 36), none, []⟩ :: ⟨.load 1 true (.t 6), (some 37), none, []⟩ :: L13_21) T L (rdy h) K := rfl
def L13_23 : List AStep := [⟨.mov (.c (.bool false)), (some 4), none, []⟩]
theorem v13_23 : wpS P L13_23 T L (rdy h) K = wpS P ([⟨.mov (.c (.bool false)), (some 4), none, []⟩]) T L (rdy h) K := rfl
def L13_24 : List AStep := [⟨.not (.t 43), (some 44), none, []⟩]
theorem v13_24 : wpS P L13_24 T L (rdy h) K = wpS P ([⟨.not (.t 43), (some 44), none, []⟩]) T L (rdy h) K := rfl
def L13_25 : List AStep := ⟨.call 63 [(.t 41)], (some 42), none, []⟩ :: ⟨.call 65 [(.t 40), (.t 42)], (some 43), none, []⟩ :: L13_24
theorem v13_25 : wpS P L13_25 T L (rdy h) K = wpS P (⟨.call 63 [(.t 41)], (some 42), none, []⟩ :: ⟨.call 65 [(.t 40), (.t 42)], (some 43), none, []⟩ :: L13_24) T L (rdy h) K := rfl
def L13_26 : List AStep := ⟨.mov (.t 7), (some 40), none, []⟩ :: ⟨.mov (.t 0), (some 41), none, []⟩ :: L13_25
theorem v13_26 : wpS P L13_26 T L (rdy h) K = wpS P (⟨.mov (.t 7), (some 40), none, []⟩ :: ⟨.mov (.t 0), (some 41), none, []⟩ :: L13_25) T L (rdy h) K := rfl
def L13_27 : List AStep := [⟨.mov (.c (.bool false)), (some 4), none, []⟩]
theorem v13_27 : wpS P L13_27 T L (rdy h) K = wpS P ([⟨.mov (.c (.bool false)), (some 4), none, []⟩]) T L (rdy h) K := rfl
def L13_28 : List AStep := [⟨.not (.t 48), (some 49), none, []⟩]
theorem v13_28 : wpS P L13_28 T L (rdy h) K = wpS P ([⟨.not (.t 48), (some 49), none, []⟩]) T L (rdy h) K := rfl
def L13_29 : List AStep := ⟨.call 48 [(.t 46)], (some 47), none, [(.load 1 true (.t 8), (some 45), none)]⟩ :: ⟨.call 50 [(.t 45), (.t 47)], (some 48), none, []⟩ :: L13_28
theorem v13_29 : wpS P L13_29 T L (rdy h) K = wpS P (⟨.call 48 [(.t 46)], (some 47), none, [(.load 1 true (.t 8), (some 45), none)]⟩ :: ⟨.call 50 [(.t 45), (.t 47)], (some 48), none, []⟩ :: L13_28) T L (rdy h) K := rfl
def L13_30 : List AStep := ⟨.load 1 true (.t 8), (some 45), none, []⟩ :: ⟨.load 1 true (.t 3), (some 46), none, []⟩ :: L13_29
theorem v13_30 : wpS P L13_30 T L (rdy h) K = wpS P (⟨.load 1 true (.t 8), (some 45), none, []⟩ :: ⟨.load 1 true (.t 3), (some 46), none, []⟩ :: L13_29) T L (rdy h) K := rfl
def L13_31 : List AStep := [⟨.mov (.c (.bool false)), (some 4), none, []⟩]
theorem v13_31 : wpS P L13_31 T L (rdy h) K = wpS P ([⟨.mov (.c (.bool false)), (some 4), none, []⟩]) T L (rdy h) K := rfl
def L13_32 : List AStep := [⟨.mov (.c (.int .i64 1)), (some 10), none, []⟩]
theorem v13_32 : wpS P L13_32 T L (rdy h) K = wpS P ([⟨.mov (.c (.int .i64 1)), (some 10), none, []⟩]) T L (rdy h) K := rfl
def L13_33 : List AStep := [⟨.call 66 [(.t 50), (.t 51)], (some 52), none, []⟩, ⟨.mov (.t 52), (some 10), none, []⟩]
theorem v13_33 : wpS P L13_33 T L (rdy h) K = wpS P ([⟨.call 66 [(.t 50), (.t 51)], (some 52), none, []⟩, ⟨.mov (.t 52), (some 10), none, []⟩]) T L (rdy h) K := rfl
def L13_34 : List AStep := ⟨.mov (.t 7), (some 50), none, []⟩ :: ⟨.mov (.t 10), (some 51), none, []⟩ :: L13_33
theorem v13_34 : wpS P L13_34 T L (rdy h) K = wpS P (⟨.mov (.t 7), (some 50), none, []⟩ :: ⟨.mov (.t 10), (some 51), none, []⟩ :: L13_33) T L (rdy h) K := rfl
def L13_35 : List AStep := [⟨.call 51 [(.t 53), (.t 54)], (some 55), none, []⟩, ⟨.mov (.t 55), (some 10), none, []⟩]
theorem v13_35 : wpS P L13_35 T L (rdy h) K = wpS P ([⟨.call 51 [(.t 53), (.t 54)], (some 55), none, []⟩, ⟨.mov (.t 55), (some 10), none, []⟩]) T L (rdy h) K := rfl
def L13_36 : List AStep := ⟨.load 1 true (.t 8), (some 53), none, []⟩ :: ⟨.mov (.t 10), (some 54), none, []⟩ :: L13_35
theorem v13_36 : wpS P L13_36 T L (rdy h) K = wpS P (⟨.load 1 true (.t 8), (some 53), none, []⟩ :: ⟨.mov (.t 10), (some 54), none, []⟩ :: L13_35) T L (rdy h) K := rfl
def L13_37 : List AStep := [⟨.not (.t 61), (some 62), (some (58, false)), []⟩, ⟨.pick (.t 58) (.c (.bool true)) (.t 62), (some 63), none, []⟩]
theorem v13_37 : wpS P L13_37 T L (rdy h) K = wpS P ([⟨.not (.t 61), (some 62), (some (58, false)), []⟩, ⟨.pick (.t 58) (.c (.bool true)) (.t 62), (some 63), none, []⟩]) T L (rdy h) K := rfl
def L13_38 : List AStep := ⟨.load 1 true (.t 6), (some 60), (some (58, false)), []⟩ :: ⟨.call 50 [(.t 59), (.t 60)], (some 61), (some (58, false)), []⟩ :: L13_37
theorem v13_38 : wpS P L13_38 T L (rdy h) K = wpS P (⟨.load 1 true (.t 6), (some 60), (some (58, false)), []⟩ :: ⟨.call 50 [(.t 59), (.t 60)], (some 61), (some (58, false)), []⟩ :: L13_37) T L (rdy h) K := rfl
def L13_39 : List AStep := ⟨.mov (.t 57), (some 58), none, []⟩ :: ⟨.load 1 true (.t 9), (some 59), (some (58, false)), []⟩ :: L13_38
theorem v13_39 : wpS P L13_39 T L (rdy h) K = wpS P (⟨.mov (.t 57), (some 58), none, []⟩ :: ⟨.load 1 true (.t 9), (some 59), (some (58, false)), []⟩ :: L13_38) T L (rdy h) K := rfl
def L13_40 : List AStep := ⟨.mov (.t 10), (some 56), none, []⟩ :: ⟨.bin .lss (.t 56) (.c (.int .i64 0)), (some 57), none, []⟩ :: L13_39
theorem v13_40 : wpS P L13_40 T L (rdy h) K = wpS P (⟨.mov (.t 10), (some 56), none, []⟩ :: ⟨.bin .lss (.t 56) (.c (.int .i64 0)), (some 57), none, []⟩ :: L13_39) T L (rdy h) K := rfl
def L13_41 : List AStep := [⟨.mov (.c (.bool false)), (some 4), none, []⟩]
theorem v13_41 : wpS P L13_41 T L (rdy h) K = wpS P ([⟨.mov (.c (.bool false)), (some 4), none, []⟩]) T L (rdy h) K := rfl
def L13_42 : List AStep := [⟨.mov (.c (.int .i64 1)), (some 11), none, []⟩]
theorem v13_42 : wpS P L13_42 T L (rdy h) K = wpS P ([⟨.mov (.c (.int .i64 1)), (some 11), none, []⟩]) T L (rdy h) K := rfl
def L13_43 : List AStep := [⟨.call 51 [(.t 64), (.t 65)], (some 66), none, []⟩, ⟨.mov (.t 66), (some 11), none, []⟩]
theorem v13_43 : wpS P L13_43 T L (rdy h) K = wpS P ([⟨.call 51 [(.t 64), (.t 65)], (some 66), none, []⟩, ⟨.mov (.t 66), (some 11), none, []⟩]) T L (rdy h) K := rfl
def L13_44 : List AStep := ⟨.load 1 true (.t 9), (some 64), none, []⟩ :: ⟨.mov (.t 11), (some 65), none, []⟩ :: L13_43
theorem v13_44 : wpS P L13_44 T L (rdy h) K = wpS P (⟨.load 1 true (.t 9), (some 64), none, []⟩ :: ⟨.mov (.t 11), (some 65), none, []⟩ :: L13_43) T L (rdy h) K := rfl
def L13_45 : List AStep := [⟨.mov (.c (.int .i64 1)), (some 12), none, []⟩]
theorem v13_45 : wpS P L13_45 T L (rdy h) K = wpS P ([⟨.mov (.c (.int .i64 1)), (some 12), none, []⟩]) T L (rdy h) K := rfl
def L13_46 : List AStep := [⟨.call 67 [(.t 67), (.t 68)], (some 69), none, []⟩, ⟨.mov (.t 69), (some 12), none, []⟩]
theorem v13_46 : wpS P L13_46 T L (rdy h) K = wpS P ([⟨.call 67 [(.t 67), (.t 68)], (some 69), none, []⟩, ⟨.mov (.t 69), (some 12), none, []⟩]) T L (rdy h) K := rfl
def L13_47 : List AStep := ⟨.load 1 true (.t 9), (some 67), none, []⟩ :: ⟨.mov (.t 12), (some 68), none, []⟩ :: L13_46
theorem v13_47 : wpS P L13_47 T L (rdy h) K = wpS P (⟨.load 1 true (.t 9), (some 67), none, []⟩ :: ⟨.mov (.t 12), (some 68), none, []⟩ :: L13_46) T L (rdy h) K := rfl
def L13_48 : List AStep := [⟨.mov (.t 12), (some 70), none, []⟩, ⟨.bin .lss (.t 70) (.c (.int .i64 0)), (some 71), none, []⟩]
theorem v13_48 : wpS P L13_48 T L (rdy h) K = wpS P ([⟨.mov (.t 12), (some 70), none, []⟩, ⟨.bin .lss (.t 70) (.c (.int .i64 0)), (some 71), none, []⟩]) T L (rdy h) K := rfl
def L13_49 : List AStep := [⟨.mov (.c (.bool false)), (some 4), none, []⟩]
theorem v13_49 : wpS P L13_49 T L (rdy h) K = wpS P ([⟨.mov (.c (.bool false)), (some 4), none, []⟩]) T L (rdy h) K := rfl
def L13_50 : List AStep := [⟨.bin .neq (.t 72) (.t 73), (some 74), none, []⟩]
theorem v13_50 : wpS P L13_50 T L (rdy h) K = wpS P ([⟨.bin .neq (.t 72) (.t 73), (some 74), none, []⟩]) T L (rdy h) K := rfl
def L13_51 : List AStep := ⟨.mov (.t 12), (some 72), none, []⟩ :: ⟨.mov (.t 11), (some 73), none, []⟩ :: L13_50
theorem v13_51 : wpS P L13_51 T L (rdy h) K = wpS P (⟨.mov (.t 12), (some 72), none, []⟩ :: ⟨.mov (.t 11), (some 73), none, []⟩ :: L13_50) T L (rdy h) K := rfl
def L13_52 : List AStep := [⟨.mov (.c (.bool false)), (some 4), none, []⟩]
theorem v13_52 : wpS P L13_52 T L (rdy h) K = wpS P ([⟨.mov (.c (.bool false)), (some 4), none, []⟩]) T L (rdy h) K := rfl
def L13_53 : List AStep := [⟨.store 1 (.t 13) (.t 79), none, none, []⟩]
theorem v13_53 : wpS P L13_53 T L (rdy h) K = wpS P ([⟨.store 1 (.t 13) (.t 79), none, none, []⟩]) T L (rdy h) K := rfl
def L13_54 : List AStep := ⟨.call 48 [(.t 77)], (some 78), none, []⟩ :: ⟨.call 64 [(.t 76), (.t 78)], (some 79), none, []⟩ :: L13_53
theorem v13_54 : wpS P L13_54 T L (rdy h) K = wpS P (⟨.call 48 [(.t 77)], (some 78), none, []⟩ :: ⟨.call 64 [(.t 76), (.t 78)], (some 79), none, []⟩ :: L13_53) T L (rdy h) K := rfl
def L13_55 : List AStep := ⟨.alloc 51 [(.sl none 0 (some 0))], (some 13), none, []⟩ :: ⟨.call 63 [(.t 75)], (some 76), none, [(.load 1 true (.t 3), (some 77), none)]⟩ :: L13_54
theorem v13_55 : wpS P L13_55 T L (rdy h) K = wpS P (⟨.alloc 51 [(.sl none 0 (some 0))], (some 13), none, []⟩ :: ⟨.call 63 [(.t 75)], (some 76), none, [(.load 1 true (.t 3), (some 77), none)]⟩ :: L13_54) T L (rdy h) K := rfl
def L13_56 : List AStep := ⟨.mov (.t 0), (some 75), none, []⟩ :: ⟨.load 1 true (.t 3), (some 77), none, []⟩ :: L13_55
theorem v13_56 : wpS P L13_56 T L (rdy h) K = wpS P (⟨.mov (.t 0), (some 75), none, []⟩ :: ⟨.load 1 true (.t 3), (some 77), none, []⟩ :: L13_55) T L (rdy h) K := rfl
def L13_57 : List AStep := [⟨.call 50 [(.t 80), (.t 81)], (some 82), none, []⟩, ⟨.not (.t 82), (some 83), none, []⟩]
theorem v13_57 : wpS P L13_57 T L (rdy h) K = wpS P ([⟨.call 50 [(.t 80), (.t 81)], (some 82), none, []⟩, ⟨.not (.t 82), (some 83), none, []⟩]) T L (rdy h) K := rfl
def L13_58 : List AStep := ⟨.load 1 true (.t 13), (some 80), none, []⟩ :: ⟨.load 1 true (.t 6), (some 81), none, []⟩ :: L13_57
theorem v13_58 : wpS P L13_58 T L (rdy h) K = wpS P (⟨.load 1 true (.t 13), (some 80), none, []⟩ :: ⟨.load 1 true (.t 6), (some 81), none, []⟩ :: L13_57) T L (rdy h) K := rfl
def L13_59 : List AStep := [⟨.mov (.c (.bool false)), (some 4), none, []⟩]
theorem v13_59 : wpS P L13_59 T L (rdy h) K = wpS P ([⟨.mov (.c (.bool false)), (some 4), none, []⟩]) T L (rdy h) K := rfl
def L13_60 : List AStep := [⟨.mov (.c (.int .i64 1)), (some 12), none, []⟩]
theorem v13_60 : wpS P L13_60 T L (rdy h) K = wpS P ([⟨.mov (.c (.int .i64 1)), (some 12), none, []⟩]) T L (rdy h) K := rfl
def L13_61 : List AStep := [⟨.call 67 [(.t 84), (.t 85)], (some 86), none, []⟩, ⟨.mov (.t 86), (some 12), none, []⟩]
theorem v13_61 : wpS P L13_61 T L (rdy h) K = wpS P ([⟨.call 67 [(.t 84), (.t 85)], (some 86), none, []⟩, ⟨.mov (.t 86), (some 12), none, []⟩]) T L (rdy h) K := rfl
def L13_62 : List AStep := ⟨.load 1 true (.t 9), (some 84), none, []⟩ :: ⟨.mov (.t 12), (some 85), none, []⟩ :: L13_61
theorem v13_62 : wpS P L13_62 T L (rdy h) K = wpS P (⟨.load 1 true (.t 9), (some 84), none, []⟩ :: ⟨.mov (.t 12), (some 85), none, []⟩ :: L13_61) T L (rdy h) K := rfl
def L13_63 : List AStep := [⟨.mov (.t 12), (some 87), none, []⟩, ⟨.bin .lss (.t 87) (.c (.int .i64 0)), (some 88), none, []⟩]
theorem v13_63 : wpS P L13_63 T L (rdy h) K = wpS P ([⟨.mov (.t 12), (some 87), none, []⟩, ⟨.bin .lss (.t 87) (.c (.int .i64 0)), (some 88), none, []⟩]) T L (rdy h) K := rfl
def L13_64 : List AStep := [⟨.mov (.c (.bool false)), (some 4), none, []⟩]
theorem v13_64 : wpS P L13_64 T L (rdy h) K = wpS P ([⟨.mov (.c (.bool false)), (some 4), none, []⟩]) T L (rdy h) K := rfl
def L13_65 : List AStep := [⟨.bin .neq (.t 89) (.t 90), (some 91), none, []⟩]
theorem v13_65 : wpS P L13_65 T L (rdy h) K = wpS P ([⟨.bin .neq (.t 89) (.t 90), (some 91), none, []⟩]) T L (rdy h) K := rfl
def L13_66 : List AStep := ⟨.mov (.t 12), (some 89), none, []⟩ :: ⟨.mov (.t 11), (some 90), none, []⟩ :: L13_65
theorem v13_66 : wpS P L13_66 T L (rdy h) K = wpS P (⟨.mov (.t 12), (some 89), none, []⟩ :: ⟨.mov (.t 11), (some 90), none, []⟩ :: L13_65) T L (rdy h) K := rfl
def L13_67 : List AStep := [⟨.mov (.c (.bool false)), (some 4), none, []⟩]
theorem v13_67 : wpS P L13_67 T L (rdy h) K = wpS P ([⟨.mov (.c (.bool false)), (some 4), none, []⟩]) T L (rdy h) K := rfl
def L13_68 : List AStep := [⟨.mov (.c (.bool true)), (some 4), none, []⟩]
theorem v13_68 : wpS P L13_68 T L (rdy h) K = wpS P ([⟨.mov (.c (.bool true)), (some 4), none, []⟩]) T L (rdy h) K := rfl
def C13_0 : ACode := .seq (.reg L13_5) .ret
theorem u13_0 : wpC P C13_0 T L (rdy h) Q = wpC P (.seq (.reg L13_5) .ret) T L (rdy h) Q := rfl
def C13_1 : ACode := .cond (.t 18) C13_0 .skip
theorem u13_1 : wpC P C13_1 T L (rdy h) Q = wpC P (.cond (.t 18) C13_0 .skip) T L (rdy h) Q := rfl
def C13_2 : ACode := .seq (.reg L13_4) C13_1
theorem u13_2 : wpC P C13_2 T L (rdy h) Q = wpC P (.seq (.reg L13_4) C13_1) T L (rdy h) Q := rfl
def C13_3 : ACode := .seq (.reg L13_9) .ret
theorem u13_3 : wpC P C13_3 T L (rdy h) Q = wpC P (.seq (.reg L13_9) .ret) T L (rdy h) Q := rfl
def C13_4 : ACode := .cond (.t 23) C13_3 .skip
theorem u13_4 : wpC P C13_4 T L (rdy h) Q = wpC P (.cond (.t 23) C13_3 .skip) T L (rdy h) Q := rfl
def C13_5 : ACode := .seq (.reg L13_8) C13_4
theorem u13_5 : wpC P C13_5 T L (rdy h) Q = wpC P (.seq (.reg L13_8) C13_4) T L (rdy h) Q := rfl
def C13_6 : ACode := .seq (.reg L13_23) .ret
theorem u13_6 : wpC P C13_6 T L (rdy h) Q = wpC P (.seq (.reg L13_23) .ret) T L (rdy h) Q := rfl
def C13_7 : ACode := .cond (.t 39) C13_6 .skip
theorem u13_7 : wpC P C13_7 T L (rdy h) Q = wpC P (.cond (.t 39) C13_6 .skip) T L (rdy h) Q := rfl
def C13_8 : ACode := .seq (.reg L13_22) C13_7
theorem u13_8 : wpC P C13_8 T L (rdy h) Q = wpC P (.seq (.reg L13_22) C13_7) T L (rdy h) Q := rfl
def C13_9 : ACode := .seq (.reg L13_27) .ret
theorem u13_9 : wpC P C13_9 T L (rdy h) Q = wpC P (.seq (.reg L13_27) .ret) T L (rdy h) Q := rfl
def C13_10 : ACode := .cond (.t 44) C13_9 .skip
theorem u13_10 : wpC P C13_10 T L (rdy h) Q = wpC P (.cond (.t 44) C13_9 .skip) T L (rdy h) Q := rfl
def C13_11 : ACode := .seq (.reg L13_26) C13_10
theorem u13_11 : wpC P C13_11 T L (rdy h) Q = wpC P (.seq (.reg L13_26) C13_10) T L (rdy h) Q := rfl
def C13_12 : ACode := .seq (.reg L13_31) .ret
theorem u13_12 : wpC P C13_12 T L (rdy h) Q = wpC P (.seq (.reg L13_31) .ret) T L (rdy h) Q := rfl
def C13_13 : ACode := .cond (.t 49) C13_12 .skip
theorem u13_13 : wpC P C13_13 T L (rdy h) Q = wpC P (.cond (.t 49) C13_12 .skip) T L (rdy h) Q := rfl
def C13_14 : ACode := .seq (.reg L13_30) C13_13
theorem u13_14 : wpC P C13_14 T L (rdy h) Q = wpC P (.seq (.reg L13_30) C13_13) T L (rdy h) Q := rfl
def C13_15 : ACode := .seq (.reg L13_41) .ret
theorem u13_15 : wpC P C13_15 T L (rdy h) Q = wpC P (.seq (.reg L13_41) .ret) T L (rdy h) Q := rfl
def C13_16 : ACode := .cond (.t 63) C13_15 .skip
theorem u13_16 : wpC P C13_16 T L (rdy h) Q = wpC P (.cond (.t 63) C13_15 .skip) T L (rdy h) Q := rfl
def C13_17 : ACode := .seq (.reg L13_40) C13_16
theorem u13_17 : wpC P C13_17 T L (rdy h) Q = wpC P (.seq (.reg L13_40) C13_16) T L (rdy h) Q := rfl
def C13_18 : ACode := .seq (.reg L13_49) .ret
theorem u13_18 : wpC P C13_18 T L (rdy h) Q = wpC P (.seq (.reg L13_49) .ret) T L (rdy h) Q := rfl
def C13_19 : ACode := .cond (.t 71) C13_18 .skip
theorem u13_19 : wpC P C13_19 T L (rdy h) Q = wpC P (.cond (.t 71) C13_18 .skip) T L (rdy h) Q := rfl
def C13_20 : ACode := .seq (.reg L13_48) C13_19
theorem u13_20 : wpC P C13_20 T L (rdy h) Q = wpC P (.seq (.reg L13_48) C13_19) T L (rdy h) Q := rfl
def C13_21 : ACode := .seq (.reg L13_52) .ret
theorem u13_21 : wpC P C13_21 T L (rdy h) Q = wpC P (.seq (.reg L13_52) .ret) T L (rdy h) Q := rfl
def C13_22 : ACode := .cond (.t 74) C13_21 .skip
theorem u13_22 : wpC P C13_22 T L (rdy h) Q = wpC P (.cond (.t 74) C13_21 .skip) T L (rdy h) Q := rfl
def C13_23 : ACode := .seq (.reg L13_51) C13_22
theorem u13_23 : wpC P C13_23 T L (rdy h) Q = wpC P (.seq (.reg L13_51) C13_22) T L (rdy h) Q := rfl
def C13_24 : ACode := .seq (.reg L13_59) .ret
theorem u13_24 : wpC P C13_24 T L (rdy h) Q = wpC P (.seq (.reg L13_59) .ret) T L (rdy h) Q := rfl
def C13_25 : ACode := .cond (.t 83) C13_24 .skip
theorem u13_25 : wpC P C13_25 T L (rdy h) Q = wpC P (.cond (.t 83) C13_24 .skip) T L (rdy h) Q := rfl
def C13_26 : ACode := .seq (.reg L13_58) C13_25
theorem u13_26 : wpC P C13_26 T L (rdy h) Q = wpC P (.seq (.reg L13_58) C13_25) T L (rdy h) Q := rfl
def C13_27 : ACode := .seq (.reg L13_64) .ret
theorem u13_27 : wpC P C13_27 T L (rdy h) Q = wpC P (.seq (.reg L13_64) .ret) T L (rdy h) Q := rfl
def C13_28 : ACode := .cond (.t 88) C13_27 .skip
theorem u13_28 : wpC P C13_28 T L (rdy h) Q = wpC P (.cond (.t 88) C13_27 .skip) T L (rdy h) Q := rfl
def C13_29 : ACode := .seq (.reg L13_63) C13_28
theorem u13_29 : wpC P C13_29 T L (rdy h) Q = wpC P (.seq (.reg L13_63) C13_28) T L (rdy h) Q := rfl
def C13_30 : ACode := .seq (.reg L13_67) .ret
theorem u13_30 : wpC P C13_30 T L (rdy h) Q = wpC P (.seq (.reg L13_67) .ret) T L (rdy h) Q := rfl
def C13_31 : ACode := .cond (.t 91) C13_30 .skip
theorem u13_31 : wpC P C13_31 T L (rdy h) Q = wpC P (.cond (.t 91) C13_30 .skip) T L (rdy h) Q := rfl
def C13_32 : ACode := .seq (.reg L13_66) C13_31
theorem u13_32 : wpC P C13_32 T L (rdy h) Q = wpC P (.seq (.reg L13_66) C13_31) T L (rdy h) Q := rfl
def C13_33 : ACode := .seq (.reg L13_68) .ret
theorem u13_33 : wpC P C13_33 T L (rdy h) Q = wpC P (.seq (.reg L13_68) .ret) T L (rdy h) Q := rfl
def C13_34 : ACode := .seq C13_32 C13_33
theorem u13_34 : wpC P C13_34 T L (rdy h) Q = wpC P (.seq C13_32 C13_33) T L (rdy h) Q := rfl
def C13_35 : ACode := .seq C13_29 C13_34
theorem u13_35 : wpC P C13_35 T L (rdy h) Q = wpC P (.seq C13_29 C13_34) T L (rdy h) Q := rfl
def C13_36 : ACode := .seq (.reg L13_62) C13_35
theorem u13_36 : wpC P C13_36 T L (rdy h) Q = wpC P (.seq (.reg L13_62) C13_35) T L (rdy h) Q := rfl
def C13_37 : ACode := .seq (.reg L13_60) C13_36
theorem u13_37 : wpC P C13_37 T L (rdy h) Q = wpC P (.seq (.reg L13_60) C13_36) T L (rdy h) Q := rfl
def C13_38 : ACode := .seq C13_26 C13_37
theorem u13_38 : wpC P C13_38 T L (rdy h) Q = wpC P (.seq C13_26 C13_37) T L (rdy h) Q := rfl
def C13_39 : ACode := .seq (.reg L13_56) C13_38
theorem u13_39 : wpC P C13_39 T L (rdy h) Q = wpC P (.seq (.reg L13_56) C13_38) T L (rdy h) Q := rfl
def C13_40 : ACode := .seq C13_23 C13_39
theorem u13_40 : wpC P C13_40 T L (rdy h) Q = wpC P (.seq C13_23 C13_39) T L (rdy h) Q := rfl
def C13_41 : ACode := .seq C13_20 C13_40
theorem u13_41 : wpC P C13_41 T L (rdy h) Q = wpC P (.seq C13_20 C13_40) T L (rdy h) Q := rfl
def C13_42 : ACode := .seq (.reg L13_47) C13_41
theorem u13_42 : wpC P C13_42 T L (rdy h) Q = wpC P (.seq (.reg L13_47) C13_41) T L (rdy h) Q := rfl
def C13_43 : ACode := .seq (.reg L13_45) C13_42
theorem u13_43 : wpC P C13_43 T L (rdy h) Q = wpC P (.seq (.reg L13_45) C13_42) T L (rdy h) Q := rfl
def C13_44 : ACode := .seq (.reg L13_44) C13_43
theorem u13_44 : wpC P C13_44 T L (rdy h) Q = wpC P (.seq (.reg L13_44) C13_43) T L (rdy h) Q := rfl
def C13_45 : ACode := .seq (.reg L13_42) C13_44
theorem u13_45 : wpC P C13_45 T L (rdy h) Q = wpC P (.seq (.reg L13_42) C13_44) T L (rdy h) Q := rfl
def C13_46 : ACode := .seq C13_17 C13_45
theorem u13_46 : wpC P C13_46 T L (rdy h) Q = wpC P (.seq C13_17 C13_45) T L (rdy h) Q := rfl
def C13_47 : ACode := .seq (.reg L13_36) C13_46
theorem u13_47 : wpC P C13_47 T L (rdy h) Q = wpC P (.seq (.reg L13_36) C13_46) T L (rdy h) Q := rfl
def C13_48 : ACode := .seq (.reg L13_34) C13_47
theorem u13_48 : wpC P C13_48 T L (rdy h) Q = wpC P (.seq (.reg L13_34) C13_47) T L (rdy h) Q := rfl
def C13_49 : ACode := .seq (.reg L13_32) C13_48
theorem u13_49 : wpC P C13_49 T L (rdy h) Q = wpC P (.seq (.reg L13_32) C13_48) T L (rdy h) Q := rfl
def C13_50 : ACode := .seq C13_14 C13_49
theorem u13_50 : wpC P C13_50 T L (rdy h) Q = wpC P (.seq C13_14 C13_49) T L (rdy h) Q := rfl
def C13_51 : ACode := .seq C13_11 C13_50
theorem u13_51 : wpC P C13_51 T L (rdy h) Q = wpC P (.seq C13_11 C13_50) T L (rdy h) Q := rfl
def C13_52 : ACode := .seq C13_8 C13_51
theorem u13_52 : wpC P C13_52 T L (rdy h) Q = wpC P (.seq C13_8 C13_51) T L (rdy h) Q := rfl
def C13_53 : ACode := .seq (.reg L13_20) C13_52
theorem u13_53 : wpC P C13_53 T L (rdy h) Q = wpC P (.seq (.reg L13_20) C13_52) T L (rdy h) Q := rfl
def C13_54 : ACode := .seq (.reg L13_17) C13_53
theorem u13_54 : wpC P C13_54 T L (rdy h) Q = wpC P (.seq (.reg L13_17) C13_53) T L (rdy h) Q := rfl
def C13_55 : ACode := .seq (.reg L13_15) C13_54
theorem u13_55 : wpC P C13_55 T L (rdy h) Q = wpC P (.seq (.reg L13_15) C13_54) T L (rdy h) Q := rfl
def C13_56 : ACode := .seq (.reg L13_13) C13_55
theorem u13_56 : wpC P C13_56 T L (rdy h) Q = wpC P (.seq (.reg L13_13) C13_55) T L (rdy h) Q := rfl
def C13_57 : ACode := .seq C13_5 C13_56
theorem u13_57 : wpC P C13_57 T L (rdy h) Q = wpC P (.seq C13_5 C13_56) T L (rdy h) Q := rfl
def C13_58 : ACode := .seq (.reg L13_7) C13_57
theorem u13_58 : wpC P C13_58 T L (rdy h) Q = wpC P (.seq (.reg L13_7) C13_57) T L (rdy h) Q := rfl
def C13_59 : ACode := .seq C13_2 C13_58
theorem u13_59 : wpC P C13_59 T L (rdy h) Q = wpC P (.seq C13_2 C13_58) T L (rdy h) Q := rfl
def C13_60 : ACode := .seq (.reg L13_3) C13_59
theorem u13_60 : wpC P C13_60 T L (rdy h) Q = wpC P (.seq (.reg L13_3) C13_59) T L (rdy h) Q := rfl
def C13_61 : ACode := .seq (.reg L13_1) C13_60
theorem u13_61 : wpC P C13_61 T L (rdy h) Q = wpC P (.seq (.reg L13_1) C13_60) T L (rdy h) Q := rfl
def C13_62 : ACode := .seq (.reg L13_0) C13_61
theorem u13_62 : wpC P C13_62 T L (rdy h) Q = wpC P (.seq (.reg L13_0) C13_61) T L (rdy h) Q := rfl
def F13 : AFunc := ⟨92, [.tmp 4], C13_62⟩
theorem cF13 : compB Try.prog 13 = some F13 := by kernel_rfl
end
attribute [local go_sem ↓] u13_0 u13_1 u13_2 u13_3 u13_4 u13_5 u13_6 u13_7 u13_8 u13_9 u13_10 u13_11 u13_12 u13_13 u13_14 u13_15 u13_16 u13_17 u13_18 u13_19 u13_20 u13_21 u13_22 u13_23 u13_24 u13_25 u13_26 u13_27 u13_28 u13_29 u13_30 u13_31 u13_32 u13_33 u13_34 u13_35 u13_36 u13_37 u13_38 u13_39 u13_40 u13_41 u13_42 u13_43 u13_44 u13_45 u13_46 u13_47 u13_48 u13_49 u13_50 u13_51 u13_52 u13_53 u13_54 u13_55 u13_56 u13_57 u13_58 u13_59 u13_60 u13_61 u13_62 v13_0 v13_1 v13_2 v13_3 v13_4 v13_5 v13_6 v13_7 v13_8 v13_9 v13_10 v13_11 v13_12 v13_13 v13_14 v13_15 v13_16 v13_17 v13_18 v13_19 v13_20 v13_21 v13_22 v13_23 v13_24 v13_25 v13_26 v13_27 v13_28 v13_29 v13_30 v13_31 v13_32 v13_33 v13_34 v13_35 v13_36 v13_37 v13_38 v13_39 v13_40 v13_41 v13_42 v13_43 v13_44 v13_45 v13_46 v13_47 v13_48 v13_49 v13_50 v13_51 v13_52 v13_53 v13_54 v13_55 v13_56 v13_57 v13_58 v13_59 v13_60 v13_61 v13_62 v13_63 v13_64 v13_65 v13_66 v13_67 v13_68
theorem law13 (h : H) (avs : List AV) (hok : okVs Try.prog h 6 [ 95, 74 ] avs) : callK (bm Try.prog 13 avs h) fun r _ => r = ib true := by
  obtain ⟨v0, avs, rfl, hv0, hok⟩ := okVs_cons hok
  obtain ⟨v1, avs, rfl, hv1, hok⟩ := okVs_cons hok
  obtain rfl := okVs_nil hok
  obtain ⟨p0, x0, rfl, d0⟩ := dU hv0
  obtain ⟨p1, x1, rfl, d1⟩ := dG hv1
  refine bm_of cF13 ?_
  have z0 := k_szU x0 p0 1048576 h (by omega) (by omega) d0
  by_cases y0 : szr 1048576 (wtU x0) < 0
  · simp +contextual (maxSteps := 2000000) only [go_sem, Nat.reduceEqDiff, reduceCtorEq, Nat.reduceAdd, Nat.reduceLeDiff, F13, z0, decide_eq_true y0]
  have z1 := k_szG x1 p1 (szr 1048576 (wtU x0)) h (by omega) (by unfold szr; split <;> omega) d1
  by_cases y1 : szr (szr 1048576 (wtU x0)) (wtG x1) < 0
  · simp +contextual (maxSteps := 2000000) only [go_sem, Nat.reduceEqDiff, reduceCtorEq, Nat.reduceAdd, Nat.reduceLeDiff, F13, z0, z1, decide_eq_false y0, decide_eq_true y1]
  obtain ⟨e0, u0⟩ := szr_ge y0
  obtain ⟨e1, u1⟩ := szr_ge y1
  have s0 : miniU x0 := wtU_sm (by omega)
  have s1 : miniG x1 := wtG_sm (by omega)
  have hR : miniG (turnSig x0 x1) := .turn s0 s1
  simp +contextual (maxSteps := 2000000) only [go_sem, Nat.reduceEqDiff, reduceCtorEq, Nat.reduceAdd, Nat.reduceLeDiff, F13, z0, z1, decide_eq_false y0, decide_eq_false y1]
  refine wp_call (k_toU x0 p0 h (d0.grow (Grow.refl h)) s0) ?_
  rintro r h1 ⟨g1, p0a, rfl, a0a⟩
  simp +contextual (maxSteps := 2000000) only [go_sem, Nat.reduceEqDiff, reduceCtorEq, Nat.reduceAdd, Nat.reduceLeDiff]
  refine wp_call (k_toG x1 p1 h1 (d1.grow ((Grow.refl h).trans g1)) s1) ?_
  rintro r h2 ⟨g2, p1a, rfl, a1a⟩
  simp +contextual (maxSteps := 2000000) only [go_sem, Nat.reduceEqDiff, reduceCtorEq, Nat.reduceAdd, Nat.reduceLeDiff]
  refine wp_call (k_sTurnSignature x0 x1 p0a p1a h2 (a0a.sl.grow g2) (a1a.sl) s0 s1) ?_
  rintro r h3 ⟨g3, pw, rfl, w0⟩
  simp +contextual (maxSteps := 2000000) only [go_sem, Nat.reduceEqDiff, reduceCtorEq, Nat.reduceAdd, Nat.reduceLeDiff]
  refine wp_call (k_toU x0 p0 h3 (d0.grow ((((Grow.refl h).trans g1).trans g2).trans g3)) s0) ?_
  rintro r h4 ⟨g4, p0b, rfl, a0b⟩
  simp +contextual (maxSteps := 2000000) only [go_sem, Nat.reduceEqDiff, reduceCtorEq, Nat.reduceAdd, Nat.reduceLeDiff]
  refine wp_call (k_toG x1 p1 h4 (d1.grow (((((Grow.refl h).trans g1).trans g2).trans g3).trans g4)) s1) ?_
  rintro r h5 ⟨g5, p1b, rfl, a1b⟩
  simp +contextual (maxSteps := 2000000) only [go_sem, Nat.reduceEqDiff, reduceCtorEq, Nat.reduceAdd, Nat.reduceLeDiff]
  refine wp_call (k_iTurnSignature x0 x1 p0b p1b h5 (a0b.sl.grow g5) (a1b.sl) s0 s1) ?_
  rintro r h6 ⟨g6, pg, rfl, b0⟩
  have q0 := k_eqG (turnSig x0 x1) (turnSig x0 x1) pg pw h6 (b0.sl) (w0.sl.grow ((g4.trans g5).trans g6)) hR
  simp +contextual (maxSteps := 2000000) only [go_sem, Nat.reduceEqDiff, reduceCtorEq, Nat.reduceAdd, Nat.reduceLeDiff, q0, decide_true]
  refine wp_call (k_toU x0 p0 h6 (d0.grow (((((((Grow.refl h).trans g1).trans g2).trans g3).trans g4).trans g5).trans g6)) s0) ?_
  rintro r h7 ⟨g7, p0c, rfl, a0c⟩
  have q1 := k_eqU x0 x0 p0b p0c h7 (a0b.sl.grow ((g5.trans g6).trans g7)) a0c.sl s0
  simp +contextual (maxSteps := 2000000) only [go_sem, Nat.reduceEqDiff, reduceCtorEq, Nat.reduceAdd, Nat.reduceLeDiff, q1, decide_true]
  refine wp_call (k_toG x1 p1 h7 (d1.grow ((((((((Grow.refl h).trans g1).trans g2).trans g3).trans g4).trans g5).trans g6).trans g7)) s1) ?_
  rintro r h8 ⟨g8, p1c, rfl, a1c⟩
  have q2 := k_eqG x1 x1 p1b p1c h8 (a1b.sl.grow ((g6.trans g7).trans g8)) a1c.sl s1
  simp +contextual (maxSteps := 2000000) only [go_sem, Nat.reduceEqDiff, reduceCtorEq, Nat.reduceAdd, Nat.reduceLeDiff, q2, decide_true]
  have k0 := cellsU_le s0
  have k1 := cellsG_le s1
  have G8 : Grow h3 h8 := ((((g4.trans g5).trans g6).trans g7).trans g8)
  refine wp_call (k_markU x0 p0b 1 h3 h4 h8 ((a0b.grow (((g5.trans g6).trans g7).trans g8))) a0b G8 (by omega) (by omega) s0) ?_
  rintro r h9 ⟨rfl, G80, m0, N0⟩
  have M0 := N0
  simp +contextual (maxSteps := 2000000) only [go_sem, Nat.reduceEqDiff, reduceCtorEq, Nat.reduceAdd, Nat.reduceLeDiff]
  refine wp_call (k_markG x1 p1b _ h3 h5 h9 (((a1b.grow ((g6.trans g7).trans g8)).mid M0 (Nat.le_refl _)).from g4.n) (a1b.from g4.n) G80 (by omega) (by omega) s1) ?_
  rintro r h10 ⟨rfl, G81, m1, N1⟩
  have M1 : Mid h3.n h5.n h8 h10 := (M0.widen g5.n).trans N1
  have b1 := (b0.grow (g7.trans g8)).mid M1 (Nat.le_refl _)
  have w1 := w0.grow G81
  have qa := k_eqG (turnSig x0 x1) (turnSig x0 x1) pg pw h10 (b1.sl) (w1.sl) hR
  simp +contextual (maxSteps := 2000000) only [go_sem, Nat.reduceEqDiff, reduceCtorEq, Nat.reduceAdd, Nat.reduceLeDiff, qa, decide_true, decide_eq_false (show ¬ ((1 : Int) + (cellsU x0 : Nat) + (cellsG x1 : Nat) < 0) by omega)]
  have kr := cellsG_le hR
  have lh : h3.n ≤ h5.n := (g4.trans g5).n
  refine wp_call (k_markG (turnSig x0 x1) pg 1 h3 h6 h10 (b1.from lh) (b0.from lh) G81 (by omega) (by omega) hR) ?_
  rintro r h11 ⟨rfl, Gm, mr, Mr⟩
  have qh := k_heldG (turnSig x0 x1) pg 1 h11 mr.sl (by omega) (by omega) hR
  simp +contextual (maxSteps := 2000000) only [go_sem, Nat.reduceEqDiff, reduceCtorEq, Nat.reduceAdd, Nat.reduceLeDiff, qh, decide_true, decide_eq_false (show ¬ ((1 : Int) + (cellsG (turnSig x0 x1) : Nat) < 0) by omega)]
  have H1 : Grow h h11 := ((((Grow.refl h).trans g1).trans g2).trans g3).trans Gm
  refine wp_call (k_toU x0 p0 h11 (d0.grow H1) s0) ?_
  rintro r h12 ⟨g12, p0d, rfl, a0d⟩
  simp +contextual (maxSteps := 2000000) only [go_sem, Nat.reduceEqDiff, reduceCtorEq, Nat.reduceAdd, Nat.reduceLeDiff]
  refine wp_call (k_toG x1 p1 h12 (d1.grow (H1.trans g12)) s1) ?_
  rintro r h13 ⟨g13, p1d, rfl, a1d⟩
  simp +contextual (maxSteps := 2000000) only [go_sem, Nat.reduceEqDiff, reduceCtorEq, Nat.reduceAdd, Nat.reduceLeDiff]
  refine wp_call (k_iTurnSignature x0 x1 p0d p1d h13 (a0d.sl.grow g13) (a1d.sl) s0 s1) ?_
  rintro r h14 ⟨g14, py, rfl, b2⟩
  have G9 : Grow h11 h14 := ((g12.trans g13).trans g14)
  have qz := k_eqG (turnSig x0 x1) (turnSig x0 x1) py pw h14 (b2.sl) ((w0.grow (Gm.trans G9)).sl) hR
  have qy := k_heldG (turnSig x0 x1) pg 1 h14 (mr.sl.grow G9) (by omega) (by omega) hR
  simp +contextual (maxSteps := 2000000) only [go_sem, Nat.reduceEqDiff, reduceCtorEq, Nat.reduceAdd, Nat.reduceLeDiff, qz, qy, decide_true, decide_eq_false (show ¬ ((1 : Int) + (cellsG (turnSig x0 x1) : Nat) < 0) by omega)]
  exact gcK_of rfl (fun _ _ => rfl)
end Go.Proofs.Ytnphlonhogcedaa.Am
