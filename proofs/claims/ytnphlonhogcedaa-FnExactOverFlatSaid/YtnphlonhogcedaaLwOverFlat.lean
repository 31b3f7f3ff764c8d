/- The law FnExactOverFlat. -/
import Derived.Test.YtnphlonhogcedaaB1
import Derived.Test.YtnphlonhogcedaaB2
import Derived.Test.YtnphlonhogcedaaL1
import Derived.Test.YtnphlonhogcedaaL2
import Derived.Test.YtnphlonhogcedaaL4
import Derived.Test.YtnphlonhogcedaaDom
namespace Go.Proofs.Ytnphlonhogcedaa.Am
open Go
set_option maxRecDepth 100000
set_option maxHeartbeats 4000000
set_option linter.unusedSimpArgs false
set_option linter.unusedVariables false
attribute [local go_sem ↓] bv_t bv_c ev_t ev_c put_same put_ne put_none kill_at pro_at lb_same lb_ne start_zero start_succ wpC_seq wpC_reg wpC_cond wpC_block wpC_skip wpC_exit wpC_ret thenQ_normal thenQ_exit thenQ_ret inBlk_normal inBlk_exit inBlk_ret wpS_nil wpS_step wpS_again wpS_guard wpO_mov wpO_load wpO_faddr wpO_nilCheck wpO_pick wpO_build wpO_bin wpO_eqb wpO_eqst wpO_eqnil wpO_not wpO_conv wpO_bytesStr wpO_iaddr wpO_idxStr wpO_field wpO_extract wpO_len wpO_lenStr wpO_cap wpO_min wpO_slice wpO_sliceStr wpO_alloc wpO_box wpO_store wpO_call wpO_callv wpO_mkfn wpO_buildSlice wpO_mkslice wpO_append wpO_appz proA_nil proA_cons tmpX_nil tmpX_tmp tmpX_cell doneB_normal doneB_ret agK_cons agK_nil pureB_load results_one results_two results_nil resBs_cons resBs_nil resB_tmp resB_cell
attribute [local go_sem] kill_v kill_lp_ne kill_lp_same pro_v pro_lp_same pro_lp_ne av_v av_lp optB_some optX_some valX_eq ldX_lp ldX_v faX_lp faX_v ncX_lp ncX_ptr ncX_fn boxK_one boxK_agg stL_some stK_lp_one stK_lp_agg stK_v_one stK_v_agg proM_v proM_lp callG_mk callVG_mk callvK_fn fnG_mk ptrsA_nil ptrsA_cons callH_some whenA_true whenA_false guardH_tt guardH_ff guardH_tf guardH_ft guardH_undef agV_one agV_agg lenO_sl lenStrO_str notO_bool pickO_bool convO_int eqbO_bool eqnilO_sl extractO_tup capO_sl minO_int loadL_one loadL_all storeL_eq fillA_nil fillA_one fillA_agg nat_ge neg_ge nat_lt neg_lt buildO bin_add bin_sub bin_mul bin_eql bin_neq bin_lss bin_leq bin_gtr bin_geq str_eql str_neq str_lss str_leq str_gtr str_geq retK_some endK_mk gcK_same gcK_int gcK_bool tupO_one tupO_agg rdy_self ib ii Option.map_none Option.map_some Option.some.injEq exists_eq_left' exists_eq_left ne_eq not_false_eq_true if_true if_false List.map_cons List.map_nil List.getElem?_cons_zero List.getElem?_cons_succ List.length_cons List.length_nil List.take_succ_cons List.take_zero List.take_nil List.drop_succ_cons List.drop_zero List.drop_nil List.cons_append List.nil_append List.append_nil List.set_cons_zero List.set_cons_succ Nat.zero_add forall_const true_and and_true and_self Bool.false_eq_true false_implies true_implies implies_true Bool.not_true Bool.not_false Bool.not_eq_true' Bool.not_eq_false' beq_self_eq_true Bool.bne_true Bool.bne_false
attribute [local go_sem] lenI lenS lenP lenQ lenB lenL lenT encI_0 encS_0 encP_0 encP_1 encQ_0 encQ_1 encQ_2 encQ_3 encB_0 encB_1 encL_0 encL_1 encT_0 encT_1
attribute [local go_sem low] whenA_bool guardH_bool
section
variable {P : Program} {T : Tb} {L : Lb} {h : H} {Q : PostC} {K : Post}
/-! laws.FnExactOverFlat -/
def L7_0 : List AStep := [⟨.mov (.c (.bool false)), (some 4), none, []⟩]
theorem v7_0 : wpS P L7_0 T L (rdy h) K = wpS P ([⟨.mov (.c (.bool false)), (some 4), none, []⟩]) T L (rdy h) K := rfl
def L7_1 : List AStep := ⟨.box 63 (.t 0), (some 2), none, []⟩ :: ⟨.box 63 (.t 1), (some 3), none, []⟩ :: L7_0
theorem v7_1 : wpS P L7_1 T L (rdy h) K = wpS P (⟨.box 63 (.t 0), (some 2), none, []⟩ :: ⟨.box 63 (.t 1), (some 3), none, []⟩ :: L7_0) T L (rdy h) K := rfl
def L7_2 : List AStep := [⟨.mov (.c (.int .i64 1048576)), (some 5), none, []⟩]
theorem v7_2 : wpS P L7_2 T L (rdy h) K = wpS P ([⟨.mov (.c (.int .i64 1048576)), (some 5), none, []⟩]) T L (rdy h) K := rfl
def L7_3 : List AStep := [⟨.call 33 [(.t 17), (.t 18)], (some 19), none, []⟩, ⟨.mov (.t 19), (some 5), none, []⟩]
theorem v7_3 : wpS P L7_3 T L (rdy h) K = wpS P ([⟨.call 33 [(.t 17), (.t 18)], (some 19), none, []⟩, ⟨.mov (.t 19), (some 5), none, []⟩]) T L (rdy h) K := rfl
def L7_4 : List AStep := ⟨.load 2 true (.t 2), (some 17), none, []⟩ :: ⟨.mov (.t 5), (some 18), none, []⟩ :: L7_3
theorem v7_4 : wpS P L7_4 T L (rdy h) K = wpS P (⟨.load 2 true (.t 2), (some 17), none, []⟩ :: ⟨.mov (.t 5), (some 18), none, []⟩ :: L7_3) T L (rdy h) K := rfl
def L7_5 : List AStep := [⟨.mov (.t 5), (some 20), none, []⟩, ⟨.bin .lss (.t 20) (.c (.int .i64 0)), (some 21), none, []⟩]
theorem v7_5 : wpS P L7_5 T L (rdy h) K = wpS P ([⟨.mov (.t 5), (some 20), none, []⟩, ⟨.bin .lss (.t 20) (.c (.int .i64 0)), (some 21), none, []⟩]) T L (rdy h) K := rfl
def L7_6 : List AStep := [⟨.mov (.c (.bool true)), (some 4), none, []⟩]
theorem v7_6 : wpS P L7_6 T L (rdy h) K = wpS P ([⟨.mov (.c (.bool true)), (some 4), none, []⟩]) T L (rdy h) K := rfl
def L7_7 : List AStep := [⟨.call 33 [(.t 22), (.t 23)], (some 24), none, []⟩, ⟨.mov (.t 24), (some 5), none, []⟩]
theorem v7_7 : wpS P L7_7 T L (rdy h) K = wpS P ([⟨.call 33 [(.t 22), (.t 23)], (some 24), none, []⟩, ⟨.mov (.t 24), (some 5), none, []⟩]) T L (rdy h) K := rfl
def L7_8 : List AStep := ⟨.load 2 true (.t 3), (some 22), none, []⟩ :: ⟨.mov (.t 5), (some 23), none, []⟩ :: L7_7
theorem v7_8 : wpS P L7_8 T L (rdy h) K = wpS P (⟨.load 2 true (.t 3), (some 22), none, []⟩ :: ⟨.mov (.t 5), (some 23), none, []⟩ :: L7_7) T L (rdy h) K := rfl
def L7_9 : List AStep := [⟨.mov (.t 5), (some 25), none, []⟩, ⟨.bin .lss (.t 25) (.c (.int .i64 0)), (some 26), none, []⟩]
theorem v7_9 : wpS P L7_9 T L (rdy h) K = wpS P ([⟨.mov (.t 5), (some 25), none, []⟩, ⟨.bin .lss (.t 25) (.c (.int .i64 0)), (some 26), none, []⟩]) T L (rdy h) K := rfl
def L7_10 : List AStep := [⟨.mov (.c (.bool true)), (some 4), none, []⟩]
theorem v7_10 : wpS P L7_10 T L (rdy h) K = wpS P ([⟨.mov (.c (.bool true)), (some 4), none, []⟩]) T L (rdy h) K := rfl
def L7_11 : List AStep := [⟨.mov (.t 34), (some 7), none, []⟩]
theorem v7_11 : wpS P L7_11 T L (rdy h) K = wpS P ([⟨.mov (.t 34), (some 7), none, []⟩]) T L (rdy h) K := rfl
def L7_12 : List AStep := ⟨.extract (.t 27) 1, (some 34), none, []⟩ :: ⟨.store 2 (.t 6) (.t 33), none, none, []⟩ :: L7_11
theorem v7_12 : wpS P L7_12 T L (rdy h) K = wpS P (⟨.extract (.t 27) 1, (some 34), none, []⟩ :: ⟨.store 2 (.t 6) (.t 33), none, none, []⟩ :: L7_11) T L (rdy h) K := rfl
def L7_13 : List AStep := ⟨.mov (.t 32), (some 27), none, []⟩ :: ⟨.extract (.t 27) 0, (some 33), none, []⟩ :: L7_12
theorem v7_13 : wpS P L7_13 T L (rdy h) K = wpS P (⟨.mov (.t 32), (some 27), none, []⟩ :: ⟨.extract (.t 27) 0, (some 33), none, []⟩ :: L7_12) T L (rdy h) K := rfl
def L7_14 : List AStep := ⟨.call 35 [(.t 30)], (some 31), none, []⟩ :: ⟨.call 41 [(.t 29), (.t 31)], (some 32), none, []⟩ :: L7_13
theorem v7_14 : wpS P L7_14 T L (rdy h) K = wpS P (⟨.call 35 [(.t 30)], (some 31), none, []⟩ :: ⟨.call 41 [(.t 29), (.t 31)], (some 32), none, []⟩ :: L7_13) T L (rdy h) K := rfl
def L7_15 : List AStep := ⟨.alloc 30 [(.sl none 0 (some 0)), (.sl none 0 (some 0))], (some 6), none, []⟩ :: ⟨.call 35 [(.t 28)], (some 29), none, [(.load 2 true (.t 3), (some 30), none)]⟩ :: L7_14
theorem v7_15 : wpS P L7_15 T L (rdy h) K = wpS P (⟨.alloc 30 [(.sl none 0 (some 0)), (.sl none 0 (some 0))], (some 6), none, []⟩ :: ⟨.call 35 [(.t 28)], (some 29), none, [(.load 2 true (.t 3), (some 30), none)]⟩ :: L7_14) T L (rdy h) K := rfl
def L7_16 : List AStep := ⟨.load 2 true (.t 2), (some 28), none, []⟩ :: ⟨.load 2 true (.t 3), (some 30), none, []⟩ :: L7_15
theorem v7_16 : wpS P L7_16 T L (rdy h) K = wpS P (⟨.load 2 true (.t 2), (some 28), none, []⟩ :: ⟨.load 2 true (.t 3), (some 30), none, []⟩ :: L7_15) T L (rdy h) K := rfl
def L7_17 : List AStep := [⟨.alloc 30 [(.sl none 0 (some 0)), (.sl none 0 (some 0))], (some 8), none, []⟩, ⟨.store 2 (.t 8) (.t 36), none, none, []⟩]
theorem v7_17 : wpS P L7_17 T L (rdy h) K = wpS P ([⟨.alloc 30 [(.sl none 0 (some 0)), (.sl none 0 (some 0))], (some 8), none, []⟩, ⟨.store 2 (.t 8) (.t 36), none, none, []⟩]) T L (rdy h) K := rfl
def L7_18 : List AStep := ⟨.load 2 true (.t 2), (some 35), none, []⟩ :: ⟨.call 35 [(.t 35)], (some 36), none, []⟩ :: L7_17
theorem v7_18 : wpS P L7_18 T L (rdy h) K = wpS P (⟨.load 2 true (.t 2), (some 35), none, []⟩ :: ⟨.call 35 [(.t 35)], (some 36), none, []⟩ :: L7_17) T L (rdy h) K := rfl
def L7_19 : List AStep := [⟨.alloc 30 [(.sl none 0 (some 0)), (.sl none 0 (some 0))], (some 9), none, []⟩, ⟨.store 2 (.t 9) (.t 38), none, none, []⟩]
theorem v7_19 : wpS P L7_19 T L (rdy h) K = wpS P ([⟨.alloc 30 [(.sl none 0 (some 0)), (.sl none 0 (some 0))], (some 9), none, []⟩, ⟨.store 2 (.t 9) (.t 38), none, none, []⟩]) T L (rdy h) K := rfl
def L7_20 : List AStep := ⟨.load 2 true (.t 3), (some 37), none, []⟩ :: ⟨.call 35 [(.t 37)], (some 38), none, []⟩ :: L7_19
theorem v7_20 : wpS P L7_20 T L (rdy h) K = wpS P (⟨.load 2 true (.t 3), (some 37), none, []⟩ :: ⟨.call 35 [(.t 37)], (some 38), none, []⟩ :: L7_19) T L (rdy h) K := rfl
def L7_21 : List AStep := [⟨.mov (.t 44), (some 11), none, []⟩]
theorem v7_21 : wpS P L7_21 T L (rdy h) K = wpS P ([⟨.mov (.t 44), (some 11), none, []⟩]) T L (rdy h) K := rfl
def L7_22 : List AStep := ⟨.alloc 30 [(.sl none 0 (some 0)), (.sl none 0 (some 0))], (some 10), none, []⟩ :: ⟨.store 2 (.t 10) (.t 43), none, none, []⟩ :: L7_21
theorem v7_22 : wpS P L7_22 T L (rdy h) K = wpS P (⟨.alloc 30 [(.sl none 0 (some 0)), (.sl none 0 (some 0))], (some 10), none, []⟩ :: ⟨.store 2 (.t 10) (.t 43), none, none, []⟩ :: L7_21) T L (rdy h) K := rfl
def L7_23 : List AStep := ⟨.extract (.t 39) 0, (some 43), none, []⟩ :: ⟨.extract (.t 39) 1, (some 44), none, []⟩ :: L7_22
theorem v7_23 : wpS P L7_23 T L (rdy h) K = wpS P (⟨.extract (.t 39) 0, (some 43), none, []⟩ :: ⟨.extract (.t 39) 1, (some 44), none, []⟩ :: L7_22) T L (rdy h) K := rfl
def L7_24 : List AStep := ⟨.call 42 [(.t 40), (.t 41)], (some 42), none, []⟩ :: ⟨.mov (.t 42), (some 39), none, []⟩ :: L7_23
theorem v7_24 : wpS P L7_24 T L (rdy h) K = wpS P (⟨.call 42 [(.t 40), (.t 41)], (some 42), none, []⟩ :: ⟨.mov (.t 42), (some 39), none, []⟩ :: L7_23) T L (rdy h) K := rfl
def L7_25 : List AStep := ⟨.load 2 true (.t 8), (some 40), none, []⟩ :: ⟨.load 2 true (.t 9), (some 41), none, []⟩ :: L7_24
theorem v7_25 : wpS P L7_25 T L (rdy h) K = wpS P (⟨.load 2 true (.t 8), (some 40), none, []⟩ :: ⟨.load 2 true (.t 9), (some 41), none, []⟩ :: L7_24) T L (rdy h) K := rfl
def L7_26 : List AStep := [⟨.pick (.t 49) (.c (.bool true)) (.t 52), (some 53), none, []⟩]
theorem v7_26 : wpS P L7_26 T L (rdy h) K = wpS P ([⟨.pick (.t 49) (.c (.bool true)) (.t 52), (some 53), none, []⟩]) T L (rdy h) K := rfl
def L7_27 : List AStep := ⟨.mov (.t 7), (some 51), (some (49, false)), []⟩ :: ⟨.eqb true (.t 50) (.t 51), (some 52), (some (49, false)), []⟩ :: L7_26
theorem v7_27 : wpS P L7_27 T L (rdy h) K = wpS P (⟨.mov (.t 7), (some 51), (some (49, false)), []⟩ :: ⟨.eqb true (.t 50) (.t 51), (some 52), (some (49, false)), []⟩ :: L7_26) T L (rdy h) K := rfl
def L7_28 : List AStep := ⟨.mov (.t 48), (some 49), none, []⟩ :: ⟨.mov (.t 11), (some 50), (some (49, false)), []⟩ :: L7_27
theorem v7_28 : wpS P L7_28 T L (rdy h) K = wpS P (⟨.mov (.t 48), (some 49), none, []⟩ :: ⟨.mov (.t 11), (some 50), (some (49, false)), []⟩ :: L7_27) T L (rdy h) K := rfl
def L7_29 : List AStep := ⟨.call 37 [(.t 45), (.t 46)], (some 47), none, []⟩ :: ⟨.not (.t 47), (some 48), none, []⟩ :: L7_28
theorem v7_29 : wpS P L7_29 T L (rdy h) K = wpS P (⟨.call 37 [(.t 45), (.t 46)], (some 47), none, []⟩ :: ⟨.not (.t 47), (some 48), none, []⟩ :: L7_28) T L (rdy h) K := rfl
def L7_30 : List AStep := ⟨.load 2 true (.t 10), (some 45), none, []⟩ :: ⟨.load 2 true (.t 6), (some 46), none, []⟩ :: L7_29
theorem v7_30 : wpS P L7_30 T L (rdy h) K = wpS P (⟨.load 2 true (.t 10), (some 45), none, []⟩ :: ⟨.load 2 true (.t 6), (some 46), none, []⟩ :: L7_29) T L (rdy h) K := rfl
def L7_31 : List AStep := [⟨.mov (.c (.bool false)), (some 4), none, []⟩]
theorem v7_31 : wpS P L7_31 T L (rdy h) K = wpS P ([⟨.mov (.c (.bool false)), (some 4), none, []⟩]) T L (rdy h) K := rfl
def L7_32 : List AStep := [⟨.not (.t 57), (some 58), none, []⟩]
theorem v7_32 : wpS P L7_32 T L (rdy h) K = wpS P ([⟨.not (.t 57), (some 58), none, []⟩]) T L (rdy h) K := rfl
def L7_33 : List AStep := ⟨.call 35 [(.t 55)], (some 56), none, [(.load 2 true (.t 8), (some 54), none)]⟩ :: ⟨.call 37 [(.t 54), (.t 56)], (some 57), none, []⟩ :: L7_32
theorem v7_33 : wpS P L7_33 T L (rdy h) K = wpS P (⟨.call 35 [(.t 55)], (some 56), none, [(.load 2 true (.t 8), (some 54), none)]⟩ :: ⟨.call 37 [(.t 54), (.t 56)], (some 57), none, []⟩ :: L7_32) T L (rdy h) K := rfl
def L7_34 : List AStep := ⟨.load 2 true (.t 8), (some 54), none, []⟩ :: ⟨.load 2 true (.t 2), (some 55), none, []⟩ :: L7_33
theorem v7_34 : wpS P L7_34 T L (rdy h) K = wpS P (⟨.load 2 true (.t 8), (some 54), none, []⟩ :: ⟨.load 2 true (.t 2), (some 55), none, []⟩ :: L7_33) T L (rdy h) K := rfl
def L7_35 : List AStep := [⟨.mov (.c (.bool false)), (some 4), none, []⟩]
theorem v7_35 : wpS P L7_35 T L (rdy h) K = wpS P ([⟨.mov (.c (.bool false)), (some 4), none, []⟩]) T L (rdy h) K := rfl
def L7_36 : List AStep := [⟨.not (.t 62), (some 63), none, []⟩]
theorem v7_36 : wpS P L7_36 T L (rdy h) K = wpS P ([⟨.not (.t 62), (some 63), none, []⟩]) T L (rdy h) K := rfl
def L7_37 : List AStep := ⟨.call 35 [(.t 60)], (some 61), none, [(.load 2 true (.t 9), (some 59), none)]⟩ :: ⟨.call 37 [(.t 59), (.t 61)], (some 62), none, []⟩ :: L7_36
theorem v7_37 : wpS P L7_37 T L (rdy h) K = wpS P (⟨.call 35 [(.t 60)], (some 61), none, [(.load 2 true (.t 9), (some 59), none)]⟩ :: ⟨.call 37 [(.t 59), (.t 61)], (some 62), none, []⟩ :: L7_36) T L (rdy h) K := rfl
def L7_38 : List AStep := ⟨.load 2 true (.t 9), (some 59), none, []⟩ :: ⟨.load 2 true (.t 3), (some 60), none, []⟩ :: L7_37
theorem v7_38 : wpS P L7_38 T L (rdy h) K = wpS P (⟨.load 2 true (.t 9), (some 59), none, []⟩ :: ⟨.load 2 true (.t 3), (some 60), none, []⟩ :: L7_37) T L (rdy h) K := rfl
def L7_39 : List AStep := [⟨.mov (.c (.bool false)), (some 4), none, []⟩]
theorem v7_39 : wpS P L7_39 T L (rdy h) K = wpS P ([⟨.mov (.c (.bool false)), (some 4), none, []⟩]) T L (rdy h) K := rfl
def L7_40 : List AStep := [⟨.mov (.c (.int .i64 1)), (some 12), none, []⟩]
theorem v7_40 : wpS P L7_40 T L (rdy h) K = wpS P ([⟨.mov (.c (.int .i64 1)), (some 12), none, []⟩]) T L (rdy h) K := rfl
def L7_41 : List AStep := [⟨.call 38 [(.t 64), (.t 65)], (some 66), none, []⟩, ⟨.mov (.t 66), (some 12), none, []⟩]
theorem v7_41 : wpS P L7_41 T L (rdy h) K = wpS P ([⟨.call 38 [(.t 64), (.t 65)], (some 66), none, []⟩, ⟨.mov (.t 66), (some 12), none, []⟩]) T L (rdy h) K := rfl
def L7_42 : List AStep := ⟨.load 2 true (.t 8), (some 64), none, []⟩ :: ⟨.mov (.t 12), (some 65), none, []⟩ :: L7_41
theorem v7_42 : wpS P L7_42 T L (rdy h) K = wpS P (⟨.load 2 true (.t 8), (some 64), none, []⟩ :: ⟨.mov (.t 12), (some 65), none, []⟩ :: L7_41) T L (rdy h) K := rfl
def L7_43 : List AStep := [⟨.call 38 [(.t 67), (.t 68)], (some 69), none, []⟩, ⟨.mov (.t 69), (some 12), none, []⟩]
theorem v7_43 : wpS P L7_43 T L (rdy h) K = wpS P ([⟨.call 38 [(.t 67), (.t 68)], (some 69), none, []⟩, ⟨.mov (.t 69), (some 12), none, []⟩]) T L (rdy h) K := rfl
def L7_44 : List AStep := ⟨.load 2 true (.t 9), (some 67), none, []⟩ :: ⟨.mov (.t 12), (some 68), none, []⟩ :: L7_43
theorem v7_44 : wpS P L7_44 T L (rdy h) K = wpS P (⟨.load 2 true (.t 9), (some 67), none, []⟩ :: ⟨.mov (.t 12), (some 68), none, []⟩ :: L7_43) T L (rdy h) K := rfl
def L7_45 : List AStep := [⟨.pick (.t 78) (.c (.bool true)) (.t 81), (some 82), none, []⟩]
theorem v7_45 : wpS P L7_45 T L (rdy h) K = wpS P ([⟨.pick (.t 78) (.c (.bool true)) (.t 81), (some 82), none, []⟩]) T L (rdy h) K := rfl
def L7_46 : List AStep := ⟨.mov (.t 7), (some 80), (some (78, false)), []⟩ :: ⟨.eqb true (.t 79) (.t 80), (some 81), (some (78, false)), []⟩ :: L7_45
theorem v7_46 : wpS P L7_46 T L (rdy h) K = wpS P (⟨.mov (.t 7), (some 80), (some (78, false)), []⟩ :: ⟨.eqb true (.t 79) (.t 80), (some 81), (some (78, false)), []⟩ :: L7_45) T L (rdy h) K := rfl
def L7_47 : List AStep := ⟨.mov (.t 77), (some 78), none, []⟩ :: ⟨.mov (.t 11), (some 79), (some (78, false)), []⟩ :: L7_46
theorem v7_47 : wpS P L7_47 T L (rdy h) K = wpS P (⟨.mov (.t 77), (some 78), none, []⟩ :: ⟨.mov (.t 11), (some 79), (some (78, false)), []⟩ :: L7_46) T L (rdy h) K := rfl
def L7_48 : List AStep := ⟨.not (.t 75), (some 76), (some (72, false)), []⟩ :: ⟨.pick (.t 72) (.c (.bool true)) (.t 76), (some 77), none, []⟩ :: L7_47
theorem v7_48 : wpS P L7_48 T L (rdy h) K = wpS P (⟨.not (.t 75), (some 76), (some (72, false)), []⟩ :: ⟨.pick (.t 72) (.c (.bool true)) (.t 76), (some 77), none, []⟩ :: L7_47) T L (rdy h) K := rfl
def L7_49 : List AStep := ⟨.load 2 true (.t 6), (some 74), (some (72, false)), []⟩ :: ⟨.call 37 [(.t 73), (.t 74)], (some 75), (some (72, false)), []⟩ :: L7_48
theorem v7_49 : wpS P L7_49 T L (rdy h) K = wpS P (⟨.load 2 true (.t 6), (some 74), (some (72, false)), []⟩ :: ⟨.call 37 [(.t 73), (.t 74)], (some 75), (some (72, false)), []⟩ :: L7_48) T L (rdy h) K := rfl
def L7_50 : List AStep := ⟨.mov (.t 71), (some 72), none, []⟩ :: ⟨.load 2 true (.t 10), (some 73), (some (72, false)), []⟩ :: L7_49
theorem v7_50 : wpS P L7_50 T L (rdy h) K = wpS P (⟨.mov (.t 71), (some 72), none, []⟩ :: ⟨.load 2 true (.t 10), (some 73), (some (72, false)), []⟩ :: L7_49) T L (rdy h) K := rfl
def L7_51 : List AStep := ⟨.mov (.t 12), (some 70), none, []⟩ :: ⟨.bin .lss (.t 70) (.c (.int .i64 0)), (some 71), none, []⟩ :: L7_50
theorem v7_51 : wpS P L7_51 T L (rdy h) K = wpS P (⟨.mov (.t 12), (some 70), none, []⟩ :: ⟨.bin .lss (.t 70) (.c (.int .i64 0)), (some 71), none, []⟩ :: L7_50) T L (rdy h) K := rfl
def L7_52 : List AStep := [⟨.mov (.c (.bool false)), (some 4), none, []⟩]
theorem v7_52 : wpS P L7_52 T L (rdy h) K = wpS P ([⟨.mov (.c (.bool false)), (some 4), none, []⟩]) T L (rdy h) K := rfl
def L7_53 : List AStep := [⟨.mov (.c (.int .i64 1)), (some 13), none, []⟩]
theorem v7_53 : wpS P L7_53 T L (rdy h) K = wpS P ([⟨.mov (.c (.int .i64 1)), (some 13), none, []⟩]) T L (rdy h) K := rfl
def L7_54 : List AStep := [⟨.call 38 [(.t 83), (.t 84)], (some 85), none, []⟩, ⟨.mov (.t 85), (some 13), none, []⟩]
theorem v7_54 : wpS P L7_54 T L (rdy h) K = wpS P ([⟨.call 38 [(.t 83), (.t 84)], (some 85), none, []⟩, ⟨.mov (.t 85), (some 13), none, []⟩]) T L (rdy h) K := rfl
def L7_55 : List AStep := ⟨.load 2 true (.t 10), (some 83), none, []⟩ :: ⟨.mov (.t 13), (some 84), none, []⟩ :: L7_54
theorem v7_55 : wpS P L7_55 T L (rdy h) K = wpS P (⟨.load 2 true (.t 10), (some 83), none, []⟩ :: ⟨.mov (.t 13), (some 84), none, []⟩ :: L7_54) T L (rdy h) K := rfl
def L7_56 : List AStep := [⟨.mov (.c (.int .i64 1)), (some 14), none, []⟩]
theorem v7_56 : wpS P L7_56 T L (rdy h) K = wpS P ([⟨.mov (.c (.int .i64 1)), (some 14), none, []⟩]) T L (rdy h) K := rfl
def L7_57 : List AStep := [⟨.call 43 [(.t 86), (.t 87)], (some 88), none, []⟩, ⟨.mov (.t 88), (some 14), none, []⟩]
theorem v7_57 : wpS P L7_57 T L (rdy h) K = wpS P ([⟨.call 43 [(.t 86), (.t 87)], (some 88), none, []⟩, ⟨.mov (.t 88), (some 14), none, []⟩]) T L (rdy h) K := rfl
def L7_58 : List AStep := ⟨.load 2 true (.t 10), (some 86), none, []⟩ :: ⟨.mov (.t 14), (some 87), none, []⟩ :: L7_57
theorem v7_58 : wpS P L7_58 T L (rdy h) K = wpS P (⟨.load 2 true (.t 10), (some 86), none, []⟩ :: ⟨.mov (.t 14), (some 87), none, []⟩ :: L7_57) T L (rdy h) K := rfl
def L7_59 : List AStep := [⟨.mov (.t 14), (some 89), none, []⟩, ⟨.bin .lss (.t 89) (.c (.int .i64 0)), (some 90), none, []⟩]
theorem v7_59 : wpS P L7_59 T L (rdy h) K = wpS P ([⟨.mov (.t 14), (some 89), none, []⟩, ⟨.bin .lss (.t 89) (.c (.int .i64 0)), (some 90), none, []⟩]) T L (rdy h) K := rfl
def L7_60 : List AStep := [⟨.mov (.c (.bool false)), (some 4), none, []⟩]
theorem v7_60 : wpS P L7_60 T L (rdy h) K = wpS P ([⟨.mov (.c (.bool false)), (some 4), none, []⟩]) T L (rdy h) K := rfl
def L7_61 : List AStep := [⟨.bin .neq (.t 91) (.t 92), (some 93), none, []⟩]
theorem v7_61 : wpS P L7_61 T L (rdy h) K = wpS P ([⟨.bin .neq (.t 91) (.t 92), (some 93), none, []⟩]) T L (rdy h) K := rfl
def L7_62 : List AStep := ⟨.mov (.t 14), (some 91), none, []⟩ :: ⟨.mov (.t 13), (some 92), none, []⟩ :: L7_61
theorem v7_62 : wpS P L7_62 T L (rdy h) K = wpS P (⟨.mov (.t 14), (some 91), none, []⟩ :: ⟨.mov (.t 13), (some 92), none, []⟩ :: L7_61) T L (rdy h) K := rfl
def L7_63 : List AStep := [⟨.mov (.c (.bool false)), (some 4), none, []⟩]
theorem v7_63 : wpS P L7_63 T L (rdy h) K = wpS P ([⟨.mov (.c (.bool false)), (some 4), none, []⟩]) T L (rdy h) K := rfl
def L7_64 : List AStep := [⟨.mov (.t 101), (some 16), none, []⟩]
theorem v7_64 : wpS P L7_64 T L (rdy h) K = wpS P ([⟨.mov (.t 101), (some 16), none, []⟩]) T L (rdy h) K := rfl
def L7_65 : List AStep := ⟨.extract (.t 94) 1, (some 101), none, []⟩ :: ⟨.store 2 (.t 15) (.t 100), none, none, []⟩ :: L7_64
theorem v7_65 : wpS P L7_65 T L (rdy h) K = wpS P (⟨.extract (.t 94) 1, (some 101), none, []⟩ :: ⟨.store 2 (.t 15) (.t 100), none, none, []⟩ :: L7_64) T L (rdy h) K := rfl
def L7_66 : List AStep := ⟨.mov (.t 99), (some 94), none, []⟩ :: ⟨.extract (.t 94) 0, (some 100), none, []⟩ :: L7_65
theorem v7_66 : wpS P L7_66 T L (rdy h) K = wpS P (⟨.mov (.t 99), (some 94), none, []⟩ :: ⟨.extract (.t 94) 0, (some 100), none, []⟩ :: L7_65) T L (rdy h) K := rfl
def L7_67 : List AStep := ⟨.call 35 [(.t 97)], (some 98), none, []⟩ :: ⟨.call 42 [(.t 96), (.t 98)], (some 99), none, []⟩ :: L7_66
theorem v7_67 : wpS P L7_67 T L (rdy h) K = wpS P (⟨.call 35 [(.t 97)], (some 98), none, []⟩ :: ⟨.call 42 [(.t 96), (.t 98)], (some 99), none, []⟩ :: L7_66) T L (rdy h) K := rfl
def L7_68 : List AStep := ⟨.alloc 30 [(.sl none 0 (some 0)), (.sl none 0 (some 0))], (some 15), none, []⟩ :: ⟨.call 35 [(.t 95)], (some 96), none, [(.load 2 true (.t 3), (some 97), none)]⟩ :: L7_67
theorem v7_68 : wpS P L7_68 T L (rdy h) K = wpS P (⟨.alloc 30 [(.sl none 0 (some 0)), (.sl none 0 (some 0))], (some 15), none, []⟩ :: ⟨.call 35 [(.t 95)], (some 96), none, [(.load 2 true (.t 3), (some 97), none)]⟩ :: L7_67) T L (rdy h) K := rfl
def L7_69 : List AStep := ⟨.load 2 true (.t 2), (some 95), none, []⟩ :: ⟨.load 2 true (.t 3), (some 97), none, []⟩ :: L7_68
theorem v7_69 : wpS P L7_69 T L (rdy h) K = wpS P (⟨.load 2 true (.t 2), (some 95), none, []⟩ :: ⟨.load 2 true (.t 3), (some 97), none, []⟩ :: L7_68) T L (rdy h) K := rfl
def L7_70 : List AStep := [⟨.pick (.t 106) (.c (.bool true)) (.t 109), (some 110), none, []⟩]
theorem v7_70 : wpS P L7_70 T L (rdy h) K = wpS P ([⟨.pick (.t 106) (.c (.bool true)) (.t 109), (some 110), none, []⟩]) T L (rdy h) K := rfl
def L7_71 : List AStep := ⟨.mov (.t 7), (some 108), (some (106, false)), []⟩ :: ⟨.eqb true (.t 107) (.t 108), (some 109), (some (106, false)), []⟩ :: L7_70
theorem v7_71 : wpS P L7_71 T L (rdy h) K = wpS P (⟨.mov (.t 7), (some 108), (some (106, false)), []⟩ :: ⟨.eqb true (.t 107) (.t 108), (some 109), (some (106, false)), []⟩ :: L7_70) T L (rdy h) K := rfl
def L7_72 : List AStep := ⟨.mov (.t 105), (some 106), none, []⟩ :: ⟨.mov (.t 16), (some 107), (some (106, false)), []⟩ :: L7_71
theorem v7_72 : wpS P L7_72 T L (rdy h) K = wpS P (⟨.mov (.t 105), (some 106), none, []⟩ :: ⟨.mov (.t 16), (some 107), (some (106, false)), []⟩ :: L7_71) T L (rdy h) K := rfl
def L7_73 : List AStep := ⟨.call 37 [(.t 102), (.t 103)], (some 104), none, []⟩ :: ⟨.not (.t 104), (some 105), none, []⟩ :: L7_72
theorem v7_73 : wpS P L7_73 T L (rdy h) K = wpS P (⟨.call 37 [(.t 102), (.t 103)], (some 104), none, []⟩ :: ⟨.not (.t 104), (some 105), none, []⟩ :: L7_72) T L (rdy h) K := rfl
def L7_74 : List AStep := ⟨.load 2 true (.t 15), (some 102), none, []⟩ :: ⟨.load 2 true (.t 6), (some 103), none, []⟩ :: L7_73
theorem v7_74 : wpS P L7_74 T L (rdy h) K = wpS P (⟨.load 2 true (.t 15), (some 102), none, []⟩ :: ⟨.load 2 true (.t 6), (some 103), none, []⟩ :: L7_73) T L (rdy h) K := rfl
def L7_75 : List AStep := [⟨.mov (.c (.bool false)), (some 4), none, []⟩]
theorem v7_75 : wpS P L7_75 T L (rdy h) K = wpS P ([⟨.mov (.c (.bool false)), (some 4), none, []⟩]) T L (rdy h) K := rfl
def L7_76 : List AStep := [⟨.mov (.c (.int .i64 1)), (some 14), none, []⟩]
theorem v7_76 : wpS P L7_76 T L (rdy h) K = wpS P ([⟨.mov (.c (.int .i64 1)), (some 14), none, []⟩]) T L (rdy h) K := rfl
def L7_77 : List AStep := [⟨.call 43 [(.t 111), (.t 112)], (some 113), none, []⟩, ⟨.mov (.t 113), (some 14), none, []⟩]
theorem v7_77 : wpS P L7_77 T L (rdy h) K = wpS P ([⟨.call 43 [(.t 111), (.t 112)], (some 113), none, []⟩, ⟨.mov (.t 113), (some 14), none, []⟩]) T L (rdy h) K := rfl
def L7_78 : List AStep := ⟨.load 2 true (.t 10), (some 111), none, []⟩ :: ⟨.mov (.t 14), (some 112), none, []⟩ :: L7_77
theorem v7_78 : wpS P L7_78 T L (rdy h) K = wpS P (⟨.load 2 true (.t 10), (some 111), none, []⟩ :: ⟨.mov (.t 14), (some 112), none, []⟩ :: L7_77) T L (rdy h) K := rfl
def L7_79 : List AStep := [⟨.mov (.t 14), (some 114), none, []⟩, ⟨.bin .lss (.t 114) (.c (.int .i64 0)), (some 115), none, []⟩]
theorem v7_79 : wpS P L7_79 T L (rdy h) K = wpS P ([⟨.mov (.t 14), (some 114), none, []⟩, ⟨.bin .lss (.t 114) (.c (.int .i64 0)), (some 115), none, []⟩]) T L (rdy h) K := rfl
def L7_80 : List AStep := [⟨.mov (.c (.bool false)), (some 4), none, []⟩]
theorem v7_80 : wpS P L7_80 T L (rdy h) K = wpS P ([⟨.mov (.c (.bool false)), (some 4), none, []⟩]) T L (rdy h) K := rfl
def L7_81 : List AStep := [⟨.bin .neq (.t 116) (.t 117), (some 118), none, []⟩]
theorem v7_81 : wpS P L7_81 T L (rdy h) K = wpS P ([⟨.bin .neq (.t 116) (.t 117), (some 118), none, []⟩]) T L (rdy h) K := rfl
def L7_82 : List AStep := ⟨.mov (.t 14), (some 116), none, []⟩ :: ⟨.mov (.t 13), (some 117), none, []⟩ :: L7_81
theorem v7_82 : wpS P L7_82 T L (rdy h) K = wpS P (⟨.mov (.t 14), (some 116), none, []⟩ :: ⟨.mov (.t 13), (some 117), none, []⟩ :: L7_81) T L (rdy h) K := rfl
def L7_83 : List AStep := [⟨.mov (.c (.bool false)), (some 4), none, []⟩]
theorem v7_83 : wpS P L7_83 T L (rdy h) K = wpS P ([⟨.mov (.c (.bool false)), (some 4), none, []⟩]) T L (rdy h) K := rfl
def L7_84 : List AStep := [⟨.mov (.c (.bool true)), (some 4), none, []⟩]
theorem v7_84 : wpS P L7_84 T L (rdy h) K = wpS P ([⟨.mov (.c (.bool true)), (some 4), none, []⟩]) T L (rdy h) K := rfl
def C7_0 : ACode := .seq (.reg L7_6) .ret
theorem u7_0 : wpC P C7_0 T L (rdy h) Q = wpC P (.seq (.reg L7_6) .ret) T L (rdy h) Q := rfl
def C7_1 : ACode := .cond (.t 21) C7_0 .skip
theorem u7_1 : wpC P C7_1 T L (rdy h) Q = wpC P (.cond (.t 21) C7_0 .skip) T L (rdy h) Q := rfl
def C7_2 : ACode := .seq (.reg L7_5) C7_1
theorem u7_2 : wpC P C7_2 T L (rdy h) Q = wpC P (.seq (.reg L7_5) C7_1) T L (rdy h) Q := rfl
def C7_3 : ACode := .seq (.reg L7_10) .ret
theorem u7_3 : wpC P C7_3 T L (rdy h) Q = wpC P (.seq (.reg L7_10) .ret) T L (rdy h) Q := rfl
def C7_4 : ACode := .cond (.t 26) C7_3 .skip
theorem u7_4 : wpC P C7_4 T L (rdy h) Q = wpC P (.cond (.t 26) C7_3 .skip) T L (rdy h) Q := rfl
def C7_5 : ACode := .seq (.reg L7_9) C7_4
theorem u7_5 : wpC P C7_5 T L (rdy h) Q = wpC P (.seq (.reg L7_9) C7_4) T L (rdy h) Q := rfl
def C7_6 : ACode := .seq (.reg L7_31) .ret
theorem u7_6 : wpC P C7_6 T L (rdy h) Q = wpC P (.seq (.reg L7_31) .ret) T L (rdy h) Q := rfl
def C7_7 : ACode := .cond (.t 53) C7_6 .skip
theorem u7_7 : wpC P C7_7 T L (rdy h) Q = wpC P (.cond (.t 53) C7_6 .skip) T L (rdy h) Q := rfl
def C7_8 : ACode := .seq (.reg L7_30) C7_7
theorem u7_8 : wpC P C7_8 T L (rdy h) Q = wpC P (.seq (.reg L7_30) C7_7) T L (rdy h) Q := rfl
def C7_9 : ACode := .seq (.reg L7_35) .ret
theorem u7_9 : wpC P C7_9 T L (rdy h) Q = wpC P (.seq (.reg L7_35) .ret) T L (rdy h) Q := rfl
def C7_10 : ACode := .cond (.t 58) C7_9 .skip
theorem u7_10 : wpC P C7_10 T L (rdy h) Q = wpC P (.cond (.t 58) C7_9 .skip) T L (rdy h) Q := rfl
def C7_11 : ACode := .seq (.reg L7_34) C7_10
theorem u7_11 : wpC P C7_11 T L (rdy h) Q = wpC P (.seq (.reg L7_34) C7_10) T L (rdy h) Q := rfl
def C7_12 : ACode := .seq (.reg L7_39) .ret
theorem u7_12 : wpC P C7_12 T L (rdy h) Q = wpC P (.seq (.reg L7_39) .ret) T L (rdy h) Q := rfl
def C7_13 : ACode := .cond (.t 63) C7_12 .skip
theorem u7_13 : wpC P C7_13 T L (rdy h) Q = wpC P (.cond (.t 63) C7_12 .skip) T L (rdy h) Q := rfl
def C7_14 : ACode := .seq (.reg L7_38) C7_13
theorem u7_14 : wpC P C7_14 T L (rdy h) Q = wpC P (.seq (.reg L7_38) C7_13) T L (rdy h) Q := rfl
def C7_15 : ACode := .seq (.reg L7_52) .ret
theorem u7_15 : wpC P C7_15 T L (rdy h) Q = wpC P (.seq (.reg L7_52) .ret) T L (rdy h) Q := rfl
def C7_16 : ACode := .cond (.t 82) C7_15 .skip
theorem u7_16 : wpC P C7_16 T L (rdy h) Q = wpC P (.cond (.t 82) C7_15 .skip) T L (rdy h) Q := rfl
def C7_17 : ACode := .seq (.reg L7_51) C7_16
theorem u7_17 : wpC P C7_17 T L (rdy h) Q = wpC P (.seq (.reg L7_51) C7_16) T L (rdy h) Q := rfl
def C7_18 : ACode := .seq (.reg L7_60) .ret
theorem u7_18 : wpC P C7_18 T L (rdy h) Q = wpC P (.seq (.reg L7_60) .ret) T L (rdy h) Q := rfl
def C7_19 : ACode := .cond (.t 90) C7_18 .skip
theorem u7_19 : wpC P C7_19 T L (rdy h) Q = wpC P (.cond (.t 90) C7_18 .skip) T L (rdy h) Q := rfl
def C7_20 : ACode := .seq (.reg L7_59) C7_19
theorem u7_20 : wpC P C7_20 T L (rdy h) Q = wpC P (.seq (.reg L7_59) C7_19) T L (rdy h) Q := rfl
def C7_21 : ACode := .seq (.reg L7_63) .ret
theorem u7_21 : wpC P C7_21 T L (rdy h) Q = wpC P (.seq (.reg L7_63) .ret) T L (rdy h) Q := rfl
def C7_22 : ACode := .cond (.t 93) C7_21 .skip
theorem u7_22 : wpC P C7_22 T L (rdy h) Q = wpC P (.cond (.t 93) C7_21 .skip) T L (rdy h) Q := rfl
def C7_23 : ACode := .seq (.reg L7_62) C7_22
theorem u7_23 : wpC P C7_23 T L (rdy h) Q = wpC P (.seq (.reg L7_62) C7_22) T L (rdy h) Q := rfl
def C7_24 : ACode := .seq (.reg L7_75) .ret
theorem u7_24 : wpC P C7_24 T L (rdy h) Q = wpC P (.seq (.reg L7_75) .ret) T L (rdy h) Q := rfl
def C7_25 : ACode := .cond (.t 110) C7_24 .skip
theorem u7_25 : wpC P C7_25 T L (rdy h) Q = wpC P (.cond (.t 110) C7_24 .skip) T L (rdy h) Q := rfl
def C7_26 : ACode := .seq (.reg L7_74) C7_25
theorem u7_26 : wpC P C7_26 T L (rdy h) Q = wpC P (.seq (.reg L7_74) C7_25) T L (rdy h) Q := rfl
def C7_27 : ACode := .seq (.reg L7_80) .ret
theorem u7_27 : wpC P C7_27 T L (rdy h) Q = wpC P (.seq (.reg L7_80) .ret) T L (rdy h) Q := rfl
def C7_28 : ACode := .cond (.t 115) C7_27 .skip
theorem u7_28 : wpC P C7_28 T L (rdy h) Q = wpC P (.cond (.t 115) C7_27 .skip) T L (rdy h) Q := rfl
def C7_29 : ACode := .seq (.reg L7_79) C7_28
theorem u7_29 : wpC P C7_29 T L (rdy h) Q = wpC P (.seq (.reg L7_79) C7_28) T L (rdy h) Q := rfl
def C7_30 : ACode := .seq (.reg L7_83) .ret
theorem u7_30 : wpC P C7_30 T L (rdy h) Q = wpC P (.seq (.reg L7_83) .ret) T L (rdy h) Q := rfl
def C7_31 : ACode := .cond (.t 118) C7_30 .skip
theorem u7_31 : wpC P C7_31 T L (rdy h) Q = wpC P (.cond (.t 118) C7_30 .skip) T L (rdy h) Q := rfl
def C7_32 : ACode := .seq (.reg L7_82) C7_31
theorem u7_32 : wpC P C7_32 T L (rdy h) Q = wpC P (.seq (.reg L7_82) C7_31) T L (rdy h) Q := rfl
def C7_33 : ACode := .seq (.reg L7_84) .ret
theorem u7_33 : wpC P C7_33 T L (rdy h) Q = wpC P (.seq (.reg L7_84) .ret) T L (rdy h) Q := rfl
def C7_34 : ACode := .seq C7_32 C7_33
theorem u7_34 : wpC P C7_34 T L (rdy h) Q = wpC P (.seq C7_32 C7_33) T L (rdy h) Q := rfl
def C7_35 : ACode := .seq C7_29 C7_34
theorem u7_35 : wpC P C7_35 T L (rdy h) Q = wpC P (.seq C7_29 C7_34) T L (rdy h) Q := rfl
def C7_36 : ACode := .seq (.reg L7_78) C7_35
theorem u7_36 : wpC P C7_36 T L (rdy h) Q = wpC P (.seq (.reg L7_78) C7_35) T L (rdy h) Q := rfl
def C7_37 : ACode := .seq (.reg L7_76) C7_36
theorem u7_37 : wpC P C7_37 T L (rdy h) Q = wpC P (.seq (.reg L7_76) C7_36) T L (rdy h) Q := rfl
def C7_38 : ACode := .seq C7_26 C7_37
theorem u7_38 : wpC P C7_38 T L (rdy h) Q = wpC P (.seq C7_26 C7_37) T L (rdy h) Q := rfl
def C7_39 : ACode := .seq (.reg L7_69) C7_38
theorem u7_39 : wpC P C7_39 T L (rdy h) Q = wpC P (.seq (.reg L7_69) C7_38) T L (rdy h) Q := rfl
def C7_40 : ACode := .seq C7_23 C7_39
theorem u7_40 : wpC P C7_40 T L (rdy h) Q = wpC P (.seq C7_23 C7_39) T L (rdy h) Q := rfl
def C7_41 : ACode := .seq C7_20 C7_40
theorem u7_41 : wpC P C7_41 T L (rdy h) Q = wpC P (.seq C7_20 C7_40) T L (rdy h) Q := rfl
def C7_42 : ACode := .seq (.reg L7_58) C7_41
theorem u7_42 : wpC P C7_42 T L (rdy h) Q = wpC P (.seq (.reg L7_58) C7_41) T L (rdy h) Q := rfl
def C7_43 : ACode := .seq (.reg L7_56) C7_42
theorem u7_43 : wpC P C7_43 T L (rdy h) Q = wpC P (.seq (.reg L7_56) C7_42) T L (rdy h) Q := rfl
def C7_44 : ACode := .seq (.reg L7_55) C7_43
theorem u7_44 : wpC P C7_44 T L (rdy h) Q = wpC P (.seq (.reg L7_55) C7_43) T L (rdy h) Q := rfl
def C7_45 : ACode := .seq (.reg L7_53) C7_44
theorem u7_45 : wpC P C7_45 T L (rdy h) Q = wpC P (.seq (.reg L7_53) C7_44) T L (rdy h) Q := rfl
def C7_46 : ACode := .seq C7_17 C7_45
theorem u7_46 : wpC P C7_46 T L (rdy h) Q = wpC P (.seq C7_17 C7_45) T L (rdy h) Q := rfl
def C7_47 : ACode := .seq (.reg L7_44) C7_46
theorem u7_47 : wpC P C7_47 T L (rdy h) Q = wpC P (.seq (.reg L7_44) C7_46) T L (rdy h) Q := rfl
def C7_48 : ACode := .seq (.reg L7_42) C7_47
theorem u7_48 : wpC P C7_48 T L (rdy h) Q = wpC P (.seq (.reg L7_42) C7_47) T L (rdy h) Q := rfl
def C7_49 : ACode := .seq (.reg L7_40) C7_48
theorem u7_49 : wpC P C7_49 T L (rdy h) Q = wpC P (.seq (.reg L7_40) C7_48) T L (rdy h) Q := rfl
def C7_50 : ACode := .seq C7_14 C7_49
theorem u7_50 : wpC P C7_50 T L (rdy h) Q = wpC P (.seq C7_14 C7_49) T L (rdy h) Q := rfl
def C7_51 : ACode := .seq C7_11 C7_50
theorem u7_51 : wpC P C7_51 T L (rdy h) Q = wpC P (.seq C7_11 C7_50) T L (rdy h) Q := rfl
def C7_52 : ACode := .seq C7_8 C7_51
theorem u7_52 : wpC P C7_52 T L (rdy h) Q = wpC P (.seq C7_8 C7_51) T L (rdy h) Q := rfl
def C7_53 : ACode := .seq (.reg L7_25) C7_52
theorem u7_53 : wpC P C7_53 T L (rdy h) Q = wpC P (.seq (.reg L7_25) C7_52) T L (rdy h) Q := rfl
def C7_54 : ACode := .seq (.reg L7_20) C7_53
theorem u7_54 : wpC P C7_54 T L (rdy h) Q = wpC P (.seq (.reg L7_20) C7_53) T L (rdy h) Q := rfl
def C7_55 : ACode := .seq (.reg L7_18) C7_54
theorem u7_55 : wpC P C7_55 T L (rdy h) Q = wpC P (.seq (.reg L7_18) C7_54) T L (rdy h) Q := rfl
def C7_56 : ACode := .seq (.reg L7_16) C7_55
theorem u7_56 : wpC P C7_56 T L (rdy h) Q = wpC P (.seq (.reg L7_16) C7_55) T L (rdy h) Q := rfl
def C7_57 : ACode := .seq C7_5 C7_56
theorem u7_57 : wpC P C7_57 T L (rdy h) Q = wpC P (.seq C7_5 C7_56) T L (rdy h) Q := rfl
def C7_58 : ACode := .seq (.reg L7_8) C7_57
theorem u7_58 : wpC P C7_58 T L (rdy h) Q = wpC P (.seq (.reg L7_8) C7_57) T L (rdy h) Q := rfl
def C7_59 : ACode := .seq C7_2 C7_58
theorem u7_59 : wpC P C7_59 T L (rdy h) Q = wpC P (.seq C7_2 C7_58) T L (rdy h) Q := rfl
def C7_60 : ACode := .seq (.reg L7_4) C7_59
theorem u7_60 : wpC P C7_60 T L (rdy h) Q = wpC P (.seq (.reg L7_4) C7_59) T L (rdy h) Q := rfl
def C7_61 : ACode := .seq (.reg L7_2) C7_60
theorem u7_61 : wpC P C7_61 T L (rdy h) Q = wpC P (.seq (.reg L7_2) C7_60) T L (rdy h) Q := rfl
def C7_62 : ACode := .seq (.reg L7_1) C7_61
theorem u7_62 : wpC P C7_62 T L (rdy h) Q = wpC P (.seq (.reg L7_1) C7_61) T L (rdy h) Q := rfl
def F7 : AFunc := ⟨119, [.tmp 4], C7_62⟩
theorem cF7 : compB Try.prog 7 = some F7 := by kernel_rfl
end
attribute [local go_sem ↓] u7_0 u7_1 u7_2 u7_3 u7_4 u7_5 u7_6 u7_7 u7_8 u7_9 u7_10 u7_11 u7_12 u7_13 u7_14 u7_15 u7_16 u7_17 u7_18 u7_19 u7_20 u7_21 u7_22 u7_23 u7_24 u7_25 u7_26 u7_27 u7_28 u7_29 u7_30 u7_31 u7_32 u7_33 u7_34 u7_35 u7_36 u7_37 u7_38 u7_39 u7_40 u7_41 u7_42 u7_43 u7_44 u7_45 u7_46 u7_47 u7_48 u7_49 u7_50 u7_51 u7_52 u7_53 u7_54 u7_55 u7_56 u7_57 u7_58 u7_59 u7_60 u7_61 u7_62 v7_0 v7_1 v7_2 v7_3 v7_4 v7_5 v7_6 v7_7 v7_8 v7_9 v7_10 v7_11 v7_12 v7_13 v7_14 v7_15 v7_16 v7_17 v7_18 v7_19 v7_20 v7_21 v7_22 v7_23 v7_24 v7_25 v7_26 v7_27 v7_28 v7_29 v7_30 v7_31 v7_32 v7_33 v7_34 v7_35 v7_36 v7_37 v7_38 v7_39 v7_40 v7_41 v7_42 v7_43 v7_44 v7_45 v7_46 v7_47 v7_48 v7_49 v7_50 v7_51 v7_52 v7_53 v7_54 v7_55 v7_56 v7_57 v7_58 v7_59 v7_60 v7_61 v7_62 v7_63 v7_64 v7_65 v7_66 v7_67 v7_68 v7_69 v7_70 v7_71 v7_72 v7_73 v7_74 v7_75 v7_76 v7_77 v7_78 v7_79 v7_80 v7_81 v7_82 v7_83 v7_84
theorem law7 (h : H) (avs : List AV) (hok : okVs Try.prog h 6 [ 63, 63 ] avs) : callK (bm Try.prog 7 avs h) fun r _ => r = ib true := by
  obtain ⟨v0, avs, rfl, hv0, hok⟩ := okVs_cons hok
  obtain ⟨v1, avs, rfl, hv1, hok⟩ := okVs_cons hok
  obtain rfl := okVs_nil hok
  obtain ⟨p0, n0, f0, rfl, d0⟩ := dFlat hv0
  obtain ⟨p1, n1, f1, rfl, d1⟩ := dFlat hv1
  refine bm_of cF7 ?_
  have z0 := c_szFlat f0 p0 n0 1048576 h (by omega) (by omega) d0.pl d0.nl d0.k0 d0.k1 d0.k2
  by_cases y0 : szr 1048576 (wtF f0) < 0
  · simp +contextual (maxSteps := 2000000) only [go_sem, Nat.reduceEqDiff, reduceCtorEq, Nat.reduceAdd, Nat.reduceLeDiff, F7, z0, decide_eq_true y0]
  have z1 := c_szFlat f1 p1 n1 (szr 1048576 (wtF f0)) h (by omega) (by unfold szr; split <;> omega) d1.pl d1.nl d1.k0 d1.k1 d1.k2
  by_cases y1 : szr (szr 1048576 (wtF f0)) (wtF f1) < 0
  · simp +contextual (maxSteps := 2000000) only [go_sem, Nat.reduceEqDiff, reduceCtorEq, Nat.reduceAdd, Nat.reduceLeDiff, F7, z0, z1, decide_eq_false y0, decide_eq_true y1]
  obtain ⟨e0, u0⟩ := szr_ge y0
  obtain ⟨e1, u1⟩ := szr_ge y1
  have s0 : miniF f0 := wtF_sm (by omega)
  have s1 : miniF f1 := wtF_sm (by omega)
  simp +contextual (maxSteps := 2000000) only [go_sem, Nat.reduceEqDiff, reduceCtorEq, Nat.reduceAdd, Nat.reduceLeDiff, F7, z0, z1, decide_eq_false y0, decide_eq_false y1]
  -- the reckoning's own answer
  refine wp_call (c_toFlat f0 p0 n0 h d0.pl d0.nl s0.pl s0.nl) ?_
  rintro r h1 ⟨g1, p2, n2, rfl, a2⟩
  simp +contextual (maxSteps := 2000000) only [go_sem, Nat.reduceEqDiff, reduceCtorEq, Nat.reduceAdd, Nat.reduceLeDiff]
  refine wp_call (c_toFlat f1 p1 n1 h1 (d1.grow g1).pl (d1.grow g1).nl s1.pl s1.nl) ?_
  rintro r h2 ⟨g2, p3, n3, rfl, a3⟩
  simp +contextual (maxSteps := 2000000) only [go_sem, Nat.reduceEqDiff, reduceCtorEq, Nat.reduceAdd, Nat.reduceLeDiff]
  refine wp_call (c_sOverFlat f0 f1 p2 n2 p3 n3 h2 (a2.sl.grow g2) a3.sl s0.sm s1.sm (by have := s0.pl; have := s1.pl; unfold big; omega) (by have := s0.nl; have := s1.nl; unfold big; omega)) ?_
  rintro r h3 ⟨g3, wp, wn, rfl, w3⟩
  simp +contextual (maxSteps := 2000000) only [go_sem, Nat.reduceEqDiff, reduceCtorEq, Nat.reduceAdd, Nat.reduceLeDiff]
  -- the inputs
  refine wp_call (c_toFlat f0 p0 n0 h3 (d0.grow ((g1.trans g2).trans g3)).pl (d0.grow ((g1.trans g2).trans g3)).nl s0.pl s0.nl) ?_
  rintro r h4 ⟨g4, p4, n4, rfl, a4⟩
  simp +contextual (maxSteps := 2000000) only [go_sem, Nat.reduceEqDiff, reduceCtorEq, Nat.reduceAdd, Nat.reduceLeDiff]
  refine wp_call (c_toFlat f1 p1 n1 h4 (d1.grow (((g1.trans g2).trans g3).trans g4)).pl (d1.grow (((g1.trans g2).trans g3).trans g4)).nl s1.pl s1.nl) ?_
  rintro r h5 ⟨g5, p5, n5, rfl, a5⟩
  simp +contextual (maxSteps := 2000000) only [go_sem, Nat.reduceEqDiff, reduceCtorEq, Nat.reduceAdd, Nat.reduceLeDiff]
  -- the program's own answer
  refine wp_call (c_OverFlat f0 f1 p4 n4 p5 n5 h5 (a4.sl.grow g5) a5.sl s0.sm s1.sm (by have := s0.pl; have := s1.pl; unfold big; omega) (by have := s0.nl; have := s1.nl; unfold big; omega)) ?_
  rintro r h6 ⟨g6, gp, gn, rfl, b6⟩
  have q6 := c_eqFlat (orF (OverFlat f0 f1)) (orF (OverFlat f0 f1)) gp gn wp wn h6 b6.sl.pl b6.sl.nl (w3.sl.grow (((g4.trans g5).trans g6))).pl (w3.sl.grow (((g4.trans g5).trans g6))).nl miniF.over.sm.pl miniF.over.sm.nl.1
  simp +contextual (maxSteps := 2000000) only [go_sem, Nat.reduceEqDiff, reduceCtorEq, Nat.reduceAdd, Nat.reduceLeDiff, q6, decide_true]
  have G6 : Grow h h6 := ((g1.trans g2).trans g3).trans ((g4.trans g5).trans g6)
  refine wp_call (c_toFlat f0 p0 n0 h6 (d0.grow G6).pl (d0.grow G6).nl s0.pl s0.nl) ?_
  rintro r h7 ⟨g7, p7, n7, rfl, a7⟩
  have q7 := c_eqFlat f0 f0 p4 n4 p7 n7 h7 (a4.sl.grow ((g5.trans g6).trans g7)).pl (a4.sl.grow ((g5.trans g6).trans g7)).nl a7.sl.pl a7.sl.nl s0.sm.pl s0.sm.nl.1
  simp +contextual (maxSteps := 2000000) only [go_sem, Nat.reduceEqDiff, reduceCtorEq, Nat.reduceAdd, Nat.reduceLeDiff, q7, decide_true]
  refine wp_call (c_toFlat f1 p1 n1 h7 (d1.grow (G6.trans g7)).pl (d1.grow (G6.trans g7)).nl s1.pl s1.nl) ?_
  rintro r h8 ⟨g8, p8, n8, rfl, a8⟩
  have q8 := c_eqFlat f1 f1 p5 n5 p8 n8 h8 (a5.sl.grow ((g6.trans g7).trans g8)).pl (a5.sl.grow ((g6.trans g7).trans g8)).nl a8.sl.pl a8.sl.nl s1.sm.pl s1.sm.nl.1
  simp +contextual (maxSteps := 2000000) only [go_sem, Nat.reduceEqDiff, reduceCtorEq, Nat.reduceAdd, Nat.reduceLeDiff, q8, decide_true]
  -- marks on the inputs
  have k0 := cellsF_le s0
  have k1 := cellsF_le s1
  have G8 : Grow h5 h8 := (g6.trans g7).trans g8
  refine wp_call (c_markFlat f0 p4 n4 1 h3 h4 h8 (a4.grow (g5.trans G8)) a4 ((g4.trans g5).trans G8) (by omega) (by omega) s0.pl s0.nl) ?_
  rintro r h9 ⟨rfl, G9, m9, M9⟩
  simp +contextual (maxSteps := 2000000) only [go_sem, Nat.reduceEqDiff, reduceCtorEq, Nat.reduceAdd, Nat.reduceLeDiff]
  refine wp_call (c_markFlat f1 p5 n5 _ h3 h5 h9 (((a5.grow G8).mid M9 (Nat.le_refl _)).from g4.n) (a5.from g4.n) G9 (by omega) (by omega) s1.pl s1.nl) ?_
  rintro r h10 ⟨rfl, G10, m10, M10⟩
  have M : Mid h3.n h5.n h8 h10 := (M9.widen g5.n).trans M10
  have b10 := (b6.grow (g7.trans g8)).mid M (Nat.le_refl _)
  have w10 := w3.grow G10
  have q10 := c_eqFlat (orF (OverFlat f0 f1)) (orF (OverFlat f0 f1)) gp gn wp wn h10 b10.sl.pl b10.sl.nl w10.sl.pl w10.sl.nl miniF.over.sm.pl miniF.over.sm.nl.1
  simp +contextual (maxSteps := 2000000) only [go_sem, Nat.reduceEqDiff, reduceCtorEq, Nat.reduceAdd, Nat.reduceLeDiff, q10, decide_true, decide_eq_false (show ¬ ((1 : Int) + (cellsF f0 : Nat) + (cellsF f1 : Nat) < 0) by omega)]
  -- marks on the answer
  have k2 := cellsF_le (miniF.over (f := f0) (g := f1))
  have l35 : h3.n ≤ h5.n := Nat.le_trans g4.n g5.n
  refine wp_call (c_markFlat _ gp gn 1 h3 h6 h10 (b10.from l35) (b6.from l35) G10 (by omega) (by omega) miniF.over.pl miniF.over.nl) ?_
  rintro r h11 ⟨rfl, G11, m11, M11⟩
  have q11 := c_heldFlat _ gp gn 1 h11 m11.sl (by omega) (by omega) miniF.over.pl miniF.over.nl
  simp +contextual (maxSteps := 2000000) only [go_sem, Nat.reduceEqDiff, reduceCtorEq, Nat.reduceAdd, Nat.reduceLeDiff, q11, decide_true, decide_eq_false (show ¬ ((1 : Int) + (cellsF (orF (OverFlat f0 f1)) : Nat) < 0) by omega)]
  -- a second run
  have H11 : Grow h h11 := ((g1.trans g2).trans g3).trans G11
  refine wp_call (c_toFlat f0 p0 n0 h11 (d0.grow H11).pl (d0.grow H11).nl s0.pl s0.nl) ?_
  rintro r h12 ⟨g12, p12, n12, rfl, a12⟩
  simp +contextual (maxSteps := 2000000) only [go_sem, Nat.reduceEqDiff, reduceCtorEq, Nat.reduceAdd, Nat.reduceLeDiff]
  refine wp_call (c_toFlat f1 p1 n1 h12 (d1.grow (H11.trans g12)).pl (d1.grow (H11.trans g12)).nl s1.pl s1.nl) ?_
  rintro r h13 ⟨g13, p13, n13, rfl, a13⟩
  simp +contextual (maxSteps := 2000000) only [go_sem, Nat.reduceEqDiff, reduceCtorEq, Nat.reduceAdd, Nat.reduceLeDiff]
  refine wp_call (c_OverFlat f0 f1 p12 n12 p13 n13 h13 (a12.sl.grow g13) a13.sl s0.sm s1.sm (by have := s0.pl; have := s1.pl; unfold big; omega) (by have := s0.nl; have := s1.nl; unfold big; omega)) ?_
  rintro r h14 ⟨g14, hp, hn, rfl, b14⟩
  have G14 : Grow h11 h14 := (g12.trans g13).trans g14
  have w14 := w3.grow (G11.trans G14)
  have q14 := c_eqFlat (orF (OverFlat f0 f1)) (orF (OverFlat f0 f1)) hp hn wp wn h14 b14.sl.pl b14.sl.nl w14.sl.pl w14.sl.nl miniF.over.sm.pl miniF.over.sm.nl.1
  have q15 := c_heldFlat _ gp gn 1 h14 (m11.sl.grow G14) (by omega) (by omega) miniF.over.pl miniF.over.nl
  simp +contextual (maxSteps := 2000000) only [go_sem, Nat.reduceEqDiff, reduceCtorEq, Nat.reduceAdd, Nat.reduceLeDiff, q14, q15, decide_true, decide_eq_false (show ¬ ((1 : Int) + (cellsF (orF (OverFlat f0 f1)) : Nat) < 0) by omega)]
  exact gcK_of rfl (fun _ _ => rfl)
end Go.Proofs.Ytnphlonhogcedaa.Am
