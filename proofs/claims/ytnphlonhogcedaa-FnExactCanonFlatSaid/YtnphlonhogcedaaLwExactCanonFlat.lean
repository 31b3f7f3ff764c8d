/- The law FnExactCanonFlat. -/
import Derived.Test.YtnphlonhogcedaaK
import Derived.Test.YtnphlonhogcedaaBK
namespace Go.Proofs.Ytnphlonhogcedaa.Am
open Go
set_option maxRecDepth 100000
set_option maxHeartbeats 4000000
set_option linter.unusedSimpArgs false
set_option linter.unusedVariables false
attribute [local go_sem ↓] bv_t bv_c ev_t ev_c put_same put_ne put_none kill_at pro_at lb_same lb_ne start_zero start_succ wpC_seq wpC_reg wpC_cond wpC_block wpC_skip wpC_exit wpC_ret thenQ_normal thenQ_exit thenQ_ret inBlk_normal inBlk_exit inBlk_ret wpS_nil wpS_step wpS_again wpS_guard wpO_mov wpO_load wpO_faddr wpO_nilCheck wpO_pick wpO_build wpO_bin wpO_eqb wpO_eqst wpO_eqnil wpO_not wpO_conv wpO_bytesStr wpO_iaddr wpO_idxStr wpO_field wpO_extract wpO_len wpO_lenStr wpO_cap wpO_min wpO_slice wpO_sliceStr wpO_alloc wpO_box wpO_store wpO_call wpO_callv wpO_mkfn wpO_buildSlice wpO_mkslice wpO_append wpO_appz proA_nil proA_cons tmpX_nil tmpX_tmp tmpX_cell doneB_normal doneB_ret agK_cons agK_nil pureB_load results_one results_two results_nil resBs_cons resBs_nil resB_tmp resB_cell
attribute [local go_sem] kill_v kill_lp_ne kill_lp_same pro_v pro_lp_same pro_lp_ne av_v av_lp optB_some optX_some valX_eq ldX_lp ldX_v faX_lp faX_v ncX_lp ncX_ptr ncX_fn boxK_one boxK_agg stL_some stK_lp_one stK_lp_agg stK_v_one stK_v_agg proM_v proM_lp callG_mk callVG_mk callvK_fn fnG_mk ptrsA_nil ptrsA_cons callH_some whenA_true whenA_false guardH_tt guardH_ff guardH_tf guardH_ft guardH_undef agV_one agV_agg lenO_sl lenStrO_str notO_bool pickO_bool convO_int eqbO_bool eqnilO_sl extractO_tup capO_sl minO_int loadL_one loadL_all storeL_eq fillA_nil fillA_one fillA_agg nat_ge neg_ge nat_lt neg_lt buildO bin_add bin_sub bin_mul bin_eql bin_neq bin_lss bin_leq bin_gtr bin_geq str_eql str_neq str_lss str_leq str_gtr str_geq retK_some endK_mk gcK_same gcK_int gcK_bool tupO_one tupO_agg rdy_self ib ii Option.map_none Option.map_some Option.some.injEq exists_eq_left' exists_eq_left ne_eq not_false_eq_true if_true if_false List.map_cons List.map_nil List.getElem?_cons_zero List.getElem?_cons_succ List.length_cons List.length_nil List.take_succ_cons List.take_zero List.take_nil List.drop_succ_cons List.drop_zero List.drop_nil List.cons_append List.nil_append List.append_nil List.set_cons_zero List.set_cons_succ Nat.zero_add forall_const true_and and_true and_self Bool.false_eq_true false_implies true_implies implies_true Bool.not_true Bool.not_false Bool.not_eq_true' Bool.not_eq_false' beq_self_eq_true Bool.bne_true Bool.bne_false
attribute [local go_sem] lenI lenS lenP lenQ lenB lenL lenT encI_0 encS_0 encP_0 encP_1 encQ_0 encQ_1 encQ_2 encQ_3 encB_0 encB_1 encL_0 encL_1 encT_0 encT_1
attribute [local go_sem low] whenA_bool guardH_bool
section
variable {P : Program} {T : Tb} {L : Lb} {h : H} {Q : PostC} {K : Post}
/-! laws.FnExactCanonFlat -/
def L9_0 : List AStep := [⟨.mov (.c (.bool false)), (some 4), none, []⟩]
theorem v9_0 : wpS P L9_0 T L (rdy h) K = wpS P ([⟨.mov (.c (.bool false)), (some 4), none, []⟩]) T L (rdy h) K := rfl
def L9_1 : List AStep := ⟨.box 74 (.t 0), (some 2), none, []⟩ :: ⟨.box 63 (.t 1), (some 3), none, []⟩ :: L9_0
theorem v9_1 : wpS P L9_1 T L (rdy h) K = wpS P (⟨.box 74 (.t 0), (some 2), none, []⟩ :: ⟨.box 63 (.t 1), (some 3), none, []⟩ :: L9_0) T L (rdy h) K := rfl
def L9_2 : List AStep := [⟨.mov (.c (.int .i64 1048576)), (some 5), none, []⟩]
theorem v9_2 : wpS P L9_2 T L (rdy h) K = wpS P ([⟨.mov (.c (.int .i64 1048576)), (some 5), none, []⟩]) T L (rdy h) K := rfl
def L9_3 : List AStep := [⟨.call 46 [(.t 17), (.t 18)], (some 19), none, []⟩, ⟨.mov (.t 19), (some 5), none, []⟩]
theorem v9_3 : wpS P L9_3 T L (rdy h) K = wpS P ([⟨.call 46 [(.t 17), (.t 18)], (some 19), none, []⟩, ⟨.mov (.t 19), (some 5), none, []⟩]) T L (rdy h) K := rfl
def L9_4 : List AStep := ⟨.load 1 true (.t 2), (some 17), none, []⟩ :: ⟨.mov (.t 5), (some 18), none, []⟩ :: L9_3
theorem v9_4 : wpS P L9_4 T L (rdy h) K = wpS P (⟨.load 1 true (.t 2), (some 17), none, []⟩ :: ⟨.mov (.t 5), (some 18), none, []⟩ :: L9_3) T L (rdy h) K := rfl
def L9_5 : List AStep := [⟨.mov (.t 5), (some 20), none, []⟩, ⟨.bin .lss (.t 20) (.c (.int .i64 0)), (some 21), none, []⟩]
theorem v9_5 : wpS P L9_5 T L (rdy h) K = wpS P ([⟨.mov (.t 5), (some 20), none, []⟩, ⟨.bin .lss (.t 20) (.c (.int .i64 0)), (some 21), none, []⟩]) T L (rdy h) K := rfl
def L9_6 : List AStep := [⟨.mov (.c (.bool true)), (some 4), none, []⟩]
theorem v9_6 : wpS P L9_6 T L (rdy h) K = wpS P ([⟨.mov (.c (.bool true)), (some 4), none, []⟩]) T L (rdy h) K := rfl
def L9_7 : List AStep := [⟨.call 33 [(.t 22), (.t 23)], (some 24), none, []⟩, ⟨.mov (.t 24), (some 5), none, []⟩]
theorem v9_7 : wpS P L9_7 T L (rdy h) K = wpS P ([⟨.call 33 [(.t 22), (.t 23)], (some 24), none, []⟩, ⟨.mov (.t 24), (some 5), none, []⟩]) T L (rdy h) K := rfl
def L9_8 : List AStep := ⟨.load 2 true (.t 3), (some 22), none, []⟩ :: ⟨.mov (.t 5), (some 23), none, []⟩ :: L9_7
theorem v9_8 : wpS P L9_8 T L (rdy h) K = wpS P (⟨.load 2 true (.t 3), (some 22), none, []⟩ :: ⟨.mov (.t 5), (some 23), none, []⟩ :: L9_7) T L (rdy h) K := rfl
def L9_9 : List AStep := [⟨.mov (.t 5), (some 25), none, []⟩, ⟨.bin .lss (.t 25) (.c (.int .i64 0)), (some 26), none, []⟩]
theorem v9_9 : wpS P L9_9 T L (rdy h) K = wpS P ([⟨.mov (.t 5), (some 25), none, []⟩, ⟨.bin .lss (.t 25) (.c (.int .i64 0)), (some 26), none, []⟩]) T L (rdy h) K := rfl
def L9_10 : List AStep := [⟨.mov (.c (.bool true)), (some 4), none, []⟩]
theorem v9_10 : wpS P L9_10 T L (rdy h) K = wpS P ([⟨.mov (.c (.bool true)), (some 4), none, []⟩]) T L (rdy h) K := rfl
def L9_11 : List AStep := [⟨.mov (.t 34), (some 7), none, []⟩]
theorem v9_11 : wpS P L9_11 T L (rdy h) K = wpS P ([⟨.mov (.t 34), (some 7), none, []⟩]) T L (rdy h) K := rfl
def L9_12 : List AStep := ⟨.extract (.t 27) 1, (some 34), none, []⟩ :: ⟨.store 2 (.t 6) (.t 33), none, none, []⟩ :: L9_11
theorem v9_12 : wpS P L9_12 T L (rdy h) K = wpS P (⟨.extract (.t 27) 1, (some 34), none, []⟩ :: ⟨.store 2 (.t 6) (.t 33), none, none, []⟩ :: L9_11) T L (rdy h) K := rfl
def L9_13 : List AStep := ⟨.mov (.t 32), (some 27), none, []⟩ :: ⟨.extract (.t 27) 0, (some 33), none, []⟩ :: L9_12
theorem v9_13 : wpS P L9_13 T L (rdy h) K = wpS P (⟨.mov (.t 32), (some 27), none, []⟩ :: ⟨.extract (.t 27) 0, (some 33), none, []⟩ :: L9_12) T L (rdy h) K := rfl
def L9_14 : List AStep := ⟨.call 35 [(.t 30)], (some 31), none, []⟩ :: ⟨.call 47 [(.t 29), (.t 31)], (some 32), none, []⟩ :: L9_13
theorem v9_14 : wpS P L9_14 T L (rdy h) K = wpS P (⟨.call 35 [(.t 30)], (some 31), none, []⟩ :: ⟨.call 47 [(.t 29), (.t 31)], (some 32), none, []⟩ :: L9_13) T L (rdy h) K := rfl
def L9_15 : List AStep := ⟨.alloc 30 [(.sl none 0 (some 0)), (.sl none 0 (some 0))], (some 6), none, []⟩ :: ⟨.call 48 [(.t 28)], (some 29), none, [(.load 2 true (.t 3), (some 30), none)]⟩ :: L9_14
theorem v9_15 : wpS P L9_15 T L (rdy h) K = wpS P (⟨.alloc 30 [(.sl none 0 (some 0)), (.sl none 0 (some 0))], (some 6), none, []⟩ :: ⟨.call 48 [(.t 28)], (some 29), none, [(.load 2 true (.t 3), (some 30), none)]⟩ :: L9_14) T L (rdy h) K := rfl
def L9_16 : List AStep := ⟨.load 1 true (.t 2), (some 28), none, []⟩ :: ⟨.load 2 true (.t 3), (some 30), none, []⟩ :: L9_15
theorem v9_16 : wpS P L9_16 T L (rdy h) K = wpS P (⟨.load 1 true (.t 2), (some 28), none, []⟩ :: ⟨.load 2 true (.t 3), (some 30), none, []⟩ :: L9_15) T L (rdy h) K := rfl
def L9_17 : List AStep := [⟨.alloc 51 [(.sl none 0 (some 0))], (some 8), none, []⟩, ⟨.store 1 (.t 8) (.t 36), none, none, []⟩]
theorem v9_17 : wpS P L9_17 T L (rdy h) K = wpS P ([⟨.alloc 51 [(.sl none 0 (some 0))], (some 8), none, []⟩, ⟨.store 1 (.t 8) (.t 36), none, none, []⟩]) T L (rdy h) K := rfl
def L9_18 : List AStep := ⟨.load 1 true (.t 2), (some 35), none, []⟩ :: ⟨.call 48 [(.t 35)], (some 36), none, []⟩ :: L9_17
theorem v9_18 : wpS P L9_18 T L (rdy h) K = wpS P (⟨.load 1 true (.t 2), (some 35), none, []⟩ :: ⟨.call 48 [(.t 35)], (some 36), none, []⟩ :: L9_17) T L (rdy h) K := rfl
def L9_19 : List AStep := [⟨.alloc 30 [(.sl none 0 (some 0)), (.sl none 0 (some 0))], (some 9), none, []⟩, ⟨.store 2 (.t 9) (.t 38), none, none, []⟩]
theorem v9_19 : wpS P L9_19 T L (rdy h) K = wpS P ([⟨.alloc 30 [(.sl none 0 (some 0)), (.sl none 0 (some 0))], (some 9), none, []⟩, ⟨.store 2 (.t 9) (.t 38), none, none, []⟩]) T L (rdy h) K := rfl
def L9_20 : List AStep := ⟨.load 2 true (.t 3), (some 37), none, []⟩ :: ⟨.call 35 [(.t 37)], (some 38), none, []⟩ :: L9_19
theorem v9_20 : wpS P L9_20 T L (rdy h) K = wpS P (⟨.load 2 true (.t 3), (some 37), none, []⟩ :: ⟨.call 35 [(.t 37)], (some 38), none, []⟩ :: L9_19) T L (rdy h) K := rfl
def L9_21 : List AStep := [⟨.mov (.t 44), (some 11), none, []⟩]
theorem v9_21 : wpS P L9_21 T L (rdy h) K = wpS P ([⟨.mov (.t 44), (some 11), none, []⟩]) T L (rdy h) K := rfl
def L9_22 : List AStep := ⟨.alloc 30 [(.sl none 0 (some 0)), (.sl none 0 (some 0))], (some 10), none, []⟩ :: ⟨.store 2 (.t 10) (.t 43), none, none, []⟩ :: L9_21
theorem v9_22 : wpS P L9_22 T L (rdy h) K = wpS P (⟨.alloc 30 [(.sl none 0 (some 0)), (.sl none 0 (some 0))], (some 10), none, []⟩ :: ⟨.store 2 (.t 10) (.t 43), none, none, []⟩ :: L9_21) T L (rdy h) K := rfl
def L9_23 : List AStep := ⟨.extract (.t 39) 0, (some 43), none, []⟩ :: ⟨.extract (.t 39) 1, (some 44), none, []⟩ :: L9_22
theorem v9_23 : wpS P L9_23 T L (rdy h) K = wpS P (⟨.extract (.t 39) 0, (some 43), none, []⟩ :: ⟨.extract (.t 39) 1, (some 44), none, []⟩ :: L9_22) T L (rdy h) K := rfl
def L9_24 : List AStep := ⟨.call 49 [(.t 40), (.t 41)], (some 42), none, []⟩ :: ⟨.mov (.t 42), (some 39), none, []⟩ :: L9_23
theorem v9_24 : wpS P L9_24 T L (rdy h) K = wpS P (⟨.call 49 [(.t 40), (.t 41)], (some 42), none, []⟩ :: ⟨.mov (.t 42), (some 39), none, []⟩ :: L9_23) T L (rdy h) K := rfl
def L9_25 : List AStep := ⟨.load 1 true (.t 8), (some 40), none, []⟩ :: ⟨.load 2 true (.t 9), (some 41), none, []⟩ :: L9_24
theorem v9_25 : wpS P L9_25 T L (rdy h) K = wpS P (⟨.load 1 true (.t 8), (some 40), none, []⟩ :: ⟨.load 2 true (.t 9), (some 41), none, []⟩ :: L9_24) T L (rdy h) K := rfl
def L9_26 : List AStep := [⟨.pick (.t 49) (.c (.bool true)) (.t 52), (some 53), none, []⟩]
theorem v9_26 : wpS P L9_26 T L (rdy h) K = wpS P ([⟨.pick (.t 49) (.c (.bool true)) (.t 52), (some 53), none, []⟩]) T L (rdy h) K := rfl
def L9_27 : List AStep := ⟨.mov (.t 7), (some 51), (some (49, false)), []⟩ :: ⟨.eqb true (.t 50) (.t 51), (some 52), (some (49, false)), []⟩ :: L9_26
theorem v9_27 : wpS P L9_27 T L (rdy h) K = wpS P (⟨.mov (.t 7), (some 51), (some (49, false)), []⟩ :: ⟨.eqb true (.t 50) (.t 51), (some 52), (some (49, false)), []⟩ :: L9_26) T L (rdy h) K := rfl
def L9_28 : List AStep := ⟨.mov (.t 48), (some 49), none, []⟩ :: ⟨.mov (.t 11), (some 50), (some (49, false)), []⟩ :: L9_27
theorem v9_28 : wpS P L9_28 T L (rdy h) K = wpS P (⟨.mov (.t 48), (some 49), none, []⟩ :: ⟨.mov (.t 11), (some 50), (some (49, false)), []⟩ :: L9_27) T L (rdy h) K := rfl
def L9_29 : List AStep := ⟨.call 37 [(.t 45), (.t 46)], (some 47), none, []⟩ :: ⟨.not (.t 47), (some 48), none, []⟩ :: L9_28
theorem v9_29 : wpS P L9_29 T L (rdy h) K = wpS P (⟨.call 37 [(.t 45), (.t 46)], (some 47), none, []⟩ :: ⟨.not (.t 47), (some 48), none, []⟩ :: L9_28) T L (rdy h) K := rfl
def L9_30 : List AStep := ⟨.load 2 true (.t 10), (some 45), none, []⟩ :: ⟨.load 2 true (.t 6), (some 46), none, []⟩ :: L9_29
theorem v9_30 : wpS P L9_30 T L (rdy h) K = wpS P (⟨.load 2 true (.t 10), (some 45), none, []⟩ :: ⟨.load 2 true (.t 6), (some 46), none, []⟩ :: L9_29) T L (rdy h) K := rfl
def L9_31 : List AStep := [⟨.mov (.c (.bool false)), (some 4), none, []⟩]
theorem v9_31 : wpS P L9_31 T L (rdy h) K = wpS P ([⟨.mov (.c (.bool false)), (some 4), none, []⟩]) T L (rdy h) K := rfl
def L9_32 : List AStep := [⟨.not (.t 57), (some 58), none, []⟩]
theorem v9_32 : wpS P L9_32 T L (rdy h) K = wpS P ([⟨.not (.t 57), (some 58), none, []⟩]) T L (rdy h) K := rfl
def L9_33 : List AStep := ⟨.call 48 [(.t 55)], (some 56), none, [(.load 1 true (.t 8), (some 54), none)]⟩ :: ⟨.call 50 [(.t 54), (.t 56)], (some 57), none, []⟩ :: L9_32
theorem v9_33 : wpS P L9_33 T L (rdy h) K = wpS P (⟨.call 48 [(.t 55)], (some 56), none, [(.load 1 true (.t 8), (some 54), none)]⟩ :: ⟨.call 50 [(.t 54), (.t 56)], (some 57), none, []⟩ :: L9_32) T L (rdy h) K := rfl
def L9_34 : List AStep := ⟨.load 1 true (.t 8), (some 54), none, []⟩ :: ⟨.load 1 true (.t 2), (some 55), none, []⟩ :: L9_33
theorem v9_34 : wpS P L9_34 T L (rdy h) K = wpS P (⟨.load 1 true (.t 8), (some 54), none, []⟩ :: ⟨.load 1 true (.t 2), (some 55), none, []⟩ :: L9_33) T L (rdy h) K := rfl
def L9_35 : List AStep := [⟨.mov (.c (.bool false)), (some 4), none, []⟩]
theorem v9_35 : wpS P L9_35 T L (rdy h) K = wpS P ([⟨.mov (.c (.bool false)), (some 4), none, []⟩]) T L (rdy h) K := rfl
def L9_36 : List AStep := [⟨.not (.t 62), (some 63), none, []⟩]
theorem v9_36 : wpS P L9_36 T L (rdy h) K = wpS P ([⟨.not (.t 62), (some 63), none, []⟩]) T L (rdy h) K := rfl
def L9_37 : List AStep := ⟨.call 35 [(.t 60)], (some 61), none, [(.load 2 true (.t 9), (some 59), none)]⟩ :: ⟨.call 37 [(.t 59), (.t 61)], (some 62), none, []⟩ :: L9_36
theorem v9_37 : wpS P L9_37 T L (rdy h) K = wpS P (⟨.call 35 [(.t 60)], (some 61), none, [(.load 2 true (.t 9), (some 59), none)]⟩ :: ⟨.call 37 [(.t 59), (.t 61)], (some 62), none, []⟩ :: L9_36) T L (rdy h) K := rfl
def L9_38 : List AStep := ⟨.load 2 true (.t 9), (some 59), none, []⟩ :: ⟨.load 2 true (.t 3), (some 60), none, []⟩ :: L9_37
theorem v9_38 : wpS P L9_38 T L (rdy h) K = wpS P (⟨.load 2 true (.t 9), (some 59), none, []⟩ :: ⟨.load 2 true (.t 3), (some 60), none, []⟩ :: L9_37) T L (rdy h) K := rfl
def L9_39 : List AStep := [⟨.mov (.c (.bool false)), (some 4), none, []⟩]
theorem v9_39 : wpS P L9_39 T L (rdy h) K = wpS P ([⟨.mov (.c (.bool false)), (some 4), none, []⟩]) T L (rdy h) K := rfl
def L9_40 : List AStep := [⟨.mov (.c (.int .i64 1)), (some 12), none, []⟩]
theorem v9_40 : wpS P L9_40 T L (rdy h) K = wpS P ([⟨.mov (.c (.int .i64 1)), (some 12), none, []⟩]) T L (rdy h) K := rfl
def L9_41 : List AStep := [⟨.call 51 [(.t 64), (.t 65)], (some 66), none, []⟩, ⟨.mov (.t 66), (some 12), none, []⟩]
theorem v9_41 : wpS P L9_41 T L (rdy h) K = wpS P ([⟨.call 51 [(.t 64), (.t 65)], (some 66), none, []⟩, ⟨.mov (.t 66), (some 12), none, []⟩]) T L (rdy h) K := rfl
def L9_42 : List AStep := ⟨.load 1 true (.t 8), (some 64), none, []⟩ :: ⟨.mov (.t 12), (some 65), none, []⟩ :: L9_41
theorem v9_42 : wpS P L9_42 T L (rdy h) K = wpS P (⟨.load 1 true (.t 8), (some 64), none, []⟩ :: ⟨.mov (.t 12), (some 65), none, []⟩ :: L9_41) T L (rdy h) K := rfl
def L9_43 : List AStep := [⟨.call 38 [(.t 67), (.t 68)], (some 69), none, []⟩, ⟨.mov (.t 69), (some 12), none, []⟩]
theorem v9_43 : wpS P L9_43 T L (rdy h) K = wpS P ([⟨.call 38 [(.t 67), (.t 68)], (some 69), none, []⟩, ⟨.mov (.t 69), (some 12), none, []⟩]) T L (rdy h) K := rfl
def L9_44 : List AStep := ⟨.load 2 true (.t 9), (some 67), none, []⟩ :: ⟨.mov (.t 12), (some 68), none, []⟩ :: L9_43
theorem v9_44 : wpS P L9_44 T L (rdy h) K = wpS P (⟨.load 2 true (.t 9), (some 67), none, []⟩ :: ⟨.mov (.t 12), (some 68), none, []⟩ :: L9_43) T L (rdy h) K := rfl
def L9_45 : List AStep := [⟨.pick (.t 78) (.c (.bool true)) (.t 81), (some 82), none, []⟩]
theorem v9_45 : wpS P L9_45 T L (rdy h) K = wpS P ([⟨.pick (.t 78) (.c (.bool true)) (.t 81), (some 82), none, []⟩]) T L (rdy h) K := rfl
def L9_46 : List AStep := ⟨.mov (.t 7), (some 80), (some (78, false)), []⟩ :: ⟨.eqb true (.t 79) (.t 80), (some 81), (some (78, false)), []⟩ :: L9_45
theorem v9_46 : wpS P L9_46 T L (rdy h) K = wpS P (⟨.mov (.t 7), (some 80), (some (78, false)), []⟩ :: ⟨.eqb true (.t 79) (.t 80), (some 81), (some (78, false)), []⟩ :: L9_45) T L (rdy h) K := rfl
def L9_47 : List AStep := ⟨.mov (.t 77), (some 78), none, []⟩ :: ⟨.mov (.t 11), (some 79), (some (78, false)), []⟩ :: L9_46
theorem v9_47 : wpS P L9_47 T L (rdy h) K = wpS P (⟨.mov (.t 77), (some 78), none, []⟩ :: ⟨.mov (.t 11), (some 79), (some (78, false)), []⟩ :: L9_46) T L (rdy h) K := rfl
def L9_48 : List AStep := ⟨.not (.t 75), (some 76), (some (72, false)), []⟩ :: ⟨.pick (.t 72) (.c (.bool true)) (.t 76), (some 77), none, []⟩ :: L9_47
theorem v9_48 : wpS P L9_48 T L (rdy h) K = wpS P (⟨.not (.t 75), (some 76), (some (72, false)), []⟩ :: ⟨.pick (.t 72) (.c (.bool true)) (.t 76), (some 77), none, []⟩ :: L9_47) T L (rdy h) K := rfl
def L9_49 : List AStep := ⟨.load 2 true (.t 6), (some 74), (some (72, false)), []⟩ :: ⟨.call 37 [(.t 73), (.t 74)], (some 75), (some (72, false)), []⟩ :: L9_48
theorem v9_49 : wpS P L9_49 T L (rdy h) K = wpS P (⟨.load 2 true (.t 6), (some 74), (some (72, false)), []⟩ :: ⟨.call 37 [(.t 73), (.t 74)], (some 75), (some (72, false)), []⟩ :: L9_48) T L (rdy h) K := rfl
def L9_50 : List AStep := ⟨.mov (.t 71), (some 72), none, []⟩ :: ⟨.load 2 true (.t 10), (some 73), (some (72, false)), []⟩ :: L9_49
theorem v9_50 : wpS P L9_50 T L (rdy h) K = wpS P (⟨.mov (.t 71), (some 72), none, []⟩ :: ⟨.load 2 true (.t 10), (some 73), (some (72, false)), []⟩ :: L9_49) T L (rdy h) K := rfl
def L9_51 : List AStep := ⟨.mov (.t 12), (some 70), none, []⟩ :: ⟨.bin .lss (.t 70) (.c (.int .i64 0)), (some 71), none, []⟩ :: L9_50
theorem v9_51 : wpS P L9_51 T L (rdy h) K = wpS P (⟨.mov (.t 12), (some 70), none, []⟩ :: ⟨.bin .lss (.t 70) (.c (.int .i64 0)), (some 71), none, []⟩ :: L9_50) T L (rdy h) K := rfl
def L9_52 : List AStep := [⟨.mov (.c (.bool false)), (some 4), none, []⟩]
theorem v9_52 : wpS P L9_52 T L (rdy h) K = wpS P ([⟨.mov (.c (.bool false)), (some 4), none, []⟩]) T L (rdy h) K := rfl
def L9_53 : List AStep := [⟨.mov (.c (.int .i64 1)), (some 13), none, []⟩]
theorem v9_53 : wpS P L9_53 T L (rdy h) K = wpS P ([⟨.mov (.c (.int .i64 1)), (some 13), none, []⟩]) T L (rdy h) K := rfl
def L9_54 : List AStep := [⟨.call 38 [(.t 83), (.t 84)], (some 85), none, []⟩, ⟨.mov (.t 85), (some 13), none, []⟩]
theorem v9_54 : wpS P L9_54 T L (rdy h) K = wpS P ([⟨.call 38 [(.t 83), (.t 84)], (some 85), none, []⟩, ⟨.mov (.t 85), (some 13), none, []⟩]) T L (rdy h) K := rfl
def L9_55 : List AStep := ⟨.load 2 true (.t 10), (some 83), none, []⟩ :: ⟨.mov (.t 13), (some 84), none, []⟩ :: L9_54
theorem v9_55 : wpS P L9_55 T L (rdy h) K = wpS P (⟨.load 2 true (.t 10), (some 83), none, []⟩ :: ⟨.mov (.t 13), (some 84), none, []⟩ :: L9_54) T L (rdy h) K := rfl
def L9_56 : List AStep := [⟨.mov (.c (.int .i64 1)), (some 14), none, []⟩]
theorem v9_56 : wpS P L9_56 T L (rdy h) K = wpS P ([⟨.mov (.c (.int .i64 1)), (some 14), none, []⟩]) T L (rdy h) K := rfl
def L9_57 : List AStep := [⟨.call 43 [(.t 86), (.t 87)], (some 88), none, []⟩, ⟨.mov (.t 88), (some 14), none, []⟩]
theorem v9_57 : wpS P L9_57 T L (rdy h) K = wpS P ([⟨.call 43 [(.t 86), (.t 87)], (some 88), none, []⟩, ⟨.mov (.t 88), (some 14), none, []⟩]) T L (rdy h) K := rfl
def L9_58 : List AStep := ⟨.load 2 true (.t 10), (some 86), none, []⟩ :: ⟨.mov (.t 14), (some 87), none, []⟩ :: L9_57
theorem v9_58 : wpS P L9_58 T L (rdy h) K = wpS P (⟨.load 2 true (.t 10), (some 86), none, []⟩ :: ⟨.mov (.t 14), (some 87), none, []⟩ :: L9_57) T L (rdy h) K := rfl
def L9_59 : List AStep := [⟨.mov (.t 14), (some 89), none, []⟩, ⟨.bin .lss (.t 89) (.c (.int .i64 0)), (some 90), none, []⟩]
theorem v9_59 : wpS P L9_59 T L (rdy h) K = wpS P ([⟨.mov (.t 14), (some 89), none, []⟩, ⟨.bin .lss (.t 89) (.c (.int .i64 0)), (some 90), none, []⟩]) T L (rdy h) K := rfl
def L9_60 : List AStep := [⟨.mov (.c (.bool false)), (some 4), none, []⟩]
theorem v9_60 : wpS P L9_60 T L (rdy h) K = wpS P ([⟨.mov (.c (.bool false)), (some 4), none, []⟩]) T L (rdy h) K := rfl
def L9_61 : List AStep := [⟨.bin .neq (.t 91) (.t 92), (some 93), none, []⟩]
theorem v9_61 : wpS P L9_61 T L (rdy h) K = wpS P ([⟨.bin .neq (.t 91) (.t 92), (some 93), none, []⟩]) T L (rdy h) K := rfl
def L9_62 : List AStep := ⟨.mov (.t 14), (some 91), none, []⟩ :: ⟨.mov (.t 13), (some 92), none, []⟩ :: L9_61
theorem v9_62 : wpS P L9_62 T L (rdy h) K = wpS P (⟨.mov (.t 14), (some 91), none, []⟩ :: ⟨.mov (.t 13), (some 92), none, []⟩ :: L9_61) T L (rdy h) K := rfl
def L9_63 : List AStep := [⟨.mov (.c (.bool false)), (some 4), none, []⟩]
theorem v9_63 : wpS P L9_63 T L (rdy h) K = wpS P ([⟨.mov (.c (.bool false)), (some 4), none, []⟩]) T L (rdy h) K := rfl
def L9_64 : List AStep := [⟨.mov (.t 101), (some 16), none, []⟩]
theorem v9_64 : wpS P L9_64 T L (rdy h) K = wpS P ([⟨.mov (.t 101), (some 16), none, []⟩]) T L (rdy h) K := rfl
def L9_65 : List AStep := ⟨.extract (.t 94) 1, (some 101), none, []⟩ :: ⟨.store 2 (.t 15) (.t 100), none, none, []⟩ :: L9_64
theorem v9_65 : wpS P L9_65 T L (rdy h) K = wpS P (⟨.extract (.t 94) 1, (some 101), none, []⟩ :: ⟨.store 2 (.t 15) (.t 100), none, none, []⟩ :: L9_64) T L (rdy h) K := rfl
def L9_66 : List AStep := ⟨.mov (.t 99), (some 94), none, []⟩ :: ⟨.extract (.t 94) 0, (some 100), none, []⟩ :: L9_65
theorem v9_66 : wpS P L9_66 T L (rdy h) K = wpS P (⟨.mov (.t 99), (some 94), none, []⟩ :: ⟨.extract (.t 94) 0, (some 100), none, []⟩ :: L9_65) T L (rdy h) K := rfl
def L9_67 : List AStep := ⟨.call 35 [(.t 97)], (some 98), none, []⟩ :: ⟨.call 49 [(.t 96), (.t 98)], (some 99), none, []⟩ :: L9_66
theorem v9_67 : wpS P L9_67 T L (rdy h) K = wpS P (⟨.call 35 [(.t 97)], (some 98), none, []⟩ :: ⟨.call 49 [(.t 96), (.t 98)], (some 99), none, []⟩ :: L9_66) T L (rdy h) K := rfl
def L9_68 : List AStep := ⟨.alloc 30 [(.sl none 0 (some 0)), (.sl none 0 (some 0))], (some 15), none, []⟩ :: ⟨.call 48 [(.t 95)], (some 96), none, [(.load 2 true (.t 3), (some 97), none)]⟩ :: L9_67
theorem v9_68 : wpS P L9_68 T L (rdy h) K = wpS P (⟨.alloc 30 [(.sl none 0 (some 0)), (.sl none 0 (some 0))], (some 15), none, []⟩ :: ⟨.call 48 [(.t 95)], (some 96), none, [(.load 2 true (.t 3), (some 97), none)]⟩ :: L9_67) T L (rdy h) K := rfl
def L9_69 : List AStep := ⟨.load 1 true (.t 2), (some 95), none, []⟩ :: ⟨.load 2 true (.t 3), (some 97), none, []⟩ :: L9_68
theorem v9_69 : wpS P L9_69 T L (rdy h) K = wpS P (⟨.load 1 true (.t 2), (some 95), none, []⟩ :: ⟨.load 2 true (.t 3), (some 97), none, []⟩ :: L9_68) T L (rdy h) K := rfl
def L9_70 : List AStep := [⟨.pick (.t 106) (.c (.bool true)) (.t 109), (some 110), none, []⟩]
theorem v9_70 : wpS P L9_70 T L (rdy h) K = wpS P ([⟨.pick (.t 106) (.c (.bool true)) (.t 109), (some 110), none, []⟩]) T L (rdy h) K := rfl
def L9_71 : List AStep := ⟨.mov (.t 7), (some 108), (some (106, false)), []⟩ :: ⟨.eqb true (.t 107) (.t 108), (some 109), (some (106, false)), []⟩ :: L9_70
theorem v9_71 : wpS P L9_71 T L (rdy h) K = wpS P (⟨.mov (.t 7), (some 108), (some (106, false)), []⟩ :: ⟨.eqb true (.t 107) (.t 108), (some 109), (some (106, false)), []⟩ :: L9_70) T L (rdy h) K := rfl
def L9_72 : List AStep := ⟨.mov (.t 105), (some 106), none, []⟩ :: ⟨.mov (.t 16), (some 107), (some (106, false)), []⟩ :: L9_71
theorem v9_72 : wpS P L9_72 T L (rdy h) K = wpS P (⟨.mov (.t 105), (some 106), none, []⟩ :: ⟨.mov (.t 16), (some 107), (some (106, false)), []⟩ :: L9_71) T L (rdy h) K := rfl
def L9_73 : List AStep := ⟨.call 37 [(.t 102), (.t 103)], (some 104), none, []⟩ :: ⟨.not (.t 104), (some 105), none, []⟩ :: L9_72
theorem v9_73 : wpS P L9_73 T L (rdy h) K = wpS P (⟨.call 37 [(.t 102), (.t 103)], (some 104), none, []⟩ :: ⟨.not (.t 104), (some 105), none, []⟩ :: L9_72) T L (rdy h) K := rfl
def L9_74 : List AStep := ⟨.load 2 true (.t 15), (some 102), none, []⟩ :: ⟨.load 2 true (.t 6), (some 103), none, []⟩ :: L9_73
theorem v9_74 : wpS P L9_74 T L (rdy h) K = wpS P (⟨.load 2 true (.t 15), (some 102), none, []⟩ :: ⟨.load 2 true (.t 6), (some 103), none, []⟩ :: L9_73) T L (rdy h) K := rfl
def L9_75 : List AStep := [⟨.mov (.c (.bool false)), (some 4), none, []⟩]
theorem v9_75 : wpS P L9_75 T L (rdy h) K = wpS P ([⟨.mov (.c (.bool false)), (some 4), none, []⟩]) T L (rdy h) K := rfl
def L9_76 : List AStep := [⟨.mov (.c (.int .i64 1)), (some 14), none, []⟩]
theorem v9_76 : wpS P L9_76 T L (rdy h) K = wpS P ([⟨.mov (.c (.int .i64 1)), (some 14), none, []⟩]) T L (rdy h) K := rfl
def L9_77 : List AStep := [⟨.call 43 [(.t 111), (.t 112)], (some 113), none, []⟩, ⟨.mov (.t 113), (some 14), none, []⟩]
theorem v9_77 : wpS P L9_77 T L (rdy h) K = wpS P ([⟨.call 43 [(.t 111), (.t 112)], (some 113), none, []⟩, ⟨.mov (.t 113), (some 14), none, []⟩]) T L (rdy h) K := rfl
def L9_78 : List AStep := ⟨.load 2 true (.t 10), (some 111), none, []⟩ :: ⟨.mov (.t 14), (some 112), none, []⟩ :: L9_77
theorem v9_78 : wpS P L9_78 T L (rdy h) K = wpS P (⟨.load 2 true (.t 10), (some 111), none, []⟩ :: ⟨.mov (.t 14), (some 112), none, []⟩ :: L9_77) T L (rdy h) K := rfl
def L9_79 : List AStep := [⟨.mov (.t 14), (some 114), none, []⟩, ⟨.bin .lss (.t 114) (.c (.int .i64 0)), (some 115), none, []⟩]
theorem v9_79 : wpS P L9_79 T L (rdy h) K = wpS P ([⟨.mov (.t 14), (some 114), none, []⟩, ⟨.bin .lss (.t 114) (.c (.int .i64 0)), (some 115), none, []⟩]) T L (rdy h) K := rfl
def L9_80 : List AStep := [⟨.mov (.c (.bool false)), (some 4), none, []⟩]
theorem v9_80 : wpS P L9_80 T L (rdy h) K = wpS P ([⟨.mov (.c (.bool false)), (some 4), none, []⟩]) T L (rdy h) K := rfl
def L9_81 : List AStep := [⟨.bin .neq (.t 116) (.t 117), (some 118), none, []⟩]
theorem v9_81 : wpS P L9_81 T L (rdy h) K = wpS P ([⟨.bin .neq (.t 116) (.t 117), (some 118), none, []⟩]) T L (rdy h) K := rfl
def L9_82 : List AStep := ⟨.mov (.t 14), (some 116), none, []⟩ :: ⟨.mov (.t 13), (some 117), none, []⟩ :: L9_81
theorem v9_82 : wpS P L9_82 T L (rdy h) K = wpS P (⟨.mov (.t 14), (some 116), none, []⟩ :: ⟨.mov (.t 13), (some 117), none, []⟩ :: L9_81) T L (rdy h) K := rfl
def L9_83 : List AStep := [⟨.mov (.c (.bool false)), (some 4), none, []⟩]
theorem v9_83 : wpS P L9_83 T L (rdy h) K = wpS P ([⟨.mov (.c (.bool false)), (some 4), none, []⟩]) T L (rdy h) K := rfl
def L9_84 : List AStep := [⟨.mov (.c (.bool true)), (some 4), none, []⟩]
theorem v9_84 : wpS P L9_84 T L (rdy h) K = wpS P ([⟨.mov (.c (.bool true)), (some 4), none, []⟩]) T L (rdy h) K := rfl
def C9_0 : ACode := .seq (.reg L9_6) .ret
theorem u9_0 : wpC P C9_0 T L (rdy h) Q = wpC P (.seq (.reg L9_6) .ret) T L (rdy h) Q := rfl
def C9_1 : ACode := .cond (.t 21) C9_0 .skip
theorem u9_1 : wpC P C9_1 T L (rdy h) Q = wpC P (.cond (.t 21) C9_0 .skip) T L (rdy h) Q := rfl
def C9_2 : ACode := .seq (.reg L9_5) C9_1
theorem u9_2 : wpC P C9_2 T L (rdy h) Q = wpC P (.seq (.reg L9_5) C9_1) T L (rdy h) Q := rfl
def C9_3 : ACode := .seq (.reg L9_10) .ret
theorem u9_3 : wpC P C9_3 T L (rdy h) Q = wpC P (.seq (.reg L9_10) .ret) T L (rdy h) Q := rfl
def C9_4 : ACode := .cond (.t 26) C9_3 .skip
theorem u9_4 : wpC P C9_4 T L (rdy h) Q = wpC P (.cond (.t 26) C9_3 .skip) T L (rdy h) Q := rfl
def C9_5 : ACode := .seq (.reg L9_9) C9_4
theorem u9_5 : wpC P C9_5 T L (rdy h) Q = wpC P (.seq (.reg L9_9) C9_4) T L (rdy h) Q := rfl
def C9_6 : ACode := .seq (.reg L9_31) .ret
theorem u9_6 : wpC P C9_6 T L (rdy h) Q = wpC P (.seq (.reg L9_31) .ret) T L (rdy h) Q := rfl
def C9_7 : ACode := .cond (.t 53) C9_6 .skip
theorem u9_7 : wpC P C9_7 T L (rdy h) Q = wpC P (.cond (.t 53) C9_6 .skip) T L (rdy h) Q := rfl
def C9_8 : ACode := .seq (.reg L9_30) C9_7
theorem u9_8 : wpC P C9_8 T L (rdy h) Q = wpC P (.seq (.reg L9_30) C9_7) T L (rdy h) Q := rfl
def C9_9 : ACode := .seq (.reg L9_35) .ret
theorem u9_9 : wpC P C9_9 T L (rdy h) Q = wpC P (.seq (.reg L9_35) .ret) T L (rdy h) Q := rfl
def C9_10 : ACode := .cond (.t 58) C9_9 .skip
theorem u9_10 : wpC P C9_10 T L (rdy h) Q = wpC P (.cond (.t 58) C9_9 .skip) T L (rdy h) Q := rfl
def C9_11 : ACode := .seq (.reg L9_34) C9_10
theorem u9_11 : wpC P C9_11 T L (rdy h) Q = wpC P (.seq (.reg L9_34) C9_10) T L (rdy h) Q := rfl
def C9_12 : ACode := .seq (.reg L9_39) .ret
theorem u9_12 : wpC P C9_12 T L (rdy h) Q = wpC P (.seq (.reg L9_39) .ret) T L (rdy h) Q := rfl
def C9_13 : ACode := .cond (.t 63) C9_12 .skip
theorem u9_13 : wpC P C9_13 T L (rdy h) Q = wpC P (.cond (.t 63) C9_12 .skip) T L (rdy h) Q := rfl
def C9_14 : ACode := .seq (.reg L9_38) C9_13
theorem u9_14 : wpC P C9_14 T L (rdy h) Q = wpC P (.seq (.reg L9_38) C9_13) T L (rdy h) Q := rfl
def C9_15 : ACode := .seq (.reg L9_52) .ret
theorem u9_15 : wpC P C9_15 T L (rdy h) Q = wpC P (.seq (.reg L9_52) .ret) T L (rdy h) Q := rfl
def C9_16 : ACode := .cond (.t 82) C9_15 .skip
theorem u9_16 : wpC P C9_16 T L (rdy h) Q = wpC P (.cond (.t 82) C9_15 .skip) T L (rdy h) Q := rfl
def C9_17 : ACode := .seq (.reg L9_51) C9_16
theorem u9_17 : wpC P C9_17 T L (rdy h) Q = wpC P (.seq (.reg L9_51) C9_16) T L (rdy h) Q := rfl
def C9_18 : ACode := .seq (.reg L9_60) .ret
theorem u9_18 : wpC P C9_18 T L (rdy h) Q = wpC P (.seq (.reg L9_60) .ret) T L (rdy h) Q := rfl
def C9_19 : ACode := .cond (.t 90) C9_18 .skip
theorem u9_19 : wpC P C9_19 T L (rdy h) Q = wpC P (.cond (.t 90) C9_18 .skip) T L (rdy h) Q := rfl
def C9_20 : ACode := .seq (.reg L9_59) C9_19
theorem u9_20 : wpC P C9_20 T L (rdy h) Q = wpC P (.seq (.reg L9_59) C9_19) T L (rdy h) Q := rfl
def C9_21 : ACode := .seq (.reg L9_63) .ret
theorem u9_21 : wpC P C9_21 T L (rdy h) Q = wpC P (.seq (.reg L9_63) .ret) T L (rdy h) Q := rfl
def C9_22 : ACode := .cond (.t 93) C9_21 .skip
theorem u9_22 : wpC P C9_22 T L (rdy h) Q = wpC P (.cond (.t 93) C9_21 .skip) T L (rdy h) Q := rfl
def C9_23 : ACode := .seq (.reg L9_62) C9_22
theorem u9_23 : wpC P C9_23 T L (rdy h) Q = wpC P (.seq (.reg L9_62) C9_22) T L (rdy h) Q := rfl
def C9_24 : ACode := .seq (.reg L9_75) .ret
theorem u9_24 : wpC P C9_24 T L (rdy h) Q = wpC P (.seq (.reg L9_75) .ret) T L (rdy h) Q := rfl
def C9_25 : ACode := .cond (.t 110) C9_24 .skip
theorem u9_25 : wpC P C9_25 T L (rdy h) Q = wpC P (.cond (.t 110) C9_24 .skip) T L (rdy h) Q := rfl
def C9_26 : ACode := .seq (.reg L9_74) C9_25
theorem u9_26 : wpC P C9_26 T L (rdy h) Q = wpC P (.seq (.reg L9_74) C9_25) T L (rdy h) Q := rfl
def C9_27 : ACode := .seq (.reg L9_80) .ret
theorem u9_27 : wpC P C9_27 T L (rdy h) Q = wpC P (.seq (.reg L9_80) .ret) T L (rdy h) Q := rfl
def C9_28 : ACode := .cond (.t 115) C9_27 .skip
theorem u9_28 : wpC P C9_28 T L (rdy h) Q = wpC P (.cond (.t 115) C9_27 .skip) T L (rdy h) Q := rfl
def C9_29 : ACode := .seq (.reg L9_79) C9_28
theorem u9_29 : wpC P C9_29 T L (rdy h) Q = wpC P (.seq (.reg L9_79) C9_28) T L (rdy h) Q := rfl
def C9_30 : ACode := .seq (.reg L9_83) .ret
theorem u9_30 : wpC P C9_30 T L (rdy h) Q = wpC P (.seq (.reg L9_83) .ret) T L (rdy h) Q := rfl
def C9_31 : ACode := .cond (.t 118) C9_30 .skip
theorem u9_31 : wpC P C9_31 T L (rdy h) Q = wpC P (.cond (.t 118) C9_30 .skip) T L (rdy h) Q := rfl
def C9_32 : ACode := .seq (.reg L9_82) C9_31
theorem u9_32 : wpC P C9_32 T L (rdy h) Q = wpC P (.seq (.reg L9_82) C9_31) T L (rdy h) Q := rfl
def C9_33 : ACode := .seq (.reg L9_84) .ret
theorem u9_33 : wpC P C9_33 T L (rdy h) Q = wpC P (.seq (.reg L9_84) .ret) T L (rdy h) Q := rfl
def C9_34 : ACode := .seq C9_32 C9_33
theorem u9_34 : wpC P C9_34 T L (rdy h) Q = wpC P (.seq C9_32 C9_33) T L (rdy h) Q := rfl
def C9_35 : ACode := .seq C9_29 C9_34
theorem u9_35 : wpC P C9_35 T L (rdy h) Q = wpC P (.seq C9_29 C9_34) T L (rdy h) Q := rfl
def C9_36 : ACode := .seq (.reg L9_78) C9_35
theorem u9_36 : wpC P C9_36 T L (rdy h) Q = wpC P (.seq (.reg L9_78) C9_35) T L (rdy h) Q := rfl
def C9_37 : ACode := .seq (.reg L9_76) C9_36
theorem u9_37 : wpC P C9_37 T L (rdy h) Q = wpC P (.seq (.reg L9_76) C9_36) T L (rdy h) Q := rfl
def C9_38 : ACode := .seq C9_26 C9_37
theorem u9_38 : wpC P C9_38 T L (rdy h) Q = wpC P (.seq C9_26 C9_37) T L (rdy h) Q := rfl
def C9_39 : ACode := .seq (.reg L9_69) C9_38
theorem u9_39 : wpC P C9_39 T L (rdy h) Q = wpC P (.seq (.reg L9_69) C9_38) T L (rdy h) Q := rfl
def C9_40 : ACode := .seq C9_23 C9_39
theorem u9_40 : wpC P C9_40 T L (rdy h) Q = wpC P (.seq C9_23 C9_39) T L (rdy h) Q := rfl
def C9_41 : ACode := .seq C9_20 C9_40
theorem u9_41 : wpC P C9_41 T L (rdy h) Q = wpC P (.seq C9_20 C9_40) T L (rdy h) Q := rfl
def C9_42 : ACode := .seq (.reg L9_58) C9_41
theorem u9_42 : wpC P C9_42 T L (rdy h) Q = wpC P (.seq (.reg L9_58) C9_41) T L (rdy h) Q := rfl
def C9_43 : ACode := .seq (.reg L9_56) C9_42
theorem u9_43 : wpC P C9_43 T L (rdy h) Q = wpC P (.seq (.reg L9_56) C9_42) T L (rdy h) Q := rfl
def C9_44 : ACode := .seq (.reg L9_55) C9_43
theorem u9_44 : wpC P C9_44 T L (rdy h) Q = wpC P (.seq (.reg L9_55) C9_43) T L (rdy h) Q := rfl
def C9_45 : ACode := .seq (.reg L9_53) C9_44
theorem u9_45 : wpC P C9_45 T L (rdy h) Q = wpC P (.seq (.reg L9_53) C9_44) T L (rdy h) Q := rfl
def C9_46 : ACode := .seq C9_17 C9_45
theorem u9_46 : wpC P C9_46 T L (rdy h) Q = wpC P (.seq C9_17 C9_45) T L (rdy h) Q := rfl
def C9_47 : ACode := .seq (.reg L9_44) C9_46
theorem u9_47 : wpC P C9_47 T L (rdy h) Q = wpC P (.seq (.reg L9_44) C9_46) T L (rdy h) Q := rfl
def C9_48 : ACode := .seq (.reg L9_42) C9_47
theorem u9_48 : wpC P C9_48 T L (rdy h) Q = wpC P (.seq (.reg L9_42) C9_47) T L (rdy h) Q := rfl
def C9_49 : ACode := .seq (.reg L9_40) C9_48
theorem u9_49 : wpC P C9_49 T L (rdy h) Q = wpC P (.seq (.reg L9_40) C9_48) T L (rdy h) Q := rfl
def C9_50 : ACode := .seq C9_14 C9_49
theorem u9_50 : wpC P C9_50 T L (rdy h) Q = wpC P (.seq C9_14 C9_49) T L (rdy h) Q := rfl
def C9_51 : ACode := .seq C9_11 C9_50
theorem u9_51 : wpC P C9_51 T L (rdy h) Q = wpC P (.seq C9_11 C9_50) T L (rdy h) Q := rfl
def C9_52 : ACode := .seq C9_8 C9_51
theorem u9_52 : wpC P C9_52 T L (rdy h) Q = wpC P (.seq C9_8 C9_51) T L (rdy h) Q := rfl
def C9_53 : ACode := .seq (.reg L9_25) C9_52
theorem u9_53 : wpC P C9_53 T L (rdy h) Q = wpC P (.seq (.reg L9_25) C9_52) T L (rdy h) Q := rfl
def C9_54 : ACode := .seq (.reg L9_20) C9_53
theorem u9_54 : wpC P C9_54 T L (rdy h) Q = wpC P (.seq (.reg L9_20) C9_53) T L (rdy h) Q := rfl
def C9_55 : ACode := .seq (.reg L9_18) C9_54
theorem u9_55 : wpC P C9_55 T L (rdy h) Q = wpC P (.seq (.reg L9_18) C9_54) T L (rdy h) Q := rfl
def C9_56 : ACode := .seq (.reg L9_16) C9_55
theorem u9_56 : wpC P C9_56 T L (rdy h) Q = wpC P (.seq (.reg L9_16) C9_55) T L (rdy h) Q := rfl
def C9_57 : ACode := .seq C9_5 C9_56
theorem u9_57 : wpC P C9_57 T L (rdy h) Q = wpC P (.seq C9_5 C9_56) T L (rdy h) Q := rfl
def C9_58 : ACode := .seq (.reg L9_8) C9_57
theorem u9_58 : wpC P C9_58 T L (rdy h) Q = wpC P (.seq (.reg L9_8) C9_57) T L (rdy h) Q := rfl
def C9_59 : ACode := .seq C9_2 C9_58
theorem u9_59 : wpC P C9_59 T L (rdy h) Q = wpC P (.seq C9_2 C9_58) T L (rdy h) Q := rfl
def C9_60 : ACode := .seq (.reg L9_4) C9_59
theorem u9_60 : wpC P C9_60 T L (rdy h) Q = wpC P (.seq (.reg L9_4) C9_59) T L (rdy h) Q := rfl
def C9_61 : ACode := .seq (.reg L9_2) C9_60
theorem u9_61 : wpC P C9_61 T L (rdy h) Q = wpC P (.seq (.reg L9_2) C9_60) T L (rdy h) Q := rfl
def C9_62 : ACode := .seq (.reg L9_1) C9_61
theorem u9_62 : wpC P C9_62 T L (rdy h) Q = wpC P (.seq (.reg L9_1) C9_61) T L (rdy h) Q := rfl
def F9 : AFunc := ⟨119, [.tmp 4], C9_62⟩
theorem cF9 : compB Try.prog 9 = some F9 := by kernel_rfl
end
attribute [local go_sem ↓] u9_0 u9_1 u9_2 u9_3 u9_4 u9_5 u9_6 u9_7 u9_8 u9_9 u9_10 u9_11 u9_12 u9_13 u9_14 u9_15 u9_16 u9_17 u9_18 u9_19 u9_20 u9_21 u9_22 u9_23 u9_24 u9_25 u9_26 u9_27 u9_28 u9_29 u9_30 u9_31 u9_32 u9_33 u9_34 u9_35 u9_36 u9_37 u9_38 u9_39 u9_40 u9_41 u9_42 u9_43 u9_44 u9_45 u9_46 u9_47 u9_48 u9_49 u9_50 u9_51 u9_52 u9_53 u9_54 u9_55 u9_56 u9_57 u9_58 u9_59 u9_60 u9_61 u9_62 v9_0 v9_1 v9_2 v9_3 v9_4 v9_5 v9_6 v9_7 v9_8 v9_9 v9_10 v9_11 v9_12 v9_13 v9_14 v9_15 v9_16 v9_17 v9_18 v9_19 v9_20 v9_21 v9_22 v9_23 v9_24 v9_25 v9_26 v9_27 v9_28 v9_29 v9_30 v9_31 v9_32 v9_33 v9_34 v9_35 v9_36 v9_37 v9_38 v9_39 v9_40 v9_41 v9_42 v9_43 v9_44 v9_45 v9_46 v9_47 v9_48 v9_49 v9_50 v9_51 v9_52 v9_53 v9_54 v9_55 v9_56 v9_57 v9_58 v9_59 v9_60 v9_61 v9_62 v9_63 v9_64 v9_65 v9_66 v9_67 v9_68 v9_69 v9_70 v9_71 v9_72 v9_73 v9_74 v9_75 v9_76 v9_77 v9_78 v9_79 v9_80 v9_81 v9_82 v9_83 v9_84
theorem law9 (h : H) (avs : List AV) (hok : okVs Try.prog h 6 [ 74, 63 ] avs) : callK (bm Try.prog 9 avs h) fun r _ => r = ib true := by
  obtain ⟨v0, avs, rfl, hv0, hok⟩ := okVs_cons hok
  obtain ⟨v1, avs, rfl, hv1, hok⟩ := okVs_cons hok
  obtain rfl := okVs_nil hok
  obtain ⟨p0, x0, rfl, d0⟩ := dG hv0
  obtain ⟨p1, n1, x1, rfl, d1⟩ := dF hv1
  refine bm_of cF9 ?_
  have z0 := k_szG x0 p0 1048576 h (by omega) (by omega) d0
  by_cases y0 : szr 1048576 (wtG x0) < 0
  · simp +contextual (maxSteps := 2000000) only [go_sem, Nat.reduceEqDiff, reduceCtorEq, Nat.reduceAdd, Nat.reduceLeDiff, F9, z0, decide_eq_true y0]
  have z1 := k_szF x1 p1 n1 (szr 1048576 (wtG x0)) h (by omega) (by unfold szr; split <;> omega) d1
  by_cases y1 : szr (szr 1048576 (wtG x0)) (wtF x1) < 0
  · simp +contextual (maxSteps := 2000000) only [go_sem, Nat.reduceEqDiff, reduceCtorEq, Nat.reduceAdd, Nat.reduceLeDiff, F9, z0, z1, decide_eq_false y0, decide_eq_true y1]
  obtain ⟨e0, u0⟩ := szr_ge y0
  obtain ⟨e1, u1⟩ := szr_ge y1
  have s0 : miniG x0 := wtG_sm (by omega)
  have s1 : miniF x1 := wtF_sm (by omega)
  have hR : miniF (canonF x0 x1) := .canon
  simp +contextual (maxSteps := 2000000) only [go_sem, Nat.reduceEqDiff, reduceCtorEq, Nat.reduceAdd, Nat.reduceLeDiff, F9, z0, z1, decide_eq_false y0, decide_eq_false y1]
  refine wp_call (k_toG x0 p0 h (d0.grow (Grow.refl h)) s0) ?_
  rintro r h1 ⟨g1, p0a, rfl, a0a⟩
  simp +contextual (maxSteps := 2000000) only [go_sem, Nat.reduceEqDiff, reduceCtorEq, Nat.reduceAdd, Nat.reduceLeDiff]
  refine wp_call (k_toF x1 p1 n1 h1 (d1.grow ((Grow.refl h).trans g1)) s1) ?_
  rintro r h2 ⟨g2, p1a, n1a, rfl, a1a⟩
  simp +contextual (maxSteps := 2000000) only [go_sem, Nat.reduceEqDiff, reduceCtorEq, Nat.reduceAdd, Nat.reduceLeDiff]
  refine wp_call (k_sCanonFlat x0 x1 p0a p1a n1a h2 (a0a.sl.grow g2) (a1a.sl) s0 s1) ?_
  rintro r h3 ⟨g3, pw, nw, rfl, w0⟩
  simp +contextual (maxSteps := 2000000) only [go_sem, Nat.reduceEqDiff, reduceCtorEq, Nat.reduceAdd, Nat.reduceLeDiff]
  refine wp_call (k_toG x0 p0 h3 (d0.grow ((((Grow.refl h).trans g1).trans g2).trans g3)) s0) ?_
  rintro r h4 ⟨g4, p0b, rfl, a0b⟩
  simp +contextual (maxSteps := 2000000) only [go_sem, Nat.reduceEqDiff, reduceCtorEq, Nat.reduceAdd, Nat.reduceLeDiff]
  refine wp_call (k_toF x1 p1 n1 h4 (d1.grow (((((Grow.refl h).trans g1).trans g2).trans g3).trans g4)) s1) ?_
  rintro r h5 ⟨g5, p1b, n1b, rfl, a1b⟩
  simp +contextual (maxSteps := 2000000) only [go_sem, Nat.reduceEqDiff, reduceCtorEq, Nat.reduceAdd, Nat.reduceLeDiff]
  refine wp_call (k_iCanonFlat x0 x1 p0b p1b n1b h5 (a0b.sl.grow g5) (a1b.sl) s0 s1) ?_
  rintro r h6 ⟨g6, pg, ng, rfl, b0⟩
  have q0 := k_eqF (canonF x0 x1) (canonF x0 x1) pg ng pw nw h6 (b0.sl) (w0.sl.grow ((g4.trans g5).trans g6)) hR
  simp +contextual (maxSteps := 2000000) only [go_sem, Nat.reduceEqDiff, reduceCtorEq, Nat.reduceAdd, Nat.reduceLeDiff, q0, decide_true]
  refine wp_call (k_toG x0 p0 h6 (d0.grow (((((((Grow.refl h).trans g1).trans g2).trans g3).trans g4).trans g5).trans g6)) s0) ?_
  rintro r h7 ⟨g7, p0c, rfl, a0c⟩
  have q1 := k_eqG x0 x0 p0b p0c h7 (a0b.sl.grow ((g5.trans g6).trans g7)) a0c.sl s0
  simp +contextual (maxSteps := 2000000) only [go_sem, Nat.reduceEqDiff, reduceCtorEq, Nat.reduceAdd, Nat.reduceLeDiff, q1, decide_true]
  refine wp_call (k_toF x1 p1 n1 h7 (d1.grow ((((((((Grow.refl h).trans g1).trans g2).trans g3).trans g4).trans g5).trans g6).trans g7)) s1) ?_
  rintro r h8 ⟨g8, p1c, n1c, rfl, a1c⟩
  have q2 := k_eqF x1 x1 p1b n1b p1c n1c h8 (a1b.sl.grow ((g6.trans g7).trans g8)) a1c.sl s1
  simp +contextual (maxSteps := 2000000) only [go_sem, Nat.reduceEqDiff, reduceCtorEq, Nat.reduceAdd, Nat.reduceLeDiff, q2, decide_true]
  have k0 := cellsG_le s0
  have k1 := cellsF_le s1
  have G8 : Grow h3 h8 := ((((g4.trans g5).trans g6).trans g7).trans g8)
  refine wp_call (k_markG x0 p0b 1 h3 h4 h8 ((a0b.grow (((g5.trans g6).trans g7).trans g8))) a0b G8 (by omega) (by omega) s0) ?_
  rintro r h9 ⟨rfl, G80, m0, N0⟩
  have M0 := N0
  simp +contextual (maxSteps := 2000000) only [go_sem, Nat.reduceEqDiff, reduceCtorEq, Nat.reduceAdd, Nat.reduceLeDiff]
  refine wp_call (k_markF x1 p1b n1b _ h3 h5 h9 (((a1b.grow ((g6.trans g7).trans g8)).mid M0 (Nat.le_refl _)).from g4.n) (a1b.from g4.n) G80 (by omega) (by omega) s1) ?_
  rintro r h10 ⟨rfl, G81, m1, N1⟩
  have M1 : Mid h3.n h5.n h8 h10 := (M0.widen g5.n).trans N1
  have b1 := (b0.grow (g7.trans g8)).mid M1 (Nat.le_refl _)
  have w1 := w0.grow G81
  have qa := k_eqF (canonF x0 x1) (canonF x0 x1) pg ng pw nw h10 (b1.sl) (w1.sl) hR
  simp +contextual (maxSteps := 2000000) only [go_sem, Nat.reduceEqDiff, reduceCtorEq, Nat.reduceAdd, Nat.reduceLeDiff, qa, decide_true, decide_eq_false (show ¬ ((1 : Int) + (cellsG x0 : Nat) + (cellsF x1 : Nat) < 0) by omega)]
  have kr := cellsF_le hR
  have lh : h3.n ≤ h5.n := (g4.trans g5).n
  refine wp_call (k_markF (canonF x0 x1) pg ng 1 h3 h6 h10 (b1.from lh) (b0.from lh) G81 (by omega) (by omega) hR) ?_
  rintro r h11 ⟨rfl, Gm, mr, Mr⟩
  have qh := k_heldF (canonF x0 x1) pg ng 1 h11 mr (by omega) (by omega) hR
  simp +contextual (maxSteps := 2000000) only [go_sem, Nat.reduceEqDiff, reduceCtorEq, Nat.reduceAdd, Nat.reduceLeDiff, qh, decide_true, decide_eq_false (show ¬ ((1 : Int) + (cellsF (canonF x0 x1) : Nat) < 0) by omega)]
  have H1 : Grow h h11 := ((((Grow.refl h).trans g1).trans g2).trans g3).trans Gm
  refine wp_call (k_toG x0 p0 h11 (d0.grow H1) s0) ?_
  rintro r h12 ⟨g12, p0d, rfl, a0d⟩
  simp +contextual (maxSteps := 2000000) only [go_sem, Nat.reduceEqDiff, reduceCtorEq, Nat.reduceAdd, Nat.reduceLeDiff]
  refine wp_call (k_toF x1 p1 n1 h12 (d1.grow (H1.trans g12)) s1) ?_
  rintro r h13 ⟨g13, p1d, n1d, rfl, a1d⟩
  simp +contextual (maxSteps := 2000000) only [go_sem, Nat.reduceEqDiff, reduceCtorEq, Nat.reduceAdd, Nat.reduceLeDiff]
  refine wp_call (k_iCanonFlat x0 x1 p0d p1d n1d h13 (a0d.sl.grow g13) (a1d.sl) s0 s1) ?_
  rintro r h14 ⟨g14, py, ny, rfl, b2⟩
  have G9 : Grow h11 h14 := ((g12.trans g13).trans g14)
  have qz := k_eqF (canonF x0 x1) (canonF x0 x1) py ny pw nw h14 (b2.sl) ((w0.grow (Gm.trans G9)).sl) hR
  have qy := k_heldF (canonF x0 x1) pg ng 1 h14 (mr.grow G9) (by omega) (by omega) hR
  simp +contextual (maxSteps := 2000000) only [go_sem, Nat.reduceEqDiff, reduceCtorEq, Nat.reduceAdd, Nat.reduceLeDiff, qz, qy, decide_true, decide_eq_false (show ¬ ((1 : Int) + (cellsF (canonF x0 x1) : Nat) < 0) by omega)]
  exact gcK_of rfl (fun _ _ => rfl)
end Go.Proofs.Ytnphlonhogcedaa.Am
