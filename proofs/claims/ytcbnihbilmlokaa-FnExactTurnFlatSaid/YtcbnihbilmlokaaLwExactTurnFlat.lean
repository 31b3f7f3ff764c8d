/- The law FnExactTurnFlat. -/
import Derived.Test.YtcbnihbilmlokaaK
import Derived.Test.YtcbnihbilmlokaaC1
namespace Go.Proofs.Ytcbnihbilmlokaa.Am
open Go
set_option maxRecDepth 100000
set_option maxHeartbeats 4000000
set_option linter.unusedSimpArgs false
set_option linter.unusedVariables false
attribute [local go_sem ↓] bv_t bv_c ev_t ev_c put_same put_ne put_none kill_at pro_at lb_same lb_ne start_zero start_succ wpC_seq wpC_reg wpC_cond wpC_block wpC_skip wpC_exit wpC_ret thenQ_normal thenQ_exit thenQ_ret inBlk_normal inBlk_exit inBlk_ret wpS_nil wpS_step wpS_again wpS_guard wpO_mov wpO_load wpO_faddr wpO_nilCheck wpO_pick wpO_build wpO_bin wpO_eqb wpO_eqst wpO_eqnil wpO_not wpO_conv wpO_bytesStr wpO_iaddr wpO_idxStr wpO_field wpO_extract wpO_len wpO_lenStr wpO_cap wpO_min wpO_slice wpO_sliceStr wpO_alloc wpO_box wpO_store wpO_call wpO_callv wpO_mkfn wpO_buildSlice wpO_mkslice wpO_append wpO_appz proA_nil proA_cons tmpX_nil tmpX_tmp tmpX_cell doneB_normal doneB_ret agK_cons agK_nil pureB_load results_one results_two results_nil resBs_cons resBs_nil resB_tmp resB_cell
attribute [local go_sem] kill_v kill_lp_ne kill_lp_same pro_v pro_lp_same pro_lp_ne av_v av_lp optB_some optX_some valX_eq ldX_lp ldX_v faX_lp faX_v ncX_lp ncX_ptr ncX_fn boxK_one boxK_agg stL_some stK_lp_one stK_lp_agg stK_v_one stK_v_agg proM_v proM_lp callG_mk callVG_mk callvK_fn fnG_mk ptrsA_nil ptrsA_cons callH_some whenA_true whenA_false guardH_tt guardH_ff guardH_tf guardH_ft guardH_undef agV_one agV_agg lenO_sl lenStrO_str notO_bool pickO_bool convO_int eqbO_bool eqnilO_sl extractO_tup capO_sl minO_int loadL_one loadL_all storeL_eq fillA_nil fillA_one fillA_agg nat_ge neg_ge nat_lt neg_lt buildO bin_add bin_sub bin_mul bin_eql bin_neq bin_lss bin_leq bin_gtr bin_geq str_eql str_neq str_lss str_leq str_gtr str_geq retK_some endK_mk gcK_same gcK_int gcK_bool tupO_one tupO_agg rdy_self ib ii Option.map_none Option.map_some Option.some.injEq exists_eq_left' exists_eq_left ne_eq not_false_eq_true if_true if_false List.map_cons List.map_nil List.getElem?_cons_zero List.getElem?_cons_succ List.length_cons List.length_nil List.take_succ_cons List.take_zero List.take_nil List.drop_succ_cons List.drop_zero List.drop_nil List.cons_append List.nil_append List.append_nil List.set_cons_zero List.set_cons_succ Nat.zero_add forall_const true_and and_true and_self Bool.false_eq_true false_implies true_implies implies_true Bool.not_true Bool.not_false Bool.not_eq_true' Bool.not_eq_false' beq_self_eq_true Bool.bne_true Bool.bne_false
attribute [local go_sem] lenI lenS lenP lenQ lenB lenL lenT encI_0 encS_0 encP_0 encP_1 encQ_0 encQ_1 encQ_2 encQ_3 encB_0 encB_1 encL_0 encL_1 encT_0 encT_1
attribute [local go_sem low] whenA_bool guardH_bool
section
variable {P : Program} {T : Tb} {L : Lb} {h : H} {Q : PostC} {K : Post}
/-! laws.FnExactTurnFlat -/
def L3_0 : List AStep := [⟨.box 26 (.t 1), (some 3), none, []⟩, ⟨.mov (.c (.bool false)), (some 4), none, []⟩]
theorem v3_0 : wpS P L3_0 T L (rdy h) K = wpS P ([⟨.box 26 (.t 1), (some 3), none, []⟩, ⟨.mov (.c (.bool false)), (some 4), none, []⟩]) T L (rdy h) K := rfl
def L3_1 : List AStep := [⟨.mov (.c (.int .i64 1048576)), (some 5), none, []⟩]
theorem v3_1 : wpS P L3_1 T L (rdy h) K = wpS P ([⟨.mov (.c (.int .i64 1048576)), (some 5), none, []⟩]) T L (rdy h) K := rfl
def L3_2 : List AStep := [⟨.call 13 [(.t 14), (.t 15)], (some 16), none, []⟩, ⟨.mov (.t 16), (some 5), none, []⟩]
theorem v3_2 : wpS P L3_2 T L (rdy h) K = wpS P ([⟨.call 13 [(.t 14), (.t 15)], (some 16), none, []⟩, ⟨.mov (.t 16), (some 5), none, []⟩]) T L (rdy h) K := rfl
def L3_3 : List AStep := ⟨.mov (.t 0), (some 14), none, []⟩ :: ⟨.mov (.t 5), (some 15), none, []⟩ :: L3_2
theorem v3_3 : wpS P L3_3 T L (rdy h) K = wpS P (⟨.mov (.t 0), (some 14), none, []⟩ :: ⟨.mov (.t 5), (some 15), none, []⟩ :: L3_2) T L (rdy h) K := rfl
def L3_4 : List AStep := [⟨.mov (.t 5), (some 17), none, []⟩, ⟨.bin .lss (.t 17) (.c (.int .i64 0)), (some 18), none, []⟩]
theorem v3_4 : wpS P L3_4 T L (rdy h) K = wpS P ([⟨.mov (.t 5), (some 17), none, []⟩, ⟨.bin .lss (.t 17) (.c (.int .i64 0)), (some 18), none, []⟩]) T L (rdy h) K := rfl
def L3_5 : List AStep := [⟨.mov (.c (.bool true)), (some 4), none, []⟩]
theorem v3_5 : wpS P L3_5 T L (rdy h) K = wpS P ([⟨.mov (.c (.bool true)), (some 4), none, []⟩]) T L (rdy h) K := rfl
def L3_6 : List AStep := [⟨.call 14 [(.t 19), (.t 20)], (some 21), none, []⟩, ⟨.mov (.t 21), (some 5), none, []⟩]
theorem v3_6 : wpS P L3_6 T L (rdy h) K = wpS P ([⟨.call 14 [(.t 19), (.t 20)], (some 21), none, []⟩, ⟨.mov (.t 21), (some 5), none, []⟩]) T L (rdy h) K := rfl
def L3_7 : List AStep := ⟨.load 2 true (.t 3), (some 19), none, []⟩ :: ⟨.mov (.t 5), (some 20), none, []⟩ :: L3_6
theorem v3_7 : wpS P L3_7 T L (rdy h) K = wpS P (⟨.load 2 true (.t 3), (some 19), none, []⟩ :: ⟨.mov (.t 5), (some 20), none, []⟩ :: L3_6) T L (rdy h) K := rfl
def L3_8 : List AStep := [⟨.mov (.t 5), (some 22), none, []⟩, ⟨.bin .lss (.t 22) (.c (.int .i64 0)), (some 23), none, []⟩]
theorem v3_8 : wpS P L3_8 T L (rdy h) K = wpS P ([⟨.mov (.t 5), (some 22), none, []⟩, ⟨.bin .lss (.t 22) (.c (.int .i64 0)), (some 23), none, []⟩]) T L (rdy h) K := rfl
def L3_9 : List AStep := [⟨.mov (.c (.bool true)), (some 4), none, []⟩]
theorem v3_9 : wpS P L3_9 T L (rdy h) K = wpS P ([⟨.mov (.c (.bool true)), (some 4), none, []⟩]) T L (rdy h) K := rfl
def L3_10 : List AStep := [⟨.store 2 (.t 6) (.t 28), none, none, []⟩]
theorem v3_10 : wpS P L3_10 T L (rdy h) K = wpS P ([⟨.store 2 (.t 6) (.t 28), none, none, []⟩]) T L (rdy h) K := rfl
def L3_11 : List AStep := ⟨.call 17 [(.t 26)], (some 27), none, []⟩ :: ⟨.call 15 [(.t 25), (.t 27)], (some 28), none, []⟩ :: L3_10
theorem v3_11 : wpS P L3_11 T L (rdy h) K = wpS P (⟨.call 17 [(.t 26)], (some 27), none, []⟩ :: ⟨.call 15 [(.t 25), (.t 27)], (some 28), none, []⟩ :: L3_10) T L (rdy h) K := rfl
def L3_12 : List AStep := ⟨.alloc 31 [(.sl none 0 (some 0)), (.sl none 0 (some 0))], (some 6), none, []⟩ :: ⟨.call 16 [(.t 24)], (some 25), none, [(.load 2 true (.t 3), (some 26), none)]⟩ :: L3_11
theorem v3_12 : wpS P L3_12 T L (rdy h) K = wpS P (⟨.alloc 31 [(.sl none 0 (some 0)), (.sl none 0 (some 0))], (some 6), none, []⟩ :: ⟨.call 16 [(.t 24)], (some 25), none, [(.load 2 true (.t 3), (some 26), none)]⟩ :: L3_11) T L (rdy h) K := rfl
def L3_13 : List AStep := ⟨.mov (.t 0), (some 24), none, []⟩ :: ⟨.load 2 true (.t 3), (some 26), none, []⟩ :: L3_12
theorem v3_13 : wpS P L3_13 T L (rdy h) K = wpS P (⟨.mov (.t 0), (some 24), none, []⟩ :: ⟨.load 2 true (.t 3), (some 26), none, []⟩ :: L3_12) T L (rdy h) K := rfl
def L3_14 : List AStep := [⟨.mov (.t 30), (some 7), none, []⟩]
theorem v3_14 : wpS P L3_14 T L (rdy h) K = wpS P ([⟨.mov (.t 30), (some 7), none, []⟩]) T L (rdy h) K := rfl
def L3_15 : List AStep := ⟨.mov (.t 0), (some 29), none, []⟩ :: ⟨.call 16 [(.t 29)], (some 30), none, []⟩ :: L3_14
theorem v3_15 : wpS P L3_15 T L (rdy h) K = wpS P (⟨.mov (.t 0), (some 29), none, []⟩ :: ⟨.call 16 [(.t 29)], (some 30), none, []⟩ :: L3_14) T L (rdy h) K := rfl
def L3_16 : List AStep := [⟨.alloc 31 [(.sl none 0 (some 0)), (.sl none 0 (some 0))], (some 8), none, []⟩, ⟨.store 2 (.t 8) (.t 32), none, none, []⟩]
theorem v3_16 : wpS P L3_16 T L (rdy h) K = wpS P ([⟨.alloc 31 [(.sl none 0 (some 0)), (.sl none 0 (some 0))], (some 8), none, []⟩, ⟨.store 2 (.t 8) (.t 32), none, none, []⟩]) T L (rdy h) K := rfl
def L3_17 : List AStep := ⟨.load 2 true (.t 3), (some 31), none, []⟩ :: ⟨.call 17 [(.t 31)], (some 32), none, []⟩ :: L3_16
theorem v3_17 : wpS P L3_17 T L (rdy h) K = wpS P (⟨.load 2 true (.t 3), (some 31), none, []⟩ :: ⟨.call 17 [(.t 31)], (some 32), none, []⟩ :: L3_16) T L (rdy h) K := rfl
def L3_18 : List AStep := [⟨.store 2 (.t 9) (.t 35), none, none, []⟩]
theorem v3_18 : wpS P L3_18 T L (rdy h) K = wpS P ([⟨.store 2 (.t 9) (.t 35), none, none, []⟩]) T L (rdy h) K := rfl
def L3_19 : List AStep := ⟨.call 18 [(.t 33), (.t 34)], (some 35), none, []⟩ :: ⟨.alloc 31 [(.sl none 0 (some 0)), (.sl none 0 (some 0))], (some 9), none, []⟩ :: L3_18
theorem v3_19 : wpS P L3_19 T L (rdy h) K = wpS P (⟨.call 18 [(.t 33), (.t 34)], (some 35), none, []⟩ :: ⟨.alloc 31 [(.sl none 0 (some 0)), (.sl none 0 (some 0))], (some 9), none, []⟩ :: L3_18) T L (rdy h) K := rfl
def L3_20 : List AStep := ⟨.mov (.t 7), (some 33), none, []⟩ :: ⟨.load 2 true (.t 8), (some 34), none, []⟩ :: L3_19
theorem v3_20 : wpS P L3_20 T L (rdy h) K = wpS P (⟨.mov (.t 7), (some 33), none, []⟩ :: ⟨.load 2 true (.t 8), (some 34), none, []⟩ :: L3_19) T L (rdy h) K := rfl
def L3_21 : List AStep := [⟨.call 19 [(.t 36), (.t 37)], (some 38), none, []⟩, ⟨.not (.t 38), (some 39), none, []⟩]
theorem v3_21 : wpS P L3_21 T L (rdy h) K = wpS P ([⟨.call 19 [(.t 36), (.t 37)], (some 38), none, []⟩, ⟨.not (.t 38), (some 39), none, []⟩]) T L (rdy h) K := rfl
def L3_22 : List AStep := ⟨.load 2 true (.t 9), (some 36), none, []⟩ :: ⟨.load 2 true (.t 6), (some 37), none, []⟩ :: L3_21
theorem v3_22 : wpS P L3_22 T L (rdy h) K = wpS P (⟨.load 2 true (.t 9), (some 36), none, []⟩ :: ⟨.load 2 true (.t 6), (some 37), none, []⟩ :: L3_21) T L (rdy h) K := rfl
def L3_23 : List AStep := [⟨.mov (.c (.bool false)), (some 4), none, []⟩]
theorem v3_23 : wpS P L3_23 T L (rdy h) K = wpS P ([⟨.mov (.c (.bool false)), (some 4), none, []⟩]) T L (rdy h) K := rfl
def L3_24 : List AStep := [⟨.not (.t 43), (some 44), none, []⟩]
theorem v3_24 : wpS P L3_24 T L (rdy h) K = wpS P ([⟨.not (.t 43), (some 44), none, []⟩]) T L (rdy h) K := rfl
def L3_25 : List AStep := ⟨.call 16 [(.t 41)], (some 42), none, []⟩ :: ⟨.call 20 [(.t 40), (.t 42)], (some 43), none, []⟩ :: L3_24
theorem v3_25 : wpS P L3_25 T L (rdy h) K = wpS P (⟨.call 16 [(.t 41)], (some 42), none, []⟩ :: ⟨.call 20 [(.t 40), (.t 42)], (some 43), none, []⟩ :: L3_24) T L (rdy h) K := rfl
def L3_26 : List AStep := ⟨.mov (.t 7), (some 40), none, []⟩ :: ⟨.mov (.t 0), (some 41), none, []⟩ :: L3_25
theorem v3_26 : wpS P L3_26 T L (rdy h) K = wpS P (⟨.mov (.t 7), (some 40), none, []⟩ :: ⟨.mov (.t 0), (some 41), none, []⟩ :: L3_25) T L (rdy h) K := rfl
def L3_27 : List AStep := [⟨.mov (.c (.bool false)), (some 4), none, []⟩]
theorem v3_27 : wpS P L3_27 T L (rdy h) K = wpS P ([⟨.mov (.c (.bool false)), (some 4), none, []⟩]) T L (rdy h) K := rfl
def L3_28 : List AStep := [⟨.not (.t 48), (some 49), none, []⟩]
theorem v3_28 : wpS P L3_28 T L (rdy h) K = wpS P ([⟨.not (.t 48), (some 49), none, []⟩]) T L (rdy h) K := rfl
def L3_29 : List AStep := ⟨.call 17 [(.t 46)], (some 47), none, [(.load 2 true (.t 8), (some 45), none)]⟩ :: ⟨.call 19 [(.t 45), (.t 47)], (some 48), none, []⟩ :: L3_28
theorem v3_29 : wpS P L3_29 T L (rdy h) K = wpS P (⟨.call 17 [(.t 46)], (some 47), none, [(.load 2 true (.t 8), (some 45), none)]⟩ :: ⟨.call 19 [(.t 45), (.t 47)], (some 48), none, []⟩ :: L3_28) T L (rdy h) K := rfl
def L3_30 : List AStep := ⟨.load 2 true (.t 8), (some 45), none, []⟩ :: ⟨.load 2 true (.t 3), (some 46), none, []⟩ :: L3_29
theorem v3_30 : wpS P L3_30 T L (rdy h) K = wpS P (⟨.load 2 true (.t 8), (some 45), none, []⟩ :: ⟨.load 2 true (.t 3), (some 46), none, []⟩ :: L3_29) T L (rdy h) K := rfl
def L3_31 : List AStep := [⟨.mov (.c (.bool false)), (some 4), none, []⟩]
theorem v3_31 : wpS P L3_31 T L (rdy h) K = wpS P ([⟨.mov (.c (.bool false)), (some 4), none, []⟩]) T L (rdy h) K := rfl
def L3_32 : List AStep := [⟨.mov (.c (.int .i64 1)), (some 10), none, []⟩]
theorem v3_32 : wpS P L3_32 T L (rdy h) K = wpS P ([⟨.mov (.c (.int .i64 1)), (some 10), none, []⟩]) T L (rdy h) K := rfl
def L3_33 : List AStep := [⟨.call 21 [(.t 50), (.t 51)], (some 52), none, []⟩, ⟨.mov (.t 52), (some 10), none, []⟩]
theorem v3_33 : wpS P L3_33 T L (rdy h) K = wpS P ([⟨.call 21 [(.t 50), (.t 51)], (some 52), none, []⟩, ⟨.mov (.t 52), (some 10), none, []⟩]) T L (rdy h) K := rfl
def L3_34 : List AStep := ⟨.mov (.t 7), (some 50), none, []⟩ :: ⟨.mov (.t 10), (some 51), none, []⟩ :: L3_33
theorem v3_34 : wpS P L3_34 T L (rdy h) K = wpS P (⟨.mov (.t 7), (some 50), none, []⟩ :: ⟨.mov (.t 10), (some 51), none, []⟩ :: L3_33) T L (rdy h) K := rfl
def L3_35 : List AStep := [⟨.call 22 [(.t 53), (.t 54)], (some 55), none, []⟩, ⟨.mov (.t 55), (some 10), none, []⟩]
theorem v3_35 : wpS P L3_35 T L (rdy h) K = wpS P ([⟨.call 22 [(.t 53), (.t 54)], (some 55), none, []⟩, ⟨.mov (.t 55), (some 10), none, []⟩]) T L (rdy h) K := rfl
def L3_36 : List AStep := ⟨.load 2 true (.t 8), (some 53), none, []⟩ :: ⟨.mov (.t 10), (some 54), none, []⟩ :: L3_35
theorem v3_36 : wpS P L3_36 T L (rdy h) K = wpS P (⟨.load 2 true (.t 8), (some 53), none, []⟩ :: ⟨.mov (.t 10), (some 54), none, []⟩ :: L3_35) T L (rdy h) K := rfl
def L3_37 : List AStep := [⟨.not (.t 61), (some 62), (some (58, false)), []⟩, ⟨.pick (.t 58) (.c (.bool true)) (.t 62), (some 63), none, []⟩]
theorem v3_37 : wpS P L3_37 T L (rdy h) K = wpS P ([⟨.not (.t 61), (some 62), (some (58, false)), []⟩, ⟨.pick (.t 58) (.c (.bool true)) (.t 62), (some 63), none, []⟩]) T L (rdy h) K := rfl
def L3_38 : List AStep := ⟨.load 2 true (.t 6), (some 60), (some (58, false)), []⟩ :: ⟨.call 19 [(.t 59), (.t 60)], (some 61), (some (58, false)), []⟩ :: L3_37
theorem v3_38 : wpS P L3_38 T L (rdy h) K = wpS P (⟨.load 2 true (.t 6), (some 60), (some (58, false)), []⟩ :: ⟨.call 19 [(.t 59), (.t 60)], (some 61), (some (58, false)), []⟩ :: L3_37) T L (rdy h) K := rfl
def L3_39 : List AStep := ⟨.mov (.t 57), (some 58), none, []⟩ :: ⟨.load 2 true (.t 9), (some 59), (some (58, false)), []⟩ :: L3_38
theorem v3_39 : wpS P L3_39 T L (rdy h) K = wpS P (⟨.mov (.t 57), (some 58), none, []⟩ :: ⟨.load 2 true (.t 9), (some 59), (some (58, false)), []⟩ :: L3_38) T L (rdy h) K := rfl
def L3_40 : List AStep := ⟨.mov (.t 10), (some 56), none, []⟩ :: ⟨.bin .lss (.t 56) (.c (.int .i64 0)), (some 57), none, []⟩ :: L3_39
theorem v3_40 : wpS P L3_40 T L (rdy h) K = wpS P (⟨.mov (.t 10), (some 56), none, []⟩ :: ⟨.bin .lss (.t 56) (.c (.int .i64 0)), (some 57), none, []⟩ :: L3_39) T L (rdy h) K := rfl
def L3_41 : List AStep := [⟨.mov (.c (.bool false)), (some 4), none, []⟩]
theorem v3_41 : wpS P L3_41 T L (rdy h) K = wpS P ([⟨.mov (.c (.bool false)), (some 4), none, []⟩]) T L (rdy h) K := rfl
def L3_42 : List AStep := [⟨.mov (.c (.int .i64 1)), (some 11), none, []⟩]
theorem v3_42 : wpS P L3_42 T L (rdy h) K = wpS P ([⟨.mov (.c (.int .i64 1)), (some 11), none, []⟩]) T L (rdy h) K := rfl
def L3_43 : List AStep := [⟨.call 22 [(.t 64), (.t 65)], (some 66), none, []⟩, ⟨.mov (.t 66), (some 11), none, []⟩]
theorem v3_43 : wpS P L3_43 T L (rdy h) K = wpS P ([⟨.call 22 [(.t 64), (.t 65)], (some 66), none, []⟩, ⟨.mov (.t 66), (some 11), none, []⟩]) T L (rdy h) K := rfl
def L3_44 : List AStep := ⟨.load 2 true (.t 9), (some 64), none, []⟩ :: ⟨.mov (.t 11), (some 65), none, []⟩ :: L3_43
theorem v3_44 : wpS P L3_44 T L (rdy h) K = wpS P (⟨.load 2 true (.t 9), (some 64), none, []⟩ :: ⟨.mov (.t 11), (some 65), none, []⟩ :: L3_43) T L (rdy h) K := rfl
def L3_45 : List AStep := [⟨.mov (.c (.int .i64 1)), (some 12), none, []⟩]
theorem v3_45 : wpS P L3_45 T L (rdy h) K = wpS P ([⟨.mov (.c (.int .i64 1)), (some 12), none, []⟩]) T L (rdy h) K := rfl
def L3_46 : List AStep := [⟨.call 23 [(.t 67), (.t 68)], (some 69), none, []⟩, ⟨.mov (.t 69), (some 12), none, []⟩]
theorem v3_46 : wpS P L3_46 T L (rdy h) K = wpS P ([⟨.call 23 [(.t 67), (.t 68)], (some 69), none, []⟩, ⟨.mov (.t 69), (some 12), none, []⟩]) T L (rdy h) K := rfl
def L3_47 : List AStep := ⟨.load 2 true (.t 9), (some 67), none, []⟩ :: ⟨.mov (.t 12), (some 68), none, []⟩ :: L3_46
theorem v3_47 : wpS P L3_47 T L (rdy h) K = wpS P (⟨.load 2 true (.t 9), (some 67), none, []⟩ :: ⟨.mov (.t 12), (some 68), none, []⟩ :: L3_46) T L (rdy h) K := rfl
def L3_48 : List AStep := [⟨.mov (.t 12), (some 70), none, []⟩, ⟨.bin .lss (.t 70) (.c (.int .i64 0)), (some 71), none, []⟩]
theorem v3_48 : wpS P L3_48 T L (rdy h) K = wpS P ([⟨.mov (.t 12), (some 70), none, []⟩, ⟨.bin .lss (.t 70) (.c (.int .i64 0)), (some 71), none, []⟩]) T L (rdy h) K := rfl
def L3_49 : List AStep := [⟨.mov (.c (.bool false)), (some 4), none, []⟩]
theorem v3_49 : wpS P L3_49 T L (rdy h) K = wpS P ([⟨.mov (.c (.bool false)), (some 4), none, []⟩]) T L (rdy h) K := rfl
def L3_50 : List AStep := [⟨.bin .neq (.t 72) (.t 73), (some 74), none, []⟩]
theorem v3_50 : wpS P L3_50 T L (rdy h) K = wpS P ([⟨.bin .neq (.t 72) (.t 73), (some 74), none, []⟩]) T L (rdy h) K := rfl
def L3_51 : List AStep := ⟨.mov (.t 12), (some 72), none, []⟩ :: ⟨.mov (.t 11), (some 73), none, []⟩ :: L3_50
theorem v3_51 : wpS P L3_51 T L (rdy h) K = wpS P (⟨.mov (.t 12), (some 72), none, []⟩ :: ⟨.mov (.t 11), (some 73), none, []⟩ :: L3_50) T L (rdy h) K := rfl
def L3_52 : List AStep := [⟨.mov (.c (.bool false)), (some 4), none, []⟩]
theorem v3_52 : wpS P L3_52 T L (rdy h) K = wpS P ([⟨.mov (.c (.bool false)), (some 4), none, []⟩]) T L (rdy h) K := rfl
def L3_53 : List AStep := [⟨.store 2 (.t 13) (.t 79), none, none, []⟩]
theorem v3_53 : wpS P L3_53 T L (rdy h) K = wpS P ([⟨.store 2 (.t 13) (.t 79), none, none, []⟩]) T L (rdy h) K := rfl
def L3_54 : List AStep := ⟨.call 17 [(.t 77)], (some 78), none, []⟩ :: ⟨.call 18 [(.t 76), (.t 78)], (some 79), none, []⟩ :: L3_53
theorem v3_54 : wpS P L3_54 T L (rdy h) K = wpS P (⟨.call 17 [(.t 77)], (some 78), none, []⟩ :: ⟨.call 18 [(.t 76), (.t 78)], (some 79), none, []⟩ :: L3_53) T L (rdy h) K := rfl
def L3_55 : List AStep := ⟨.alloc 31 [(.sl none 0 (some 0)), (.sl none 0 (some 0))], (some 13), none, []⟩ :: ⟨.call 16 [(.t 75)], (some 76), none, [(.load 2 true (.t 3), (some 77), none)]⟩ :: L3_54
theorem v3_55 : wpS P L3_55 T L (rdy h) K = wpS P (⟨.alloc 31 [(.sl none 0 (some 0)), (.sl none 0 (some 0))], (some 13), none, []⟩ :: ⟨.call 16 [(.t 75)], (some 76), none, [(.load 2 true (.t 3), (some 77), none)]⟩ :: L3_54) T L (rdy h) K := rfl
def L3_56 : List AStep := ⟨.mov (.t 0), (some 75), none, []⟩ :: ⟨.load 2 true (.t 3), (some 77), none, []⟩ :: L3_55
theorem v3_56 : wpS P L3_56 T L (rdy h) K = wpS P (⟨.mov (.t 0), (some 75), none, []⟩ :: ⟨.load 2 true (.t 3), (some 77), none, []⟩ :: L3_55) T L (rdy h) K := rfl
def L3_57 : List AStep := [⟨.call 19 [(.t 80), (.t 81)], (some 82), none, []⟩, ⟨.not (.t 82), (some 83), none, []⟩]
theorem v3_57 : wpS P L3_57 T L (rdy h) K = wpS P ([⟨.call 19 [(.t 80), (.t 81)], (some 82), none, []⟩, ⟨.not (.t 82), (some 83), none, []⟩]) T L (rdy h) K := rfl
def L3_58 : List AStep := ⟨.load 2 true (.t 13), (some 80), none, []⟩ :: ⟨.load 2 true (.t 6), (some 81), none, []⟩ :: L3_57
theorem v3_58 : wpS P L3_58 T L (rdy h) K = wpS P (⟨.load 2 true (.t 13), (some 80), none, []⟩ :: ⟨.load 2 true (.t 6), (some 81), none, []⟩ :: L3_57) T L (rdy h) K := rfl
def L3_59 : List AStep := [⟨.mov (.c (.bool false)), (some 4), none, []⟩]
theorem v3_59 : wpS P L3_59 T L (rdy h) K = wpS P ([⟨.mov (.c (.bool false)), (some 4), none, []⟩]) T L (rdy h) K := rfl
def L3_60 : List AStep := [⟨.mov (.c (.int .i64 1)), (some 12), none, []⟩]
theorem v3_60 : wpS P L3_60 T L (rdy h) K = wpS P ([⟨.mov (.c (.int .i64 1)), (some 12), none, []⟩]) T L (rdy h) K := rfl
def L3_61 : List AStep := [⟨.call 23 [(.t 84), (.t 85)], (some 86), none, []⟩, ⟨.mov (.t 86), (some 12), none, []⟩]
theorem v3_61 : wpS P L3_61 T L (rdy h) K = wpS P ([⟨.call 23 [(.t 84), (.t 85)], (some 86), none, []⟩, ⟨.mov (.t 86), (some 12), none, []⟩]) T L (rdy h) K := rfl
def L3_62 : List AStep := ⟨.load 2 true (.t 9), (some 84), none, []⟩ :: ⟨.mov (.t 12), (some 85), none, []⟩ :: L3_61
theorem v3_62 : wpS P L3_62 T L (rdy h) K = wpS P (⟨.load 2 true (.t 9), (some 84), none, []⟩ :: ⟨.mov (.t 12), (some 85), none, []⟩ :: L3_61) T L (rdy h) K := rfl
def L3_63 : List AStep := [⟨.mov (.t 12), (some 87), none, []⟩, ⟨.bin .lss (.t 87) (.c (.int .i64 0)), (some 88), none, []⟩]
theorem v3_63 : wpS P L3_63 T L (rdy h) K = wpS P ([⟨.mov (.t 12), (some 87), none, []⟩, ⟨.bin .lss (.t 87) (.c (.int .i64 0)), (some 88), none, []⟩]) T L (rdy h) K := rfl
def L3_64 : List AStep := [⟨.mov (.c (.bool false)), (some 4), none, []⟩]
theorem v3_64 : wpS P L3_64 T L (rdy h) K = wpS P ([⟨.mov (.c (.bool false)), (some 4), none, []⟩]) T L (rdy h) K := rfl
def L3_65 : List AStep := [⟨.bin .neq (.t 89) (.t 90), (some 91), none, []⟩]
theorem v3_65 : wpS P L3_65 T L (rdy h) K = wpS P ([⟨.bin .neq (.t 89) (.t 90), (some 91), none, []⟩]) T L (rdy h) K := rfl
def L3_66 : List AStep := ⟨.mov (.t 12), (some 89), none, []⟩ :: ⟨.mov (.t 11), (some 90), none, []⟩ :: L3_65
theorem v3_66 : wpS P L3_66 T L (rdy h) K = wpS P (⟨.mov (.t 12), (some 89), none, []⟩ :: ⟨.mov (.t 11), (some 90), none, []⟩ :: L3_65) T L (rdy h) K := rfl
def L3_67 : List AStep := [⟨.mov (.c (.bool false)), (some 4), none, []⟩]
theorem v3_67 : wpS P L3_67 T L (rdy h) K = wpS P ([⟨.mov (.c (.bool false)), (some 4), none, []⟩]) T L (rdy h) K := rfl
def L3_68 : List AStep := [⟨.mov (.c (.bool true)), (some 4), none, []⟩]
theorem v3_68 : wpS P L3_68 T L (rdy h) K = wpS P ([⟨.mov (.c (.bool true)), (some 4), none, []⟩]) T L (rdy h) K := rfl
def C3_0 : ACode := .seq (.reg L3_5) .ret
theorem u3_0 : wpC P C3_0 T L (rdy h) Q = wpC P (.seq (.reg L3_5) .ret) T L (rdy h) Q := rfl
def C3_1 : ACode := .cond (.t 18) C3_0 .skip
theorem u3_1 : wpC P C3_1 T L (rdy h) Q = wpC P (.cond (.t 18) C3_0 .skip) T L (rdy h) Q := rfl
def C3_2 : ACode := .seq (.reg L3_4) C3_1
theorem u3_2 : wpC P C3_2 T L (rdy h) Q = wpC P (.seq (.reg L3_4) C3_1) T L (rdy h) Q := rfl
def C3_3 : ACode := .seq (.reg L3_9) .ret
theorem u3_3 : wpC P C3_3 T L (rdy h) Q = wpC P (.seq (.reg L3_9) .ret) T L (rdy h) Q := rfl
def C3_4 : ACode := .cond (.t 23) C3_3 .skip
theorem u3_4 : wpC P C3_4 T L (rdy h) Q = wpC P (.cond (.t 23) C3_3 .skip) T L (rdy h) Q := rfl
def C3_5 : ACode := .seq (.reg L3_8) C3_4
theorem u3_5 : wpC P C3_5 T L (rdy h) Q = wpC P (.seq (.reg L3_8) C3_4) T L (rdy h) Q := rfl
def C3_6 : ACode := .seq (.reg L3_23) .ret
theorem u3_6 : wpC P C3_6 T L (rdy h) Q = wpC P (.seq (.reg L3_23) .ret) T L (rdy h) Q := rfl
def C3_7 : ACode := .cond (.t 39) C3_6 .skip
theorem u3_7 : wpC P C3_7 T L (rdy h) Q = wpC P (.cond (.t 39) C3_6 .skip) T L (rdy h) Q := rfl
def C3_8 : ACode := .seq (.reg L3_22) C3_7
theorem u3_8 : wpC P C3_8 T L (rdy h) Q = wpC P (.seq (.reg L3_22) C3_7) T L (rdy h) Q := rfl
def C3_9 : ACode := .seq (.reg L3_27) .ret
theorem u3_9 : wpC P C3_9 T L (rdy h) Q = wpC P (.seq (.reg L3_27) .ret) T L (rdy h) Q := rfl
def C3_10 : ACode := .cond (.t 44) C3_9 .skip
theorem u3_10 : wpC P C3_10 T L (rdy h) Q = wpC P (.cond (.t 44) C3_9 .skip) T L (rdy h) Q := rfl
def C3_11 : ACode := .seq (.reg L3_26) C3_10
theorem u3_11 : wpC P C3_11 T L (rdy h) Q = wpC P (.seq (.reg L3_26) C3_10) T L (rdy h) Q := rfl
def C3_12 : ACode := .seq (.reg L3_31) .ret
theorem u3_12 : wpC P C3_12 T L (rdy h) Q = wpC P (.seq (.reg L3_31) .ret) T L (rdy h) Q := rfl
def C3_13 : ACode := .cond (.t 49) C3_12 .skip
theorem u3_13 : wpC P C3_13 T L (rdy h) Q = wpC P (.cond (.t 49) C3_12 .skip) T L (rdy h) Q := rfl
def C3_14 : ACode := .seq (.reg L3_30) C3_13
theorem u3_14 : wpC P C3_14 T L (rdy h) Q = wpC P (.seq (.reg L3_30) C3_13) T L (rdy h) Q := rfl
def C3_15 : ACode := .seq (.reg L3_41) .ret
theorem u3_15 : wpC P C3_15 T L (rdy h) Q = wpC P (.seq (.reg L3_41) .ret) T L (rdy h) Q := rfl
def C3_16 : ACode := .cond (.t 63) C3_15 .skip
theorem u3_16 : wpC P C3_16 T L (rdy h) Q = wpC P (.cond (.t 63) C3_15 .skip) T L (rdy h) Q := rfl
def C3_17 : ACode := .seq (.reg L3_40) C3_16
theorem u3_17 : wpC P C3_17 T L (rdy h) Q = wpC P (.seq (.reg L3_40) C3_16) T L (rdy h) Q := rfl
def C3_18 : ACode := .seq (.reg L3_49) .ret
theorem u3_18 : wpC P C3_18 T L (rdy h) Q = wpC P (.seq (.reg L3_49) .ret) T L (rdy h) Q := rfl
def C3_19 : ACode := .cond (.t 71) C3_18 .skip
theorem u3_19 : wpC P C3_19 T L (rdy h) Q = wpC P (.cond (.t 71) C3_18 .skip) T L (rdy h) Q := rfl
def C3_20 : ACode := .seq (.reg L3_48) C3_19
theorem u3_20 : wpC P C3_20 T L (rdy h) Q = wpC P (.seq (.reg L3_48) C3_19) T L (rdy h) Q := rfl
def C3_21 : ACode := .seq (.reg L3_52) .ret
theorem u3_21 : wpC P C3_21 T L (rdy h) Q = wpC P (.seq (.reg L3_52) .ret) T L (rdy h) Q := rfl
def C3_22 : ACode := .cond (.t 74) C3_21 .skip
theorem u3_22 : wpC P C3_22 T L (rdy h) Q = wpC P (.cond (.t 74) C3_21 .skip) T L (rdy h) Q := rfl
def C3_23 : ACode := .seq (.reg L3_51) C3_22
theorem u3_23 : wpC P C3_23 T L (rdy h) Q = wpC P (.seq (.reg L3_51) C3_22) T L (rdy h) Q := rfl
def C3_24 : ACode := .seq (.reg L3_59) .ret
theorem u3_24 : wpC P C3_24 T L (rdy h) Q = wpC P (.seq (.reg L3_59) .ret) T L (rdy h) Q := rfl
def C3_25 : ACode := .cond (.t 83) C3_24 .skip
theorem u3_25 : wpC P C3_25 T L (rdy h) Q = wpC P (.cond (.t 83) C3_24 .skip) T L (rdy h) Q := rfl
def C3_26 : ACode := .seq (.reg L3_58) C3_25
theorem u3_26 : wpC P C3_26 T L (rdy h) Q = wpC P (.seq (.reg L3_58) C3_25) T L (rdy h) Q := rfl
def C3_27 : ACode := .seq (.reg L3_64) .ret
theorem u3_27 : wpC P C3_27 T L (rdy h) Q = wpC P (.seq (.reg L3_64) .ret) T L (rdy h) Q := rfl
def C3_28 : ACode := .cond (.t 88) C3_27 .skip
theorem u3_28 : wpC P C3_28 T L (rdy h) Q = wpC P (.cond (.t 88) C3_27 .skip) T L (rdy h) Q := rfl
def C3_29 : ACode := .seq (.reg L3_63) C3_28
theorem u3_29 : wpC P C3_29 T L (rdy h) Q = wpC P (.seq (.reg L3_63) C3_28) T L (rdy h) Q := rfl
def C3_30 : ACode := .seq (.reg L3_67) .ret
theorem u3_30 : wpC P C3_30 T L (rdy h) Q = wpC P (.seq (.reg L3_67) .ret) T L (rdy h) Q := rfl
def C3_31 : ACode := .cond (.t 91) C3_30 .skip
theorem u3_31 : wpC P C3_31 T L (rdy h) Q = wpC P (.cond (.t 91) C3_30 .skip) T L (rdy h) Q := rfl
def C3_32 : ACode := .seq (.reg L3_66) C3_31
theorem u3_32 : wpC P C3_32 T L (rdy h) Q = wpC P (.seq (.reg L3_66) C3_31) T L (rdy h) Q := rfl
def C3_33 : ACode := .seq (.reg L3_68) .ret
theorem u3_33 : wpC P C3_33 T L (rdy h) Q = wpC P (.seq (.reg L3_68) .ret) T L (rdy h) Q := rfl
def C3_34 : ACode := .seq C3_32 C3_33
theorem u3_34 : wpC P C3_34 T L (rdy h) Q = wpC P (.seq C3_32 C3_33) T L (rdy h) Q := rfl
def C3_35 : ACode := .seq C3_29 C3_34
theorem u3_35 : wpC P C3_35 T L (rdy h) Q = wpC P (.seq C3_29 C3_34) T L (rdy h) Q := rfl
def C3_36 : ACode := .seq (.reg L3_62) C3_35
theorem u3_36 : wpC P C3_36 T L (rdy h) Q = wpC P (.seq (.reg L3_62) C3_35) T L (rdy h) Q := rfl
def C3_37 : ACode := .seq (.reg L3_60) C3_36
theorem u3_37 : wpC P C3_37 T L (rdy h) Q = wpC P (.seq (.reg L3_60) C3_36) T L (rdy h) Q := rfl
def C3_38 : ACode := .seq C3_26 C3_37
theorem u3_38 : wpC P C3_38 T L (rdy h) Q = wpC P (.seq C3_26 C3_37) T L (rdy h) Q := rfl
def C3_39 : ACode := .seq (.reg L3_56) C3_38
theorem u3_39 : wpC P C3_39 T L (rdy h) Q = wpC P (.seq (.reg L3_56) C3_38) T L (rdy h) Q := rfl
def C3_40 : ACode := .seq C3_23 C3_39
theorem u3_40 : wpC P C3_40 T L (rdy h) Q = wpC P (.seq C3_23 C3_39) T L (rdy h) Q := rfl
def C3_41 : ACode := .seq C3_20 C3_40
theorem u3_41 : wpC P C3_41 T L (rdy h) Q = wpC P (.seq C3_20 C3_40) T L (rdy h) Q := rfl
def C3_42 : ACode := .seq (.reg L3_47) C3_41
theorem u3_42 : wpC P C3_42 T L (rdy h) Q = wpC P (.seq (.reg L3_47) C3_41) T L (rdy h) Q := rfl
def C3_43 : ACode := .seq (.reg L3_45) C3_42
theorem u3_43 : wpC P C3_43 T L (rdy h) Q = wpC P (.seq (.reg L3_45) C3_42) T L (rdy h) Q := rfl
def C3_44 : ACode := .seq (.reg L3_44) C3_43
theorem u3_44 : wpC P C3_44 T L (rdy h) Q = wpC P (.seq (.reg L3_44) C3_43) T L (rdy h) Q := rfl
def C3_45 : ACode := .seq (.reg L3_42) C3_44
theorem u3_45 : wpC P C3_45 T L (rdy h) Q = wpC P (.seq (.reg L3_42) C3_44) T L (rdy h) Q := rfl
def C3_46 : ACode := .seq C3_17 C3_45
theorem u3_46 : wpC P C3_46 T L (rdy h) Q = wpC P (.seq C3_17 C3_45) T L (rdy h) Q := rfl
def C3_47 : ACode := .seq (.reg L3_36) C3_46
theorem u3_47 : wpC P C3_47 T L (rdy h) Q = wpC P (.seq (.reg L3_36) C3_46) T L (rdy h) Q := rfl
def C3_48 : ACode := .seq (.reg L3_34) C3_47
theorem u3_48 : wpC P C3_48 T L (rdy h) Q = wpC P (.seq (.reg L3_34) C3_47) T L (rdy h) Q := rfl
def C3_49 : ACode := .seq (.reg L3_32) C3_48
theorem u3_49 : wpC P C3_49 T L (rdy h) Q = wpC P (.seq (.reg L3_32) C3_48) T L (rdy h) Q := rfl
def C3_50 : ACode := .seq C3_14 C3_49
theorem u3_50 : wpC P C3_50 T L (rdy h) Q = wpC P (.seq C3_14 C3_49) T L (rdy h) Q := rfl
def C3_51 : ACode := .seq C3_11 C3_50
theorem u3_51 : wpC P C3_51 T L (rdy h) Q = wpC P (.seq C3_11 C3_50) T L (rdy h) Q := rfl
def C3_52 : ACode := .seq C3_8 C3_51
theorem u3_52 : wpC P C3_52 T L (rdy h) Q = wpC P (.seq C3_8 C3_51) T L (rdy h) Q := rfl
def C3_53 : ACode := .seq (.reg L3_20) C3_52
theorem u3_53 : wpC P C3_53 T L (rdy h) Q = wpC P (.seq (.reg L3_20) C3_52) T L (rdy h) Q := rfl
def C3_54 : ACode := .seq (.reg L3_17) C3_53
theorem u3_54 : wpC P C3_54 T L (rdy h) Q = wpC P (.seq (.reg L3_17) C3_53) T L (rdy h) Q := rfl
def C3_55 : ACode := .seq (.reg L3_15) C3_54
theorem u3_55 : wpC P C3_55 T L (rdy h) Q = wpC P (.seq (.reg L3_15) C3_54) T L (rdy h) Q := rfl
def C3_56 : ACode := .seq (.reg L3_13) C3_55
theorem u3_56 : wpC P C3_56 T L (rdy h) Q = wpC P (.seq (.reg L3_13) C3_55) T L (rdy h) Q := rfl
def C3_57 : ACode := .seq C3_5 C3_56
theorem u3_57 : wpC P C3_57 T L (rdy h) Q = wpC P (.seq C3_5 C3_56) T L (rdy h) Q := rfl
def C3_58 : ACode := .seq (.reg L3_7) C3_57
theorem u3_58 : wpC P C3_58 T L (rdy h) Q = wpC P (.seq (.reg L3_7) C3_57) T L (rdy h) Q := rfl
def C3_59 : ACode := .seq C3_2 C3_58
theorem u3_59 : wpC P C3_59 T L (rdy h) Q = wpC P (.seq C3_2 C3_58) T L (rdy h) Q := rfl
def C3_60 : ACode := .seq (.reg L3_3) C3_59
theorem u3_60 : wpC P C3_60 T L (rdy h) Q = wpC P (.seq (.reg L3_3) C3_59) T L (rdy h) Q := rfl
def C3_61 : ACode := .seq (.reg L3_1) C3_60
theorem u3_61 : wpC P C3_61 T L (rdy h) Q = wpC P (.seq (.reg L3_1) C3_60) T L (rdy h) Q := rfl
def C3_62 : ACode := .seq (.reg L3_0) C3_61
theorem u3_62 : wpC P C3_62 T L (rdy h) Q = wpC P (.seq (.reg L3_0) C3_61) T L (rdy h) Q := rfl
def F3 : AFunc := ⟨92, [.tmp 4], C3_62⟩
theorem cF3 : compB Try.prog 3 = some F3 := by kernel_rfl
end
attribute [local go_sem ↓] u3_0 u3_1 u3_2 u3_3 u3_4 u3_5 u3_6 u3_7 u3_8 u3_9 u3_10 u3_11 u3_12 u3_13 u3_14 u3_15 u3_16 u3_17 u3_18 u3_19 u3_20 u3_21 u3_22 u3_23 u3_24 u3_25 u3_26 u3_27 u3_28 u3_29 u3_30 u3_31 u3_32 u3_33 u3_34 u3_35 u3_36 u3_37 u3_38 u3_39 u3_40 u3_41 u3_42 u3_43 u3_44 u3_45 u3_46 u3_47 u3_48 u3_49 u3_50 u3_51 u3_52 u3_53 u3_54 u3_55 u3_56 u3_57 u3_58 u3_59 u3_60 u3_61 u3_62 v3_0 v3_1 v3_2 v3_3 v3_4 v3_5 v3_6 v3_7 v3_8 v3_9 v3_10 v3_11 v3_12 v3_13 v3_14 v3_15 v3_16 v3_17 v3_18 v3_19 v3_20 v3_21 v3_22 v3_23 v3_24 v3_25 v3_26 v3_27 v3_28 v3_29 v3_30 v3_31 v3_32 v3_33 v3_34 v3_35 v3_36 v3_37 v3_38 v3_39 v3_40 v3_41 v3_42 v3_43 v3_44 v3_45 v3_46 v3_47 v3_48 v3_49 v3_50 v3_51 v3_52 v3_53 v3_54 v3_55 v3_56 v3_57 v3_58 v3_59 v3_60 v3_61 v3_62 v3_63 v3_64 v3_65 v3_66 v3_67 v3_68
theorem law3 (h : H) (avs : List AV) (hok : okVs Try.prog h 6 [ 22, 26 ] avs) : callK (bm Try.prog 3 avs h) fun r _ => r = ib true := by
  obtain ⟨v0, avs, rfl, hv0, hok⟩ := okVs_cons hok
  obtain ⟨v1, avs, rfl, hv1, hok⟩ := okVs_cons hok
  obtain rfl := okVs_nil hok
  obtain ⟨p0, x0, rfl, d0⟩ := dU hv0
  obtain ⟨p1, n1, x1, rfl, d1⟩ := dF hv1
  refine bm_of cF3 ?_
  have z0 := k_szU x0 p0 1048576 h (by omega) (by omega) d0
  by_cases y0 : szr 1048576 (wtU x0) < 0
  · simp +contextual (maxSteps := 2000000) only [go_sem, Nat.reduceEqDiff, reduceCtorEq, Nat.reduceAdd, Nat.reduceLeDiff, F3, z0, decide_eq_true y0]
  have z1 := k_szF x1 p1 n1 (szr 1048576 (wtU x0)) h (by omega) (by unfold szr; split <;> omega) d1
  by_cases y1 : szr (szr 1048576 (wtU x0)) (wtF x1) < 0
  · simp +contextual (maxSteps := 2000000) only [go_sem, Nat.reduceEqDiff, reduceCtorEq, Nat.reduceAdd, Nat.reduceLeDiff, F3, z0, z1, decide_eq_false y0, decide_eq_true y1]
  obtain ⟨e0, u0⟩ := szr_ge y0
  obtain ⟨e1, u1⟩ := szr_ge y1
  have s0 : miniU x0 := wtU_sm (by omega)
  have s1 : miniF x1 := wtF_sm (by omega)
  have hR : miniF (turnFlat x0 x1) := .turn s0 s1
  simp +contextual (maxSteps := 2000000) only [go_sem, Nat.reduceEqDiff, reduceCtorEq, Nat.reduceAdd, Nat.reduceLeDiff, F3, z0, z1, decide_eq_false y0, decide_eq_false y1]
  refine wp_call (k_toU x0 p0 h (d0.grow (Grow.refl h)) s0) ?_
  rintro r h1 ⟨g1, p0a, rfl, a0a⟩
  simp +contextual (maxSteps := 2000000) only [go_sem, Nat.reduceEqDiff, reduceCtorEq, Nat.reduceAdd, Nat.reduceLeDiff]
  refine wp_call (k_toF x1 p1 n1 h1 (d1.grow ((Grow.refl h).trans g1)) s1) ?_
  rintro r h2 ⟨g2, p1a, n1a, rfl, a1a⟩
  simp +contextual (maxSteps := 2000000) only [go_sem, Nat.reduceEqDiff, reduceCtorEq, Nat.reduceAdd, Nat.reduceLeDiff]
  refine wp_call (k_sTurnFlat x0 x1 p0a p1a n1a h2 (a0a.sl.grow g2) (a1a.sl) s0 s1) ?_
  rintro r h3 ⟨g3, pw, nw, rfl, w0⟩
  simp +contextual (maxSteps := 2000000) only [go_sem, Nat.reduceEqDiff, reduceCtorEq, Nat.reduceAdd, Nat.reduceLeDiff]
  refine wp_call (k_toU x0 p0 h3 (d0.grow ((((Grow.refl h).trans g1).trans g2).trans g3)) s0) ?_
  rintro r h4 ⟨g4, p0b, rfl, a0b⟩
  simp +contextual (maxSteps := 2000000) only [go_sem, Nat.reduceEqDiff, reduceCtorEq, Nat.reduceAdd, Nat.reduceLeDiff]
  refine wp_call (k_toF x1 p1 n1 h4 (d1.grow (((((Grow.refl h).trans g1).trans g2).trans g3).trans g4)) s1) ?_
  rintro r h5 ⟨g5, p1b, n1b, rfl, a1b⟩
  simp +contextual (maxSteps := 2000000) only [go_sem, Nat.reduceEqDiff, reduceCtorEq, Nat.reduceAdd, Nat.reduceLeDiff]
  refine wp_call (k_iTurnFlat x0 x1 p0b p1b n1b h5 (a0b.sl.grow g5) (a1b.sl) s0 s1) ?_
  rintro r h6 ⟨g6, pg, ng, rfl, b0⟩
  have q0 := k_eqF (turnFlat x0 x1) (turnFlat x0 x1) pg ng pw nw h6 (b0.sl) (w0.sl.grow ((g4.trans g5).trans g6)) hR
  simp +contextual (maxSteps := 2000000) only [go_sem, Nat.reduceEqDiff, reduceCtorEq, Nat.reduceAdd, Nat.reduceLeDiff, q0, decide_true]
  refine wp_call (k_toU x0 p0 h6 (d0.grow (((((((Grow.refl h).trans g1).trans g2).trans g3).trans g4).trans g5).trans g6)) s0) ?_
  rintro r h7 ⟨g7, p0c, rfl, a0c⟩
  have q1 := k_eqU x0 x0 p0b p0c h7 (a0b.sl.grow ((g5.trans g6).trans g7)) a0c.sl s0
  simp +contextual (maxSteps := 2000000) only [go_sem, Nat.reduceEqDiff, reduceCtorEq, Nat.reduceAdd, Nat.reduceLeDiff, q1, decide_true]
  refine wp_call (k_toF x1 p1 n1 h7 (d1.grow ((((((((Grow.refl h).trans g1).trans g2).trans g3).trans g4).trans g5).trans g6).trans g7)) s1) ?_
  rintro r h8 ⟨g8, p1c, n1c, rfl, a1c⟩
  have q2 := k_eqF x1 x1 p1b n1b p1c n1c h8 (a1b.sl.grow ((g6.trans g7).trans g8)) a1c.sl s1
  simp +contextual (maxSteps := 2000000) only [go_sem, Nat.reduceEqDiff, reduceCtorEq, Nat.reduceAdd, Nat.reduceLeDiff, q2, decide_true]
  have k0 := cellsU_le s0
  have k1 := cellsF_le s1
  have G8 : Grow h3 h8 := ((((g4.trans g5).trans g6).trans g7).trans g8)
  refine wp_call (k_markU x0 p0b 1 h3 h4 h8 ((a0b.grow (((g5.trans g6).trans g7).trans g8))) a0b G8 (by omega) (by omega) s0) ?_
  rintro r h9 ⟨rfl, G80, m0, N0⟩
  have M0 := N0
  simp +contextual (maxSteps := 2000000) only [go_sem, Nat.reduceEqDiff, reduceCtorEq, Nat.reduceAdd, Nat.reduceLeDiff]
  refine wp_call (k_markF x1 p1b n1b _ h3 h5 h9 (((a1b.grow ((g6.trans g7).trans g8)).mid M0 (Nat.le_refl _)).from g4.n) (a1b.from g4.n) G80 (by omega) (by omega) s1) ?_
  rintro r h10 ⟨rfl, G81, m1, N1⟩
  have M1 : Mid h3.n h5.n h8 h10 := (M0.widen g5.n).trans N1
  have b1 := (b0.grow (g7.trans g8)).mid M1 (Nat.le_refl _)
  have w1 := w0.grow G81
  have qa := k_eqF (turnFlat x0 x1) (turnFlat x0 x1) pg ng pw nw h10 (b1.sl) (w1.sl) hR
  simp +contextual (maxSteps := 2000000) only [go_sem, Nat.reduceEqDiff, reduceCtorEq, Nat.reduceAdd, Nat.reduceLeDiff, qa, decide_true, decide_eq_false (show ¬ ((1 : Int) + (cellsU x0 : Nat) + (cellsF x1 : Nat) < 0) by omega)]
  have kr := cellsF_le hR
  have lh : h3.n ≤ h5.n := (g4.trans g5).n
  refine wp_call (k_markF (turnFlat x0 x1) pg ng 1 h3 h6 h10 (b1.from lh) (b0.from lh) G81 (by omega) (by omega) hR) ?_
  rintro r h11 ⟨rfl, Gm, mr, Mr⟩
  have qh := k_heldF (turnFlat x0 x1) pg ng 1 h11 mr (by omega) (by omega) hR
  simp +contextual (maxSteps := 2000000) only [go_sem, Nat.reduceEqDiff, reduceCtorEq, Nat.reduceAdd, Nat.reduceLeDiff, qh, decide_true, decide_eq_false (show ¬ ((1 : Int) + (cellsF (turnFlat x0 x1) : Nat) < 0) by omega)]
  have H1 : Grow h h11 := ((((Grow.refl h).trans g1).trans g2).trans g3).trans Gm
  refine wp_call (k_toU x0 p0 h11 (d0.grow H1) s0) ?_
  rintro r h12 ⟨g12, p0d, rfl, a0d⟩
  simp +contextual (maxSteps := 2000000) only [go_sem, Nat.reduceEqDiff, reduceCtorEq, Nat.reduceAdd, Nat.reduceLeDiff]
  refine wp_call (k_toF x1 p1 n1 h12 (d1.grow (H1.trans g12)) s1) ?_
  rintro r h13 ⟨g13, p1d, n1d, rfl, a1d⟩
  simp +contextual (maxSteps := 2000000) only [go_sem, Nat.reduceEqDiff, reduceCtorEq, Nat.reduceAdd, Nat.reduceLeDiff]
  refine wp_call (k_iTurnFlat x0 x1 p0d p1d n1d h13 (a0d.sl.grow g13) (a1d.sl) s0 s1) ?_
  rintro r h14 ⟨g14, py, ny, rfl, b2⟩
  have G9 : Grow h11 h14 := ((g12.trans g13).trans g14)
  have qz := k_eqF (turnFlat x0 x1) (turnFlat x0 x1) py ny pw nw h14 (b2.sl) ((w0.grow (Gm.trans G9)).sl) hR
  have qy := k_heldF (turnFlat x0 x1) pg ng 1 h14 (mr.grow G9) (by omega) (by omega) hR
  simp +contextual (maxSteps := 2000000) only [go_sem, Nat.reduceEqDiff, reduceCtorEq, Nat.reduceAdd, Nat.reduceLeDiff, qz, qy, decide_true, decide_eq_false (show ¬ ((1 : Int) + (cellsF (turnFlat x0 x1) : Nat) < 0) by omega)]
  exact gcK_of rfl (fun _ _ => rfl)
end Go.Proofs.Ytcbnihbilmlokaa.Am
