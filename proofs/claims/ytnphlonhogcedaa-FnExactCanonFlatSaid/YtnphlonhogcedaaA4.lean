/- Contracts of the program: signatures that are valid. -/
import Derived.Test.YtnphlonhogcedaaA3
namespace Go.Proofs.Ytnphlonhogcedaa.Am
open Go
set_option maxRecDepth 100000
set_option maxHeartbeats 4000000
set_option linter.unusedSimpArgs false
set_option linter.unusedVariables false
attribute [local go_sem ↓] bv_t bv_c ev_t ev_c put_same put_ne put_none kill_at pro_at lb_same lb_ne start_zero start_succ wpC_seq wpC_reg wpC_cond wpC_block wpC_skip wpC_exit wpC_ret thenQ_normal thenQ_exit thenQ_ret inBlk_normal inBlk_exit inBlk_ret wpS_nil wpS_step wpS_again wpS_guard wpO_mov wpO_load wpO_faddr wpO_nilCheck wpO_pick wpO_build wpO_bin wpO_eqb wpO_eqst wpO_eqnil wpO_not wpO_conv wpO_bytesStr wpO_iaddr wpO_idxStr wpO_field wpO_extract wpO_len wpO_lenStr wpO_cap wpO_min wpO_slice wpO_sliceStr wpO_alloc wpO_box wpO_store wpO_call wpO_callv wpO_mkfn wpO_buildSlice wpO_mkslice wpO_append wpO_appz proA_nil proA_cons tmpX_nil tmpX_tmp tmpX_cell doneB_normal doneB_ret agK_cons agK_nil pureB_load results_one results_two results_nil resBs_cons resBs_nil resB_tmp resB_cell
attribute [local go_sem] kill_v kill_lp_ne kill_lp_same pro_v pro_lp_same pro_lp_ne av_v av_lp optB_some optX_some valX_eq ldX_lp ldX_v faX_lp faX_v ncX_lp ncX_ptr ncX_fn boxK_one boxK_agg stL_some stK_lp_one stK_lp_agg stK_v_one stK_v_agg proM_v proM_lp callG_mk callVG_mk callvK_fn fnG_mk ptrsA_nil ptrsA_cons callH_some whenA_true whenA_false guardH_tt guardH_ff guardH_tf guardH_ft guardH_undef agV_one agV_agg lenO_sl lenStrO_str notO_bool pickO_bool convO_int eqbO_bool eqnilO_sl extractO_tup capO_sl minO_int loadL_one loadL_all storeL_eq fillA_nil fillA_one fillA_agg nat_ge neg_ge nat_lt neg_lt buildO bin_add bin_sub bin_mul bin_eql bin_neq bin_lss bin_leq bin_gtr bin_geq str_eql str_neq str_lss str_leq str_gtr str_geq retK_some endK_mk gcK_same gcK_int gcK_bool tupO_one tupO_agg rdy_self ib ii Option.map_none Option.map_some Option.some.injEq exists_eq_left' exists_eq_left ne_eq not_false_eq_true if_true if_false List.map_cons List.map_nil List.getElem?_cons_zero List.getElem?_cons_succ List.length_cons List.length_nil List.take_succ_cons List.take_zero List.take_nil List.drop_succ_cons List.drop_zero List.drop_nil List.cons_append List.nil_append List.append_nil List.set_cons_zero List.set_cons_succ Nat.zero_add forall_const true_and and_true and_self Bool.false_eq_true false_implies true_implies implies_true Bool.not_true Bool.not_false Bool.not_eq_true' Bool.not_eq_false' beq_self_eq_true Bool.bne_true Bool.bne_false
attribute [local go_sem] lenI lenS lenP lenQ lenB lenL lenT encI_0 encS_0 encP_0 encP_1 encQ_0 encQ_1 encQ_2 encQ_3 encB_0 encB_1 encL_0 encL_1 encT_0 encT_1
attribute [local go_sem low] whenA_bool guardH_bool
section
variable {P : Program} {T : Tb} {L : Lb} {h : H} {Q : PostC} {K : Post}
/-! impl.ValidSignature -/
def L93_0 : List AStep := [⟨.box 51 (.t 0), (some 1), none, []⟩, ⟨.mov (.c (.bool false)), (some 2), none, []⟩]
theorem v93_0 : wpS P L93_0 T L (rdy h) K = wpS P ([⟨.box 51 (.t 0), (some 1), none, []⟩, ⟨.mov (.c (.bool false)), (some 2), none, []⟩]) T L (rdy h) K := rfl
def L93_1 : List AStep := [⟨.mov (.c (.bool false)), (some 3), none, []⟩]
theorem v93_1 : wpS P L93_1 T L (rdy h) K = wpS P ([⟨.mov (.c (.bool false)), (some 3), none, []⟩]) T L (rdy h) K := rfl
def L93_2 : List AStep := [⟨.len (.t 8), (some 9), none, []⟩, ⟨.mov (.c (.int .i64 0)), (some 10), none, []⟩]
theorem v93_2 : wpS P L93_2 T L (rdy h) K = wpS P ([⟨.len (.t 8), (some 9), none, []⟩, ⟨.mov (.c (.int .i64 0)), (some 10), none, []⟩]) T L (rdy h) K := rfl
def L93_3 : List AStep := ⟨.faddr 0 (.t 1), (some 7), none, []⟩ :: ⟨.load 1 false (.t 7), (some 8), none, []⟩ :: L93_2
theorem v93_3 : wpS P L93_3 T L (rdy h) K = wpS P (⟨.faddr 0 (.t 1), (some 7), none, []⟩ :: ⟨.load 1 false (.t 7), (some 8), none, []⟩ :: L93_2) T L (rdy h) K := rfl
def L93_4 : List AStep := [⟨.bin .lss (.t 10) (.t 9), (some 11), none, []⟩]
theorem v93_4 : wpS P L93_4 T L (rdy h) K = wpS P ([⟨.bin .lss (.t 10) (.t 9), (some 11), none, []⟩]) T L (rdy h) K := rfl
def L93_5 : List AStep := [⟨.mov (.t 12), (some 4), none, []⟩, ⟨.store 4 (.t 5) (.t 14), none, none, []⟩]
theorem v93_5 : wpS P L93_5 T L (rdy h) K = wpS P ([⟨.mov (.t 12), (some 4), none, []⟩, ⟨.store 4 (.t 5) (.t 14), none, none, []⟩]) T L (rdy h) K := rfl
def L93_6 : List AStep := ⟨.load 4 true (.t 13), (some 14), none, []⟩ :: ⟨.alloc 108 [(.str (strOfNums [])), (.int .i64 0), (.bool false), (.int .i64 0)], (some 5), none, []⟩ :: L93_5
theorem v93_6 : wpS P L93_6 T L (rdy h) K = wpS P (⟨.load 4 true (.t 13), (some 14), none, []⟩ :: ⟨.alloc 108 [(.str (strOfNums [])), (.int .i64 0), (.bool false), (.int .i64 0)], (some 5), none, []⟩ :: L93_5) T L (rdy h) K := rfl
def L93_7 : List AStep := ⟨.mov (.t 10), (some 12), none, []⟩ :: ⟨.iaddr 4 (.t 8) (.t 10), (some 13), none, []⟩ :: L93_6
theorem v93_7 : wpS P L93_7 T L (rdy h) K = wpS P (⟨.mov (.t 10), (some 12), none, []⟩ :: ⟨.iaddr 4 (.t 8) (.t 10), (some 13), none, []⟩ :: L93_6) T L (rdy h) K := rfl
def L93_8 : List AStep := [⟨.pick (.t 41) (.c (.bool true)) (.t 48), (some 49), none, []⟩]
theorem v93_8 : wpS P L93_8 T L (rdy h) K = wpS P ([⟨.pick (.t 41) (.c (.bool true)) (.t 48), (some 49), none, []⟩]) T L (rdy h) K := rfl
def L93_9 : List AStep := ⟨.not (.t 46), (some 47), (some (44, true)), []⟩ :: ⟨.pick (.t 44) (.t 47) (.c (.bool false)), (some 48), (some (41, false)), []⟩ :: L93_8
theorem v93_9 : wpS P L93_9 T L (rdy h) K = wpS P (⟨.not (.t 46), (some 47), (some (44, true)), []⟩ :: ⟨.pick (.t 44) (.t 47) (.c (.bool false)), (some 48), (some (41, false)), []⟩ :: L93_8) T L (rdy h) K := rfl
def L93_10 : List AStep := ⟨.load 4 true (.t 5), (some 45), (some (44, true)), []⟩ :: ⟨.call 172 [(.t 45)], (some 46), (some (44, true)), []⟩ :: L93_9
theorem v93_10 : wpS P L93_10 T L (rdy h) K = wpS P (⟨.load 4 true (.t 5), (some 45), (some (44, true)), []⟩ :: ⟨.call 172 [(.t 45)], (some 46), (some (44, true)), []⟩ :: L93_9) T L (rdy h) K := rfl
def L93_11 : List AStep := ⟨.load 1 false (.t 42), (some 43), (some (41, false)), []⟩ :: ⟨.mov (.t 43), (some 44), (some (41, false)), []⟩ :: L93_10
theorem v93_11 : wpS P L93_11 T L (rdy h) K = wpS P (⟨.load 1 false (.t 42), (some 43), (some (41, false)), []⟩ :: ⟨.mov (.t 43), (some 44), (some (41, false)), []⟩ :: L93_10) T L (rdy h) K := rfl
def L93_12 : List AStep := ⟨.mov (.t 40), (some 41), none, []⟩ :: ⟨.faddr 2 (.t 5), (some 42), (some (41, false)), []⟩ :: L93_11
theorem v93_12 : wpS P L93_12 T L (rdy h) K = wpS P (⟨.mov (.t 40), (some 41), none, []⟩ :: ⟨.faddr 2 (.t 5), (some 42), (some (41, false)), []⟩ :: L93_11) T L (rdy h) K := rfl
def L93_13 : List AStep := ⟨.pick (.t 35) (.t 38) (.c (.bool false)), (some 39), (some (31, false)), []⟩ :: ⟨.pick (.t 31) (.c (.bool true)) (.t 39), (some 40), none, []⟩ :: L93_12
theorem v93_13 : wpS P L93_13 T L (rdy h) K = wpS P (⟨.pick (.t 35) (.t 38) (.c (.bool false)), (some 39), (some (31, false)), []⟩ :: ⟨.pick (.t 31) (.c (.bool true)) (.t 39), (some 40), none, []⟩ :: L93_12) T L (rdy h) K := rfl
def L93_14 : List AStep := ⟨.load 1 false (.t 36), (some 37), (some (35, true)), []⟩ :: ⟨.bin .neq (.t 37) (.c (.int .i64 0)), (some 38), (some (35, true)), []⟩ :: L93_13
theorem v93_14 : wpS P L93_14 T L (rdy h) K = wpS P (⟨.load 1 false (.t 36), (some 37), (some (35, true)), []⟩ :: ⟨.bin .neq (.t 37) (.c (.int .i64 0)), (some 38), (some (35, true)), []⟩ :: L93_13) T L (rdy h) K := rfl
def L93_15 : List AStep := ⟨.mov (.t 34), (some 35), (some (31, false)), []⟩ :: ⟨.faddr 3 (.t 5), (some 36), (some (35, true)), []⟩ :: L93_14
theorem v93_15 : wpS P L93_15 T L (rdy h) K = wpS P (⟨.mov (.t 34), (some 35), (some (31, false)), []⟩ :: ⟨.faddr 3 (.t 5), (some 36), (some (35, true)), []⟩ :: L93_14) T L (rdy h) K := rfl
def L93_16 : List AStep := ⟨.load 1 false (.t 32), (some 33), (some (31, false)), []⟩ :: ⟨.not (.t 33), (some 34), (some (31, false)), []⟩ :: L93_15
theorem v93_16 : wpS P L93_16 T L (rdy h) K = wpS P (⟨.load 1 false (.t 32), (some 33), (some (31, false)), []⟩ :: ⟨.not (.t 33), (some 34), (some (31, false)), []⟩ :: L93_15) T L (rdy h) K := rfl
def L93_17 : List AStep := ⟨.mov (.t 30), (some 31), none, []⟩ :: ⟨.faddr 2 (.t 5), (some 32), (some (31, false)), []⟩ :: L93_16
theorem v93_17 : wpS P L93_17 T L (rdy h) K = wpS P (⟨.mov (.t 30), (some 31), none, []⟩ :: ⟨.faddr 2 (.t 5), (some 32), (some (31, false)), []⟩ :: L93_16) T L (rdy h) K := rfl
def L93_18 : List AStep := ⟨.not (.t 28), (some 29), (some (25, false)), []⟩ :: ⟨.pick (.t 25) (.c (.bool true)) (.t 29), (some 30), none, []⟩ :: L93_17
theorem v93_18 : wpS P L93_18 T L (rdy h) K = wpS P (⟨.not (.t 28), (some 29), (some (25, false)), []⟩ :: ⟨.pick (.t 25) (.c (.bool true)) (.t 29), (some 30), none, []⟩ :: L93_17) T L (rdy h) K := rfl
def L93_19 : List AStep := ⟨.load 1 false (.t 26), (some 27), (some (25, false)), []⟩ :: ⟨.call 163 [(.t 27)], (some 28), (some (25, false)), []⟩ :: L93_18
theorem v93_19 : wpS P L93_19 T L (rdy h) K = wpS P (⟨.load 1 false (.t 26), (some 27), (some (25, false)), []⟩ :: ⟨.call 163 [(.t 27)], (some 28), (some (25, false)), []⟩ :: L93_18) T L (rdy h) K := rfl
def L93_20 : List AStep := ⟨.mov (.t 24), (some 25), none, []⟩ :: ⟨.faddr 3 (.t 5), (some 26), (some (25, false)), []⟩ :: L93_19
theorem v93_20 : wpS P L93_20 T L (rdy h) K = wpS P (⟨.mov (.t 24), (some 25), none, []⟩ :: ⟨.faddr 3 (.t 5), (some 26), (some (25, false)), []⟩ :: L93_19) T L (rdy h) K := rfl
def L93_21 : List AStep := ⟨.not (.t 22), (some 23), (some (19, false)), []⟩ :: ⟨.pick (.t 19) (.c (.bool true)) (.t 23), (some 24), none, []⟩ :: L93_20
theorem v93_21 : wpS P L93_21 T L (rdy h) K = wpS P (⟨.not (.t 22), (some 23), (some (19, false)), []⟩ :: ⟨.pick (.t 19) (.c (.bool true)) (.t 23), (some 24), none, []⟩ :: L93_20) T L (rdy h) K := rfl
def L93_22 : List AStep := ⟨.load 1 false (.t 20), (some 21), (some (19, false)), []⟩ :: ⟨.call 171 [(.t 21), (.c (.int .i64 0)), (.c (.int .i64 4))], (some 22), (some (19, false)), []⟩ :: L93_21
theorem v93_22 : wpS P L93_22 T L (rdy h) K = wpS P (⟨.load 1 false (.t 20), (some 21), (some (19, false)), []⟩ :: ⟨.call 171 [(.t 21), (.c (.int .i64 0)), (.c (.int .i64 4))], (some 22), (some (19, false)), []⟩ :: L93_21) T L (rdy h) K := rfl
def L93_23 : List AStep := ⟨.mov (.t 18), (some 19), none, []⟩ :: ⟨.faddr 1 (.t 5), (some 20), (some (19, false)), []⟩ :: L93_22
theorem v93_23 : wpS P L93_23 T L (rdy h) K = wpS P (⟨.mov (.t 18), (some 19), none, []⟩ :: ⟨.faddr 1 (.t 5), (some 20), (some (19, false)), []⟩ :: L93_22) T L (rdy h) K := rfl
def L93_24 : List AStep := ⟨.call 147 [(.t 16)], (some 17), none, []⟩ :: ⟨.not (.t 17), (some 18), none, []⟩ :: L93_23
theorem v93_24 : wpS P L93_24 T L (rdy h) K = wpS P (⟨.call 147 [(.t 16)], (some 17), none, []⟩ :: ⟨.not (.t 17), (some 18), none, []⟩ :: L93_23) T L (rdy h) K := rfl
def L93_25 : List AStep := ⟨.faddr 0 (.t 5), (some 15), none, []⟩ :: ⟨.load 1 false (.t 15), (some 16), none, []⟩ :: L93_24
theorem v93_25 : wpS P L93_25 T L (rdy h) K = wpS P (⟨.faddr 0 (.t 5), (some 15), none, []⟩ :: ⟨.load 1 false (.t 15), (some 16), none, []⟩ :: L93_24) T L (rdy h) K := rfl
def L93_26 : List AStep := [⟨.mov (.c (.bool false)), (some 2), none, []⟩]
theorem v93_26 : wpS P L93_26 T L (rdy h) K = wpS P ([⟨.mov (.c (.bool false)), (some 2), none, []⟩]) T L (rdy h) K := rfl
def L93_27 : List AStep := [⟨.load 4 true (.t 5), (some 50), none, []⟩, ⟨.call 94 [(.t 50)], (some 51), none, []⟩]
theorem v93_27 : wpS P L93_27 T L (rdy h) K = wpS P ([⟨.load 4 true (.t 5), (some 50), none, []⟩, ⟨.call 94 [(.t 50)], (some 51), none, []⟩]) T L (rdy h) K := rfl
def L93_28 : List AStep := [⟨.not (.t 55), (some 56), (some (53, true)), []⟩, ⟨.pick (.t 53) (.t 56) (.c (.bool false)), (some 57), none, []⟩]
theorem v93_28 : wpS P L93_28 T L (rdy h) K = wpS P ([⟨.not (.t 55), (some 56), (some (53, true)), []⟩, ⟨.pick (.t 53) (.t 56) (.c (.bool false)), (some 57), none, []⟩]) T L (rdy h) K := rfl
def L93_29 : List AStep := ⟨.faddr 2 (.t 5), (some 54), (some (53, true)), []⟩ :: ⟨.load 1 false (.t 54), (some 55), (some (53, true)), []⟩ :: L93_28
theorem v93_29 : wpS P L93_29 T L (rdy h) K = wpS P (⟨.faddr 2 (.t 5), (some 54), (some (53, true)), []⟩ :: ⟨.load 1 false (.t 54), (some 55), (some (53, true)), []⟩ :: L93_28) T L (rdy h) K := rfl
def L93_30 : List AStep := ⟨.mov (.t 3), (some 52), none, []⟩ :: ⟨.mov (.t 52), (some 53), none, []⟩ :: L93_29
theorem v93_30 : wpS P L93_30 T L (rdy h) K = wpS P (⟨.mov (.t 3), (some 52), none, []⟩ :: ⟨.mov (.t 52), (some 53), none, []⟩ :: L93_29) T L (rdy h) K := rfl
def L93_31 : List AStep := [⟨.mov (.c (.bool false)), (some 2), none, []⟩]
theorem v93_31 : wpS P L93_31 T L (rdy h) K = wpS P ([⟨.mov (.c (.bool false)), (some 2), none, []⟩]) T L (rdy h) K := rfl
def L93_32 : List AStep := [⟨.mov (.t 59), (some 3), none, []⟩]
theorem v93_32 : wpS P L93_32 T L (rdy h) K = wpS P ([⟨.mov (.t 59), (some 3), none, []⟩]) T L (rdy h) K := rfl
def L93_33 : List AStep := ⟨.faddr 2 (.t 5), (some 58), none, []⟩ :: ⟨.load 1 false (.t 58), (some 59), none, []⟩ :: L93_32
theorem v93_33 : wpS P L93_33 T L (rdy h) K = wpS P (⟨.faddr 2 (.t 5), (some 58), none, []⟩ :: ⟨.load 1 false (.t 58), (some 59), none, []⟩ :: L93_32) T L (rdy h) K := rfl
def L93_34 : List AStep := [⟨.mov (.t 4), (some 60), none, []⟩, ⟨.bin .gtr (.t 60) (.c (.int .i64 0)), (some 61), none, []⟩]
theorem v93_34 : wpS P L93_34 T L (rdy h) K = wpS P ([⟨.mov (.t 4), (some 60), none, []⟩, ⟨.bin .gtr (.t 60) (.c (.int .i64 0)), (some 61), none, []⟩]) T L (rdy h) K := rfl
def L93_35 : List AStep := [⟨.load 1 false (.t 67), (some 68), none, []⟩, ⟨.mov (.t 68), (some 6), none, []⟩]
theorem v93_35 : wpS P L93_35 T L (rdy h) K = wpS P ([⟨.load 1 false (.t 67), (some 68), none, []⟩, ⟨.mov (.t 68), (some 6), none, []⟩]) T L (rdy h) K := rfl
def L93_36 : List AStep := ⟨.iaddr 4 (.t 63) (.t 65), (some 66), none, []⟩ :: ⟨.faddr 1 (.t 66), (some 67), none, []⟩ :: L93_35
theorem v93_36 : wpS P L93_36 T L (rdy h) K = wpS P (⟨.iaddr 4 (.t 63) (.t 65), (some 66), none, []⟩ :: ⟨.faddr 1 (.t 66), (some 67), none, []⟩ :: L93_35) T L (rdy h) K := rfl
def L93_37 : List AStep := ⟨.mov (.t 4), (some 64), none, []⟩ :: ⟨.bin .sub (.t 64) (.c (.int .i64 1)), (some 65), none, []⟩ :: L93_36
theorem v93_37 : wpS P L93_37 T L (rdy h) K = wpS P (⟨.mov (.t 4), (some 64), none, []⟩ :: ⟨.bin .sub (.t 64) (.c (.int .i64 1)), (some 65), none, []⟩ :: L93_36) T L (rdy h) K := rfl
def L93_38 : List AStep := ⟨.faddr 0 (.t 1), (some 62), none, []⟩ :: ⟨.load 1 false (.t 62), (some 63), none, []⟩ :: L93_37
theorem v93_38 : wpS P L93_38 T L (rdy h) K = wpS P (⟨.faddr 0 (.t 1), (some 62), none, []⟩ :: ⟨.load 1 false (.t 62), (some 63), none, []⟩ :: L93_37) T L (rdy h) K := rfl
def L93_39 : List AStep := [⟨.pick (.t 73) (.c (.bool true)) (.t 82), (some 83), none, []⟩]
theorem v93_39 : wpS P L93_39 T L (rdy h) K = wpS P ([⟨.pick (.t 73) (.c (.bool true)) (.t 82), (some 83), none, []⟩]) T L (rdy h) K := rfl
def L93_40 : List AStep := ⟨.not (.t 80), (some 81), (some (78, true)), []⟩ :: ⟨.pick (.t 78) (.t 81) (.c (.bool false)), (some 82), (some (73, false)), []⟩ :: L93_39
theorem v93_40 : wpS P L93_40 T L (rdy h) K = wpS P (⟨.not (.t 80), (some 81), (some (78, true)), []⟩ :: ⟨.pick (.t 78) (.t 81) (.c (.bool false)), (some 82), (some (73, false)), []⟩ :: L93_39) T L (rdy h) K := rfl
def L93_41 : List AStep := ⟨.load 4 true (.t 5), (some 79), (some (78, true)), []⟩ :: ⟨.call 172 [(.t 79)], (some 80), (some (78, true)), []⟩ :: L93_40
theorem v93_41 : wpS P L93_41 T L (rdy h) K = wpS P (⟨.load 4 true (.t 5), (some 79), (some (78, true)), []⟩ :: ⟨.call 172 [(.t 79)], (some 80), (some (78, true)), []⟩ :: L93_40) T L (rdy h) K := rfl
def L93_42 : List AStep := ⟨.bin .eql (.t 75) (.t 76), (some 77), (some (73, false)), []⟩ :: ⟨.mov (.t 77), (some 78), (some (73, false)), []⟩ :: L93_41
theorem v93_42 : wpS P L93_42 T L (rdy h) K = wpS P (⟨.bin .eql (.t 75) (.t 76), (some 77), (some (73, false)), []⟩ :: ⟨.mov (.t 77), (some 78), (some (73, false)), []⟩ :: L93_41) T L (rdy h) K := rfl
def L93_43 : List AStep := ⟨.load 1 false (.t 74), (some 75), (some (73, false)), []⟩ :: ⟨.mov (.t 6), (some 76), (some (73, false)), []⟩ :: L93_42
theorem v93_43 : wpS P L93_43 T L (rdy h) K = wpS P (⟨.load 1 false (.t 74), (some 75), (some (73, false)), []⟩ :: ⟨.mov (.t 6), (some 76), (some (73, false)), []⟩ :: L93_42) T L (rdy h) K := rfl
def L93_44 : List AStep := ⟨.mov (.t 72), (some 73), none, []⟩ :: ⟨.faddr 1 (.t 5), (some 74), (some (73, false)), []⟩ :: L93_43
theorem v93_44 : wpS P L93_44 T L (rdy h) K = wpS P (⟨.mov (.t 72), (some 73), none, []⟩ :: ⟨.faddr 1 (.t 5), (some 74), (some (73, false)), []⟩ :: L93_43) T L (rdy h) K := rfl
def L93_45 : List AStep := ⟨.mov (.t 6), (some 71), none, []⟩ :: ⟨.bin .lss (.t 70) (.t 71), (some 72), none, []⟩ :: L93_44
theorem v93_45 : wpS P L93_45 T L (rdy h) K = wpS P (⟨.mov (.t 6), (some 71), none, []⟩ :: ⟨.bin .lss (.t 70) (.t 71), (some 72), none, []⟩ :: L93_44) T L (rdy h) K := rfl
def L93_46 : List AStep := ⟨.faddr 1 (.t 5), (some 69), none, []⟩ :: ⟨.load 1 false (.t 69), (some 70), none, []⟩ :: L93_45
theorem v93_46 : wpS P L93_46 T L (rdy h) K = wpS P (⟨.faddr 1 (.t 5), (some 69), none, []⟩ :: ⟨.load 1 false (.t 69), (some 70), none, []⟩ :: L93_45) T L (rdy h) K := rfl
def L93_47 : List AStep := [⟨.mov (.c (.bool false)), (some 2), none, []⟩]
theorem v93_47 : wpS P L93_47 T L (rdy h) K = wpS P ([⟨.mov (.c (.bool false)), (some 2), none, []⟩]) T L (rdy h) K := rfl
def L93_48 : List AStep := [⟨.call 173 [(.t 87), (.t 89)], (some 90), none, []⟩, ⟨.bin .geq (.t 90) (.c (.int .i64 0)), (some 91), none, []⟩]
theorem v93_48 : wpS P L93_48 T L (rdy h) K = wpS P ([⟨.call 173 [(.t 87), (.t 89)], (some 90), none, []⟩, ⟨.bin .geq (.t 90) (.c (.int .i64 0)), (some 91), none, []⟩]) T L (rdy h) K := rfl
def L93_49 : List AStep := ⟨.faddr 0 (.t 5), (some 88), none, []⟩ :: ⟨.load 1 false (.t 88), (some 89), none, []⟩ :: L93_48
theorem v93_49 : wpS P L93_49 T L (rdy h) K = wpS P (⟨.faddr 0 (.t 5), (some 88), none, []⟩ :: ⟨.load 1 false (.t 88), (some 89), none, []⟩ :: L93_48) T L (rdy h) K := rfl
def L93_50 : List AStep := ⟨.mov (.t 4), (some 86), none, []⟩ :: ⟨.slice 108 4 (.t 85) none (some (.t 86)) none, (some 87), none, []⟩ :: L93_49
theorem v93_50 : wpS P L93_50 T L (rdy h) K = wpS P (⟨.mov (.t 4), (some 86), none, []⟩ :: ⟨.slice 108 4 (.t 85) none (some (.t 86)) none, (some 87), none, []⟩ :: L93_49) T L (rdy h) K := rfl
def L93_51 : List AStep := ⟨.faddr 0 (.t 1), (some 84), none, []⟩ :: ⟨.load 1 false (.t 84), (some 85), none, []⟩ :: L93_50
theorem v93_51 : wpS P L93_51 T L (rdy h) K = wpS P (⟨.faddr 0 (.t 1), (some 84), none, []⟩ :: ⟨.load 1 false (.t 84), (some 85), none, []⟩ :: L93_50) T L (rdy h) K := rfl
def L93_52 : List AStep := [⟨.mov (.c (.bool false)), (some 2), none, []⟩]
theorem v93_52 : wpS P L93_52 T L (rdy h) K = wpS P ([⟨.mov (.c (.bool false)), (some 2), none, []⟩]) T L (rdy h) K := rfl
def L93_53 : List AStep := [⟨.bin .add (.t 10) (.c (.int .i64 1)), (some 92), none, []⟩, ⟨.mov (.t 92), (some 10), none, []⟩]
theorem v93_53 : wpS P L93_53 T L (rdy h) K = wpS P ([⟨.bin .add (.t 10) (.c (.int .i64 1)), (some 92), none, []⟩, ⟨.mov (.t 92), (some 10), none, []⟩]) T L (rdy h) K := rfl
def L93_54 : List AStep := [⟨.mov (.t 96), (some 2), none, []⟩]
theorem v93_54 : wpS P L93_54 T L (rdy h) K = wpS P ([⟨.mov (.t 96), (some 2), none, []⟩]) T L (rdy h) K := rfl
def L93_55 : List AStep := ⟨.len (.t 94), (some 95), none, []⟩ :: ⟨.bin .leq (.t 95) (.c (.int .i64 8)), (some 96), none, []⟩ :: L93_54
theorem v93_55 : wpS P L93_55 T L (rdy h) K = wpS P (⟨.len (.t 94), (some 95), none, []⟩ :: ⟨.bin .leq (.t 95) (.c (.int .i64 8)), (some 96), none, []⟩ :: L93_54) T L (rdy h) K := rfl
def L93_56 : List AStep := ⟨.faddr 0 (.t 1), (some 93), none, []⟩ :: ⟨.load 1 false (.t 93), (some 94), none, []⟩ :: L93_55
theorem v93_56 : wpS P L93_56 T L (rdy h) K = wpS P (⟨.faddr 0 (.t 1), (some 93), none, []⟩ :: ⟨.load 1 false (.t 93), (some 94), none, []⟩ :: L93_55) T L (rdy h) K := rfl
def C93_0 : ACode := .cond (.t 11) .skip (.exit 0)
theorem u93_0 : wpC P C93_0 T L (rdy h) Q = wpC P (.cond (.t 11) .skip (.exit 0)) T L (rdy h) Q := rfl
def C93_1 : ACode := .seq (.reg L93_26) .ret
theorem u93_1 : wpC P C93_1 T L (rdy h) Q = wpC P (.seq (.reg L93_26) .ret) T L (rdy h) Q := rfl
def C93_2 : ACode := .cond (.t 49) C93_1 .skip
theorem u93_2 : wpC P C93_2 T L (rdy h) Q = wpC P (.cond (.t 49) C93_1 .skip) T L (rdy h) Q := rfl
def C93_3 : ACode := .seq (.reg L93_25) C93_2
theorem u93_3 : wpC P C93_3 T L (rdy h) Q = wpC P (.seq (.reg L93_25) C93_2) T L (rdy h) Q := rfl
def C93_4 : ACode := .seq (.reg L93_31) .ret
theorem u93_4 : wpC P C93_4 T L (rdy h) Q = wpC P (.seq (.reg L93_31) .ret) T L (rdy h) Q := rfl
def C93_5 : ACode := .cond (.t 57) C93_4 .skip
theorem u93_5 : wpC P C93_5 T L (rdy h) Q = wpC P (.cond (.t 57) C93_4 .skip) T L (rdy h) Q := rfl
def C93_6 : ACode := .seq (.reg L93_30) C93_5
theorem u93_6 : wpC P C93_6 T L (rdy h) Q = wpC P (.seq (.reg L93_30) C93_5) T L (rdy h) Q := rfl
def C93_7 : ACode := .seq C93_6 (.reg L93_33)
theorem u93_7 : wpC P C93_7 T L (rdy h) Q = wpC P (.seq C93_6 (.reg L93_33)) T L (rdy h) Q := rfl
def C93_8 : ACode := .cond (.t 51) C93_7 .skip
theorem u93_8 : wpC P C93_8 T L (rdy h) Q = wpC P (.cond (.t 51) C93_7 .skip) T L (rdy h) Q := rfl
def C93_9 : ACode := .seq (.reg L93_27) C93_8
theorem u93_9 : wpC P C93_9 T L (rdy h) Q = wpC P (.seq (.reg L93_27) C93_8) T L (rdy h) Q := rfl
def C93_10 : ACode := .seq (.reg L93_47) .ret
theorem u93_10 : wpC P C93_10 T L (rdy h) Q = wpC P (.seq (.reg L93_47) .ret) T L (rdy h) Q := rfl
def C93_11 : ACode := .cond (.t 83) C93_10 .skip
theorem u93_11 : wpC P C93_11 T L (rdy h) Q = wpC P (.cond (.t 83) C93_10 .skip) T L (rdy h) Q := rfl
def C93_12 : ACode := .seq (.reg L93_46) C93_11
theorem u93_12 : wpC P C93_12 T L (rdy h) Q = wpC P (.seq (.reg L93_46) C93_11) T L (rdy h) Q := rfl
def C93_13 : ACode := .seq (.reg L93_38) C93_12
theorem u93_13 : wpC P C93_13 T L (rdy h) Q = wpC P (.seq (.reg L93_38) C93_12) T L (rdy h) Q := rfl
def C93_14 : ACode := .cond (.t 61) C93_13 .skip
theorem u93_14 : wpC P C93_14 T L (rdy h) Q = wpC P (.cond (.t 61) C93_13 .skip) T L (rdy h) Q := rfl
def C93_15 : ACode := .seq (.reg L93_34) C93_14
theorem u93_15 : wpC P C93_15 T L (rdy h) Q = wpC P (.seq (.reg L93_34) C93_14) T L (rdy h) Q := rfl
def C93_16 : ACode := .seq (.reg L93_52) .ret
theorem u93_16 : wpC P C93_16 T L (rdy h) Q = wpC P (.seq (.reg L93_52) .ret) T L (rdy h) Q := rfl
def C93_17 : ACode := .cond (.t 91) C93_16 .skip
theorem u93_17 : wpC P C93_17 T L (rdy h) Q = wpC P (.cond (.t 91) C93_16 .skip) T L (rdy h) Q := rfl
def C93_18 : ACode := .seq (.reg L93_51) C93_17
theorem u93_18 : wpC P C93_18 T L (rdy h) Q = wpC P (.seq (.reg L93_51) C93_17) T L (rdy h) Q := rfl
def C93_19 : ACode := .seq C93_15 C93_18
theorem u93_19 : wpC P C93_19 T L (rdy h) Q = wpC P (.seq C93_15 C93_18) T L (rdy h) Q := rfl
def C93_20 : ACode := .seq C93_9 C93_19
theorem u93_20 : wpC P C93_20 T L (rdy h) Q = wpC P (.seq C93_9 C93_19) T L (rdy h) Q := rfl
def C93_21 : ACode := .seq C93_3 C93_20
theorem u93_21 : wpC P C93_21 T L (rdy h) Q = wpC P (.seq C93_3 C93_20) T L (rdy h) Q := rfl
def C93_22 : ACode := .seq (.reg L93_7) C93_21
theorem u93_22 : wpC P C93_22 T L (rdy h) Q = wpC P (.seq (.reg L93_7) C93_21) T L (rdy h) Q := rfl
def C93_23 : ACode := .block 1 C93_22
theorem u93_23 : wpC P C93_23 T L (rdy h) Q = wpC P (.block 1 C93_22) T L (rdy h) Q := rfl
def C93_24 : ACode := .seq C93_23 (.reg L93_53)
theorem u93_24 : wpC P C93_24 T L (rdy h) Q = wpC P (.seq C93_23 (.reg L93_53)) T L (rdy h) Q := rfl
def C93_25 : ACode := .seq C93_0 C93_24
theorem u93_25 : wpC P C93_25 T L (rdy h) Q = wpC P (.seq C93_0 C93_24) T L (rdy h) Q := rfl
def C93_26 : ACode := .seq (.reg L93_4) C93_25
theorem u93_26 : wpC P C93_26 T L (rdy h) Q = wpC P (.seq (.reg L93_4) C93_25) T L (rdy h) Q := rfl
def C93_27 : ACode := .block 0 (.loop C93_26)
theorem u93_27 : wpC P C93_27 T L (rdy h) Q = wpC P (.block 0 (.loop C93_26)) T L (rdy h) Q := rfl
def C93_28 : ACode := .seq (.reg L93_3) C93_27
theorem u93_28 : wpC P C93_28 T L (rdy h) Q = wpC P (.seq (.reg L93_3) C93_27) T L (rdy h) Q := rfl
def C93_29 : ACode := .seq (.reg L93_56) .ret
theorem u93_29 : wpC P C93_29 T L (rdy h) Q = wpC P (.seq (.reg L93_56) .ret) T L (rdy h) Q := rfl
def C93_30 : ACode := .seq C93_28 C93_29
theorem u93_30 : wpC P C93_30 T L (rdy h) Q = wpC P (.seq C93_28 C93_29) T L (rdy h) Q := rfl
def C93_31 : ACode := .seq (.reg L93_1) C93_30
theorem u93_31 : wpC P C93_31 T L (rdy h) Q = wpC P (.seq (.reg L93_1) C93_30) T L (rdy h) Q := rfl
def C93_32 : ACode := .seq (.reg L93_0) C93_31
theorem u93_32 : wpC P C93_32 T L (rdy h) Q = wpC P (.seq (.reg L93_0) C93_31) T L (rdy h) Q := rfl
def F93 : AFunc := ⟨97, [.tmp 2], C93_32⟩
theorem cF93 : compB Try.prog 93 = some F93 := by kernel_rfl
end
attribute [local go_sem ↓] u93_0 u93_1 u93_2 u93_3 u93_4 u93_5 u93_6 u93_7 u93_8 u93_9 u93_10 u93_11 u93_12 u93_13 u93_14 u93_15 u93_16 u93_17 u93_18 u93_19 u93_20 u93_21 u93_22 u93_23 u93_24 u93_25 u93_26 u93_27 u93_28 u93_29 u93_30 u93_31 u93_32 v93_0 v93_1 v93_2 v93_3 v93_4 v93_5 v93_6 v93_7 v93_8 v93_9 v93_10 v93_11 v93_12 v93_13 v93_14 v93_15 v93_16 v93_17 v93_18 v93_19 v93_20 v93_21 v93_22 v93_23 v93_24 v93_25 v93_26 v93_27 v93_28 v93_29 v93_30 v93_31 v93_32 v93_33 v93_34 v93_35 v93_36 v93_37 v93_38 v93_39 v93_40 v93_41 v93_42 v93_43 v93_44 v93_45 v93_46 v93_47 v93_48 v93_49 v93_50 v93_51 v93_52 v93_53 v93_54 v93_55 v93_56
theorem c_ValidSignature (l : List Param) (pv : CV) (h : H) (hl : SlQ h (.one pv) l) (hn : smQ l) : bm Try.prog 93 [.agg [pv]] h = some (ib (okSig l), h) := by
  refine bm_eq cF93 ?_
  simp +contextual (maxSteps := 2000000) only [go_sem, Nat.reduceEqDiff, reduceCtorEq, Nat.reduceAdd, Nat.reduceLeDiff, F93, hl.len]
  refine wpC_loop (fun i T L h' => h' = h ∧ T 1 = .lp 1 0 ∧ (L 1).2 = [pv] ∧ T 3 = .v (.one (.bool (optAt l i))) ∧ T 8 = .v (.one pv) ∧ T 9 = .v (.one (.int .i64 l.length)) ∧ T 10 = .v (.one (.int .i64 i)) ∧ Upto (stepAt l) i) l.length ?_ ?_ (Nat.zero_le _) ?_
  · rintro i T L h' hi ⟨rfl, t1, l1, t3, t8, t9, t10, hu⟩
    obtain ⟨v', e1, s1⟩ := hl.takeO (i := i) (by omega) (kd := .i64)
    have e2 : decide (paramAt (l.take i) l[i].name ≥ 0) = !(newAt Param.name l i) := newAt_ge hi
    have e3 := stepI_eq hi hu
    have e5 := optAt_next hi
    cases i with
    | zero =>
      have e4 : decide (((0 : Nat) : Int) > 0) = false := rfl
      rw [stepI_zero hi] at e3
      simp +contextual (maxSteps := 2000000) only [go_sem, Nat.reduceEqDiff, reduceCtorEq, Nat.reduceAdd, Nat.reduceLeDiff, e2, e4, e5, optAt, t1, l1, t3, t8, t9, t10, hl.iaddr hi, hl.whole hi, lt_true hi, e1, c_isName _ _ (hn.at hi), c_in, c_isValue, c_single, c_placed, c_find _ _ _ _ s1 (hn.take _)]
      (repeat' (first | refine And.intro ?_ ?_ | intro _)) <;> first | rfl | rw [wrap_next hi hn.len] | exact hu.next (by rw [← e3]; simp_all [okParam]) | (rw [okSig_not hi (by rw [← e3]; simp_all [okParam] <;> (intros; omega))]) | simp_all
    | succ j =>
      have e4 : decide (((j + 1 : Nat) : Int) > 0) = true := decide_eq_true (by omega)
      have hj : j < l.length := by omega
      rw [stepI_succ hi] at e3
      simp +contextual (maxSteps := 2000000) only [go_sem, Nat.reduceEqDiff, reduceCtorEq, Nat.reduceAdd, Nat.reduceLeDiff, e2, e4, e5, t1, l1, t3, t8, t9, t10, hl.iaddr hi, hl.whole hi, lt_true hi, e1, c_isName _ _ (hn.at hi), c_in, c_isValue, c_single, c_placed, c_find _ _ _ _ s1 (hn.take _), wrap_pred (show j < 2 ^ 62 from Nat.lt_trans (Nat.lt_succ_self j) (Nat.lt_trans hi hn.len)), hl.iaddr hj, hl.fieldO hj]
      (repeat' (first | refine And.intro ?_ ?_ | intro _)) <;> first | rfl | rw [wrap_next hi hn.len] | exact hu.next (by rw [← e3]; simp_all [okParam]) | (rw [okSig_not hi (by rw [← e3]; simp_all [okParam] <;> (intros; omega))]) | simp_all
  · rintro T L h' ⟨rfl, t1, l1, t3, t8, t9, t10, hu⟩
    simp +contextual (maxSteps := 2000000) only [go_sem, Nat.reduceEqDiff, reduceCtorEq, Nat.reduceAdd, Nat.reduceLeDiff, t1, l1, t8, t9, t10, hl.len, lt_false, okSig_of hu]
  · simp +contextual (maxSteps := 2000000) only [go_sem, Nat.reduceEqDiff, reduceCtorEq, Nat.reduceAdd, Nat.reduceLeDiff, optAt]
    (repeat' (first | refine And.intro ?_ ?_ | intro _)) <;> first | rfl | exact Upto.zero
end Go.Proofs.Ytnphlonhogcedaa.Am
