/- Contracts: what a call gives to the parameters, of the program. -/
import Derived.Test.YtnphlonhogcedaaA4
import Derived.Test.YtnphlonhogcedaaBI
namespace Go.Proofs.Ytnphlonhogcedaa.Am
open Go
set_option maxRecDepth 100000
set_option maxHeartbeats 4000000
set_option linter.unusedSimpArgs false
set_option linter.unusedVariables false
attribute [local go_sem ↓] bv_t bv_c ev_t ev_c put_same put_ne put_none kill_at pro_at lb_same lb_ne start_zero start_succ wpC_seq wpC_reg wpC_cond wpC_block wpC_skip wpC_exit wpC_ret thenQ_normal thenQ_exit thenQ_ret inBlk_normal inBlk_exit inBlk_ret wpS_nil wpS_step wpS_again wpS_guard wpO_mov wpO_load wpO_faddr wpO_nilCheck wpO_pick wpO_build wpO_bin wpO_eqb wpO_eqst wpO_eqnil wpO_not wpO_conv wpO_bytesStr wpO_iaddr wpO_idxStr wpO_field wpO_extract wpO_len wpO_lenStr wpO_cap wpO_min wpO_slice wpO_sliceStr wpO_alloc wpO_box wpO_store wpO_call wpO_callv wpO_mkfn wpO_buildSlice wpO_mkslice wpO_append wpO_appz proA_nil proA_cons tmpX_nil tmpX_tmp tmpX_cell doneB_normal doneB_ret agK_cons agK_nil pureB_load results_one results_two results_nil resBs_cons resBs_nil resB_tmp resB_cell
attribute [local go_sem] kill_v kill_lp_ne kill_lp_same pro_v pro_lp_same pro_lp_ne av_v av_lp optB_some optX_some valX_eq ldX_lp ldX_v faX_lp faX_v ncX_lp ncX_ptr ncX_fn boxK_one boxK_agg stL_some stK_lp_one stK_lp_agg stK_v_one stK_v_agg proM_v proM_lp callG_mk callVG_mk callvK_fn fnG_mk ptrsA_nil ptrsA_cons callH_some whenA_true whenA_false guardH_tt guardH_ff guardH_tf guardH_ft guardH_undef agV_one agV_agg lenO_sl lenStrO_str notO_bool pickO_bool convO_int eqbO_bool eqnilO_sl extractO_tup capO_sl minO_int loadL_one loadL_all storeL_eq fillA_nil fillA_one fillA_agg nat_ge neg_ge nat_lt neg_lt buildO bin_add bin_sub bin_mul bin_eql bin_neq bin_lss bin_leq bin_gtr bin_geq str_eql str_neq str_lss str_leq str_gtr str_geq retK_some endK_mk gcK_same gcK_int gcK_bool tupO_one tupO_agg rdy_self ib ii Option.map_none Option.map_some Option.some.injEq exists_eq_left' exists_eq_left ne_eq not_false_eq_true if_true if_false List.map_cons List.map_nil List.getElem?_cons_zero List.getElem?_cons_succ List.length_cons List.length_nil List.take_succ_cons List.take_zero List.take_nil List.drop_succ_cons List.drop_zero List.drop_nil List.cons_append List.nil_append List.append_nil List.set_cons_zero List.set_cons_succ Nat.zero_add forall_const true_and and_true and_self Bool.false_eq_true false_implies true_implies implies_true Bool.not_true Bool.not_false Bool.not_eq_true' Bool.not_eq_false' beq_self_eq_true Bool.bne_true Bool.bne_false
attribute [local go_sem] lenI lenS lenP lenQ lenB lenL lenT encI_0 encS_0 encP_0 encP_1 encQ_0 encQ_1 encQ_2 encQ_3 encB_0 encB_1 encL_0 encL_1 encT_0 encT_1
attribute [local go_sem low] whenA_bool guardH_bool
attribute [local go_sem] lenY encY_0 encY_1 encY_2
section
variable {P : Program} {T : Tb} {L : Lb} {h : H} {Q : PostC} {K : Post}
/-! impl.bind -/
def L152_0 : List AStep := [⟨.alloc 111 [(.sl none 0 (some 0))], (some 4), none, []⟩, ⟨.mov (.c (.sl none 0 (some 0))), (some 5), none, []⟩]
theorem v152_0 : wpS P L152_0 T L (rdy h) K = wpS P ([⟨.alloc 111 [(.sl none 0 (some 0))], (some 4), none, []⟩, ⟨.mov (.c (.sl none 0 (some 0))), (some 5), none, []⟩]) T L (rdy h) K := rfl
def L152_1 : List AStep := ⟨.box 51 (.t 0), (some 2), none, []⟩ :: ⟨.box 30 (.t 1), (some 3), none, []⟩ :: L152_0
theorem v152_1 : wpS P L152_1 T L (rdy h) K = wpS P (⟨.box 51 (.t 0), (some 2), none, []⟩ :: ⟨.box 30 (.t 1), (some 3), none, []⟩ :: L152_0) T L (rdy h) K := rfl
def L152_2 : List AStep := [⟨.store 1 (.t 6) (.t 20), none, none, []⟩]
theorem v152_2 : wpS P L152_2 T L (rdy h) K = wpS P ([⟨.store 1 (.t 6) (.t 20), none, none, []⟩]) T L (rdy h) K := rfl
def L152_3 : List AStep := ⟨.build [(.sl none 0 (some 0))] [(0, 1, (.t 19))], (some 20), none, []⟩ :: ⟨.alloc 111 [(.sl none 0 (some 0))], (some 6), none, []⟩ :: L152_2
theorem v152_3 : wpS P L152_3 T L (rdy h) K = wpS P (⟨.build [(.sl none 0 (some 0))] [(0, 1, (.t 19))], (some 20), none, []⟩ :: ⟨.alloc 111 [(.sl none 0 (some 0))], (some 6), none, []⟩ :: L152_2) T L (rdy h) K := rfl
def L152_4 : List AStep := ⟨.len (.t 17), (some 18), none, []⟩ :: ⟨.mkslice 115 56 [(.bool false), (.sl none 0 (some 0)), (.sl none 0 (some 0))] (.t 18) (.t 18), (some 19), none, []⟩ :: L152_3
theorem v152_4 : wpS P L152_4 T L (rdy h) K = wpS P (⟨.len (.t 17), (some 18), none, []⟩ :: ⟨.mkslice 115 56 [(.bool false), (.sl none 0 (some 0)), (.sl none 0 (some 0))] (.t 18) (.t 18), (some 19), none, []⟩ :: L152_3) T L (rdy h) K := rfl
def L152_5 : List AStep := ⟨.faddr 0 (.t 2), (some 16), none, []⟩ :: ⟨.load 1 false (.t 16), (some 17), none, []⟩ :: L152_4
theorem v152_5 : wpS P L152_5 T L (rdy h) K = wpS P (⟨.faddr 0 (.t 2), (some 16), none, []⟩ :: ⟨.load 1 false (.t 16), (some 17), none, []⟩ :: L152_4) T L (rdy h) K := rfl
def L152_6 : List AStep := [⟨.mov (.c (.sl none 0 (some 0))), (some 7), none, []⟩]
theorem v152_6 : wpS P L152_6 T L (rdy h) K = wpS P ([⟨.mov (.c (.sl none 0 (some 0))), (some 7), none, []⟩]) T L (rdy h) K := rfl
def L152_7 : List AStep := [⟨.mov (.t 22), (some 8), none, []⟩]
theorem v152_7 : wpS P L152_7 T L (rdy h) K = wpS P ([⟨.mov (.t 22), (some 8), none, []⟩]) T L (rdy h) K := rfl
def L152_8 : List AStep := ⟨.faddr 0 (.t 3), (some 21), none, []⟩ :: ⟨.load 1 false (.t 21), (some 22), none, []⟩ :: L152_7
theorem v152_8 : wpS P L152_8 T L (rdy h) K = wpS P (⟨.faddr 0 (.t 3), (some 21), none, []⟩ :: ⟨.load 1 false (.t 21), (some 22), none, []⟩ :: L152_7) T L (rdy h) K := rfl
def L152_9 : List AStep := [⟨.len (.t 24), (some 25), none, []⟩, ⟨.mov (.c (.int .i64 0)), (some 26), none, []⟩]
theorem v152_9 : wpS P L152_9 T L (rdy h) K = wpS P ([⟨.len (.t 24), (some 25), none, []⟩, ⟨.mov (.c (.int .i64 0)), (some 26), none, []⟩]) T L (rdy h) K := rfl
def L152_10 : List AStep := ⟨.faddr 0 (.t 2), (some 23), none, []⟩ :: ⟨.load 1 false (.t 23), (some 24), none, []⟩ :: L152_9
theorem v152_10 : wpS P L152_10 T L (rdy h) K = wpS P (⟨.faddr 0 (.t 2), (some 23), none, []⟩ :: ⟨.load 1 false (.t 23), (some 24), none, []⟩ :: L152_9) T L (rdy h) K := rfl
def L152_11 : List AStep := [⟨.bin .lss (.t 26) (.t 25), (some 27), none, []⟩]
theorem v152_11 : wpS P L152_11 T L (rdy h) K = wpS P ([⟨.bin .lss (.t 26) (.t 25), (some 27), none, []⟩]) T L (rdy h) K := rfl
def L152_12 : List AStep := [⟨.mov (.t 28), (some 9), none, []⟩, ⟨.store 4 (.t 10) (.t 30), none, none, []⟩]
theorem v152_12 : wpS P L152_12 T L (rdy h) K = wpS P ([⟨.mov (.t 28), (some 9), none, []⟩, ⟨.store 4 (.t 10) (.t 30), none, none, []⟩]) T L (rdy h) K := rfl
def L152_13 : List AStep := ⟨.load 4 true (.t 29), (some 30), none, []⟩ :: ⟨.alloc 108 [(.str (strOfNums [])), (.int .i64 0), (.bool false), (.int .i64 0)], (some 10), none, []⟩ :: L152_12
theorem v152_13 : wpS P L152_13 T L (rdy h) K = wpS P (⟨.load 4 true (.t 29), (some 30), none, []⟩ :: ⟨.alloc 108 [(.str (strOfNums [])), (.int .i64 0), (.bool false), (.int .i64 0)], (some 10), none, []⟩ :: L152_12) T L (rdy h) K := rfl
def L152_14 : List AStep := ⟨.mov (.t 26), (some 28), none, []⟩ :: ⟨.iaddr 4 (.t 24) (.t 26), (some 29), none, []⟩ :: L152_13
theorem v152_14 : wpS P L152_14 T L (rdy h) K = wpS P (⟨.mov (.t 26), (some 28), none, []⟩ :: ⟨.iaddr 4 (.t 24) (.t 26), (some 29), none, []⟩ :: L152_13) T L (rdy h) K := rfl
def L152_15 : List AStep := [⟨.pick (.t 33) (.t 36) (.c (.bool false)), (some 37), none, []⟩]
theorem v152_15 : wpS P L152_15 T L (rdy h) K = wpS P ([⟨.pick (.t 33) (.t 36) (.c (.bool false)), (some 37), none, []⟩]) T L (rdy h) K := rfl
def L152_16 : List AStep := ⟨.len (.t 34), (some 35), (some (33, true)), []⟩ :: ⟨.bin .gtr (.t 35) (.c (.int .i64 0)), (some 36), (some (33, true)), []⟩ :: L152_15
theorem v152_16 : wpS P L152_16 T L (rdy h) K = wpS P (⟨.len (.t 34), (some 35), (some (33, true)), []⟩ :: ⟨.bin .gtr (.t 35) (.c (.int .i64 0)), (some 36), (some (33, true)), []⟩ :: L152_15) T L (rdy h) K := rfl
def L152_17 : List AStep := ⟨.mov (.t 32), (some 33), none, []⟩ :: ⟨.mov (.t 8), (some 34), (some (33, true)), []⟩ :: L152_16
theorem v152_17 : wpS P L152_17 T L (rdy h) K = wpS P (⟨.mov (.t 32), (some 33), none, []⟩ :: ⟨.mov (.t 8), (some 34), (some (33, true)), []⟩ :: L152_16) T L (rdy h) K := rfl
def L152_18 : List AStep := ⟨.load 4 true (.t 10), (some 31), none, []⟩ :: ⟨.call 94 [(.t 31)], (some 32), none, []⟩ :: L152_17
theorem v152_18 : wpS P L152_18 T L (rdy h) K = wpS P (⟨.load 4 true (.t 10), (some 31), none, []⟩ :: ⟨.call 94 [(.t 31)], (some 32), none, []⟩ :: L152_17) T L (rdy h) K := rfl
def L152_19 : List AStep := [⟨.iaddr 3 (.t 39) (.t 40), (some 46), none, []⟩, ⟨.store 3 (.t 46) (.t 45), none, none, []⟩]
theorem v152_19 : wpS P L152_19 T L (rdy h) K = wpS P ([⟨.iaddr 3 (.t 39) (.t 40), (some 46), none, []⟩, ⟨.store 3 (.t 46) (.t 45), none, none, []⟩]) T L (rdy h) K := rfl
def L152_20 : List AStep := ⟨.buildSlice 3 1 [(.int .i64 0)] [(0, 1, (.t 43))], (some 44), none, []⟩ :: ⟨.build [(.bool false), (.sl none 0 (some 0)), (.sl none 0 (some 0))] [(0, 1, (.c (.bool true))), (1, 1, (.t 44))], (some 45), none, []⟩ :: L152_19
theorem v152_20 : wpS P L152_20 T L (rdy h) K = wpS P (⟨.buildSlice 3 1 [(.int .i64 0)] [(0, 1, (.t 43))], (some 44), none, []⟩ :: ⟨.build [(.bool false), (.sl none 0 (some 0)), (.sl none 0 (some 0))] [(0, 1, (.c (.bool true))), (1, 1, (.t 44))], (some 45), none, []⟩ :: L152_19) T L (rdy h) K := rfl
def L152_21 : List AStep := ⟨.iaddr 1 (.t 41) (.c (.int .i64 0)), (some 42), none, []⟩ :: ⟨.load 1 false (.t 42), (some 43), none, []⟩ :: L152_20
theorem v152_21 : wpS P L152_21 T L (rdy h) K = wpS P (⟨.iaddr 1 (.t 41) (.c (.int .i64 0)), (some 42), none, []⟩ :: ⟨.load 1 false (.t 42), (some 43), none, []⟩ :: L152_20) T L (rdy h) K := rfl
def L152_22 : List AStep := ⟨.mov (.t 9), (some 40), none, []⟩ :: ⟨.mov (.t 8), (some 41), none, []⟩ :: L152_21
theorem v152_22 : wpS P L152_22 T L (rdy h) K = wpS P (⟨.mov (.t 9), (some 40), none, []⟩ :: ⟨.mov (.t 8), (some 41), none, []⟩ :: L152_21) T L (rdy h) K := rfl
def L152_23 : List AStep := ⟨.faddr 0 (.t 6), (some 38), none, []⟩ :: ⟨.load 1 false (.t 38), (some 39), none, []⟩ :: L152_22
theorem v152_23 : wpS P L152_23 T L (rdy h) K = wpS P (⟨.faddr 0 (.t 6), (some 38), none, []⟩ :: ⟨.load 1 false (.t 38), (some 39), none, []⟩ :: L152_22) T L (rdy h) K := rfl
def L152_24 : List AStep := [⟨.mov (.t 48), (some 8), none, []⟩]
theorem v152_24 : wpS P L152_24 T L (rdy h) K = wpS P ([⟨.mov (.t 48), (some 8), none, []⟩]) T L (rdy h) K := rfl
def L152_25 : List AStep := ⟨.mov (.t 8), (some 47), none, []⟩ :: ⟨.slice 3 1 (.t 47) (some (.c (.int .i64 1))) none none, (some 48), none, []⟩ :: L152_24
theorem v152_25 : wpS P L152_25 T L (rdy h) K = wpS P (⟨.mov (.t 8), (some 47), none, []⟩ :: ⟨.slice 3 1 (.t 47) (some (.c (.int .i64 1))) none none, (some 48), none, []⟩ :: L152_24) T L (rdy h) K := rfl
def L152_26 : List AStep := [⟨.bin .eql (.t 50) (.c (.int .i64 2)), (some 51), none, []⟩]
theorem v152_26 : wpS P L152_26 T L (rdy h) K = wpS P ([⟨.bin .eql (.t 50) (.c (.int .i64 2)), (some 51), none, []⟩]) T L (rdy h) K := rfl
def L152_27 : List AStep := ⟨.faddr 1 (.t 10), (some 49), none, []⟩ :: ⟨.load 1 false (.t 49), (some 50), none, []⟩ :: L152_26
theorem v152_27 : wpS P L152_27 T L (rdy h) K = wpS P (⟨.faddr 1 (.t 10), (some 49), none, []⟩ :: ⟨.load 1 false (.t 49), (some 50), none, []⟩ :: L152_26) T L (rdy h) K := rfl
def L152_28 : List AStep := [⟨.faddr 1 (.t 57), (some 58), none, []⟩, ⟨.store 1 (.t 58) (.t 56), none, none, []⟩]
theorem v152_28 : wpS P L152_28 T L (rdy h) K = wpS P ([⟨.faddr 1 (.t 57), (some 58), none, []⟩, ⟨.store 1 (.t 58) (.t 56), none, none, []⟩]) T L (rdy h) K := rfl
def L152_29 : List AStep := ⟨.call 121 [(.t 55)], (some 56), none, [(.load 1 false (.t 52), (some 53), none)]⟩ :: ⟨.iaddr 3 (.t 53) (.t 54), (some 57), none, []⟩ :: L152_28
theorem v152_29 : wpS P L152_29 T L (rdy h) K = wpS P (⟨.call 121 [(.t 55)], (some 56), none, [(.load 1 false (.t 52), (some 53), none)]⟩ :: ⟨.iaddr 3 (.t 53) (.t 54), (some 57), none, []⟩ :: L152_28) T L (rdy h) K := rfl
def L152_30 : List AStep := ⟨.mov (.t 9), (some 54), none, []⟩ :: ⟨.mov (.t 8), (some 55), none, []⟩ :: L152_29
theorem v152_30 : wpS P L152_30 T L (rdy h) K = wpS P (⟨.mov (.t 9), (some 54), none, []⟩ :: ⟨.mov (.t 8), (some 55), none, []⟩ :: L152_29) T L (rdy h) K := rfl
def L152_31 : List AStep := ⟨.faddr 0 (.t 6), (some 52), none, []⟩ :: ⟨.load 1 false (.t 52), (some 53), none, []⟩ :: L152_30
theorem v152_31 : wpS P L152_31 T L (rdy h) K = wpS P (⟨.faddr 0 (.t 6), (some 52), none, []⟩ :: ⟨.load 1 false (.t 52), (some 53), none, []⟩ :: L152_30) T L (rdy h) K := rfl
def L152_32 : List AStep := [⟨.mov (.c (.sl none 0 (some 0))), (some 8), none, []⟩]
theorem v152_32 : wpS P L152_32 T L (rdy h) K = wpS P ([⟨.mov (.c (.sl none 0 (some 0))), (some 8), none, []⟩]) T L (rdy h) K := rfl
def L152_33 : List AStep := [⟨.bin .add (.t 26) (.c (.int .i64 1)), (some 59), none, []⟩, ⟨.mov (.t 59), (some 26), none, []⟩]
theorem v152_33 : wpS P L152_33 T L (rdy h) K = wpS P ([⟨.bin .add (.t 26) (.c (.int .i64 1)), (some 59), none, []⟩, ⟨.mov (.t 59), (some 26), none, []⟩]) T L (rdy h) K := rfl
def L152_34 : List AStep := [⟨.bin .gtr (.t 61) (.c (.int .i64 0)), (some 62), none, []⟩]
theorem v152_34 : wpS P L152_34 T L (rdy h) K = wpS P ([⟨.bin .gtr (.t 61) (.c (.int .i64 0)), (some 62), none, []⟩]) T L (rdy h) K := rfl
def L152_35 : List AStep := ⟨.mov (.t 8), (some 60), none, []⟩ :: ⟨.len (.t 60), (some 61), none, []⟩ :: L152_34
theorem v152_35 : wpS P L152_35 T L (rdy h) K = wpS P (⟨.mov (.t 8), (some 60), none, []⟩ :: ⟨.len (.t 60), (some 61), none, []⟩ :: L152_34) T L (rdy h) K := rfl
def L152_36 : List AStep := [⟨.mov (.t 66), (some 7), none, []⟩]
theorem v152_36 : wpS P L152_36 T L (rdy h) K = wpS P ([⟨.mov (.t 66), (some 7), none, []⟩]) T L (rdy h) K := rfl
def L152_37 : List AStep := ⟨.buildSlice 212 1 [(.int .i64 0), (.str (strOfNums []))] [(0, 2, (.t 64))], (some 65), none, []⟩ :: ⟨.append 212 2 24 (.t 63) (.t 65), (some 66), none, []⟩ :: L152_36
theorem v152_37 : wpS P L152_37 T L (rdy h) K = wpS P (⟨.buildSlice 212 1 [(.int .i64 0), (.str (strOfNums []))] [(0, 2, (.t 64))], (some 65), none, []⟩ :: ⟨.append 212 2 24 (.t 63) (.t 65), (some 66), none, []⟩ :: L152_36) T L (rdy h) K := rfl
def L152_38 : List AStep := ⟨.mov (.t 7), (some 63), none, []⟩ :: ⟨.build [(.int .i64 0), (.str (strOfNums []))] [(0, 1, (.c (.int .i64 0))), (1, 1, (.c (.str (strOfNums []))))], (some 64), none, []⟩ :: L152_37
theorem v152_38 : wpS P L152_38 T L (rdy h) K = wpS P (⟨.mov (.t 7), (some 63), none, []⟩ :: ⟨.build [(.int .i64 0), (.str (strOfNums []))] [(0, 1, (.c (.int .i64 0))), (1, 1, (.c (.str (strOfNums []))))], (some 64), none, []⟩ :: L152_37) T L (rdy h) K := rfl
def L152_39 : List AStep := [⟨.len (.t 68), (some 69), none, []⟩, ⟨.mov (.c (.int .i64 0)), (some 70), none, []⟩]
theorem v152_39 : wpS P L152_39 T L (rdy h) K = wpS P ([⟨.len (.t 68), (some 69), none, []⟩, ⟨.mov (.c (.int .i64 0)), (some 70), none, []⟩]) T L (rdy h) K := rfl
def L152_40 : List AStep := ⟨.faddr 1 (.t 3), (some 67), none, []⟩ :: ⟨.load 1 false (.t 67), (some 68), none, []⟩ :: L152_39
theorem v152_40 : wpS P L152_40 T L (rdy h) K = wpS P (⟨.faddr 1 (.t 3), (some 67), none, []⟩ :: ⟨.load 1 false (.t 67), (some 68), none, []⟩ :: L152_39) T L (rdy h) K := rfl
def L152_41 : List AStep := [⟨.bin .lss (.t 70) (.t 69), (some 71), none, []⟩]
theorem v152_41 : wpS P L152_41 T L (rdy h) K = wpS P ([⟨.bin .lss (.t 70) (.t 69), (some 71), none, []⟩]) T L (rdy h) K := rfl
def L152_42 : List AStep := [⟨.alloc 86 [(.str (strOfNums [])), (.int .i64 0)], (some 12), none, []⟩, ⟨.store 2 (.t 12) (.t 73), none, none, []⟩]
theorem v152_42 : wpS P L152_42 T L (rdy h) K = wpS P ([⟨.alloc 86 [(.str (strOfNums [])), (.int .i64 0)], (some 12), none, []⟩, ⟨.store 2 (.t 12) (.t 73), none, none, []⟩]) T L (rdy h) K := rfl
def L152_43 : List AStep := ⟨.iaddr 2 (.t 68) (.t 70), (some 72), none, []⟩ :: ⟨.load 2 true (.t 72), (some 73), none, []⟩ :: L152_42
theorem v152_43 : wpS P L152_43 T L (rdy h) K = wpS P (⟨.iaddr 2 (.t 68) (.t 70), (some 72), none, []⟩ :: ⟨.load 2 true (.t 72), (some 73), none, []⟩ :: L152_42) T L (rdy h) K := rfl
def L152_44 : List AStep := [⟨.mov (.t 77), (some 13), none, []⟩]
theorem v152_44 : wpS P L152_44 T L (rdy h) K = wpS P ([⟨.mov (.t 77), (some 13), none, []⟩]) T L (rdy h) K := rfl
def L152_45 : List AStep := ⟨.load 1 false (.t 75), (some 76), none, []⟩ :: ⟨.call 205 [(.t 74), (.t 76)], (some 77), none, []⟩ :: L152_44
theorem v152_45 : wpS P L152_45 T L (rdy h) K = wpS P (⟨.load 1 false (.t 75), (some 76), none, []⟩ :: ⟨.call 205 [(.t 74), (.t 76)], (some 77), none, []⟩ :: L152_44) T L (rdy h) K := rfl
def L152_46 : List AStep := ⟨.load 1 true (.t 2), (some 74), none, []⟩ :: ⟨.faddr 0 (.t 12), (some 75), none, []⟩ :: L152_45
theorem v152_46 : wpS P L152_46 T L (rdy h) K = wpS P (⟨.load 1 true (.t 2), (some 74), none, []⟩ :: ⟨.faddr 0 (.t 12), (some 75), none, []⟩ :: L152_45) T L (rdy h) K := rfl
def L152_47 : List AStep := [⟨.mov (.t 88), (some 86), none, []⟩]
theorem v152_47 : wpS P L152_47 T L (rdy h) K = wpS P ([⟨.mov (.t 88), (some 86), none, []⟩]) T L (rdy h) K := rfl
def L152_48 : List AStep := ⟨.mov (.t 13), (some 87), none, []⟩ :: ⟨.bin .lss (.t 87) (.c (.int .i64 0)), (some 88), none, []⟩ :: L152_47
theorem v152_48 : wpS P L152_48 T L (rdy h) K = wpS P (⟨.mov (.t 13), (some 87), none, []⟩ :: ⟨.bin .lss (.t 87) (.c (.int .i64 0)), (some 88), none, []⟩ :: L152_47) T L (rdy h) K := rfl
def L152_49 : List AStep := [⟨.mov (.t 94), (some 7), none, []⟩]
theorem v152_49 : wpS P L152_49 T L (rdy h) K = wpS P ([⟨.mov (.t 94), (some 7), none, []⟩]) T L (rdy h) K := rfl
def L152_50 : List AStep := ⟨.buildSlice 212 1 [(.int .i64 0), (.str (strOfNums []))] [(0, 2, (.t 92))], (some 93), none, []⟩ :: ⟨.append 212 2 24 (.t 89) (.t 93), (some 94), none, []⟩ :: L152_49
theorem v152_50 : wpS P L152_50 T L (rdy h) K = wpS P (⟨.buildSlice 212 1 [(.int .i64 0), (.str (strOfNums []))] [(0, 2, (.t 92))], (some 93), none, []⟩ :: ⟨.append 212 2 24 (.t 89) (.t 93), (some 94), none, []⟩ :: L152_49) T L (rdy h) K := rfl
def L152_51 : List AStep := ⟨.load 1 false (.t 90), (some 91), none, []⟩ :: ⟨.build [(.int .i64 0), (.str (strOfNums []))] [(0, 1, (.c (.int .i64 1))), (1, 1, (.t 91))], (some 92), none, []⟩ :: L152_50
theorem v152_51 : wpS P L152_51 T L (rdy h) K = wpS P (⟨.load 1 false (.t 90), (some 91), none, []⟩ :: ⟨.build [(.int .i64 0), (.str (strOfNums []))] [(0, 1, (.c (.int .i64 1))), (1, 1, (.t 91))], (some 92), none, []⟩ :: L152_50) T L (rdy h) K := rfl
def L152_52 : List AStep := ⟨.mov (.t 7), (some 89), none, []⟩ :: ⟨.faddr 0 (.t 12), (some 90), none, []⟩ :: L152_51
theorem v152_52 : wpS P L152_52 T L (rdy h) K = wpS P (⟨.mov (.t 7), (some 89), none, []⟩ :: ⟨.faddr 0 (.t 12), (some 90), none, []⟩ :: L152_51) T L (rdy h) K := rfl
def L152_53 : List AStep := [⟨.bin .eql (.t 101) (.c (.int .i64 4)), (some 102), none, []⟩, ⟨.mov (.t 102), (some 95), none, []⟩]
theorem v152_53 : wpS P L152_53 T L (rdy h) K = wpS P ([⟨.bin .eql (.t 101) (.c (.int .i64 4)), (some 102), none, []⟩, ⟨.mov (.t 102), (some 95), none, []⟩]) T L (rdy h) K := rfl
def L152_54 : List AStep := ⟨.faddr 1 (.t 99), (some 100), none, []⟩ :: ⟨.load 1 false (.t 100), (some 101), none, []⟩ :: L152_53
theorem v152_54 : wpS P L152_54 T L (rdy h) K = wpS P (⟨.faddr 1 (.t 99), (some 100), none, []⟩ :: ⟨.load 1 false (.t 100), (some 101), none, []⟩ :: L152_53) T L (rdy h) K := rfl
def L152_55 : List AStep := ⟨.mov (.t 13), (some 98), none, []⟩ :: ⟨.iaddr 4 (.t 97) (.t 98), (some 99), none, []⟩ :: L152_54
theorem v152_55 : wpS P L152_55 T L (rdy h) K = wpS P (⟨.mov (.t 13), (some 98), none, []⟩ :: ⟨.iaddr 4 (.t 97) (.t 98), (some 99), none, []⟩ :: L152_54) T L (rdy h) K := rfl
def L152_56 : List AStep := ⟨.faddr 0 (.t 2), (some 96), none, []⟩ :: ⟨.load 1 false (.t 96), (some 97), none, []⟩ :: L152_55
theorem v152_56 : wpS P L152_56 T L (rdy h) K = wpS P (⟨.faddr 0 (.t 2), (some 96), none, []⟩ :: ⟨.load 1 false (.t 96), (some 97), none, []⟩ :: L152_55) T L (rdy h) K := rfl
def L152_57 : List AStep := [⟨.store 1 (.t 116) (.t 114), none, none, []⟩]
theorem v152_57 : wpS P L152_57 T L (rdy h) K = wpS P ([⟨.store 1 (.t 116) (.t 114), none, none, []⟩]) T L (rdy h) K := rfl
def L152_58 : List AStep := ⟨.iaddr 3 (.t 104) (.t 105), (some 115), none, []⟩ :: ⟨.faddr 2 (.t 115), (some 116), none, []⟩ :: L152_57
theorem v152_58 : wpS P L152_58 T L (rdy h) K = wpS P (⟨.iaddr 3 (.t 104) (.t 105), (some 115), none, []⟩ :: ⟨.faddr 2 (.t 115), (some 116), none, []⟩ :: L152_57) T L (rdy h) K := rfl
def L152_59 : List AStep := ⟨.buildSlice 86 1 [(.str (strOfNums [])), (.int .i64 0)] [(0, 2, (.t 112))], (some 113), none, []⟩ :: ⟨.append 86 2 24 (.t 111) (.t 113), (some 114), none, [(.load 1 false (.t 103), (some 104), none)]⟩ :: L152_58
theorem v152_59 : wpS P L152_59 T L (rdy h) K = wpS P (⟨.buildSlice 86 1 [(.str (strOfNums [])), (.int .i64 0)] [(0, 2, (.t 112))], (some 113), none, []⟩ :: ⟨.append 86 2 24 (.t 111) (.t 113), (some 114), none, [(.load 1 false (.t 103), (some 104), none)]⟩ :: L152_58) T L (rdy h) K := rfl
def L152_60 : List AStep := ⟨.load 1 false (.t 110), (some 111), none, []⟩ :: ⟨.load 2 true (.t 12), (some 112), none, []⟩ :: L152_59
theorem v152_60 : wpS P L152_60 T L (rdy h) K = wpS P (⟨.load 1 false (.t 110), (some 111), none, []⟩ :: ⟨.load 2 true (.t 12), (some 112), none, []⟩ :: L152_59) T L (rdy h) K := rfl
def L152_61 : List AStep := ⟨.iaddr 3 (.t 107) (.t 108), (some 109), none, []⟩ :: ⟨.faddr 2 (.t 109), (some 110), none, []⟩ :: L152_60
theorem v152_61 : wpS P L152_61 T L (rdy h) K = wpS P (⟨.iaddr 3 (.t 107) (.t 108), (some 109), none, []⟩ :: ⟨.faddr 2 (.t 109), (some 110), none, []⟩ :: L152_60) T L (rdy h) K := rfl
def L152_62 : List AStep := ⟨.load 1 false (.t 106), (some 107), none, []⟩ :: ⟨.mov (.t 13), (some 108), none, []⟩ :: L152_61
theorem v152_62 : wpS P L152_62 T L (rdy h) K = wpS P (⟨.load 1 false (.t 106), (some 107), none, []⟩ :: ⟨.mov (.t 13), (some 108), none, []⟩ :: L152_61) T L (rdy h) K := rfl
def L152_63 : List AStep := ⟨.mov (.t 13), (some 105), none, []⟩ :: ⟨.faddr 0 (.t 6), (some 106), none, []⟩ :: L152_62
theorem v152_63 : wpS P L152_63 T L (rdy h) K = wpS P (⟨.mov (.t 13), (some 105), none, []⟩ :: ⟨.faddr 0 (.t 6), (some 106), none, []⟩ :: L152_62) T L (rdy h) K := rfl
def L152_64 : List AStep := ⟨.faddr 0 (.t 6), (some 103), none, []⟩ :: ⟨.load 1 false (.t 103), (some 104), none, []⟩ :: L152_63
theorem v152_64 : wpS P L152_64 T L (rdy h) K = wpS P (⟨.faddr 0 (.t 6), (some 103), none, []⟩ :: ⟨.load 1 false (.t 103), (some 104), none, []⟩ :: L152_63) T L (rdy h) K := rfl
def L152_65 : List AStep := [⟨.mov (.t 123), (some 117), none, []⟩]
theorem v152_65 : wpS P L152_65 T L (rdy h) K = wpS P ([⟨.mov (.t 123), (some 117), none, []⟩]) T L (rdy h) K := rfl
def L152_66 : List AStep := ⟨.faddr 0 (.t 121), (some 122), none, []⟩ :: ⟨.load 1 false (.t 122), (some 123), none, []⟩ :: L152_65
theorem v152_66 : wpS P L152_66 T L (rdy h) K = wpS P (⟨.faddr 0 (.t 121), (some 122), none, []⟩ :: ⟨.load 1 false (.t 122), (some 123), none, []⟩ :: L152_65) T L (rdy h) K := rfl
def L152_67 : List AStep := ⟨.mov (.t 13), (some 120), none, []⟩ :: ⟨.iaddr 3 (.t 119) (.t 120), (some 121), none, []⟩ :: L152_66
theorem v152_67 : wpS P L152_67 T L (rdy h) K = wpS P (⟨.mov (.t 13), (some 120), none, []⟩ :: ⟨.iaddr 3 (.t 119) (.t 120), (some 121), none, []⟩ :: L152_66) T L (rdy h) K := rfl
def L152_68 : List AStep := ⟨.faddr 0 (.t 6), (some 118), none, []⟩ :: ⟨.load 1 false (.t 118), (some 119), none, []⟩ :: L152_67
theorem v152_68 : wpS P L152_68 T L (rdy h) K = wpS P (⟨.faddr 0 (.t 6), (some 118), none, []⟩ :: ⟨.load 1 false (.t 118), (some 119), none, []⟩ :: L152_67) T L (rdy h) K := rfl
def L152_69 : List AStep := [⟨.mov (.t 129), (some 7), none, []⟩]
theorem v152_69 : wpS P L152_69 T L (rdy h) K = wpS P ([⟨.mov (.t 129), (some 7), none, []⟩]) T L (rdy h) K := rfl
def L152_70 : List AStep := ⟨.buildSlice 212 1 [(.int .i64 0), (.str (strOfNums []))] [(0, 2, (.t 127))], (some 128), none, []⟩ :: ⟨.append 212 2 24 (.t 124) (.t 128), (some 129), none, []⟩ :: L152_69
theorem v152_70 : wpS P L152_70 T L (rdy h) K = wpS P (⟨.buildSlice 212 1 [(.int .i64 0), (.str (strOfNums []))] [(0, 2, (.t 127))], (some 128), none, []⟩ :: ⟨.append 212 2 24 (.t 124) (.t 128), (some 129), none, []⟩ :: L152_69) T L (rdy h) K := rfl
def L152_71 : List AStep := ⟨.load 1 false (.t 125), (some 126), none, []⟩ :: ⟨.build [(.int .i64 0), (.str (strOfNums []))] [(0, 1, (.c (.int .i64 2))), (1, 1, (.t 126))], (some 127), none, []⟩ :: L152_70
theorem v152_71 : wpS P L152_71 T L (rdy h) K = wpS P (⟨.load 1 false (.t 125), (some 126), none, []⟩ :: ⟨.build [(.int .i64 0), (.str (strOfNums []))] [(0, 1, (.c (.int .i64 2))), (1, 1, (.t 126))], (some 127), none, []⟩ :: L152_70) T L (rdy h) K := rfl
def L152_72 : List AStep := ⟨.mov (.t 7), (some 124), none, []⟩ :: ⟨.faddr 0 (.t 12), (some 125), none, []⟩ :: L152_71
theorem v152_72 : wpS P L152_72 T L (rdy h) K = wpS P (⟨.mov (.t 7), (some 124), none, []⟩ :: ⟨.faddr 0 (.t 12), (some 125), none, []⟩ :: L152_71) T L (rdy h) K := rfl
def L152_73 : List AStep := [⟨.store 3 (.t 85) (.t 84), none, none, []⟩]
theorem v152_73 : wpS P L152_73 T L (rdy h) K = wpS P ([⟨.store 3 (.t 85) (.t 84), none, none, []⟩]) T L (rdy h) K := rfl
def L152_74 : List AStep := ⟨.build [(.bool false), (.sl none 0 (some 0)), (.sl none 0 (some 0))] [(0, 1, (.c (.bool true))), (1, 1, (.t 83))], (some 84), none, []⟩ :: ⟨.iaddr 3 (.t 79) (.t 80), (some 85), none, []⟩ :: L152_73
theorem v152_74 : wpS P L152_74 T L (rdy h) K = wpS P (⟨.build [(.bool false), (.sl none 0 (some 0)), (.sl none 0 (some 0))] [(0, 1, (.c (.bool true))), (1, 1, (.t 83))], (some 84), none, []⟩ :: ⟨.iaddr 3 (.t 79) (.t 80), (some 85), none, []⟩ :: L152_73) T L (rdy h) K := rfl
def L152_75 : List AStep := ⟨.load 1 false (.t 81), (some 82), none, []⟩ :: ⟨.buildSlice 3 1 [(.int .i64 0)] [(0, 1, (.t 82))], (some 83), none, []⟩ :: L152_74
theorem v152_75 : wpS P L152_75 T L (rdy h) K = wpS P (⟨.load 1 false (.t 81), (some 82), none, []⟩ :: ⟨.buildSlice 3 1 [(.int .i64 0)] [(0, 1, (.t 82))], (some 83), none, []⟩ :: L152_74) T L (rdy h) K := rfl
def L152_76 : List AStep := ⟨.mov (.t 13), (some 80), none, []⟩ :: ⟨.faddr 1 (.t 12), (some 81), none, []⟩ :: L152_75
theorem v152_76 : wpS P L152_76 T L (rdy h) K = wpS P (⟨.mov (.t 13), (some 80), none, []⟩ :: ⟨.faddr 1 (.t 12), (some 81), none, []⟩ :: L152_75) T L (rdy h) K := rfl
def L152_77 : List AStep := ⟨.faddr 0 (.t 6), (some 78), none, []⟩ :: ⟨.load 1 false (.t 78), (some 79), none, []⟩ :: L152_76
theorem v152_77 : wpS P L152_77 T L (rdy h) K = wpS P (⟨.faddr 0 (.t 6), (some 78), none, []⟩ :: ⟨.load 1 false (.t 78), (some 79), none, []⟩ :: L152_76) T L (rdy h) K := rfl
def L152_78 : List AStep := [⟨.bin .add (.t 70) (.c (.int .i64 1)), (some 130), none, []⟩, ⟨.mov (.t 130), (some 70), none, []⟩]
theorem v152_78 : wpS P L152_78 T L (rdy h) K = wpS P ([⟨.bin .add (.t 70) (.c (.int .i64 1)), (some 130), none, []⟩, ⟨.mov (.t 130), (some 70), none, []⟩]) T L (rdy h) K := rfl
def L152_79 : List AStep := [⟨.len (.t 132), (some 133), none, []⟩, ⟨.mov (.c (.int .i64 0)), (some 134), none, []⟩]
theorem v152_79 : wpS P L152_79 T L (rdy h) K = wpS P ([⟨.len (.t 132), (some 133), none, []⟩, ⟨.mov (.c (.int .i64 0)), (some 134), none, []⟩]) T L (rdy h) K := rfl
def L152_80 : List AStep := ⟨.faddr 0 (.t 2), (some 131), none, []⟩ :: ⟨.load 1 false (.t 131), (some 132), none, []⟩ :: L152_79
theorem v152_80 : wpS P L152_80 T L (rdy h) K = wpS P (⟨.faddr 0 (.t 2), (some 131), none, []⟩ :: ⟨.load 1 false (.t 131), (some 132), none, []⟩ :: L152_79) T L (rdy h) K := rfl
def L152_81 : List AStep := [⟨.bin .lss (.t 134) (.t 133), (some 135), none, []⟩]
theorem v152_81 : wpS P L152_81 T L (rdy h) K = wpS P ([⟨.bin .lss (.t 134) (.t 133), (some 135), none, []⟩]) T L (rdy h) K := rfl
def L152_82 : List AStep := [⟨.mov (.t 136), (some 14), none, []⟩, ⟨.store 4 (.t 15) (.t 138), none, none, []⟩]
theorem v152_82 : wpS P L152_82 T L (rdy h) K = wpS P ([⟨.mov (.t 136), (some 14), none, []⟩, ⟨.store 4 (.t 15) (.t 138), none, none, []⟩]) T L (rdy h) K := rfl
def L152_83 : List AStep := ⟨.load 4 true (.t 137), (some 138), none, []⟩ :: ⟨.alloc 108 [(.str (strOfNums [])), (.int .i64 0), (.bool false), (.int .i64 0)], (some 15), none, []⟩ :: L152_82
theorem v152_83 : wpS P L152_83 T L (rdy h) K = wpS P (⟨.load 4 true (.t 137), (some 138), none, []⟩ :: ⟨.alloc 108 [(.str (strOfNums [])), (.int .i64 0), (.bool false), (.int .i64 0)], (some 15), none, []⟩ :: L152_82) T L (rdy h) K := rfl
def L152_84 : List AStep := ⟨.mov (.t 134), (some 136), none, []⟩ :: ⟨.iaddr 4 (.t 132) (.t 134), (some 137), none, []⟩ :: L152_83
theorem v152_84 : wpS P L152_84 T L (rdy h) K = wpS P (⟨.mov (.t 134), (some 136), none, []⟩ :: ⟨.iaddr 4 (.t 132) (.t 134), (some 137), none, []⟩ :: L152_83) T L (rdy h) K := rfl
def L152_85 : List AStep := [⟨.store 1 (.t 150) (.t 148), none, none, []⟩]
theorem v152_85 : wpS P L152_85 T L (rdy h) K = wpS P ([⟨.store 1 (.t 150) (.t 148), none, none, []⟩]) T L (rdy h) K := rfl
def L152_86 : List AStep := ⟨.iaddr 3 (.t 140) (.t 141), (some 149), none, []⟩ :: ⟨.faddr 2 (.t 149), (some 150), none, []⟩ :: L152_85
theorem v152_86 : wpS P L152_86 T L (rdy h) K = wpS P (⟨.iaddr 3 (.t 140) (.t 141), (some 149), none, []⟩ :: ⟨.faddr 2 (.t 149), (some 150), none, []⟩ :: L152_85) T L (rdy h) K := rfl
def L152_87 : List AStep := ⟨.load 1 false (.t 146), (some 147), none, []⟩ :: ⟨.call 166 [(.t 147)], (some 148), none, [(.load 1 false (.t 139), (some 140), none)]⟩ :: L152_86
theorem v152_87 : wpS P L152_87 T L (rdy h) K = wpS P (⟨.load 1 false (.t 146), (some 147), none, []⟩ :: ⟨.call 166 [(.t 147)], (some 148), none, [(.load 1 false (.t 139), (some 140), none)]⟩ :: L152_86) T L (rdy h) K := rfl
def L152_88 : List AStep := ⟨.iaddr 3 (.t 143) (.t 144), (some 145), none, []⟩ :: ⟨.faddr 2 (.t 145), (some 146), none, []⟩ :: L152_87
theorem v152_88 : wpS P L152_88 T L (rdy h) K = wpS P (⟨.iaddr 3 (.t 143) (.t 144), (some 145), none, []⟩ :: ⟨.faddr 2 (.t 145), (some 146), none, []⟩ :: L152_87) T L (rdy h) K := rfl
def L152_89 : List AStep := ⟨.load 1 false (.t 142), (some 143), none, []⟩ :: ⟨.mov (.t 14), (some 144), none, []⟩ :: L152_88
theorem v152_89 : wpS P L152_89 T L (rdy h) K = wpS P (⟨.load 1 false (.t 142), (some 143), none, []⟩ :: ⟨.mov (.t 14), (some 144), none, []⟩ :: L152_88) T L (rdy h) K := rfl
def L152_90 : List AStep := ⟨.mov (.t 14), (some 141), none, []⟩ :: ⟨.faddr 0 (.t 6), (some 142), none, []⟩ :: L152_89
theorem v152_90 : wpS P L152_90 T L (rdy h) K = wpS P (⟨.mov (.t 14), (some 141), none, []⟩ :: ⟨.faddr 0 (.t 6), (some 142), none, []⟩ :: L152_89) T L (rdy h) K := rfl
def L152_91 : List AStep := ⟨.faddr 0 (.t 6), (some 139), none, []⟩ :: ⟨.load 1 false (.t 139), (some 140), none, []⟩ :: L152_90
theorem v152_91 : wpS P L152_91 T L (rdy h) K = wpS P (⟨.faddr 0 (.t 6), (some 139), none, []⟩ :: ⟨.load 1 false (.t 139), (some 140), none, []⟩ :: L152_90) T L (rdy h) K := rfl
def L152_92 : List AStep := [⟨.not (.t 164), (some 165), (some (158, true)), []⟩, ⟨.pick (.t 158) (.t 165) (.c (.bool false)), (some 166), none, []⟩]
theorem v152_92 : wpS P L152_92 T L (rdy h) K = wpS P ([⟨.not (.t 164), (some 165), (some (158, true)), []⟩, ⟨.pick (.t 158) (.t 165) (.c (.bool false)), (some 166), none, []⟩]) T L (rdy h) K := rfl
def L152_93 : List AStep := ⟨.faddr 0 (.t 162), (some 163), (some (158, true)), []⟩ :: ⟨.load 1 false (.t 163), (some 164), (some (158, true)), []⟩ :: L152_92
theorem v152_93 : wpS P L152_93 T L (rdy h) K = wpS P (⟨.faddr 0 (.t 162), (some 163), (some (158, true)), []⟩ :: ⟨.load 1 false (.t 163), (some 164), (some (158, true)), []⟩ :: L152_92) T L (rdy h) K := rfl
def L152_94 : List AStep := ⟨.mov (.t 14), (some 161), (some (158, true)), []⟩ :: ⟨.iaddr 3 (.t 160) (.t 161), (some 162), (some (158, true)), []⟩ :: L152_93
theorem v152_94 : wpS P L152_94 T L (rdy h) K = wpS P (⟨.mov (.t 14), (some 161), (some (158, true)), []⟩ :: ⟨.iaddr 3 (.t 160) (.t 161), (some 162), (some (158, true)), []⟩ :: L152_93) T L (rdy h) K := rfl
def L152_95 : List AStep := ⟨.faddr 0 (.t 6), (some 159), (some (158, true)), []⟩ :: ⟨.load 1 false (.t 159), (some 160), (some (158, true)), []⟩ :: L152_94
theorem v152_95 : wpS P L152_95 T L (rdy h) K = wpS P (⟨.faddr 0 (.t 6), (some 159), (some (158, true)), []⟩ :: ⟨.load 1 false (.t 159), (some 160), (some (158, true)), []⟩ :: L152_94) T L (rdy h) K := rfl
def L152_96 : List AStep := ⟨.pick (.t 153) (.t 156) (.c (.bool false)), (some 157), none, []⟩ :: ⟨.mov (.t 157), (some 158), none, []⟩ :: L152_95
theorem v152_96 : wpS P L152_96 T L (rdy h) K = wpS P (⟨.pick (.t 153) (.t 156) (.c (.bool false)), (some 157), none, []⟩ :: ⟨.mov (.t 157), (some 158), none, []⟩ :: L152_95) T L (rdy h) K := rfl
def L152_97 : List AStep := ⟨.load 1 false (.t 154), (some 155), (some (153, true)), []⟩ :: ⟨.not (.t 155), (some 156), (some (153, true)), []⟩ :: L152_96
theorem v152_97 : wpS P L152_97 T L (rdy h) K = wpS P (⟨.load 1 false (.t 154), (some 155), (some (153, true)), []⟩ :: ⟨.not (.t 155), (some 156), (some (153, true)), []⟩ :: L152_96) T L (rdy h) K := rfl
def L152_98 : List AStep := ⟨.mov (.t 152), (some 153), none, []⟩ :: ⟨.faddr 2 (.t 15), (some 154), (some (153, true)), []⟩ :: L152_97
theorem v152_98 : wpS P L152_98 T L (rdy h) K = wpS P (⟨.mov (.t 152), (some 153), none, []⟩ :: ⟨.faddr 2 (.t 15), (some 154), (some (153, true)), []⟩ :: L152_97) T L (rdy h) K := rfl
def L152_99 : List AStep := ⟨.load 4 true (.t 15), (some 151), none, []⟩ :: ⟨.call 172 [(.t 151)], (some 152), none, []⟩ :: L152_98
theorem v152_99 : wpS P L152_99 T L (rdy h) K = wpS P (⟨.load 4 true (.t 15), (some 151), none, []⟩ :: ⟨.call 172 [(.t 151)], (some 152), none, []⟩ :: L152_98) T L (rdy h) K := rfl
def L152_100 : List AStep := [⟨.mov (.t 172), (some 7), none, []⟩]
theorem v152_100 : wpS P L152_100 T L (rdy h) K = wpS P ([⟨.mov (.t 172), (some 7), none, []⟩]) T L (rdy h) K := rfl
def L152_101 : List AStep := ⟨.buildSlice 212 1 [(.int .i64 0), (.str (strOfNums []))] [(0, 2, (.t 170))], (some 171), none, []⟩ :: ⟨.append 212 2 24 (.t 167) (.t 171), (some 172), none, []⟩ :: L152_100
theorem v152_101 : wpS P L152_101 T L (rdy h) K = wpS P (⟨.buildSlice 212 1 [(.int .i64 0), (.str (strOfNums []))] [(0, 2, (.t 170))], (some 171), none, []⟩ :: ⟨.append 212 2 24 (.t 167) (.t 171), (some 172), none, []⟩ :: L152_100) T L (rdy h) K := rfl
def L152_102 : List AStep := ⟨.load 1 false (.t 168), (some 169), none, []⟩ :: ⟨.build [(.int .i64 0), (.str (strOfNums []))] [(0, 1, (.c (.int .i64 3))), (1, 1, (.t 169))], (some 170), none, []⟩ :: L152_101
theorem v152_102 : wpS P L152_102 T L (rdy h) K = wpS P (⟨.load 1 false (.t 168), (some 169), none, []⟩ :: ⟨.build [(.int .i64 0), (.str (strOfNums []))] [(0, 1, (.c (.int .i64 3))), (1, 1, (.t 169))], (some 170), none, []⟩ :: L152_101) T L (rdy h) K := rfl
def L152_103 : List AStep := ⟨.mov (.t 7), (some 167), none, []⟩ :: ⟨.faddr 0 (.t 15), (some 168), none, []⟩ :: L152_102
theorem v152_103 : wpS P L152_103 T L (rdy h) K = wpS P (⟨.mov (.t 7), (some 167), none, []⟩ :: ⟨.faddr 0 (.t 15), (some 168), none, []⟩ :: L152_102) T L (rdy h) K := rfl
def L152_104 : List AStep := [⟨.bin .add (.t 134) (.c (.int .i64 1)), (some 173), none, []⟩, ⟨.mov (.t 173), (some 134), none, []⟩]
theorem v152_104 : wpS P L152_104 T L (rdy h) K = wpS P ([⟨.bin .add (.t 134) (.c (.int .i64 1)), (some 173), none, []⟩, ⟨.mov (.t 173), (some 134), none, []⟩]) T L (rdy h) K := rfl
def L152_105 : List AStep := [⟨.mov (.t 176), (some 5), none, []⟩]
theorem v152_105 : wpS P L152_105 T L (rdy h) K = wpS P ([⟨.mov (.t 176), (some 5), none, []⟩]) T L (rdy h) K := rfl
def L152_106 : List AStep := ⟨.call 206 [(.t 175)], (some 176), none, [(.load 1 true (.t 6), (some 174), none)]⟩ :: ⟨.store 1 (.t 4) (.t 174), none, none, []⟩ :: L152_105
theorem v152_106 : wpS P L152_106 T L (rdy h) K = wpS P (⟨.call 206 [(.t 175)], (some 176), none, [(.load 1 true (.t 6), (some 174), none)]⟩ :: ⟨.store 1 (.t 4) (.t 174), none, none, []⟩ :: L152_105) T L (rdy h) K := rfl
def L152_107 : List AStep := ⟨.load 1 true (.t 6), (some 174), none, []⟩ :: ⟨.mov (.t 7), (some 175), none, []⟩ :: L152_106
theorem v152_107 : wpS P L152_107 T L (rdy h) K = wpS P (⟨.load 1 true (.t 6), (some 174), none, []⟩ :: ⟨.mov (.t 7), (some 175), none, []⟩ :: L152_106) T L (rdy h) K := rfl
def C152_0 : ACode := .cond (.t 27) .skip (.exit 0)
theorem u152_0 : wpC P C152_0 T L (rdy h) Q = wpC P (.cond (.t 27) .skip (.exit 0)) T L (rdy h) Q := rfl
def C152_1 : ACode := .seq (.reg L152_23) (.reg L152_25)
theorem u152_1 : wpC P C152_1 T L (rdy h) Q = wpC P (.seq (.reg L152_23) (.reg L152_25)) T L (rdy h) Q := rfl
def C152_2 : ACode := .cond (.t 37) C152_1 .skip
theorem u152_2 : wpC P C152_2 T L (rdy h) Q = wpC P (.cond (.t 37) C152_1 .skip) T L (rdy h) Q := rfl
def C152_3 : ACode := .seq (.reg L152_18) C152_2
theorem u152_3 : wpC P C152_3 T L (rdy h) Q = wpC P (.seq (.reg L152_18) C152_2) T L (rdy h) Q := rfl
def C152_4 : ACode := .seq (.reg L152_31) (.reg L152_32)
theorem u152_4 : wpC P C152_4 T L (rdy h) Q = wpC P (.seq (.reg L152_31) (.reg L152_32)) T L (rdy h) Q := rfl
def C152_5 : ACode := .cond (.t 51) C152_4 .skip
theorem u152_5 : wpC P C152_5 T L (rdy h) Q = wpC P (.cond (.t 51) C152_4 .skip) T L (rdy h) Q := rfl
def C152_6 : ACode := .seq (.reg L152_27) C152_5
theorem u152_6 : wpC P C152_6 T L (rdy h) Q = wpC P (.seq (.reg L152_27) C152_5) T L (rdy h) Q := rfl
def C152_7 : ACode := .seq C152_3 C152_6
theorem u152_7 : wpC P C152_7 T L (rdy h) Q = wpC P (.seq C152_3 C152_6) T L (rdy h) Q := rfl
def C152_8 : ACode := .seq (.reg L152_14) C152_7
theorem u152_8 : wpC P C152_8 T L (rdy h) Q = wpC P (.seq (.reg L152_14) C152_7) T L (rdy h) Q := rfl
def C152_9 : ACode := .block 1 C152_8
theorem u152_9 : wpC P C152_9 T L (rdy h) Q = wpC P (.block 1 C152_8) T L (rdy h) Q := rfl
def C152_10 : ACode := .seq C152_9 (.reg L152_33)
theorem u152_10 : wpC P C152_10 T L (rdy h) Q = wpC P (.seq C152_9 (.reg L152_33)) T L (rdy h) Q := rfl
def C152_11 : ACode := .seq C152_0 C152_10
theorem u152_11 : wpC P C152_11 T L (rdy h) Q = wpC P (.seq C152_0 C152_10) T L (rdy h) Q := rfl
def C152_12 : ACode := .seq (.reg L152_11) C152_11
theorem u152_12 : wpC P C152_12 T L (rdy h) Q = wpC P (.seq (.reg L152_11) C152_11) T L (rdy h) Q := rfl
def C152_13 : ACode := .block 0 (.loop C152_12)
theorem u152_13 : wpC P C152_13 T L (rdy h) Q = wpC P (.block 0 (.loop C152_12)) T L (rdy h) Q := rfl
def C152_14 : ACode := .seq (.reg L152_10) C152_13
theorem u152_14 : wpC P C152_14 T L (rdy h) Q = wpC P (.seq (.reg L152_10) C152_13) T L (rdy h) Q := rfl
def C152_15 : ACode := .cond (.t 62) (.reg L152_38) .skip
theorem u152_15 : wpC P C152_15 T L (rdy h) Q = wpC P (.cond (.t 62) (.reg L152_38) .skip) T L (rdy h) Q := rfl
def C152_16 : ACode := .seq (.reg L152_35) C152_15
theorem u152_16 : wpC P C152_16 T L (rdy h) Q = wpC P (.seq (.reg L152_35) C152_15) T L (rdy h) Q := rfl
def C152_17 : ACode := .cond (.t 71) .skip (.exit 2)
theorem u152_17 : wpC P C152_17 T L (rdy h) Q = wpC P (.cond (.t 71) .skip (.exit 2)) T L (rdy h) Q := rfl
def C152_18 : ACode := .cond (.t 117) (.reg L152_72) (.reg L152_77)
theorem u152_18 : wpC P C152_18 T L (rdy h) Q = wpC P (.cond (.t 117) (.reg L152_72) (.reg L152_77)) T L (rdy h) Q := rfl
def C152_19 : ACode := .seq (.reg L152_68) C152_18
theorem u152_19 : wpC P C152_19 T L (rdy h) Q = wpC P (.seq (.reg L152_68) C152_18) T L (rdy h) Q := rfl
def C152_20 : ACode := .cond (.t 95) (.reg L152_64) C152_19
theorem u152_20 : wpC P C152_20 T L (rdy h) Q = wpC P (.cond (.t 95) (.reg L152_64) C152_19) T L (rdy h) Q := rfl
def C152_21 : ACode := .seq (.reg L152_56) C152_20
theorem u152_21 : wpC P C152_21 T L (rdy h) Q = wpC P (.seq (.reg L152_56) C152_20) T L (rdy h) Q := rfl
def C152_22 : ACode := .cond (.t 86) (.reg L152_52) C152_21
theorem u152_22 : wpC P C152_22 T L (rdy h) Q = wpC P (.cond (.t 86) (.reg L152_52) C152_21) T L (rdy h) Q := rfl
def C152_23 : ACode := .seq (.reg L152_48) C152_22
theorem u152_23 : wpC P C152_23 T L (rdy h) Q = wpC P (.seq (.reg L152_48) C152_22) T L (rdy h) Q := rfl
def C152_24 : ACode := .block 4 C152_23
theorem u152_24 : wpC P C152_24 T L (rdy h) Q = wpC P (.block 4 C152_23) T L (rdy h) Q := rfl
def C152_25 : ACode := .seq (.reg L152_46) C152_24
theorem u152_25 : wpC P C152_25 T L (rdy h) Q = wpC P (.seq (.reg L152_46) C152_24) T L (rdy h) Q := rfl
def C152_26 : ACode := .seq (.reg L152_43) C152_25
theorem u152_26 : wpC P C152_26 T L (rdy h) Q = wpC P (.seq (.reg L152_43) C152_25) T L (rdy h) Q := rfl
def C152_27 : ACode := .block 3 C152_26
theorem u152_27 : wpC P C152_27 T L (rdy h) Q = wpC P (.block 3 C152_26) T L (rdy h) Q := rfl
def C152_28 : ACode := .seq C152_27 (.reg L152_78)
theorem u152_28 : wpC P C152_28 T L (rdy h) Q = wpC P (.seq C152_27 (.reg L152_78)) T L (rdy h) Q := rfl
def C152_29 : ACode := .seq C152_17 C152_28
theorem u152_29 : wpC P C152_29 T L (rdy h) Q = wpC P (.seq C152_17 C152_28) T L (rdy h) Q := rfl
def C152_30 : ACode := .seq (.reg L152_41) C152_29
theorem u152_30 : wpC P C152_30 T L (rdy h) Q = wpC P (.seq (.reg L152_41) C152_29) T L (rdy h) Q := rfl
def C152_31 : ACode := .block 2 (.loop C152_30)
theorem u152_31 : wpC P C152_31 T L (rdy h) Q = wpC P (.block 2 (.loop C152_30)) T L (rdy h) Q := rfl
def C152_32 : ACode := .seq (.reg L152_40) C152_31
theorem u152_32 : wpC P C152_32 T L (rdy h) Q = wpC P (.seq (.reg L152_40) C152_31) T L (rdy h) Q := rfl
def C152_33 : ACode := .cond (.t 135) .skip (.exit 5)
theorem u152_33 : wpC P C152_33 T L (rdy h) Q = wpC P (.cond (.t 135) .skip (.exit 5)) T L (rdy h) Q := rfl
def C152_34 : ACode := .cond (.t 166) (.reg L152_103) .skip
theorem u152_34 : wpC P C152_34 T L (rdy h) Q = wpC P (.cond (.t 166) (.reg L152_103) .skip) T L (rdy h) Q := rfl
def C152_35 : ACode := .seq (.reg L152_99) C152_34
theorem u152_35 : wpC P C152_35 T L (rdy h) Q = wpC P (.seq (.reg L152_99) C152_34) T L (rdy h) Q := rfl
def C152_36 : ACode := .seq (.reg L152_91) C152_35
theorem u152_36 : wpC P C152_36 T L (rdy h) Q = wpC P (.seq (.reg L152_91) C152_35) T L (rdy h) Q := rfl
def C152_37 : ACode := .seq (.reg L152_84) C152_36
theorem u152_37 : wpC P C152_37 T L (rdy h) Q = wpC P (.seq (.reg L152_84) C152_36) T L (rdy h) Q := rfl
def C152_38 : ACode := .block 6 C152_37
theorem u152_38 : wpC P C152_38 T L (rdy h) Q = wpC P (.block 6 C152_37) T L (rdy h) Q := rfl
def C152_39 : ACode := .seq C152_38 (.reg L152_104)
theorem u152_39 : wpC P C152_39 T L (rdy h) Q = wpC P (.seq C152_38 (.reg L152_104)) T L (rdy h) Q := rfl
def C152_40 : ACode := .seq C152_33 C152_39
theorem u152_40 : wpC P C152_40 T L (rdy h) Q = wpC P (.seq C152_33 C152_39) T L (rdy h) Q := rfl
def C152_41 : ACode := .seq (.reg L152_81) C152_40
theorem u152_41 : wpC P C152_41 T L (rdy h) Q = wpC P (.seq (.reg L152_81) C152_40) T L (rdy h) Q := rfl
def C152_42 : ACode := .block 5 (.loop C152_41)
theorem u152_42 : wpC P C152_42 T L (rdy h) Q = wpC P (.block 5 (.loop C152_41)) T L (rdy h) Q := rfl
def C152_43 : ACode := .seq (.reg L152_80) C152_42
theorem u152_43 : wpC P C152_43 T L (rdy h) Q = wpC P (.seq (.reg L152_80) C152_42) T L (rdy h) Q := rfl
def C152_44 : ACode := .seq (.reg L152_107) .ret
theorem u152_44 : wpC P C152_44 T L (rdy h) Q = wpC P (.seq (.reg L152_107) .ret) T L (rdy h) Q := rfl
def C152_45 : ACode := .seq C152_43 C152_44
theorem u152_45 : wpC P C152_45 T L (rdy h) Q = wpC P (.seq C152_43 C152_44) T L (rdy h) Q := rfl
def C152_46 : ACode := .seq C152_32 C152_45
theorem u152_46 : wpC P C152_46 T L (rdy h) Q = wpC P (.seq C152_32 C152_45) T L (rdy h) Q := rfl
def C152_47 : ACode := .seq C152_16 C152_46
theorem u152_47 : wpC P C152_47 T L (rdy h) Q = wpC P (.seq C152_16 C152_46) T L (rdy h) Q := rfl
def C152_48 : ACode := .seq C152_14 C152_47
theorem u152_48 : wpC P C152_48 T L (rdy h) Q = wpC P (.seq C152_14 C152_47) T L (rdy h) Q := rfl
def C152_49 : ACode := .seq (.reg L152_8) C152_48
theorem u152_49 : wpC P C152_49 T L (rdy h) Q = wpC P (.seq (.reg L152_8) C152_48) T L (rdy h) Q := rfl
def C152_50 : ACode := .seq (.reg L152_6) C152_49
theorem u152_50 : wpC P C152_50 T L (rdy h) Q = wpC P (.seq (.reg L152_6) C152_49) T L (rdy h) Q := rfl
def C152_51 : ACode := .seq (.reg L152_5) C152_50
theorem u152_51 : wpC P C152_51 T L (rdy h) Q = wpC P (.seq (.reg L152_5) C152_50) T L (rdy h) Q := rfl
def C152_52 : ACode := .seq (.reg L152_1) C152_51
theorem u152_52 : wpC P C152_52 T L (rdy h) Q = wpC P (.seq (.reg L152_1) C152_51) T L (rdy h) Q := rfl
def F152 : AFunc := ⟨177, [.cell 4 1 true, .tmp 5], C152_52⟩
theorem cF152 : compB Try.prog 152 = some F152 := by kernel_rfl
end
attribute [local go_sem ↓] u152_0 u152_1 u152_2 u152_3 u152_4 u152_5 u152_6 u152_7 u152_8 u152_9 u152_10 u152_11 u152_12 u152_13 u152_14 u152_15 u152_16 u152_17 u152_18 u152_19 u152_20 u152_21 u152_22 u152_23 u152_24 u152_25 u152_26 u152_27 u152_28 u152_29 u152_30 u152_31 u152_32 u152_33 u152_34 u152_35 u152_36 u152_37 u152_38 u152_39 u152_40 u152_41 u152_42 u152_43 u152_44 u152_45 u152_46 u152_47 u152_48 u152_49 u152_50 u152_51 u152_52 v152_0 v152_1 v152_2 v152_3 v152_4 v152_5 v152_6 v152_7 v152_8 v152_9 v152_10 v152_11 v152_12 v152_13 v152_14 v152_15 v152_16 v152_17 v152_18 v152_19 v152_20 v152_21 v152_22 v152_23 v152_24 v152_25 v152_26 v152_27 v152_28 v152_29 v152_30 v152_31 v152_32 v152_33 v152_34 v152_35 v152_36 v152_37 v152_38 v152_39 v152_40 v152_41 v152_42 v152_43 v152_44 v152_45 v152_46 v152_47 v152_48 v152_49 v152_50 v152_51 v152_52 v152_53 v152_54 v152_55 v152_56 v152_57 v152_58 v152_59 v152_60 v152_61 v152_62 v152_63 v152_64 v152_65 v152_66 v152_67 v152_68 v152_69 v152_70 v152_71 v152_72 v152_73 v152_74 v152_75 v152_76 v152_77 v152_78 v152_79 v152_80 v152_81 v152_82 v152_83 v152_84 v152_85 v152_86 v152_87 v152_88 v152_89 v152_90 v152_91 v152_92 v152_93 v152_94 v152_95 v152_96 v152_97 v152_98 v152_99 v152_100 v152_101 v152_102 v152_103 v152_104 v152_105 v152_106 v152_107
theorem c_bind (l : List Param) (f : Flat) (q p n : CV) (h : H) (hl : SlQ h (.one q) l) (hf : SlF h p n f) (ok1 : okSig l = true) (ok2 : okFlat f = true) :
    callK (bm Try.prog 152 [.agg [q], .agg [p, n]] h) fun r h' => Grow h h' ∧ ∃ v w rs, r = .tup [.agg [v], .one w] ∧ BdY h h' v w rs (boundS l f) (wrong l f) := by
  refine bm_of cF152 ?_
  have o := Ord.of ok1
  have hn := okSig_len ok1
  obtain ⟨hb1, hb2, hb3⟩ := okFlat_sm ok2
  have sq : smQ l := ⟨by unfold big; omega, fun x hx => by have := okSig_name ok1 x hx; unfold big; omega⟩
  have pl0 := places_le (l := l)
  simp +contextual (maxSteps := 2000000) only [go_sem, Nat.reduceEqDiff, reduceCtorEq, Nat.reduceAdd, Nat.reduceLeDiff, F152, hl.len]
  refine wp_make (enc := encY) (k := 3) zeroR rfl (by omega) (by omega) ?_
  intro h1 v g1 n1 _
  obtain ⟨v, rfl⟩ := n1.one
  have k1 := hl.grow g1
  simp +contextual (maxSteps := 2000000) only [go_sem, Nat.reduceEqDiff, reduceCtorEq, Nat.reduceAdd, Nat.reduceLeDiff, k1.len]
  refine wpC_loop (fun i T L h' => Grow h h' ∧ T 2 = .lp 2 0 ∧ (L 2).2 = [q] ∧ T 3 = .lp 3 0 ∧ (L 3).2 = [p, n] ∧ T 4 = .lp 4 0 ∧ (L 4).2 = [.sl none 0 (some 0)] ∧ T 6 = .lp 6 0 ∧ (L 6).2 = [v] ∧ T 7 = .v (.one (.sl none 0 (some 0))) ∧ (∃ u, T 8 = .v u ∧ SlI h' u (leftAt l f.pl i) ∧ ∀ j, baseOf u = some j → j < h.n) ∧ T 24 = .v (.one q) ∧ T 25 = .v (.one (.int .i64 l.length)) ∧ T 26 = .v (.one (.int .i64 i)) ∧ ∃ rs, BdY h h' v (.sl none 0 (some 0)) rs (fillS l f.pl i) []) l.length ?_ ?_ (Nat.zero_le _) ?_
  · rintro i T L h' hi ⟨gg, t2, l2, t3, l3, t4, l4, t6, l6, t7, ⟨u, t8, xu, bu⟩, t24, t25, t26, rs, x⟩
    have kl := hl.grow gg
    have hrs : rs.length = l.length := x.len.trans fillS_len
    have hio : i < rs.length := by omega
    have hsl : i < (fillS l f.pl i).length := by rw [fillS_len]; exact hi
    have es := fun h => c_placed l[i] h
    simp only [encQ] at es
    have yi := x.sl.out.out.iaddr hio (kd := .i64)
    have sep : ∀ j, baseOf u = some j → baseOf (.one v) ≠ some j := fun j hj hv => by
      have := bu j hj
      have := (x.sl.out.out.lt hv).2
      omega
    cases b1 : byPlace l[i] with
    | true =>
      obtain ⟨la, lb⟩ := leftAt_place (pl := f.pl) o hi b1
      have nk : decide (l[i].kind = 2) = false := by rw [byPlace_iff] at b1; exact decide_eq_false (by omega)
      rw [la] at xu
      rw [lb]
      by_cases hj : i < f.pl.length
      · have hd : 0 < (f.pl.drop i).length := by simp; omega
        have d0 : decide (((f.pl.drop i).length : Int) > 0) = true := decide_eq_true (by omega)
        have ui : iaddrO 1 u (.one (.int .i64 0)) = some (.one (.ptr (some (elem 1 u 0)))) := xu.iaddr hd
        have uv : loadO 1 false h' (.one (.ptr (some (elem 1 u 0)))) = some (.one (.int .i64 f.pl[i])) := by
          rw [xu.oneO hd, encI_0]
          simp
        simp +contextual (maxSteps := 2000000) only [go_sem, Nat.reduceEqDiff, reduceCtorEq, Nat.reduceAdd, Nat.reduceLeDiff, t2, l2, t3, l3, t4, l4, t6, l6, t7, t8, t24, t25, t26, kl.iaddr hi, kl.whole hi, encQ, lt_true hi, es, b1, xu.len, d0, ui, uv, nk]
        refine wp_lit (enc := encI) (k := 1) (l := [f.pl[i]]) rfl rfl ?_
        intro h3 w3 g3 n3 b3
        obtain ⟨d, rfl⟩ := n3.one
        simp +contextual (maxSteps := 2000000) only [go_sem, Nat.reduceEqDiff, reduceCtorEq, Nat.reduceAdd, Nat.reduceLeDiff, t2, l2, t3, l3, t4, l4, t6, l6, t7, t8, t24, t25, t26, yi]
        refine wp_setE (x := ⟨true, d, .sl none 0 (some 0)⟩) lenY (x.sl.out.out.grow g3) hio rfl rfl (gg.trans g3) ?_
        intro h4 g4 n4 s4
        have xu4 := (xu.grow g3).of_stay s4 sep
        obtain ⟨u2, e2, xu2, bu2⟩ := xu4.dropB (i := 1) (by omega) (kd := .i64)
        have e3 : cutO 3 1 h4 u (some (.one (.int .i64 1))) none none = some u2 := e2
        rw [List.drop_drop, Nat.add_comm] at xu2
        have z := x.put hio g3 ⟨rfl, n3, .nil⟩ Sep.nil.symm n4 s4 gg.n (a := givenS f.pl[i])
        rw [← slotPl_place hi b1 hj, fillS_set] at z
        simp +contextual (maxSteps := 2000000) only [go_sem, Nat.reduceEqDiff, reduceCtorEq, Nat.reduceAdd, Nat.reduceLeDiff, t2, l2, t3, l3, t4, l4, t6, l6, t7, t8, t24, t25, t26, e3, nk]
        exact ⟨g4, ⟨u2, rfl, by rw [Nat.add_comm] at xu2; exact xu2, fun j hj => bu j (bu2 j hj)⟩, by rw [wrap_next hi (by omega)], _, z⟩
      · have d0 : decide (((f.pl.drop i).length : Int) > 0) = false := decide_eq_false (by simp; omega)
        simp +contextual (maxSteps := 2000000) only [go_sem, Nat.reduceEqDiff, reduceCtorEq, Nat.reduceAdd, Nat.reduceLeDiff, t2, l2, t3, l3, t4, l4, t6, l6, t7, t8, t24, t25, t26, kl.iaddr hi, kl.whole hi, encQ, lt_true hi, es, b1, xu.len, d0, nk]
        rw [fillS_skip hi (slotPl_none hi b1 hj)]
        rw [show f.pl.drop (i + 1) = f.pl.drop i by rw [List.drop_eq_nil_of_le (by omega), List.drop_eq_nil_of_le (by omega)]]
        exact ⟨gg, ⟨u, rfl, xu, bu⟩, by rw [wrap_next hi (by omega)], _, x⟩
    | false =>
      by_cases kk : l[i].kind = 2
      · obtain ⟨la, lb⟩ := leftAt_rest (pl := f.pl) o hi kk
        have nk : decide (l[i].kind = 2) = true := decide_eq_true kk
        rw [la] at xu
        rw [lb]
        simp +contextual (maxSteps := 2000000) only [go_sem, Nat.reduceEqDiff, reduceCtorEq, Nat.reduceAdd, Nat.reduceLeDiff, t2, l2, t3, l3, t4, l4, t6, l6, t7, t8, t24, t25, t26, kl.iaddr hi, kl.whole hi, encQ, lt_true hi, es, b1, nk]
        refine wp_call (c_cloneI _ _ h' xu (by simp; unfold big; omega)) ?_
        rintro r h3 ⟨g3, n3⟩
        obtain ⟨c, rfl⟩ := n3.one
        simp +contextual (maxSteps := 2000000) only [go_sem, Nat.reduceEqDiff, reduceCtorEq, Nat.reduceAdd, Nat.reduceLeDiff, t2, l2, t3, l3, t4, l4, t6, l6, t7, t8, t24, t25, t26, yi]
        refine wp_set (x := { rs[i] with lv := c }) (off := 1) (vs := [c]) lenY (x.sl.out.out.grow g3) hio rfl rfl (Nat.le_of_ble_eq_true rfl) (gg.trans g3) ?_
        intro h4 g4 n4 s4
        have z := x.app_list hio hsl (n3.from gg.n) (g3.stay _) (fun j hj => .inr (n3.lt hj).2) n4 s4
        have ez : ({ (fillS l f.pl i)[i] with list := f.pl.drop i } : Slot) = slotPl l f.pl i := by rw [fillS_at, slotPl_rest hi kk]; rfl
        rw [ez, fillS_set] at z
        simp +contextual (maxSteps := 2000000) only [go_sem, Nat.reduceEqDiff, reduceCtorEq, Nat.reduceAdd, Nat.reduceLeDiff, t2, l2, t3, l3, t4, l4, t6, l6, t7, t8, t24, t25, t26]
        exact ⟨g4, ⟨_, rfl, Sl.nil lenI, fun j hj => by simp [baseOf] at hj⟩, by rw [wrap_next hi (by omega)], _, z⟩
      · have nk : decide (l[i].kind = 2) = false := decide_eq_false kk
        simp +contextual (maxSteps := 2000000) only [go_sem, Nat.reduceEqDiff, reduceCtorEq, Nat.reduceAdd, Nat.reduceLeDiff, t2, l2, t3, l3, t4, l4, t6, l6, t7, t8, t24, t25, t26, kl.iaddr hi, kl.whole hi, encQ, lt_true hi, es, b1, nk]
        rw [fillS_skip hi (slotPl_else hi b1 kk), leftAt_else o hi b1 kk]
        exact ⟨gg, ⟨u, rfl, xu, bu⟩, by rw [wrap_next hi (by omega)], _, x⟩
  · rintro T L h' ⟨gg, t2, l2, t3, l3, t4, l4, t6, l6, t7, ⟨u, t8, xu, bu⟩, t24, t25, t26, rs, x⟩
    have k := hf.grow gg
    rw [fillS_all] at x
    by_cases hm : places l < f.pl.length ∧ hasRest l = false
    · have d1 : decide (((leftAt l f.pl l.length).length : Int) > 0) = true := decide_eq_true (by have := (leftAt_many o).2 hm; omega)
      have em : manyB l f.pl = [⟨0, strOfNums []⟩] := by unfold manyB; rw [if_pos hm]
      simp +contextual (maxSteps := 2000000) only [go_sem, Nat.reduceEqDiff, reduceCtorEq, Nat.reduceAdd, Nat.reduceLeDiff, t2, l2, t3, l3, t4, l4, t6, l6, t7, t8, t24, t25, t26, lt_false, xu.len, d1]
      refine wp_lit (enc := encB) (k := 2) (l := [⟨0, strOfNums []⟩]) rfl rfl ?_
      intro h3 w3 g3 n3 _
      simp +contextual (maxSteps := 2000000) only [go_sem, Nat.reduceEqDiff, reduceCtorEq, Nat.reduceAdd, Nat.reduceLeDiff, t2, l2, t3, l3, t4, l4, t6, l6, t7, t8, t24, t25, t26]
      refine wp_append lenB (x.pr.grow g3) (n3.sl lenB) (gg.trans g3) (by simp) ?_
      intro h4 s4 g4 n4 st4 hb4
      obtain ⟨c4, rfl⟩ := n4.one
      have x := (x.grow g3).push n4 st4 hb4
      rw [List.nil_append, ← em] at x
      have k := hf.grow g4
      simp +contextual (maxSteps := 2000000) only [go_sem, Nat.reduceEqDiff, reduceCtorEq, Nat.reduceAdd, Nat.reduceLeDiff, t2, l2, t3, l3, t4, l4, t6, l6, t7, t8, t24, t25, t26, k.nl.len]
      refine wpC_loop (fun i T L h' => Grow h h' ∧ T 2 = .lp 2 0 ∧ (L 2).2 = [q] ∧ T 3 = .lp 3 0 ∧ (L 3).2 = [p, n] ∧ T 4 = .lp 4 0 ∧ (L 4).2 = [.sl none 0 (some 0)] ∧ T 6 = .lp 6 0 ∧ (L 6).2 = [v] ∧ (∃ w rs, T 7 = .v (.one w) ∧ BdY h h' v w rs (nameF l f i).slots (nameF l f i).bad) ∧ T 68 = .v (.one n) ∧ T 69 = .v (.one (.int .i64 f.nl.length)) ∧ T 70 = .v (.one (.int .i64 i))) f.nl.length ?_ ?_ (Nat.zero_le _) ?_
      · rintro i T L h' hi ⟨gg, t2, l2, t3, l3, t4, l4, t6, l6, ⟨w, rs, t7, x⟩, t68, t69, tx⟩
        have k := hf.grow gg
        have kl := hl.grow gg
        have ok := BOk.nameF (l := l) (f := f) hb3 (i := i) (by omega)
        have hrs : rs.length = l.length := x.len.trans ok.len
        have tk := c_takes l q f.nl[i].name h' kl sq
        rw [nameF_next hi]
        rcases takes_cases l f.nl[i].name with e | ⟨j, hj, e⟩
        · rw [nameStep_no e]
          rw [e] at tk
          simp +contextual (maxSteps := 2000000) only [go_sem, Nat.reduceEqDiff, reduceCtorEq, Nat.reduceAdd, Nat.reduceLeDiff, t2, l2, t3, l3, t4, l4, t6, l6, t7, t68, t69, tx, k.nl.iaddr hi, k.nl.whole hi, encP, lt_true hi, tk]
          refine wp_lit (enc := encB) (k := 2) (l := [⟨1, f.nl[i].name⟩]) rfl rfl ?_
          intro h3 w3 g3 n3 _
          simp +contextual (maxSteps := 2000000) only [go_sem, Nat.reduceEqDiff, reduceCtorEq, Nat.reduceAdd, Nat.reduceLeDiff, t2, l2, t3, l3, t4, l4, t6, l6, t7, t68, t69, tx]
          refine wp_append lenB (x.pr.grow g3) (n3.sl lenB) (gg.trans g3) (by have := ok.bad; simp; omega) ?_
          intro h4 s4 g4 n4 st4 hb4
          obtain ⟨c4, rfl⟩ := n4.one
          simp +contextual (maxSteps := 2000000) only [go_sem, Nat.reduceEqDiff, reduceCtorEq, Nat.reduceAdd, Nat.reduceLeDiff, t2, l2, t3, l3, t4, l4, t6, l6, t7, t68, t69, tx]
          exact ⟨g4, ⟨c4, rs, rfl, (x.grow g3).push n4 st4 hb4⟩, by rw [wrap_next hi (by omega)]⟩
        · rw [e] at tk
          have hs : j < (nameF l f i).slots.length := by rw [ok.len]; exact hj
          have hio : j < rs.length := by omega
          have z := x.sl.at hio hs
          have yi := x.sl.out.out.iaddr hio (kd := .i64)
          have y0 := (x.sl.out.out.sl lenY).fieldO (off := 0) hio (by omega)
          have y2 := (x.sl.out.out.sl lenY).fieldO (off := 2) hio (by omega)
          rw [encY_0] at y0
          rw [encY_2] at y2
          have dj : decide ((j : Int) < 0) = false := decide_eq_false (by omega)
          by_cases kk : l[j].kind = 4
          · rw [nameStep_map e hj hs kk]
            have dk : decide (l[j].kind = 4) = true := decide_eq_true kk
            simp +contextual (maxSteps := 2000000) only [go_sem, Nat.reduceEqDiff, reduceCtorEq, Nat.reduceAdd, Nat.reduceLeDiff, t2, l2, t3, l3, t4, l4, t6, l6, t7, t68, t69, tx, k.nl.iaddr hi, k.nl.whole hi, encP, lt_true hi, tk, dj, kl.iaddr hj, kl.fieldO hj, dk, yi, y2]
            refine wp_lit (enc := encP) (k := 2) (l := [f.nl[i]]) rfl rfl ?_
            intro h3 w3 g3 n3 _
            simp +contextual (maxSteps := 2000000) only [go_sem, Nat.reduceEqDiff, reduceCtorEq, Nat.reduceAdd, Nat.reduceLeDiff, t2, l2, t3, l3, t4, l4, t6, l6, t7, t68, t69, tx]
            refine wp_append lenP (z.pairs.grow g3) (n3.sl lenP) (gg.trans g3) (by have := ok.pairs _ (List.getElem_mem hs); simp; omega) ?_
            intro h4 s4 g4 n4 st4 hb4
            obtain ⟨c4, rfl⟩ := n4.one
            simp +contextual (maxSteps := 2000000) only [go_sem, Nat.reduceEqDiff, reduceCtorEq, Nat.reduceAdd, Nat.reduceLeDiff, t2, l2, t3, l3, t4, l4, t6, l6, t7, t68, t69, tx, yi]
            refine wp_set (x := { rs[j] with pv := c4 }) (off := 2) (vs := [c4]) lenY ((x.sl.out.out.grow g3).stay st4 (x.sl.out.vpv _ hio)) hio rfl rfl (Nat.le_of_ble_eq_true rfl) g4 ?_
            intro h5 g5 n5 s5
            simp +contextual (maxSteps := 2000000) only [go_sem, Nat.reduceEqDiff, reduceCtorEq, Nat.reduceAdd, Nat.reduceLeDiff, t2, l2, t3, l3, t4, l4, t6, l6, t7, t68, t69, tx]
            exact ⟨g5, ⟨w, _, rfl, (x.grow g3).app_pairs hio hs n4 st4 hb4 n5 s5⟩, by rw [wrap_next hi (by omega)]⟩
          · have dk : decide (l[j].kind = 4) = false := decide_eq_false kk
            cases b : (nameF l f i).slots[j].given with
            | true =>
              rw [nameStep_twice e hj hs kk b]
              rw [z.given, b] at y0
              simp +contextual (maxSteps := 2000000) only [go_sem, Nat.reduceEqDiff, reduceCtorEq, Nat.reduceAdd, Nat.reduceLeDiff, t2, l2, t3, l3, t4, l4, t6, l6, t7, t68, t69, tx, k.nl.iaddr hi, k.nl.whole hi, encP, lt_true hi, tk, dj, kl.iaddr hj, kl.fieldO hj, dk, yi, y0]
              refine wp_lit (enc := encB) (k := 2) (l := [⟨2, f.nl[i].name⟩]) rfl rfl ?_
              intro h3 w3 g3 n3 _
              simp +contextual (maxSteps := 2000000) only [go_sem, Nat.reduceEqDiff, reduceCtorEq, Nat.reduceAdd, Nat.reduceLeDiff, t2, l2, t3, l3, t4, l4, t6, l6, t7, t68, t69, tx]
              refine wp_append lenB (x.pr.grow g3) (n3.sl lenB) (gg.trans g3) (by have := ok.bad; simp; omega) ?_
              intro h4 s4 g4 n4 st4 hb4
              obtain ⟨c4, rfl⟩ := n4.one
              simp +contextual (maxSteps := 2000000) only [go_sem, Nat.reduceEqDiff, reduceCtorEq, Nat.reduceAdd, Nat.reduceLeDiff, t2, l2, t3, l3, t4, l4, t6, l6, t7, t68, t69, tx]
              exact ⟨g4, ⟨c4, rs, rfl, (x.grow g3).push n4 st4 hb4⟩, by rw [wrap_next hi (by omega)]⟩
            | false =>
              rw [nameStep_give e hj hs kk b]
              rw [z.given, b] at y0
              simp +contextual (maxSteps := 2000000) only [go_sem, Nat.reduceEqDiff, reduceCtorEq, Nat.reduceAdd, Nat.reduceLeDiff, t2, l2, t3, l3, t4, l4, t6, l6, t7, t68, t69, tx, k.nl.iaddr hi, k.nl.whole hi, encP, lt_true hi, tk, dj, kl.iaddr hj, kl.fieldO hj, dk, yi, y0]
              refine wp_lit (enc := encI) (k := 1) (l := [f.nl[i].value]) rfl rfl ?_
              intro h3 w3 g3 n3 b3
              obtain ⟨d, rfl⟩ := n3.one
              simp +contextual (maxSteps := 2000000) only [go_sem, Nat.reduceEqDiff, reduceCtorEq, Nat.reduceAdd, Nat.reduceLeDiff, t2, l2, t3, l3, t4, l4, t6, l6, t7, t68, t69, tx, yi]
              refine wp_setE (x := ⟨true, d, .sl none 0 (some 0)⟩) lenY (x.sl.out.out.grow g3) hio rfl rfl (gg.trans g3) ?_
              intro h4 g4 n4 s4
              simp +contextual (maxSteps := 2000000) only [go_sem, Nat.reduceEqDiff, reduceCtorEq, Nat.reduceAdd, Nat.reduceLeDiff, t2, l2, t3, l3, t4, l4, t6, l6, t7, t68, t69, tx]
              exact ⟨g4, ⟨w, _, rfl, x.put hio g3 ⟨rfl, n3, .nil⟩ Sep.nil.symm n4 s4 gg.n⟩, by rw [wrap_next hi (by omega)]⟩
      · rintro T L h' ⟨gg, t2, l2, t3, l3, t4, l4, t6, l6, ⟨w, rs, t7, x⟩, t68, t69, tx⟩
        have kl := hl.grow gg
        have x : BdY h h' v w rs (boundS l f) (boundB l f ++ missF l (boundS l f) 0) := by rw [missF_zero, List.append_nil]; exact x
        have hbb : (boundB l f).length ≤ 9 := by have := (BOk.nameF (l := l) (f := f) hb3 (Nat.le_refl _)).bad; unfold boundB; omega
        simp +contextual (maxSteps := 2000000) only [go_sem, Nat.reduceEqDiff, reduceCtorEq, Nat.reduceAdd, Nat.reduceLeDiff, t2, l2, t3, l3, t4, l4, t6, l6, t7, t68, t69, tx, lt_false, kl.len]
        refine wpC_loop (fun i T L h' => Grow h h' ∧ T 2 = .lp 2 0 ∧ (L 2).2 = [q] ∧ T 3 = .lp 3 0 ∧ (L 3).2 = [p, n] ∧ T 4 = .lp 4 0 ∧ (L 4).2 = [.sl none 0 (some 0)] ∧ T 6 = .lp 6 0 ∧ (L 6).2 = [v] ∧ (∃ w rs, T 7 = .v (.one w) ∧ BdY h h' v w rs (boundS l f) (boundB l f ++ missF l (boundS l f) i)) ∧ T 132 = .v (.one q) ∧ T 133 = .v (.one (.int .i64 l.length)) ∧ T 134 = .v (.one (.int .i64 i))) l.length ?_ ?_ (Nat.zero_le _) ?_
        · rintro i T L h' hi ⟨gg, t2, l2, t3, l3, t4, l4, t6, l6, ⟨w, rs, t7, x⟩, t132, t133, t134⟩
          have kl := hl.grow gg
          have hsl : i < (boundS l f).length := by rw [boundS_len]; exact hi
          have hio : i < rs.length := by rw [x.len]; exact hsl
          have es := fun h => c_single l[i] h
          simp only [encQ] at es
          have yi := x.sl.out.out.iaddr hio (kd := .i64)
          have y2 := (x.sl.out.out.sl lenY).fieldO (off := 2) hio (by omega)
          rw [encY_2] at y2
          have el := lacks_eq hi hsl
          have em := missF_next (sl := boundS l f) hi
          have ml := missF_len (l := l) (sl := boundS l f) (i := i)
          have done : ∀ b, lacks l (boundS l f) i = b → b = false → missF l (boundS l f) (i + 1) = missF l (boundS l f) i := fun b e1 e2 => by rw [em, e1, e2]; simp
          simp +contextual (maxSteps := 2000000) only [go_sem, Nat.reduceEqDiff, reduceCtorEq, Nat.reduceAdd, Nat.reduceLeDiff, t2, l2, t3, l3, t4, l4, t6, l6, t7, t132, t133, t134, kl.iaddr hi, kl.whole hi, encQ, lt_true hi, yi, y2]
          refine wp_call (c_clipbP _ _ h' (x.sl.at hio hsl).pairs) ?_
          rintro r h3 ⟨rfl, n3, hb3⟩
          obtain ⟨c, rfl⟩ := n3.one
          simp +contextual (maxSteps := 2000000) only [go_sem, Nat.reduceEqDiff, reduceCtorEq, Nat.reduceAdd, Nat.reduceLeDiff, t2, l2, t3, l3, t4, l4, t6, l6, t7, t132, t133, t134, yi]
          refine wp_set (x := { rs[i] with pv := c }) (off := 2) (vs := [c]) lenY x.sl.out.out hio rfl rfl (Nat.le_of_ble_eq_true rfl) gg ?_
          intro h4 g4 n4 s4
          have z := x.app_pairs hio hsl n3 ((Grow.refl _).stay _) (fun j hj => .inl (hb3 j hj)) n4 s4
          have ez : ({ (boundS l f)[i] with pairs := (boundS l f)[i].pairs } : Slot) = (boundS l f)[i] := rfl
          rw [ez, List.set_getElem_self] at z
          have hio2 : i < (rs.set i { rs[i] with pv := c }).length := by simpa using hio
          have yi2 := z.sl.out.out.iaddr hio2 (kd := .i64)
          have y02 := (z.sl.out.out.sl lenY).fieldO (off := 0) hio2 (by omega)
          rw [encY_0, (z.sl.at hio2 hsl).given] at y02
          cases b1 : single l[i] with
          | false =>
            rw [b1, Bool.false_and] at el
            simp +contextual (maxSteps := 2000000) only [go_sem, Nat.reduceEqDiff, reduceCtorEq, Nat.reduceAdd, Nat.reduceLeDiff, t2, l2, t3, l3, t4, l4, t6, l6, t7, t132, t133, t134, es, b1]
            exact ⟨g4, ⟨w, _, rfl, by rw [done _ el rfl]; exact z⟩, by rw [wrap_next hi (by omega)]⟩
          | true =>
          cases b2 : l[i].has with
          | true =>
            rw [b1, b2] at el
            simp only [b2] at es
            simp +contextual (maxSteps := 2000000) only [go_sem, Nat.reduceEqDiff, reduceCtorEq, Nat.reduceAdd, Nat.reduceLeDiff, t2, l2, t3, l3, t4, l4, t6, l6, t7, t132, t133, t134, es, b1, b2]
            exact ⟨g4, ⟨w, _, rfl, by rw [done _ el rfl]; exact z⟩, by rw [wrap_next hi (by omega)]⟩
          | false =>
          simp only [b2] at es
          cases b3 : (boundS l f)[i].given with
          | true =>
            rw [b1, b2, b3] at el
            rw [b3] at y02
            simp +contextual (maxSteps := 2000000) only [go_sem, Nat.reduceEqDiff, reduceCtorEq, Nat.reduceAdd, Nat.reduceLeDiff, t2, l2, t3, l3, t4, l4, t6, l6, t7, t132, t133, t134, es, b1, b2, yi2, y02]
            exact ⟨g4, ⟨w, _, rfl, by rw [done _ el rfl]; exact z⟩, by rw [wrap_next hi (by omega)]⟩
          | false =>
            rw [b1, b2, b3] at el
            rw [b3] at y02
            simp +contextual (maxSteps := 2000000) only [go_sem, Nat.reduceEqDiff, reduceCtorEq, Nat.reduceAdd, Nat.reduceLeDiff, t2, l2, t3, l3, t4, l4, t6, l6, t7, t132, t133, t134, es, b1, b2, yi2, y02]
            refine wp_lit (enc := encB) (k := 2) (l := [⟨3, l[i].name⟩]) rfl rfl ?_
            intro h5 w5 g5 n5 _
            simp +contextual (maxSteps := 2000000) only [go_sem, Nat.reduceEqDiff, reduceCtorEq, Nat.reduceAdd, Nat.reduceLeDiff, t2, l2, t3, l3, t4, l4, t6, l6, t7, t132, t133, t134]
            refine wp_append lenB (z.pr.grow g5) (n5.sl lenB) (g4.trans g5) (by simp; omega) ?_
            intro h6 s6 g6 n6 st6 hb6
            obtain ⟨c6, rfl⟩ := n6.one
            have z6 := (z.grow g5).push n6 st6 hb6
            simp +contextual (maxSteps := 2000000) only [go_sem, Nat.reduceEqDiff, reduceCtorEq, Nat.reduceAdd, Nat.reduceLeDiff, t2, l2, t3, l3, t4, l4, t6, l6, t7, t132, t133, t134]
            have e9 : missF l (boundS l f) (i + 1) = missF l (boundS l f) i ++ [⟨3, l[i].name⟩] := by rw [em, el]; rfl
            rw [List.append_assoc, ← e9] at z6
            exact ⟨g6, ⟨c6, _, rfl, z6⟩, by rw [wrap_next hi (by omega)]⟩
        · rintro T L h' ⟨gg, t2, l2, t3, l3, t4, l4, t6, l6, ⟨w, rs, t7, x⟩, t132, t133, t134⟩
          simp +contextual (maxSteps := 2000000) only [go_sem, Nat.reduceEqDiff, reduceCtorEq, Nat.reduceAdd, Nat.reduceLeDiff, t2, l2, t3, l3, t4, l4, t6, l6, t7, t132, t133, t134, lt_false]
          refine wp_call (c_clipbB _ _ h' x.pr) ?_
          rintro r h3 ⟨rfl, n3, hb3⟩
          obtain ⟨c, rfl⟩ := n3.one
          have z := x.push n3 ((Grow.refl _).stay _) (fun j hj => .inl (hb3 j hj))
          simp +contextual (maxSteps := 2000000) only [go_sem, Nat.reduceEqDiff, reduceCtorEq, Nat.reduceAdd, Nat.reduceLeDiff, t2, l2, t3, l3, t4, l4, t6, l6]
          exact gcK_of ⟨gg, _, _, _, rfl, z⟩ (fun hs _ => by
            simp only [AV.scalar, AV.scalars, List.all_cons, List.all_nil, Bool.and_true, Bool.and_eq_true] at hs
            exact ⟨Grow.refl h, _, _, _, rfl, z.scalar hs.1 hs.2 h⟩)
        · simp +contextual (maxSteps := 2000000) only [go_sem, Nat.reduceEqDiff, reduceCtorEq, Nat.reduceAdd, Nat.reduceLeDiff, t2, l2, t3, l3, t4, l4, t6, l6, t7]
          exact ⟨gg, ⟨w, rs, rfl, x⟩, rfl⟩
      · simp +contextual (maxSteps := 2000000) only [go_sem, Nat.reduceEqDiff, reduceCtorEq, Nat.reduceAdd, Nat.reduceLeDiff, t2, l2, t3, l3, t4, l4, t6, l6, t7]
        rw [nameF_zero]
        exact ⟨g4, ⟨c4, _, rfl, x⟩, rfl⟩
    · have d1 : decide (((leftAt l f.pl l.length).length : Int) > 0) = false := decide_eq_false (fun h0 => hm ((leftAt_many o).1 (by omega)))
      have em : manyB l f.pl = [] := by unfold manyB; rw [if_neg hm]
      rw [← em] at x
      simp +contextual (maxSteps := 2000000) only [go_sem, Nat.reduceEqDiff, reduceCtorEq, Nat.reduceAdd, Nat.reduceLeDiff, t2, l2, t3, l3, t4, l4, t6, l6, t7, t8, t24, t25, t26, lt_false, xu.len, d1, k.nl.len]
      refine wpC_loop (fun i T L h' => Grow h h' ∧ T 2 = .lp 2 0 ∧ (L 2).2 = [q] ∧ T 3 = .lp 3 0 ∧ (L 3).2 = [p, n] ∧ T 4 = .lp 4 0 ∧ (L 4).2 = [.sl none 0 (some 0)] ∧ T 6 = .lp 6 0 ∧ (L 6).2 = [v] ∧ (∃ w rs, T 7 = .v (.one w) ∧ BdY h h' v w rs (nameF l f i).slots (nameF l f i).bad) ∧ T 68 = .v (.one n) ∧ T 69 = .v (.one (.int .i64 f.nl.length)) ∧ T 70 = .v (.one (.int .i64 i))) f.nl.length ?_ ?_ (Nat.zero_le _) ?_
      · rintro i T L h' hi ⟨gg, t2, l2, t3, l3, t4, l4, t6, l6, ⟨w, rs, t7, x⟩, t68, t69, tx⟩
        have k := hf.grow gg
        have kl := hl.grow gg
        have ok := BOk.nameF (l := l) (f := f) hb3 (i := i) (by omega)
        have hrs : rs.length = l.length := x.len.trans ok.len
        have tk := c_takes l q f.nl[i].name h' kl sq
        rw [nameF_next hi]
        rcases takes_cases l f.nl[i].name with e | ⟨j, hj, e⟩
        · rw [nameStep_no e]
          rw [e] at tk
          simp +contextual (maxSteps := 2000000) only [go_sem, Nat.reduceEqDiff, reduceCtorEq, Nat.reduceAdd, Nat.reduceLeDiff, t2, l2, t3, l3, t4, l4, t6, l6, t7, t68, t69, tx, k.nl.iaddr hi, k.nl.whole hi, encP, lt_true hi, tk]
          refine wp_lit (enc := encB) (k := 2) (l := [⟨1, f.nl[i].name⟩]) rfl rfl ?_
          intro h3 w3 g3 n3 _
          simp +contextual (maxSteps := 2000000) only [go_sem, Nat.reduceEqDiff, reduceCtorEq, Nat.reduceAdd, Nat.reduceLeDiff, t2, l2, t3, l3, t4, l4, t6, l6, t7, t68, t69, tx]
          refine wp_append lenB (x.pr.grow g3) (n3.sl lenB) (gg.trans g3) (by have := ok.bad; simp; omega) ?_
          intro h4 s4 g4 n4 st4 hb4
          obtain ⟨c4, rfl⟩ := n4.one
          simp +contextual (maxSteps := 2000000) only [go_sem, Nat.reduceEqDiff, reduceCtorEq, Nat.reduceAdd, Nat.reduceLeDiff, t2, l2, t3, l3, t4, l4, t6, l6, t7, t68, t69, tx]
          exact ⟨g4, ⟨c4, rs, rfl, (x.grow g3).push n4 st4 hb4⟩, by rw [wrap_next hi (by omega)]⟩
        · rw [e] at tk
          have hs : j < (nameF l f i).slots.length := by rw [ok.len]; exact hj
          have hio : j < rs.length := by omega
          have z := x.sl.at hio hs
          have yi := x.sl.out.out.iaddr hio (kd := .i64)
          have y0 := (x.sl.out.out.sl lenY).fieldO (off := 0) hio (by omega)
          have y2 := (x.sl.out.out.sl lenY).fieldO (off := 2) hio (by omega)
          rw [encY_0] at y0
          rw [encY_2] at y2
          have dj : decide ((j : Int) < 0) = false := decide_eq_false (by omega)
          by_cases kk : l[j].kind = 4
          · rw [nameStep_map e hj hs kk]
            have dk : decide (l[j].kind = 4) = true := decide_eq_true kk
            simp +contextual (maxSteps := 2000000) only [go_sem, Nat.reduceEqDiff, reduceCtorEq, Nat.reduceAdd, Nat.reduceLeDiff, t2, l2, t3, l3, t4, l4, t6, l6, t7, t68, t69, tx, k.nl.iaddr hi, k.nl.whole hi, encP, lt_true hi, tk, dj, kl.iaddr hj, kl.fieldO hj, dk, yi, y2]
            refine wp_lit (enc := encP) (k := 2) (l := [f.nl[i]]) rfl rfl ?_
            intro h3 w3 g3 n3 _
            simp +contextual (maxSteps := 2000000) only [go_sem, Nat.reduceEqDiff, reduceCtorEq, Nat.reduceAdd, Nat.reduceLeDiff, t2, l2, t3, l3, t4, l4, t6, l6, t7, t68, t69, tx]
            refine wp_append lenP (z.pairs.grow g3) (n3.sl lenP) (gg.trans g3) (by have := ok.pairs _ (List.getElem_mem hs); simp; omega) ?_
            intro h4 s4 g4 n4 st4 hb4
            obtain ⟨c4, rfl⟩ := n4.one
            simp +contextual (maxSteps := 2000000) only [go_sem, Nat.reduceEqDiff, reduceCtorEq, Nat.reduceAdd, Nat.reduceLeDiff, t2, l2, t3, l3, t4, l4, t6, l6, t7, t68, t69, tx, yi]
            refine wp_set (x := { rs[j] with pv := c4 }) (off := 2) (vs := [c4]) lenY ((x.sl.out.out.grow g3).stay st4 (x.sl.out.vpv _ hio)) hio rfl rfl (Nat.le_of_ble_eq_true rfl) g4 ?_
            intro h5 g5 n5 s5
            simp +contextual (maxSteps := 2000000) only [go_sem, Nat.reduceEqDiff, reduceCtorEq, Nat.reduceAdd, Nat.reduceLeDiff, t2, l2, t3, l3, t4, l4, t6, l6, t7, t68, t69, tx]
            exact ⟨g5, ⟨w, _, rfl, (x.grow g3).app_pairs hio hs n4 st4 hb4 n5 s5⟩, by rw [wrap_next hi (by omega)]⟩
          · have dk : decide (l[j].kind = 4) = false := decide_eq_false kk
            cases b : (nameF l f i).slots[j].given with
            | true =>
              rw [nameStep_twice e hj hs kk b]
              rw [z.given, b] at y0
              simp +contextual (maxSteps := 2000000) only [go_sem, Nat.reduceEqDiff, reduceCtorEq, Nat.reduceAdd, Nat.reduceLeDiff, t2, l2, t3, l3, t4, l4, t6, l6, t7, t68, t69, tx, k.nl.iaddr hi, k.nl.whole hi, encP, lt_true hi, tk, dj, kl.iaddr hj, kl.fieldO hj, dk, yi, y0]
              refine wp_lit (enc := encB) (k := 2) (l := [⟨2, f.nl[i].name⟩]) rfl rfl ?_
              intro h3 w3 g3 n3 _
              simp +contextual (maxSteps := 2000000) only [go_sem, Nat.reduceEqDiff, reduceCtorEq, Nat.reduceAdd, Nat.reduceLeDiff, t2, l2, t3, l3, t4, l4, t6, l6, t7, t68, t69, tx]
              refine wp_append lenB (x.pr.grow g3) (n3.sl lenB) (gg.trans g3) (by have := ok.bad; simp; omega) ?_
              intro h4 s4 g4 n4 st4 hb4
              obtain ⟨c4, rfl⟩ := n4.one
              simp +contextual (maxSteps := 2000000) only [go_sem, Nat.reduceEqDiff, reduceCtorEq, Nat.reduceAdd, Nat.reduceLeDiff, t2, l2, t3, l3, t4, l4, t6, l6, t7, t68, t69, tx]
              exact ⟨g4, ⟨c4, rs, rfl, (x.grow g3).push n4 st4 hb4⟩, by rw [wrap_next hi (by omega)]⟩
            | false =>
              rw [nameStep_give e hj hs kk b]
              rw [z.given, b] at y0
              simp +contextual (maxSteps := 2000000) only [go_sem, Nat.reduceEqDiff, reduceCtorEq, Nat.reduceAdd, Nat.reduceLeDiff, t2, l2, t3, l3, t4, l4, t6, l6, t7, t68, t69, tx, k.nl.iaddr hi, k.nl.whole hi, encP, lt_true hi, tk, dj, kl.iaddr hj, kl.fieldO hj, dk, yi, y0]
              refine wp_lit (enc := encI) (k := 1) (l := [f.nl[i].value]) rfl rfl ?_
              intro h3 w3 g3 n3 b3
              obtain ⟨d, rfl⟩ := n3.one
              simp +contextual (maxSteps := 2000000) only [go_sem, Nat.reduceEqDiff, reduceCtorEq, Nat.reduceAdd, Nat.reduceLeDiff, t2, l2, t3, l3, t4, l4, t6, l6, t7, t68, t69, tx, yi]
              refine wp_setE (x := ⟨true, d, .sl none 0 (some 0)⟩) lenY (x.sl.out.out.grow g3) hio rfl rfl (gg.trans g3) ?_
              intro h4 g4 n4 s4
              simp +contextual (maxSteps := 2000000) only [go_sem, Nat.reduceEqDiff, reduceCtorEq, Nat.reduceAdd, Nat.reduceLeDiff, t2, l2, t3, l3, t4, l4, t6, l6, t7, t68, t69, tx]
              exact ⟨g4, ⟨w, _, rfl, x.put hio g3 ⟨rfl, n3, .nil⟩ Sep.nil.symm n4 s4 gg.n⟩, by rw [wrap_next hi (by omega)]⟩
      · rintro T L h' ⟨gg, t2, l2, t3, l3, t4, l4, t6, l6, ⟨w, rs, t7, x⟩, t68, t69, tx⟩
        have kl := hl.grow gg
        have x : BdY h h' v w rs (boundS l f) (boundB l f ++ missF l (boundS l f) 0) := by rw [missF_zero, List.append_nil]; exact x
        have hbb : (boundB l f).length ≤ 9 := by have := (BOk.nameF (l := l) (f := f) hb3 (Nat.le_refl _)).bad; unfold boundB; omega
        simp +contextual (maxSteps := 2000000) only [go_sem, Nat.reduceEqDiff, reduceCtorEq, Nat.reduceAdd, Nat.reduceLeDiff, t2, l2, t3, l3, t4, l4, t6, l6, t7, t68, t69, tx, lt_false, kl.len]
        refine wpC_loop (fun i T L h' => Grow h h' ∧ T 2 = .lp 2 0 ∧ (L 2).2 = [q] ∧ T 3 = .lp 3 0 ∧ (L 3).2 = [p, n] ∧ T 4 = .lp 4 0 ∧ (L 4).2 = [.sl none 0 (some 0)] ∧ T 6 = .lp 6 0 ∧ (L 6).2 = [v] ∧ (∃ w rs, T 7 = .v (.one w) ∧ BdY h h' v w rs (boundS l f) (boundB l f ++ missF l (boundS l f) i)) ∧ T 132 = .v (.one q) ∧ T 133 = .v (.one (.int .i64 l.length)) ∧ T 134 = .v (.one (.int .i64 i))) l.length ?_ ?_ (Nat.zero_le _) ?_
        · rintro i T L h' hi ⟨gg, t2, l2, t3, l3, t4, l4, t6, l6, ⟨w, rs, t7, x⟩, t132, t133, t134⟩
          have kl := hl.grow gg
          have hsl : i < (boundS l f).length := by rw [boundS_len]; exact hi
          have hio : i < rs.length := by rw [x.len]; exact hsl
          have es := fun h => c_single l[i] h
          simp only [encQ] at es
          have yi := x.sl.out.out.iaddr hio (kd := .i64)
          have y2 := (x.sl.out.out.sl lenY).fieldO (off := 2) hio (by omega)
          rw [encY_2] at y2
          have el := lacks_eq hi hsl
          have em := missF_next (sl := boundS l f) hi
          have ml := missF_len (l := l) (sl := boundS l f) (i := i)
          have done : ∀ b, lacks l (boundS l f) i = b → b = false → missF l (boundS l f) (i + 1) = missF l (boundS l f) i := fun b e1 e2 => by rw [em, e1, e2]; simp
          simp +contextual (maxSteps := 2000000) only [go_sem, Nat.reduceEqDiff, reduceCtorEq, Nat.reduceAdd, Nat.reduceLeDiff, t2, l2, t3, l3, t4, l4, t6, l6, t7, t132, t133, t134, kl.iaddr hi, kl.whole hi, encQ, lt_true hi, yi, y2]
          refine wp_call (c_clipbP _ _ h' (x.sl.at hio hsl).pairs) ?_
          rintro r h3 ⟨rfl, n3, hb3⟩
          obtain ⟨c, rfl⟩ := n3.one
          simp +contextual (maxSteps := 2000000) only [go_sem, Nat.reduceEqDiff, reduceCtorEq, Nat.reduceAdd, Nat.reduceLeDiff, t2, l2, t3, l3, t4, l4, t6, l6, t7, t132, t133, t134, yi]
          refine wp_set (x := { rs[i] with pv := c }) (off := 2) (vs := [c]) lenY x.sl.out.out hio rfl rfl (Nat.le_of_ble_eq_true rfl) gg ?_
          intro h4 g4 n4 s4
          have z := x.app_pairs hio hsl n3 ((Grow.refl _).stay _) (fun j hj => .inl (hb3 j hj)) n4 s4
          have ez : ({ (boundS l f)[i] with pairs := (boundS l f)[i].pairs } : Slot) = (boundS l f)[i] := rfl
          rw [ez, List.set_getElem_self] at z
          have hio2 : i < (rs.set i { rs[i] with pv := c }).length := by simpa using hio
          have yi2 := z.sl.out.out.iaddr hio2 (kd := .i64)
          have y02 := (z.sl.out.out.sl lenY).fieldO (off := 0) hio2 (by omega)
          rw [encY_0, (z.sl.at hio2 hsl).given] at y02
          cases b1 : single l[i] with
          | false =>
            rw [b1, Bool.false_and] at el
            simp +contextual (maxSteps := 2000000) only [go_sem, Nat.reduceEqDiff, reduceCtorEq, Nat.reduceAdd, Nat.reduceLeDiff, t2, l2, t3, l3, t4, l4, t6, l6, t7, t132, t133, t134, es, b1]
            exact ⟨g4, ⟨w, _, rfl, by rw [done _ el rfl]; exact z⟩, by rw [wrap_next hi (by omega)]⟩
          | true =>
          cases b2 : l[i].has with
          | true =>
            rw [b1, b2] at el
            simp only [b2] at es
            simp +contextual (maxSteps := 2000000) only [go_sem, Nat.reduceEqDiff, reduceCtorEq, Nat.reduceAdd, Nat.reduceLeDiff, t2, l2, t3, l3, t4, l4, t6, l6, t7, t132, t133, t134, es, b1, b2]
            exact ⟨g4, ⟨w, _, rfl, by rw [done _ el rfl]; exact z⟩, by rw [wrap_next hi (by omega)]⟩
          | false =>
          simp only [b2] at es
          cases b3 : (boundS l f)[i].given with
          | true =>
            rw [b1, b2, b3] at el
            rw [b3] at y02
            simp +contextual (maxSteps := 2000000) only [go_sem, Nat.reduceEqDiff, reduceCtorEq, Nat.reduceAdd, Nat.reduceLeDiff, t2, l2, t3, l3, t4, l4, t6, l6, t7, t132, t133, t134, es, b1, b2, yi2, y02]
            exact ⟨g4, ⟨w, _, rfl, by rw [done _ el rfl]; exact z⟩, by rw [wrap_next hi (by omega)]⟩
          | false =>
            rw [b1, b2, b3] at el
            rw [b3] at y02
            simp +contextual (maxSteps := 2000000) only [go_sem, Nat.reduceEqDiff, reduceCtorEq, Nat.reduceAdd, Nat.reduceLeDiff, t2, l2, t3, l3, t4, l4, t6, l6, t7, t132, t133, t134, es, b1, b2, yi2, y02]
            refine wp_lit (enc := encB) (k := 2) (l := [⟨3, l[i].name⟩]) rfl rfl ?_
            intro h5 w5 g5 n5 _
            simp +contextual (maxSteps := 2000000) only [go_sem, Nat.reduceEqDiff, reduceCtorEq, Nat.reduceAdd, Nat.reduceLeDiff, t2, l2, t3, l3, t4, l4, t6, l6, t7, t132, t133, t134]
            refine wp_append lenB (z.pr.grow g5) (n5.sl lenB) (g4.trans g5) (by simp; omega) ?_
            intro h6 s6 g6 n6 st6 hb6
            obtain ⟨c6, rfl⟩ := n6.one
            have z6 := (z.grow g5).push n6 st6 hb6
            simp +contextual (maxSteps := 2000000) only [go_sem, Nat.reduceEqDiff, reduceCtorEq, Nat.reduceAdd, Nat.reduceLeDiff, t2, l2, t3, l3, t4, l4, t6, l6, t7, t132, t133, t134]
            have e9 : missF l (boundS l f) (i + 1) = missF l (boundS l f) i ++ [⟨3, l[i].name⟩] := by rw [em, el]; rfl
            rw [List.append_assoc, ← e9] at z6
            exact ⟨g6, ⟨c6, _, rfl, z6⟩, by rw [wrap_next hi (by omega)]⟩
        · rintro T L h' ⟨gg, t2, l2, t3, l3, t4, l4, t6, l6, ⟨w, rs, t7, x⟩, t132, t133, t134⟩
          simp +contextual (maxSteps := 2000000) only [go_sem, Nat.reduceEqDiff, reduceCtorEq, Nat.reduceAdd, Nat.reduceLeDiff, t2, l2, t3, l3, t4, l4, t6, l6, t7, t132, t133, t134, lt_false]
          refine wp_call (c_clipbB _ _ h' x.pr) ?_
          rintro r h3 ⟨rfl, n3, hb3⟩
          obtain ⟨c, rfl⟩ := n3.one
          have z := x.push n3 ((Grow.refl _).stay _) (fun j hj => .inl (hb3 j hj))
          simp +contextual (maxSteps := 2000000) only [go_sem, Nat.reduceEqDiff, reduceCtorEq, Nat.reduceAdd, Nat.reduceLeDiff, t2, l2, t3, l3, t4, l4, t6, l6]
          exact gcK_of ⟨gg, _, _, _, rfl, z⟩ (fun hs _ => by
            simp only [AV.scalar, AV.scalars, List.all_cons, List.all_nil, Bool.and_true, Bool.and_eq_true] at hs
            exact ⟨Grow.refl h, _, _, _, rfl, z.scalar hs.1 hs.2 h⟩)
        · simp +contextual (maxSteps := 2000000) only [go_sem, Nat.reduceEqDiff, reduceCtorEq, Nat.reduceAdd, Nat.reduceLeDiff, t2, l2, t3, l3, t4, l4, t6, l6, t7]
          exact ⟨gg, ⟨w, rs, rfl, x⟩, rfl⟩
      · simp +contextual (maxSteps := 2000000) only [go_sem, Nat.reduceEqDiff, reduceCtorEq, Nat.reduceAdd, Nat.reduceLeDiff, t2, l2, t3, l3, t4, l4, t6, l6, t7]
        rw [nameF_zero]
        exact ⟨gg, ⟨_, _, rfl, x⟩, rfl⟩
  · simp +contextual (maxSteps := 2000000) only [go_sem, Nat.reduceEqDiff, reduceCtorEq, Nat.reduceAdd, Nat.reduceLeDiff]
    have z0 : BdY h h1 v (.sl none 0 (some 0)) (List.replicate l.length zeroR) (fillS l f.pl 0) [] := by
      rw [fillS_zero]
      exact ⟨.zeros n1, .nil, Sep.nil, fun i hi => Sep.nil, fun i hi => Sep.nil⟩
    exact ⟨g1, ⟨.one p, rfl, by rw [leftAt_zero]; exact hf.pl.grow g1, fun j hj => hf.pl.lt_of hj⟩, rfl, _, z0⟩
end Go.Proofs.Ytnphlonhogcedaa.Am
