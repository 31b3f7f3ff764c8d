/- The law FnExactLackOf. -/
import Derived.Test.YtdalgphpacikkabK2
import Derived.Test.YtdalgphpacikkabPA
namespace Go.Proofs.Ytdalgphpacikkab.Am
open Go
set_option maxRecDepth 100000
set_option maxHeartbeats 4000000
set_option linter.unusedSimpArgs false
set_option linter.unusedVariables false
attribute [local go_sem ↓] bv_t bv_c ev_t ev_c put_same put_ne put_none kill_at pro_at lb_same lb_ne start_zero start_succ wpC_seq wpC_reg wpC_cond wpC_block wpC_skip wpC_exit wpC_ret thenQ_normal thenQ_exit thenQ_ret inBlk_normal inBlk_exit inBlk_ret wpS_nil wpS_step wpS_again wpS_guard wpO_mov wpO_load wpO_faddr wpO_nilCheck wpO_pick wpO_build wpO_bin wpO_eqb wpO_eqst wpO_eqnil wpO_not wpO_conv wpO_bytesStr wpO_iaddr wpO_idxStr wpO_field wpO_extract wpO_len wpO_lenStr wpO_cap wpO_min wpO_slice wpO_sliceStr wpO_alloc wpO_box wpO_store wpO_call wpO_callv wpO_mkfn wpO_buildSlice wpO_mkslice wpO_append wpO_appz proA_nil proA_cons tmpX_nil tmpX_tmp tmpX_cell doneB_normal doneB_ret agK_cons agK_nil agK_guard agG_tt agG_ff agG_tf agG_ft agG_undef pureB_load results_one results_two results_nil resBs_cons resBs_nil resB_tmp resB_cell
attribute [local go_sem] kill_v kill_lp_ne kill_lp_same pro_v pro_lp_same pro_lp_ne av_v av_lp optB_some optX_some valX_eq ldX_lp ldX_v faX_lp faX_v ncX_lp ncX_ptr ncX_fn boxK_one boxK_agg stL_some stK_lp_one stK_lp_agg stK_v_one stK_v_agg proM_v proM_lp callG_mk callVG_mk callvK_fn fnG_mk ptrsA_nil ptrsA_cons callH_some whenA_true whenA_false guardH_tt guardH_ff guardH_tf guardH_ft guardH_undef agV_one agV_agg lenO_sl lenStrO_str notO_bool pickO_bool convO_int eqbO_bool eqnilO_sl extractO_tup capO_sl minO_int loadL_one loadL_all storeL_eq fillA_nil fillA_one fillA_agg nat_ge neg_ge nat_lt neg_lt buildO bin_add bin_sub bin_mul bin_eql bin_neq bin_lss bin_leq bin_gtr bin_geq str_eql str_neq str_lss str_leq str_gtr str_geq retK_some endK_mk gcK_same gcK_int gcK_bool tupO_one tupO_agg rdy_self ib ii Option.map_none Option.map_some Option.some.injEq exists_eq_left' exists_eq_left ne_eq not_false_eq_true if_true if_false List.map_cons List.map_nil List.getElem?_cons_zero List.getElem?_cons_succ List.length_cons List.length_nil List.take_succ_cons List.take_zero List.take_nil List.drop_succ_cons List.drop_zero List.drop_nil List.cons_append List.nil_append List.append_nil List.set_cons_zero List.set_cons_succ Nat.zero_add forall_const true_and and_true and_self Bool.false_eq_true false_implies true_implies implies_true Bool.not_true Bool.not_false Bool.not_eq_true' Bool.not_eq_false' beq_self_eq_true Bool.bne_true Bool.bne_false
attribute [local go_sem] lenI lenS lenP lenQ lenB lenL lenT encI_0 encS_0 encP_0 encP_1 encQ_0 encQ_1 encQ_2 encQ_3 encB_0 encB_1 encL_0 encL_1 encT_0 encT_1
attribute [local go_sem low] whenA_bool guardH_bool
/-! laws.FnExactLackOf -/
def L4_0 : List AStep := [⟨.box 30 (.t 0), (some 1), none, []⟩, ⟨.mov (.c (.bool false)), (some 2), none, []⟩]
theorem v4_0 : VS L4_0.eq_1 := rfl
def L4_1 : List AStep := [⟨.mov (.c (.int .i64 1048576)), (some 3), none, []⟩]
theorem v4_1 : VS L4_1.eq_1 := rfl
def L4_2 : List AStep := [⟨.call 9 [(.t 11), (.t 12)], (some 13), none, []⟩, ⟨.mov (.t 13), (some 3), none, []⟩]
theorem v4_2 : VS L4_2.eq_1 := rfl
def L4_3 : List AStep := ⟨.load 3 true (.t 1), (some 11), none, []⟩ :: ⟨.mov (.t 3), (some 12), none, []⟩ :: L4_2
theorem v4_3 : VS L4_3.eq_1 := rfl
def L4_4 : List AStep := [⟨.mov (.t 3), (some 14), none, []⟩, ⟨.bin .lss (.t 14) (.c (.int .i64 0)), (some 15), none, []⟩]
theorem v4_4 : VS L4_4.eq_1 := rfl
def L4_5 : List AStep := [⟨.mov (.c (.bool true)), (some 2), none, []⟩]
theorem v4_5 : VS L4_5.eq_1 := rfl
def L4_6 : List AStep := [⟨.call 18 [(.t 17)], (some 18), none, []⟩, ⟨.mov (.t 18), (some 4), none, []⟩]
theorem v4_6 : VS L4_6.eq_1 := rfl
def L4_7 : List AStep := ⟨.load 3 true (.t 1), (some 16), none, []⟩ :: ⟨.call 11 [(.t 16)], (some 17), none, []⟩ :: L4_6
theorem v4_7 : VS L4_7.eq_1 := rfl
def L4_8 : List AStep := [⟨.alloc 41 [(.sl none 0 (some 0)), (.sl none 0 (some 0)), (.sl none 0 (some 0))], (some 5), none, []⟩, ⟨.store 3 (.t 5) (.t 20), none, none, []⟩]
theorem v4_8 : VS L4_8.eq_1 := rfl
def L4_9 : List AStep := ⟨.load 3 true (.t 1), (some 19), none, []⟩ :: ⟨.call 11 [(.t 19)], (some 20), none, []⟩ :: L4_8
theorem v4_9 : VS L4_9.eq_1 := rfl
def L4_10 : List AStep := [⟨.mov (.t 22), (some 6), none, []⟩]
theorem v4_10 : VS L4_10.eq_1 := rfl
def L4_11 : List AStep := ⟨.load 3 true (.t 5), (some 21), none, []⟩ :: ⟨.call 19 [(.t 21)], (some 22), none, []⟩ :: L4_10
theorem v4_11 : VS L4_11.eq_1 := rfl
def L4_12 : List AStep := [⟨.call 13 [(.t 23), (.t 24)], (some 25), none, []⟩, ⟨.not (.t 25), (some 26), none, []⟩]
theorem v4_12 : VS L4_12.eq_1 := rfl
def L4_13 : List AStep := ⟨.mov (.t 6), (some 23), none, []⟩ :: ⟨.mov (.t 4), (some 24), none, []⟩ :: L4_12
theorem v4_13 : VS L4_13.eq_1 := rfl
def L4_14 : List AStep := [⟨.mov (.c (.bool false)), (some 2), none, []⟩]
theorem v4_14 : VS L4_14.eq_1 := rfl
def L4_15 : List AStep := [⟨.not (.t 30), (some 31), none, []⟩]
theorem v4_15 : VS L4_15.eq_1 := rfl
def L4_16 : List AStep := ⟨.call 11 [(.t 28)], (some 29), none, [(.load 3 true (.t 5), (some 27), none)]⟩ :: ⟨.call 14 [(.t 27), (.t 29)], (some 30), none, []⟩ :: L4_15
theorem v4_16 : VS L4_16.eq_1 := rfl
def L4_17 : List AStep := ⟨.load 3 true (.t 5), (some 27), none, []⟩ :: ⟨.load 3 true (.t 1), (some 28), none, []⟩ :: L4_16
theorem v4_17 : VS L4_17.eq_1 := rfl
def L4_18 : List AStep := [⟨.mov (.c (.bool false)), (some 2), none, []⟩]
theorem v4_18 : VS L4_18.eq_1 := rfl
def L4_19 : List AStep := [⟨.mov (.c (.int .i64 1)), (some 7), none, []⟩]
theorem v4_19 : VS L4_19.eq_1 := rfl
def L4_20 : List AStep := [⟨.call 15 [(.t 32), (.t 33)], (some 34), none, []⟩, ⟨.mov (.t 34), (some 7), none, []⟩]
theorem v4_20 : VS L4_20.eq_1 := rfl
def L4_21 : List AStep := ⟨.load 3 true (.t 5), (some 32), none, []⟩ :: ⟨.mov (.t 7), (some 33), none, []⟩ :: L4_20
theorem v4_21 : VS L4_21.eq_1 := rfl
def L4_22 : List AStep := [⟨.not (.t 40), (some 41), (some (37, false)), []⟩, ⟨.pick (.t 37) (.c (.bool true)) (.t 41), (some 42), none, []⟩]
theorem v4_22 : VS L4_22.eq_1 := rfl
def L4_23 : List AStep := ⟨.mov (.t 4), (some 39), (some (37, false)), []⟩ :: ⟨.call 13 [(.t 38), (.t 39)], (some 40), (some (37, false)), []⟩ :: L4_22
theorem v4_23 : VS L4_23.eq_1 := rfl
def L4_24 : List AStep := ⟨.mov (.t 36), (some 37), none, []⟩ :: ⟨.mov (.t 6), (some 38), (some (37, false)), []⟩ :: L4_23
theorem v4_24 : VS L4_24.eq_1 := rfl
def L4_25 : List AStep := ⟨.mov (.t 7), (some 35), none, []⟩ :: ⟨.bin .lss (.t 35) (.c (.int .i64 0)), (some 36), none, []⟩ :: L4_24
theorem v4_25 : VS L4_25.eq_1 := rfl
def L4_26 : List AStep := [⟨.mov (.c (.bool false)), (some 2), none, []⟩]
theorem v4_26 : VS L4_26.eq_1 := rfl
def L4_27 : List AStep := [⟨.mov (.c (.int .i64 1)), (some 8), none, []⟩]
theorem v4_27 : VS L4_27.eq_1 := rfl
def L4_28 : List AStep := [⟨.call 16 [(.t 43), (.t 44)], (some 45), none, []⟩, ⟨.mov (.t 45), (some 8), none, []⟩]
theorem v4_28 : VS L4_28.eq_1 := rfl
def L4_29 : List AStep := ⟨.mov (.t 6), (some 43), none, []⟩ :: ⟨.mov (.t 8), (some 44), none, []⟩ :: L4_28
theorem v4_29 : VS L4_29.eq_1 := rfl
def L4_30 : List AStep := [⟨.mov (.c (.int .i64 1)), (some 9), none, []⟩]
theorem v4_30 : VS L4_30.eq_1 := rfl
def L4_31 : List AStep := [⟨.call 17 [(.t 46), (.t 47)], (some 48), none, []⟩, ⟨.mov (.t 48), (some 9), none, []⟩]
theorem v4_31 : VS L4_31.eq_1 := rfl
def L4_32 : List AStep := ⟨.mov (.t 6), (some 46), none, []⟩ :: ⟨.mov (.t 9), (some 47), none, []⟩ :: L4_31
theorem v4_32 : VS L4_32.eq_1 := rfl
def L4_33 : List AStep := [⟨.mov (.t 9), (some 49), none, []⟩, ⟨.bin .lss (.t 49) (.c (.int .i64 0)), (some 50), none, []⟩]
theorem v4_33 : VS L4_33.eq_1 := rfl
def L4_34 : List AStep := [⟨.mov (.c (.bool false)), (some 2), none, []⟩]
theorem v4_34 : VS L4_34.eq_1 := rfl
def L4_35 : List AStep := [⟨.bin .neq (.t 51) (.t 52), (some 53), none, []⟩]
theorem v4_35 : VS L4_35.eq_1 := rfl
def L4_36 : List AStep := ⟨.mov (.t 9), (some 51), none, []⟩ :: ⟨.mov (.t 8), (some 52), none, []⟩ :: L4_35
theorem v4_36 : VS L4_36.eq_1 := rfl
def L4_37 : List AStep := [⟨.mov (.c (.bool false)), (some 2), none, []⟩]
theorem v4_37 : VS L4_37.eq_1 := rfl
def L4_38 : List AStep := [⟨.call 19 [(.t 55)], (some 56), none, []⟩, ⟨.mov (.t 56), (some 10), none, []⟩]
theorem v4_38 : VS L4_38.eq_1 := rfl
def L4_39 : List AStep := ⟨.load 3 true (.t 1), (some 54), none, []⟩ :: ⟨.call 11 [(.t 54)], (some 55), none, []⟩ :: L4_38
theorem v4_39 : VS L4_39.eq_1 := rfl
def L4_40 : List AStep := [⟨.call 13 [(.t 57), (.t 58)], (some 59), none, []⟩, ⟨.not (.t 59), (some 60), none, []⟩]
theorem v4_40 : VS L4_40.eq_1 := rfl
def L4_41 : List AStep := ⟨.mov (.t 10), (some 57), none, []⟩ :: ⟨.mov (.t 4), (some 58), none, []⟩ :: L4_40
theorem v4_41 : VS L4_41.eq_1 := rfl
def L4_42 : List AStep := [⟨.mov (.c (.bool false)), (some 2), none, []⟩]
theorem v4_42 : VS L4_42.eq_1 := rfl
def L4_43 : List AStep := [⟨.mov (.c (.int .i64 1)), (some 9), none, []⟩]
theorem v4_43 : VS L4_43.eq_1 := rfl
def L4_44 : List AStep := [⟨.call 17 [(.t 61), (.t 62)], (some 63), none, []⟩, ⟨.mov (.t 63), (some 9), none, []⟩]
theorem v4_44 : VS L4_44.eq_1 := rfl
def L4_45 : List AStep := ⟨.mov (.t 6), (some 61), none, []⟩ :: ⟨.mov (.t 9), (some 62), none, []⟩ :: L4_44
theorem v4_45 : VS L4_45.eq_1 := rfl
def L4_46 : List AStep := [⟨.mov (.t 9), (some 64), none, []⟩, ⟨.bin .lss (.t 64) (.c (.int .i64 0)), (some 65), none, []⟩]
theorem v4_46 : VS L4_46.eq_1 := rfl
def L4_47 : List AStep := [⟨.mov (.c (.bool false)), (some 2), none, []⟩]
theorem v4_47 : VS L4_47.eq_1 := rfl
def L4_48 : List AStep := [⟨.bin .neq (.t 66) (.t 67), (some 68), none, []⟩]
theorem v4_48 : VS L4_48.eq_1 := rfl
def L4_49 : List AStep := ⟨.mov (.t 9), (some 66), none, []⟩ :: ⟨.mov (.t 8), (some 67), none, []⟩ :: L4_48
theorem v4_49 : VS L4_49.eq_1 := rfl
def L4_50 : List AStep := [⟨.mov (.c (.bool false)), (some 2), none, []⟩]
theorem v4_50 : VS L4_50.eq_1 := rfl
def L4_51 : List AStep := [⟨.mov (.c (.bool true)), (some 2), none, []⟩]
theorem v4_51 : VS L4_51.eq_1 := rfl
def C4_0 : ACode := .seq (.reg L4_5) .ret
theorem u4_0 : VC C4_0.eq_1 := rfl
def C4_1 : ACode := .cond (.t 15) C4_0 .skip
theorem u4_1 : VC C4_1.eq_1 := rfl
def C4_2 : ACode := .seq (.reg L4_4) C4_1
theorem u4_2 : VC C4_2.eq_1 := rfl
def C4_3 : ACode := .seq (.reg L4_14) .ret
theorem u4_3 : VC C4_3.eq_1 := rfl
def C4_4 : ACode := .cond (.t 26) C4_3 .skip
theorem u4_4 : VC C4_4.eq_1 := rfl
def C4_5 : ACode := .seq (.reg L4_13) C4_4
theorem u4_5 : VC C4_5.eq_1 := rfl
def C4_6 : ACode := .seq (.reg L4_18) .ret
theorem u4_6 : VC C4_6.eq_1 := rfl
def C4_7 : ACode := .cond (.t 31) C4_6 .skip
theorem u4_7 : VC C4_7.eq_1 := rfl
def C4_8 : ACode := .seq (.reg L4_17) C4_7
theorem u4_8 : VC C4_8.eq_1 := rfl
def C4_9 : ACode := .seq (.reg L4_26) .ret
theorem u4_9 : VC C4_9.eq_1 := rfl
def C4_10 : ACode := .cond (.t 42) C4_9 .skip
theorem u4_10 : VC C4_10.eq_1 := rfl
def C4_11 : ACode := .seq (.reg L4_25) C4_10
theorem u4_11 : VC C4_11.eq_1 := rfl
def C4_12 : ACode := .seq (.reg L4_34) .ret
theorem u4_12 : VC C4_12.eq_1 := rfl
def C4_13 : ACode := .cond (.t 50) C4_12 .skip
theorem u4_13 : VC C4_13.eq_1 := rfl
def C4_14 : ACode := .seq (.reg L4_33) C4_13
theorem u4_14 : VC C4_14.eq_1 := rfl
def C4_15 : ACode := .seq (.reg L4_37) .ret
theorem u4_15 : VC C4_15.eq_1 := rfl
def C4_16 : ACode := .cond (.t 53) C4_15 .skip
theorem u4_16 : VC C4_16.eq_1 := rfl
def C4_17 : ACode := .seq (.reg L4_36) C4_16
theorem u4_17 : VC C4_17.eq_1 := rfl
def C4_18 : ACode := .seq (.reg L4_42) .ret
theorem u4_18 : VC C4_18.eq_1 := rfl
def C4_19 : ACode := .cond (.t 60) C4_18 .skip
theorem u4_19 : VC C4_19.eq_1 := rfl
def C4_20 : ACode := .seq (.reg L4_41) C4_19
theorem u4_20 : VC C4_20.eq_1 := rfl
def C4_21 : ACode := .seq (.reg L4_47) .ret
theorem u4_21 : VC C4_21.eq_1 := rfl
def C4_22 : ACode := .cond (.t 65) C4_21 .skip
theorem u4_22 : VC C4_22.eq_1 := rfl
def C4_23 : ACode := .seq (.reg L4_46) C4_22
theorem u4_23 : VC C4_23.eq_1 := rfl
def C4_24 : ACode := .seq (.reg L4_50) .ret
theorem u4_24 : VC C4_24.eq_1 := rfl
def C4_25 : ACode := .cond (.t 68) C4_24 .skip
theorem u4_25 : VC C4_25.eq_1 := rfl
def C4_26 : ACode := .seq (.reg L4_49) C4_25
theorem u4_26 : VC C4_26.eq_1 := rfl
def C4_27 : ACode := .seq (.reg L4_51) .ret
theorem u4_27 : VC C4_27.eq_1 := rfl
def C4_28 : ACode := .seq C4_26 C4_27
theorem u4_28 : VC C4_28.eq_1 := rfl
def C4_29 : ACode := .seq C4_23 C4_28
theorem u4_29 : VC C4_29.eq_1 := rfl
def C4_30 : ACode := .seq (.reg L4_45) C4_29
theorem u4_30 : VC C4_30.eq_1 := rfl
def C4_31 : ACode := .seq (.reg L4_43) C4_30
theorem u4_31 : VC C4_31.eq_1 := rfl
def C4_32 : ACode := .seq C4_20 C4_31
theorem u4_32 : VC C4_32.eq_1 := rfl
def C4_33 : ACode := .seq (.reg L4_39) C4_32
theorem u4_33 : VC C4_33.eq_1 := rfl
def C4_34 : ACode := .seq C4_17 C4_33
theorem u4_34 : VC C4_34.eq_1 := rfl
def C4_35 : ACode := .seq C4_14 C4_34
theorem u4_35 : VC C4_35.eq_1 := rfl
def C4_36 : ACode := .seq (.reg L4_32) C4_35
theorem u4_36 : VC C4_36.eq_1 := rfl
def C4_37 : ACode := .seq (.reg L4_30) C4_36
theorem u4_37 : VC C4_37.eq_1 := rfl
def C4_38 : ACode := .seq (.reg L4_29) C4_37
theorem u4_38 : VC C4_38.eq_1 := rfl
def C4_39 : ACode := .seq (.reg L4_27) C4_38
theorem u4_39 : VC C4_39.eq_1 := rfl
def C4_40 : ACode := .seq C4_11 C4_39
theorem u4_40 : VC C4_40.eq_1 := rfl
def C4_41 : ACode := .seq (.reg L4_21) C4_40
theorem u4_41 : VC C4_41.eq_1 := rfl
def C4_42 : ACode := .seq (.reg L4_19) C4_41
theorem u4_42 : VC C4_42.eq_1 := rfl
def C4_43 : ACode := .seq C4_8 C4_42
theorem u4_43 : VC C4_43.eq_1 := rfl
def C4_44 : ACode := .seq C4_5 C4_43
theorem u4_44 : VC C4_44.eq_1 := rfl
def C4_45 : ACode := .seq (.reg L4_11) C4_44
theorem u4_45 : VC C4_45.eq_1 := rfl
def C4_46 : ACode := .seq (.reg L4_9) C4_45
theorem u4_46 : VC C4_46.eq_1 := rfl
def C4_47 : ACode := .seq (.reg L4_7) C4_46
theorem u4_47 : VC C4_47.eq_1 := rfl
def C4_48 : ACode := .seq C4_2 C4_47
theorem u4_48 : VC C4_48.eq_1 := rfl
def C4_49 : ACode := .seq (.reg L4_3) C4_48
theorem u4_49 : VC C4_49.eq_1 := rfl
def C4_50 : ACode := .seq (.reg L4_1) C4_49
theorem u4_50 : VC C4_50.eq_1 := rfl
def C4_51 : ACode := .seq (.reg L4_0) C4_50
theorem u4_51 : VC C4_51.eq_1 := rfl
def F4 : AFunc := ⟨69, [.tmp 2], C4_51⟩
theorem cF4 : compB Try.prog 4 = some F4 := by kernel_rfl
attribute [local go_sem ↓] u4_0 u4_1 u4_2 u4_3 u4_4 u4_5 u4_6 u4_7 u4_8 u4_9 u4_10 u4_11 u4_12 u4_13 u4_14 u4_15 u4_16 u4_17 u4_18 u4_19 u4_20 u4_21 u4_22 u4_23 u4_24 u4_25 u4_26 u4_27 u4_28 u4_29 u4_30 u4_31 u4_32 u4_33 u4_34 u4_35 u4_36 u4_37 u4_38 u4_39 u4_40 u4_41 u4_42 u4_43 u4_44 u4_45 u4_46 u4_47 u4_48 u4_49 u4_50 u4_51 v4_0 v4_1 v4_2 v4_3 v4_4 v4_5 v4_6 v4_7 v4_8 v4_9 v4_10 v4_11 v4_12 v4_13 v4_14 v4_15 v4_16 v4_17 v4_18 v4_19 v4_20 v4_21 v4_22 v4_23 v4_24 v4_25 v4_26 v4_27 v4_28 v4_29 v4_30 v4_31 v4_32 v4_33 v4_34 v4_35 v4_36 v4_37 v4_38 v4_39 v4_40 v4_41 v4_42 v4_43 v4_44 v4_45 v4_46 v4_47 v4_48 v4_49 v4_50 v4_51
theorem law4 (h : H) (avs : List AV) (hok : okVs Try.prog h 6 [ 30 ] avs) : callK (bm Try.prog 4 avs h) fun r _ => r = ib true := by
  obtain ⟨v0, avs, rfl, hv0, hok⟩ := okVs_cons hok
  obtain rfl := okVs_nil hok
  obtain ⟨c0, p0, n0, x0, rfl, d0⟩ := dD hv0
  refine bm_of cF4 ?_
  have z0 := k_szD x0 c0 p0 n0 1048576 h (by omega) (by omega) d0
  by_cases y0 : szr 1048576 (wtD x0) < 0
  · simp +contextual (maxSteps := 2000000) only [go_sem, Nat.reduceEqDiff, reduceCtorEq, Nat.reduceAdd, Nat.reduceLeDiff, F4, z0, decide_eq_true y0]
  obtain ⟨e0, u0⟩ := szr_ge y0
  have s0 : miniD x0 := wtD_sm (by omega)
  have hR : miniZ (lackF x0.sig x0.flat) := .free
  simp +contextual (maxSteps := 2000000) only [go_sem, Nat.reduceEqDiff, reduceCtorEq, Nat.reduceAdd, Nat.reduceLeDiff, F4, z0, decide_eq_false y0]
  refine wp_call (k_toD x0 c0 p0 n0 h (d0.grow (Grow.refl h)) s0) ?_
  rintro r h1 ⟨g1, c0a, p0a, n0a, rfl, a0a⟩
  simp +contextual (maxSteps := 2000000) only [go_sem, Nat.reduceEqDiff, reduceCtorEq, Nat.reduceAdd, Nat.reduceLeDiff]
  refine wp_call (k_sLackOf x0 c0a p0a n0a h1 (a0a.sl) s0) ?_
  rintro r h2 ⟨g2, pw, rfl, w0⟩
  simp +contextual (maxSteps := 2000000) only [go_sem, Nat.reduceEqDiff, reduceCtorEq, Nat.reduceAdd, Nat.reduceLeDiff]
  refine wp_call (k_toD x0 c0 p0 n0 h2 (d0.grow (((Grow.refl h).trans g1).trans g2)) s0) ?_
  rintro r h3 ⟨g3, c0b, p0b, n0b, rfl, a0b⟩
  simp +contextual (maxSteps := 2000000) only [go_sem, Nat.reduceEqDiff, reduceCtorEq, Nat.reduceAdd, Nat.reduceLeDiff]
  refine wp_call (k_iLackOf x0 c0b p0b n0b h3 (a0b.sl) s0) ?_
  rintro r h4 ⟨g4, pg, rfl, b0⟩
  have q0 := k_eqZ (lackF x0.sig x0.flat) (lackF x0.sig x0.flat) pg pw h4 (b0.sl) (w0.sl.grow (g3.trans g4)) hR
  simp +contextual (maxSteps := 2000000) only [go_sem, Nat.reduceEqDiff, reduceCtorEq, Nat.reduceAdd, Nat.reduceLeDiff, q0, decide_true]
  refine wp_call (k_toD x0 c0 p0 n0 h4 (d0.grow (((((Grow.refl h).trans g1).trans g2).trans g3).trans g4)) s0) ?_
  rintro r h5 ⟨g5, c0c, p0c, n0c, rfl, a0c⟩
  have q1 := k_eqD x0 x0 c0b p0b n0b c0c p0c n0c h5 (a0b.sl.grow (g4.trans g5)) a0c.sl s0
  simp +contextual (maxSteps := 2000000) only [go_sem, Nat.reduceEqDiff, reduceCtorEq, Nat.reduceAdd, Nat.reduceLeDiff, q1, decide_true]
  have k0 := cellsD_le s0
  have G8 : Grow h2 h5 := ((g3.trans g4).trans g5)
  refine wp_call (k_markD x0 c0b p0b n0b 1 h2 h3 h5 ((a0b.grow (g4.trans g5))) a0b G8 (by omega) (by omega) s0) ?_
  rintro r h6 ⟨rfl, G80, m0, N0⟩
  have M0 := N0
  have b1 := (b0.grow g5).mid M0 (Nat.le_refl _)
  have w1 := w0.grow G80
  have qa := k_eqZ (lackF x0.sig x0.flat) (lackF x0.sig x0.flat) pg pw h6 (b1.sl) (w1.sl) hR
  simp +contextual (maxSteps := 2000000) only [go_sem, Nat.reduceEqDiff, reduceCtorEq, Nat.reduceAdd, Nat.reduceLeDiff, qa, decide_true, decide_eq_false (show ¬ ((1 : Int) + (cellsD x0 : Nat) < 0) by omega)]
  have kr := cellsZ_le hR
  have lh : h2.n ≤ h3.n := g3.n
  refine wp_call (k_markZ (lackF x0.sig x0.flat) pg 1 h2 h4 h6 (b1.from lh) (b0.from lh) G80 (by omega) (by omega) hR) ?_
  rintro r h7 ⟨rfl, Gm, mr, Mr⟩
  have qh := k_heldZ (lackF x0.sig x0.flat) pg 1 h7 mr (by omega) (by omega) hR
  simp +contextual (maxSteps := 2000000) only [go_sem, Nat.reduceEqDiff, reduceCtorEq, Nat.reduceAdd, Nat.reduceLeDiff, qh, decide_true, decide_eq_false (show ¬ ((1 : Int) + (cellsZ (lackF x0.sig x0.flat) : Nat) < 0) by omega)]
  have H1 : Grow h h7 := (((Grow.refl h).trans g1).trans g2).trans Gm
  refine wp_call (k_toD x0 c0 p0 n0 h7 (d0.grow H1) s0) ?_
  rintro r h8 ⟨g8, c0d, p0d, n0d, rfl, a0d⟩
  simp +contextual (maxSteps := 2000000) only [go_sem, Nat.reduceEqDiff, reduceCtorEq, Nat.reduceAdd, Nat.reduceLeDiff]
  refine wp_call (k_iLackOf x0 c0d p0d n0d h8 (a0d.sl) s0) ?_
  rintro r h9 ⟨g9, py, rfl, b2⟩
  have G9 : Grow h7 h9 := (g8.trans g9)
  have qz := k_eqZ (lackF x0.sig x0.flat) (lackF x0.sig x0.flat) py pw h9 (b2.sl) ((w0.grow (Gm.trans G9)).sl) hR
  have qy := k_heldZ (lackF x0.sig x0.flat) pg 1 h9 (mr.grow G9) (by omega) (by omega) hR
  simp +contextual (maxSteps := 2000000) only [go_sem, Nat.reduceEqDiff, reduceCtorEq, Nat.reduceAdd, Nat.reduceLeDiff, qz, qy, decide_true, decide_eq_false (show ¬ ((1 : Int) + (cellsZ (lackF x0.sig x0.flat) : Nat) < 0) by omega)]
  exact gcK_of rfl (fun _ _ => rfl)
end Go.Proofs.Ytdalgphpacikkab.Am
