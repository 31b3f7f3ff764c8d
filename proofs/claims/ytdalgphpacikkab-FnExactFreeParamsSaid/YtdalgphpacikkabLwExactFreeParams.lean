/- The law FnExactFreeParams. -/
import Derived.Test.YtdalgphpacikkabK2
import Derived.Test.YtdalgphpacikkabPA
namespace Go.Proofs.Ytdalgphpacikkab.Am
open Go
set_option maxRecDepth 100000
set_option maxHeartbeats 4000000
set_option linter.unusedSimpArgs false
set_option linter.unusedVariables false
attribute [local go_sem ↓] bv_t bv_c ev_t ev_c put_same put_ne put_none kill_at pro_at lb_same lb_ne start_zero start_succ wpC_seq wpC_reg wpC_cond wpC_block wpC_skip wpC_exit wpC_ret thenQ_normal thenQ_exit thenQ_ret inBlk_normal inBlk_exit inBlk_ret wpS_nil wpS_step wpS_again wpS_guard wpO_mov wpO_load wpO_faddr wpO_nilCheck wpO_pick wpO_build wpO_bin wpO_eqb wpO_eqst wpO_eqnil wpO_not wpO_conv wpO_bytesStr wpO_iaddr wpO_idxStr wpO_field wpO_extract wpO_len wpO_lenStr wpO_cap wpO_min wpO_slice wpO_sliceStr wpO_alloc wpO_box wpO_store wpO_call wpO_callv wpO_mkfn wpO_buildSlice wpO_mkslice wpO_append wpO_appz proA_nil proA_cons tmpX_nil tmpX_tmp tmpX_cell doneB_normal doneB_ret agK_cons agK_nil agK_guard agG_tt agG_ff agG_tf agG_ft agG_undef pureB_load results_one results_two results_nil resBs_cons resBs_nil resB_tmp resB_cell
attribute [local go_sem] kill_v kill_lp_ne kill_lp_same pro_v pro_lp_same pro_lp_ne av_v av_lp optB_some optX_some valX_eq ldX_lp ldX_v faX_lp faX_v ncX_lp ncX_ptr ncX_fn boxK_one boxK_agg stL_some stK_lp_one stK_lp_agg stK_v_one stK_v_agg proM_v proM_lp callG_mk callVG_mk callvK_fn fnG_mk ptrsA_nil ptrsA_cons callH_some whenA_true whenA_false guardH_tt guardH_ff guardH_tf guardH_ft guardH_undef agV_one agV_agg lenO_sl lenStrO_str notO_bool pickO_bool convO_int eqbO_bool eqnilO_sl extractO_tup capO_sl minO_int loadL_one loadL_all storeL_eq fillA_nil fillA_one fillA_agg nat_ge neg_ge nat_lt neg_lt buildO bin_add bin_sub bin_mul bin_eql bin_neq bin_lss bin_leq bin_gtr bin_geq str_eql str_neq str_lss str_leq str_gtr str_geq retK_some endK_mk gcK_same gcK_int gcK_bool tupO_one tupO_agg rdy_self ib ii Option.map_none Option.map_some Option.some.injEq exists_eq_left' exists_eq_left ne_eq not_false_eq_true if_true if_false List.map_cons List.map_nil List.getElem?_cons_zero List.getElem?_cons_succ List.length_cons List.length_nil List.take_succ_cons List.take_zero List.take_nil List.drop_succ_cons List.drop_zero List.drop_nil List.cons_append List.nil_append List.append_nil List.set_cons_zero List.set_cons_succ Nat.zero_add forall_const true_and and_true and_self Bool.false_eq_true false_implies true_implies implies_true Bool.not_true Bool.not_false Bool.not_eq_true' Bool.not_eq_false' beq_self_eq_true Bool.bne_true Bool.bne_false
attribute [local go_sem] lenI lenS lenP lenQ lenB lenL lenT encI_0 encS_0 encP_0 encP_1 encQ_0 encQ_1 encQ_2 encQ_3 encB_0 encB_1 encL_0 encL_1 encT_0 encT_1
attribute [local go_sem low] whenA_bool guardH_bool
/-! laws.FnExactFreeParams -/
def L3_0 : List AStep := [⟨.box 30 (.t 0), (some 1), none, []⟩, ⟨.mov (.c (.bool false)), (some 2), none, []⟩]
theorem v3_0 : VS L3_0.eq_1 := rfl
def L3_1 : List AStep := [⟨.mov (.c (.int .i64 1048576)), (some 3), none, []⟩]
theorem v3_1 : VS L3_1.eq_1 := rfl
def L3_2 : List AStep := [⟨.call 9 [(.t 11), (.t 12)], (some 13), none, []⟩, ⟨.mov (.t 13), (some 3), none, []⟩]
theorem v3_2 : VS L3_2.eq_1 := rfl
def L3_3 : List AStep := ⟨.load 3 true (.t 1), (some 11), none, []⟩ :: ⟨.mov (.t 3), (some 12), none, []⟩ :: L3_2
theorem v3_3 : VS L3_3.eq_1 := rfl
def L3_4 : List AStep := [⟨.mov (.t 3), (some 14), none, []⟩, ⟨.bin .lss (.t 14) (.c (.int .i64 0)), (some 15), none, []⟩]
theorem v3_4 : VS L3_4.eq_1 := rfl
def L3_5 : List AStep := [⟨.mov (.c (.bool true)), (some 2), none, []⟩]
theorem v3_5 : VS L3_5.eq_1 := rfl
def L3_6 : List AStep := [⟨.call 10 [(.t 17)], (some 18), none, []⟩, ⟨.mov (.t 18), (some 4), none, []⟩]
theorem v3_6 : VS L3_6.eq_1 := rfl
def L3_7 : List AStep := ⟨.load 3 true (.t 1), (some 16), none, []⟩ :: ⟨.call 11 [(.t 16)], (some 17), none, []⟩ :: L3_6
theorem v3_7 : VS L3_7.eq_1 := rfl
def L3_8 : List AStep := [⟨.alloc 41 [(.sl none 0 (some 0)), (.sl none 0 (some 0)), (.sl none 0 (some 0))], (some 5), none, []⟩, ⟨.store 3 (.t 5) (.t 20), none, none, []⟩]
theorem v3_8 : VS L3_8.eq_1 := rfl
def L3_9 : List AStep := ⟨.load 3 true (.t 1), (some 19), none, []⟩ :: ⟨.call 11 [(.t 19)], (some 20), none, []⟩ :: L3_8
theorem v3_9 : VS L3_9.eq_1 := rfl
def L3_10 : List AStep := [⟨.mov (.t 22), (some 6), none, []⟩]
theorem v3_10 : VS L3_10.eq_1 := rfl
def L3_11 : List AStep := ⟨.load 3 true (.t 5), (some 21), none, []⟩ :: ⟨.call 12 [(.t 21)], (some 22), none, []⟩ :: L3_10
theorem v3_11 : VS L3_11.eq_1 := rfl
def L3_12 : List AStep := [⟨.call 13 [(.t 23), (.t 24)], (some 25), none, []⟩, ⟨.not (.t 25), (some 26), none, []⟩]
theorem v3_12 : VS L3_12.eq_1 := rfl
def L3_13 : List AStep := ⟨.mov (.t 6), (some 23), none, []⟩ :: ⟨.mov (.t 4), (some 24), none, []⟩ :: L3_12
theorem v3_13 : VS L3_13.eq_1 := rfl
def L3_14 : List AStep := [⟨.mov (.c (.bool false)), (some 2), none, []⟩]
theorem v3_14 : VS L3_14.eq_1 := rfl
def L3_15 : List AStep := [⟨.not (.t 30), (some 31), none, []⟩]
theorem v3_15 : VS L3_15.eq_1 := rfl
def L3_16 : List AStep := ⟨.call 11 [(.t 28)], (some 29), none, [(.load 3 true (.t 5), (some 27), none)]⟩ :: ⟨.call 14 [(.t 27), (.t 29)], (some 30), none, []⟩ :: L3_15
theorem v3_16 : VS L3_16.eq_1 := rfl
def L3_17 : List AStep := ⟨.load 3 true (.t 5), (some 27), none, []⟩ :: ⟨.load 3 true (.t 1), (some 28), none, []⟩ :: L3_16
theorem v3_17 : VS L3_17.eq_1 := rfl
def L3_18 : List AStep := [⟨.mov (.c (.bool false)), (some 2), none, []⟩]
theorem v3_18 : VS L3_18.eq_1 := rfl
def L3_19 : List AStep := [⟨.mov (.c (.int .i64 1)), (some 7), none, []⟩]
theorem v3_19 : VS L3_19.eq_1 := rfl
def L3_20 : List AStep := [⟨.call 15 [(.t 32), (.t 33)], (some 34), none, []⟩, ⟨.mov (.t 34), (some 7), none, []⟩]
theorem v3_20 : VS L3_20.eq_1 := rfl
def L3_21 : List AStep := ⟨.load 3 true (.t 5), (some 32), none, []⟩ :: ⟨.mov (.t 7), (some 33), none, []⟩ :: L3_20
theorem v3_21 : VS L3_21.eq_1 := rfl
def L3_22 : List AStep := [⟨.not (.t 40), (some 41), (some (37, false)), []⟩, ⟨.pick (.t 37) (.c (.bool true)) (.t 41), (some 42), none, []⟩]
theorem v3_22 : VS L3_22.eq_1 := rfl
def L3_23 : List AStep := ⟨.mov (.t 4), (some 39), (some (37, false)), []⟩ :: ⟨.call 13 [(.t 38), (.t 39)], (some 40), (some (37, false)), []⟩ :: L3_22
theorem v3_23 : VS L3_23.eq_1 := rfl
def L3_24 : List AStep := ⟨.mov (.t 36), (some 37), none, []⟩ :: ⟨.mov (.t 6), (some 38), (some (37, false)), []⟩ :: L3_23
theorem v3_24 : VS L3_24.eq_1 := rfl
def L3_25 : List AStep := ⟨.mov (.t 7), (some 35), none, []⟩ :: ⟨.bin .lss (.t 35) (.c (.int .i64 0)), (some 36), none, []⟩ :: L3_24
theorem v3_25 : VS L3_25.eq_1 := rfl
def L3_26 : List AStep := [⟨.mov (.c (.bool false)), (some 2), none, []⟩]
theorem v3_26 : VS L3_26.eq_1 := rfl
def L3_27 : List AStep := [⟨.mov (.c (.int .i64 1)), (some 8), none, []⟩]
theorem v3_27 : VS L3_27.eq_1 := rfl
def L3_28 : List AStep := [⟨.call 16 [(.t 43), (.t 44)], (some 45), none, []⟩, ⟨.mov (.t 45), (some 8), none, []⟩]
theorem v3_28 : VS L3_28.eq_1 := rfl
def L3_29 : List AStep := ⟨.mov (.t 6), (some 43), none, []⟩ :: ⟨.mov (.t 8), (some 44), none, []⟩ :: L3_28
theorem v3_29 : VS L3_29.eq_1 := rfl
def L3_30 : List AStep := [⟨.mov (.c (.int .i64 1)), (some 9), none, []⟩]
theorem v3_30 : VS L3_30.eq_1 := rfl
def L3_31 : List AStep := [⟨.call 17 [(.t 46), (.t 47)], (some 48), none, []⟩, ⟨.mov (.t 48), (some 9), none, []⟩]
theorem v3_31 : VS L3_31.eq_1 := rfl
def L3_32 : List AStep := ⟨.mov (.t 6), (some 46), none, []⟩ :: ⟨.mov (.t 9), (some 47), none, []⟩ :: L3_31
theorem v3_32 : VS L3_32.eq_1 := rfl
def L3_33 : List AStep := [⟨.mov (.t 9), (some 49), none, []⟩, ⟨.bin .lss (.t 49) (.c (.int .i64 0)), (some 50), none, []⟩]
theorem v3_33 : VS L3_33.eq_1 := rfl
def L3_34 : List AStep := [⟨.mov (.c (.bool false)), (some 2), none, []⟩]
theorem v3_34 : VS L3_34.eq_1 := rfl
def L3_35 : List AStep := [⟨.bin .neq (.t 51) (.t 52), (some 53), none, []⟩]
theorem v3_35 : VS L3_35.eq_1 := rfl
def L3_36 : List AStep := ⟨.mov (.t 9), (some 51), none, []⟩ :: ⟨.mov (.t 8), (some 52), none, []⟩ :: L3_35
theorem v3_36 : VS L3_36.eq_1 := rfl
def L3_37 : List AStep := [⟨.mov (.c (.bool false)), (some 2), none, []⟩]
theorem v3_37 : VS L3_37.eq_1 := rfl
def L3_38 : List AStep := [⟨.call 12 [(.t 55)], (some 56), none, []⟩, ⟨.mov (.t 56), (some 10), none, []⟩]
theorem v3_38 : VS L3_38.eq_1 := rfl
def L3_39 : List AStep := ⟨.load 3 true (.t 1), (some 54), none, []⟩ :: ⟨.call 11 [(.t 54)], (some 55), none, []⟩ :: L3_38
theorem v3_39 : VS L3_39.eq_1 := rfl
def L3_40 : List AStep := [⟨.call 13 [(.t 57), (.t 58)], (some 59), none, []⟩, ⟨.not (.t 59), (some 60), none, []⟩]
theorem v3_40 : VS L3_40.eq_1 := rfl
def L3_41 : List AStep := ⟨.mov (.t 10), (some 57), none, []⟩ :: ⟨.mov (.t 4), (some 58), none, []⟩ :: L3_40
theorem v3_41 : VS L3_41.eq_1 := rfl
def L3_42 : List AStep := [⟨.mov (.c (.bool false)), (some 2), none, []⟩]
theorem v3_42 : VS L3_42.eq_1 := rfl
def L3_43 : List AStep := [⟨.mov (.c (.int .i64 1)), (some 9), none, []⟩]
theorem v3_43 : VS L3_43.eq_1 := rfl
def L3_44 : List AStep := [⟨.call 17 [(.t 61), (.t 62)], (some 63), none, []⟩, ⟨.mov (.t 63), (some 9), none, []⟩]
theorem v3_44 : VS L3_44.eq_1 := rfl
def L3_45 : List AStep := ⟨.mov (.t 6), (some 61), none, []⟩ :: ⟨.mov (.t 9), (some 62), none, []⟩ :: L3_44
theorem v3_45 : VS L3_45.eq_1 := rfl
def L3_46 : List AStep := [⟨.mov (.t 9), (some 64), none, []⟩, ⟨.bin .lss (.t 64) (.c (.int .i64 0)), (some 65), none, []⟩]
theorem v3_46 : VS L3_46.eq_1 := rfl
def L3_47 : List AStep := [⟨.mov (.c (.bool false)), (some 2), none, []⟩]
theorem v3_47 : VS L3_47.eq_1 := rfl
def L3_48 : List AStep := [⟨.bin .neq (.t 66) (.t 67), (some 68), none, []⟩]
theorem v3_48 : VS L3_48.eq_1 := rfl
def L3_49 : List AStep := ⟨.mov (.t 9), (some 66), none, []⟩ :: ⟨.mov (.t 8), (some 67), none, []⟩ :: L3_48
theorem v3_49 : VS L3_49.eq_1 := rfl
def L3_50 : List AStep := [⟨.mov (.c (.bool false)), (some 2), none, []⟩]
theorem v3_50 : VS L3_50.eq_1 := rfl
def L3_51 : List AStep := [⟨.mov (.c (.bool true)), (some 2), none, []⟩]
theorem v3_51 : VS L3_51.eq_1 := rfl
def C3_0 : ACode := .seq (.reg L3_5) .ret
theorem u3_0 : VC C3_0.eq_1 := rfl
def C3_1 : ACode := .cond (.t 15) C3_0 .skip
theorem u3_1 : VC C3_1.eq_1 := rfl
def C3_2 : ACode := .seq (.reg L3_4) C3_1
theorem u3_2 : VC C3_2.eq_1 := rfl
def C3_3 : ACode := .seq (.reg L3_14) .ret
theorem u3_3 : VC C3_3.eq_1 := rfl
def C3_4 : ACode := .cond (.t 26) C3_3 .skip
theorem u3_4 : VC C3_4.eq_1 := rfl
def C3_5 : ACode := .seq (.reg L3_13) C3_4
theorem u3_5 : VC C3_5.eq_1 := rfl
def C3_6 : ACode := .seq (.reg L3_18) .ret
theorem u3_6 : VC C3_6.eq_1 := rfl
def C3_7 : ACode := .cond (.t 31) C3_6 .skip
theorem u3_7 : VC C3_7.eq_1 := rfl
def C3_8 : ACode := .seq (.reg L3_17) C3_7
theorem u3_8 : VC C3_8.eq_1 := rfl
def C3_9 : ACode := .seq (.reg L3_26) .ret
theorem u3_9 : VC C3_9.eq_1 := rfl
def C3_10 : ACode := .cond (.t 42) C3_9 .skip
theorem u3_10 : VC C3_10.eq_1 := rfl
def C3_11 : ACode := .seq (.reg L3_25) C3_10
theorem u3_11 : VC C3_11.eq_1 := rfl
def C3_12 : ACode := .seq (.reg L3_34) .ret
theorem u3_12 : VC C3_12.eq_1 := rfl
def C3_13 : ACode := .cond (.t 50) C3_12 .skip
theorem u3_13 : VC C3_13.eq_1 := rfl
def C3_14 : ACode := .seq (.reg L3_33) C3_13
theorem u3_14 : VC C3_14.eq_1 := rfl
def C3_15 : ACode := .seq (.reg L3_37) .ret
theorem u3_15 : VC C3_15.eq_1 := rfl
def C3_16 : ACode := .cond (.t 53) C3_15 .skip
theorem u3_16 : VC C3_16.eq_1 := rfl
def C3_17 : ACode := .seq (.reg L3_36) C3_16
theorem u3_17 : VC C3_17.eq_1 := rfl
def C3_18 : ACode := .seq (.reg L3_42) .ret
theorem u3_18 : VC C3_18.eq_1 := rfl
def C3_19 : ACode := .cond (.t 60) C3_18 .skip
theorem u3_19 : VC C3_19.eq_1 := rfl
def C3_20 : ACode := .seq (.reg L3_41) C3_19
theorem u3_20 : VC C3_20.eq_1 := rfl
def C3_21 : ACode := .seq (.reg L3_47) .ret
theorem u3_21 : VC C3_21.eq_1 := rfl
def C3_22 : ACode := .cond (.t 65) C3_21 .skip
theorem u3_22 : VC C3_22.eq_1 := rfl
def C3_23 : ACode := .seq (.reg L3_46) C3_22
theorem u3_23 : VC C3_23.eq_1 := rfl
def C3_24 : ACode := .seq (.reg L3_50) .ret
theorem u3_24 : VC C3_24.eq_1 := rfl
def C3_25 : ACode := .cond (.t 68) C3_24 .skip
theorem u3_25 : VC C3_25.eq_1 := rfl
def C3_26 : ACode := .seq (.reg L3_49) C3_25
theorem u3_26 : VC C3_26.eq_1 := rfl
def C3_27 : ACode := .seq (.reg L3_51) .ret
theorem u3_27 : VC C3_27.eq_1 := rfl
def C3_28 : ACode := .seq C3_26 C3_27
theorem u3_28 : VC C3_28.eq_1 := rfl
def C3_29 : ACode := .seq C3_23 C3_28
theorem u3_29 : VC C3_29.eq_1 := rfl
def C3_30 : ACode := .seq (.reg L3_45) C3_29
theorem u3_30 : VC C3_30.eq_1 := rfl
def C3_31 : ACode := .seq (.reg L3_43) C3_30
theorem u3_31 : VC C3_31.eq_1 := rfl
def C3_32 : ACode := .seq C3_20 C3_31
theorem u3_32 : VC C3_32.eq_1 := rfl
def C3_33 : ACode := .seq (.reg L3_39) C3_32
theorem u3_33 : VC C3_33.eq_1 := rfl
def C3_34 : ACode := .seq C3_17 C3_33
theorem u3_34 : VC C3_34.eq_1 := rfl
def C3_35 : ACode := .seq C3_14 C3_34
theorem u3_35 : VC C3_35.eq_1 := rfl
def C3_36 : ACode := .seq (.reg L3_32) C3_35
theorem u3_36 : VC C3_36.eq_1 := rfl
def C3_37 : ACode := .seq (.reg L3_30) C3_36
theorem u3_37 : VC C3_37.eq_1 := rfl
def C3_38 : ACode := .seq (.reg L3_29) C3_37
theorem u3_38 : VC C3_38.eq_1 := rfl
def C3_39 : ACode := .seq (.reg L3_27) C3_38
theorem u3_39 : VC C3_39.eq_1 := rfl
def C3_40 : ACode := .seq C3_11 C3_39
theorem u3_40 : VC C3_40.eq_1 := rfl
def C3_41 : ACode := .seq (.reg L3_21) C3_40
theorem u3_41 : VC C3_41.eq_1 := rfl
def C3_42 : ACode := .seq (.reg L3_19) C3_41
theorem u3_42 : VC C3_42.eq_1 := rfl
def C3_43 : ACode := .seq C3_8 C3_42
theorem u3_43 : VC C3_43.eq_1 := rfl
def C3_44 : ACode := .seq C3_5 C3_43
theorem u3_44 : VC C3_44.eq_1 := rfl
def C3_45 : ACode := .seq (.reg L3_11) C3_44
theorem u3_45 : VC C3_45.eq_1 := rfl
def C3_46 : ACode := .seq (.reg L3_9) C3_45
theorem u3_46 : VC C3_46.eq_1 := rfl
def C3_47 : ACode := .seq (.reg L3_7) C3_46
theorem u3_47 : VC C3_47.eq_1 := rfl
def C3_48 : ACode := .seq C3_2 C3_47
theorem u3_48 : VC C3_48.eq_1 := rfl
def C3_49 : ACode := .seq (.reg L3_3) C3_48
theorem u3_49 : VC C3_49.eq_1 := rfl
def C3_50 : ACode := .seq (.reg L3_1) C3_49
theorem u3_50 : VC C3_50.eq_1 := rfl
def C3_51 : ACode := .seq (.reg L3_0) C3_50
theorem u3_51 : VC C3_51.eq_1 := rfl
def F3 : AFunc := ⟨69, [.tmp 2], C3_51⟩
theorem cF3 : compB Try.prog 3 = some F3 := by kernel_rfl
attribute [local go_sem ↓] u3_0 u3_1 u3_2 u3_3 u3_4 u3_5 u3_6 u3_7 u3_8 u3_9 u3_10 u3_11 u3_12 u3_13 u3_14 u3_15 u3_16 u3_17 u3_18 u3_19 u3_20 u3_21 u3_22 u3_23 u3_24 u3_25 u3_26 u3_27 u3_28 u3_29 u3_30 u3_31 u3_32 u3_33 u3_34 u3_35 u3_36 u3_37 u3_38 u3_39 u3_40 u3_41 u3_42 u3_43 u3_44 u3_45 u3_46 u3_47 u3_48 u3_49 u3_50 u3_51 v3_0 v3_1 v3_2 v3_3 v3_4 v3_5 v3_6 v3_7 v3_8 v3_9 v3_10 v3_11 v3_12 v3_13 v3_14 v3_15 v3_16 v3_17 v3_18 v3_19 v3_20 v3_21 v3_22 v3_23 v3_24 v3_25 v3_26 v3_27 v3_28 v3_29 v3_30 v3_31 v3_32 v3_33 v3_34 v3_35 v3_36 v3_37 v3_38 v3_39 v3_40 v3_41 v3_42 v3_43 v3_44 v3_45 v3_46 v3_47 v3_48 v3_49 v3_50 v3_51
theorem law3 (h : H) (avs : List AV) (hok : okVs Try.prog h 6 [ 30 ] avs) : callK (bm Try.prog 3 avs h) fun r _ => r = ib true := by
  obtain ⟨v0, avs, rfl, hv0, hok⟩ := okVs_cons hok
  obtain rfl := okVs_nil hok
  obtain ⟨c0, p0, n0, x0, rfl, d0⟩ := dD hv0
  refine bm_of cF3 ?_
  have z0 := k_szD x0 c0 p0 n0 1048576 h (by omega) (by omega) d0
  by_cases y0 : szr 1048576 (wtD x0) < 0
  · simp +contextual (maxSteps := 2000000) only [go_sem, Nat.reduceEqDiff, reduceCtorEq, Nat.reduceAdd, Nat.reduceLeDiff, F3, z0, decide_eq_true y0]
  obtain ⟨e0, u0⟩ := szr_ge y0
  have s0 : miniD x0 := wtD_sm (by omega)
  have hR : miniZ (freeAll x0.sig x0.flat) := .free
  simp +contextual (maxSteps := 2000000) only [go_sem, Nat.reduceEqDiff, reduceCtorEq, Nat.reduceAdd, Nat.reduceLeDiff, F3, z0, decide_eq_false y0]
  refine wp_call (k_toD x0 c0 p0 n0 h (d0.grow (Grow.refl h)) s0) ?_
  rintro r h1 ⟨g1, c0a, p0a, n0a, rfl, a0a⟩
  simp +contextual (maxSteps := 2000000) only [go_sem, Nat.reduceEqDiff, reduceCtorEq, Nat.reduceAdd, Nat.reduceLeDiff]
  refine wp_call (k_sFreeParams x0 c0a p0a n0a h1 (a0a.sl) s0) ?_
  rintro r h2 ⟨g2, pw, rfl, w0⟩
  simp +contextual (maxSteps := 2000000) only [go_sem, Nat.reduceEqDiff, reduceCtorEq, Nat.reduceAdd, Nat.reduceLeDiff]
  refine wp_call (k_toD x0 c0 p0 n0 h2 (d0.grow (((Grow.refl h).trans g1).trans g2)) s0) ?_
  rintro r h3 ⟨g3, c0b, p0b, n0b, rfl, a0b⟩
  simp +contextual (maxSteps := 2000000) only [go_sem, Nat.reduceEqDiff, reduceCtorEq, Nat.reduceAdd, Nat.reduceLeDiff]
  refine wp_call (k_iFreeParams x0 c0b p0b n0b h3 (a0b.sl) s0) ?_
  rintro r h4 ⟨g4, pg, rfl, b0⟩
  have q0 := k_eqZ (freeAll x0.sig x0.flat) (freeAll x0.sig x0.flat) pg pw h4 (b0.sl) (w0.sl.grow (g3.trans g4)) hR
  simp +contextual (maxSteps := 2000000) only [go_sem, Nat.reduceEqDiff, reduceCtorEq, Nat.reduceAdd, Nat.reduceLeDiff, q0, decide_true]
  refine wp_call (k_toD x0 c0 p0 n0 h4 (d0.grow (((((Grow.refl h).trans g1).trans g2).trans g3).trans g4)) s0) ?_
  rintro r h5 ⟨g5, c0c, p0c, n0c, rfl, a0c⟩
  have q1 := k_eqD x0 x0 c0b p0b n0b c0c p0c n0c h5 (a0b.sl.grow (g4.trans g5)) a0c.sl s0
  simp +contextual (maxSteps := 2000000) only [go_sem, Nat.reduceEqDiff, reduceCtorEq, Nat.reduceAdd, Nat.reduceLeDiff, q1, decide_true]
  have k0 := cellsD_le s0
  have G8 : Grow h2 h5 := ((g3.trans g4).trans g5)
  refine wp_call (k_markD x0 c0b p0b n0b 1 h2 h3 h5 ((a0b.grow (g4.trans g5))) a0b G8 (by omega) (by omega) s0) ?_
  rintro r h6 ⟨rfl, G80, m0, N0⟩
  have M0 := N0
  have b1 := (b0.grow g5).mid M0 (Nat.le_refl _)
  have w1 := w0.grow G80
  have qa := k_eqZ (freeAll x0.sig x0.flat) (freeAll x0.sig x0.flat) pg pw h6 (b1.sl) (w1.sl) hR
  simp +contextual (maxSteps := 2000000) only [go_sem, Nat.reduceEqDiff, reduceCtorEq, Nat.reduceAdd, Nat.reduceLeDiff, qa, decide_true, decide_eq_false (show ¬ ((1 : Int) + (cellsD x0 : Nat) < 0) by omega)]
  have kr := cellsZ_le hR
  have lh : h2.n ≤ h3.n := g3.n
  refine wp_call (k_markZ (freeAll x0.sig x0.flat) pg 1 h2 h4 h6 (b1.from lh) (b0.from lh) G80 (by omega) (by omega) hR) ?_
  rintro r h7 ⟨rfl, Gm, mr, Mr⟩
  have qh := k_heldZ (freeAll x0.sig x0.flat) pg 1 h7 mr (by omega) (by omega) hR
  simp +contextual (maxSteps := 2000000) only [go_sem, Nat.reduceEqDiff, reduceCtorEq, Nat.reduceAdd, Nat.reduceLeDiff, qh, decide_true, decide_eq_false (show ¬ ((1 : Int) + (cellsZ (freeAll x0.sig x0.flat) : Nat) < 0) by omega)]
  have H1 : Grow h h7 := (((Grow.refl h).trans g1).trans g2).trans Gm
  refine wp_call (k_toD x0 c0 p0 n0 h7 (d0.grow H1) s0) ?_
  rintro r h8 ⟨g8, c0d, p0d, n0d, rfl, a0d⟩
  simp +contextual (maxSteps := 2000000) only [go_sem, Nat.reduceEqDiff, reduceCtorEq, Nat.reduceAdd, Nat.reduceLeDiff]
  refine wp_call (k_iFreeParams x0 c0d p0d n0d h8 (a0d.sl) s0) ?_
  rintro r h9 ⟨g9, py, rfl, b2⟩
  have G9 : Grow h7 h9 := (g8.trans g9)
  have qz := k_eqZ (freeAll x0.sig x0.flat) (freeAll x0.sig x0.flat) py pw h9 (b2.sl) ((w0.grow (Gm.trans G9)).sl) hR
  have qy := k_heldZ (freeAll x0.sig x0.flat) pg 1 h9 (mr.grow G9) (by omega) (by omega) hR
  simp +contextual (maxSteps := 2000000) only [go_sem, Nat.reduceEqDiff, reduceCtorEq, Nat.reduceAdd, Nat.reduceLeDiff, qz, qy, decide_true, decide_eq_false (show ¬ ((1 : Int) + (cellsZ (freeAll x0.sig x0.flat) : Nat) < 0) by omega)]
  exact gcK_of rfl (fun _ _ => rfl)
end Go.Proofs.Ytdalgphpacikkab.Am
