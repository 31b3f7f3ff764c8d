/- Contracts of the program: signatures that are valid. -/
import Derived.Test.YtekkimfdcbgcoabA3
namespace Go.Proofs.Ytekkimfdcbgcoab.Am
open Go
set_option maxRecDepth 100000
set_option maxHeartbeats 4000000
set_option linter.unusedSimpArgs false
set_option linter.unusedVariables false
attribute [local go_sem ↓] bv_t bv_c ev_t ev_c put_same put_ne put_none kill_at pro_at lb_same lb_ne start_zero start_succ wpC_seq wpC_reg wpC_cond wpC_block wpC_skip wpC_exit wpC_ret thenQ_normal thenQ_exit thenQ_ret inBlk_normal inBlk_exit inBlk_ret wpS_nil wpS_step wpS_again wpS_guard wpO_mov wpO_load wpO_faddr wpO_nilCheck wpO_pick wpO_build wpO_bin wpO_eqb wpO_eqst wpO_eqnil wpO_not wpO_conv wpO_bytesStr wpO_iaddr wpO_idxStr wpO_field wpO_extract wpO_len wpO_lenStr wpO_cap wpO_min wpO_slice wpO_sliceStr wpO_alloc wpO_box wpO_store wpO_call wpO_callv wpO_mkfn wpO_buildSlice wpO_mkslice wpO_append wpO_appz proA_nil proA_cons tmpX_nil tmpX_tmp tmpX_cell doneB_normal doneB_ret agK_cons agK_nil agK_guard agG_tt agG_ff agG_tf agG_ft agG_undef pureB_load results_one results_two results_nil resBs_cons resBs_nil resB_tmp resB_cell
attribute [local go_sem] kill_v kill_lp_ne kill_lp_same pro_v pro_lp_same pro_lp_ne av_v av_lp optB_some optX_some valX_eq ldX_lp ldX_v faX_lp faX_v ncX_lp ncX_ptr ncX_fn boxK_one boxK_agg stL_some stK_lp_one stK_lp_agg stK_v_one stK_v_agg proM_v proM_lp callG_mk callVG_mk callvK_fn fnG_mk ptrsA_nil ptrsA_cons callH_some whenA_true whenA_false guardH_tt guardH_ff guardH_tf guardH_ft guardH_undef agV_one agV_agg lenO_sl lenStrO_str notO_bool pickO_bool convO_int eqbO_bool eqnilO_sl extractO_tup capO_sl minO_int loadL_one loadL_all storeL_eq fillA_nil fillA_one fillA_agg nat_ge neg_ge nat_lt neg_lt buildO bin_add bin_sub bin_mul bin_eql bin_neq bin_lss bin_leq bin_gtr bin_geq str_eql str_neq str_lss str_leq str_gtr str_geq retK_some endK_mk gcK_same gcK_int gcK_bool tupO_one tupO_agg rdy_self ib ii Option.map_none Option.map_some Option.some.injEq exists_eq_left' exists_eq_left ne_eq not_false_eq_true if_true if_false List.map_cons List.map_nil List.getElem?_cons_zero List.getElem?_cons_succ List.length_cons List.length_nil List.take_succ_cons List.take_zero List.take_nil List.drop_succ_cons List.drop_zero List.drop_nil List.cons_append List.nil_append List.append_nil List.set_cons_zero List.set_cons_succ Nat.zero_add forall_const true_and and_true and_self Bool.false_eq_true false_implies true_implies implies_true Bool.not_true Bool.not_false Bool.not_eq_true' Bool.not_eq_false' beq_self_eq_true Bool.bne_true Bool.bne_false
attribute [local go_sem] lenI lenS lenP lenQ lenB lenL lenT encI_0 encS_0 encP_0 encP_1 encQ_0 encQ_1 encQ_2 encQ_3 encB_0 encB_1 encL_0 encL_1 encT_0 encT_1
attribute [local go_sem low] whenA_bool guardH_bool
/-! impl.ValidSignature -/
def L31_0 : List AStep := [⟨.box 25 (.t 0), (some 1), none, []⟩, ⟨.mov (.c (.bool false)), (some 2), none, []⟩]
theorem v31_0 : VS L31_0.eq_1 := rfl
def L31_1 : List AStep := [⟨.mov (.c (.bool false)), (some 3), none, []⟩]
theorem v31_1 : VS L31_1.eq_1 := rfl
def L31_2 : List AStep := [⟨.len (.t 8), (some 9), none, []⟩, ⟨.mov (.c (.int .i64 0)), (some 10), none, []⟩]
theorem v31_2 : VS L31_2.eq_1 := rfl
def L31_3 : List AStep := ⟨.faddr 0 (.t 1), (some 7), none, []⟩ :: ⟨.load 1 false (.t 7), (some 8), none, []⟩ :: L31_2
theorem v31_3 : VS L31_3.eq_1 := rfl
def L31_4 : List AStep := [⟨.bin .lss (.t 10) (.t 9), (some 11), none, []⟩]
theorem v31_4 : VS L31_4.eq_1 := rfl
def L31_5 : List AStep := [⟨.mov (.t 12), (some 4), none, []⟩, ⟨.store 4 (.t 5) (.t 14), none, none, []⟩]
theorem v31_5 : VS L31_5.eq_1 := rfl
def L31_6 : List AStep := ⟨.load 4 true (.t 13), (some 14), none, []⟩ :: ⟨.alloc 39 [(.str (strOfNums [])), (.int .i64 0), (.bool false), (.int .i64 0)], (some 5), none, []⟩ :: L31_5
theorem v31_6 : VS L31_6.eq_1 := rfl
def L31_7 : List AStep := ⟨.mov (.t 10), (some 12), none, []⟩ :: ⟨.iaddr 4 (.t 8) (.t 10), (some 13), none, []⟩ :: L31_6
theorem v31_7 : VS L31_7.eq_1 := rfl
def L31_8 : List AStep := [⟨.pick (.t 41) (.c (.bool true)) (.t 48), (some 49), none, []⟩]
theorem v31_8 : VS L31_8.eq_1 := rfl
def L31_9 : List AStep := ⟨.not (.t 46), (some 47), (some (44, true)), []⟩ :: ⟨.pick (.t 44) (.t 47) (.c (.bool false)), (some 48), (some (41, false)), []⟩ :: L31_8
theorem v31_9 : VS L31_9.eq_1 := rfl
def L31_10 : List AStep := ⟨.load 4 true (.t 5), (some 45), (some (44, true)), []⟩ :: ⟨.call 76 [(.t 45)], (some 46), (some (44, true)), []⟩ :: L31_9
theorem v31_10 : VS L31_10.eq_1 := rfl
def L31_11 : List AStep := ⟨.load 1 false (.t 42), (some 43), (some (41, false)), []⟩ :: ⟨.mov (.t 43), (some 44), (some (41, false)), []⟩ :: L31_10
theorem v31_11 : VS L31_11.eq_1 := rfl
def L31_12 : List AStep := ⟨.mov (.t 40), (some 41), none, []⟩ :: ⟨.faddr 2 (.t 5), (some 42), (some (41, false)), []⟩ :: L31_11
theorem v31_12 : VS L31_12.eq_1 := rfl
def L31_13 : List AStep := ⟨.pick (.t 35) (.t 38) (.c (.bool false)), (some 39), (some (31, false)), []⟩ :: ⟨.pick (.t 31) (.c (.bool true)) (.t 39), (some 40), none, []⟩ :: L31_12
theorem v31_13 : VS L31_13.eq_1 := rfl
def L31_14 : List AStep := ⟨.load 1 false (.t 36), (some 37), (some (35, true)), []⟩ :: ⟨.bin .neq (.t 37) (.c (.int .i64 0)), (some 38), (some (35, true)), []⟩ :: L31_13
theorem v31_14 : VS L31_14.eq_1 := rfl
def L31_15 : List AStep := ⟨.mov (.t 34), (some 35), (some (31, false)), []⟩ :: ⟨.faddr 3 (.t 5), (some 36), (some (35, true)), []⟩ :: L31_14
theorem v31_15 : VS L31_15.eq_1 := rfl
def L31_16 : List AStep := ⟨.load 1 false (.t 32), (some 33), (some (31, false)), []⟩ :: ⟨.not (.t 33), (some 34), (some (31, false)), []⟩ :: L31_15
theorem v31_16 : VS L31_16.eq_1 := rfl
def L31_17 : List AStep := ⟨.mov (.t 30), (some 31), none, []⟩ :: ⟨.faddr 2 (.t 5), (some 32), (some (31, false)), []⟩ :: L31_16
theorem v31_17 : VS L31_17.eq_1 := rfl
def L31_18 : List AStep := ⟨.not (.t 28), (some 29), (some (25, false)), []⟩ :: ⟨.pick (.t 25) (.c (.bool true)) (.t 29), (some 30), none, []⟩ :: L31_17
theorem v31_18 : VS L31_18.eq_1 := rfl
def L31_19 : List AStep := ⟨.load 1 false (.t 26), (some 27), (some (25, false)), []⟩ :: ⟨.call 75 [(.t 27)], (some 28), (some (25, false)), []⟩ :: L31_18
theorem v31_19 : VS L31_19.eq_1 := rfl
def L31_20 : List AStep := ⟨.mov (.t 24), (some 25), none, []⟩ :: ⟨.faddr 3 (.t 5), (some 26), (some (25, false)), []⟩ :: L31_19
theorem v31_20 : VS L31_20.eq_1 := rfl
def L31_21 : List AStep := ⟨.not (.t 22), (some 23), (some (19, false)), []⟩ :: ⟨.pick (.t 19) (.c (.bool true)) (.t 23), (some 24), none, []⟩ :: L31_20
theorem v31_21 : VS L31_21.eq_1 := rfl
def L31_22 : List AStep := ⟨.load 1 false (.t 20), (some 21), (some (19, false)), []⟩ :: ⟨.call 74 [(.t 21), (.c (.int .i64 0)), (.c (.int .i64 4))], (some 22), (some (19, false)), []⟩ :: L31_21
theorem v31_22 : VS L31_22.eq_1 := rfl
def L31_23 : List AStep := ⟨.mov (.t 18), (some 19), none, []⟩ :: ⟨.faddr 1 (.t 5), (some 20), (some (19, false)), []⟩ :: L31_22
theorem v31_23 : VS L31_23.eq_1 := rfl
def L31_24 : List AStep := ⟨.call 68 [(.t 16)], (some 17), none, []⟩ :: ⟨.not (.t 17), (some 18), none, []⟩ :: L31_23
theorem v31_24 : VS L31_24.eq_1 := rfl
def L31_25 : List AStep := ⟨.faddr 0 (.t 5), (some 15), none, []⟩ :: ⟨.load 1 false (.t 15), (some 16), none, []⟩ :: L31_24
theorem v31_25 : VS L31_25.eq_1 := rfl
def L31_26 : List AStep := [⟨.mov (.c (.bool false)), (some 2), none, []⟩]
theorem v31_26 : VS L31_26.eq_1 := rfl
def L31_27 : List AStep := [⟨.load 4 true (.t 5), (some 50), none, []⟩, ⟨.call 51 [(.t 50)], (some 51), none, []⟩]
theorem v31_27 : VS L31_27.eq_1 := rfl
def L31_28 : List AStep := [⟨.not (.t 55), (some 56), (some (53, true)), []⟩, ⟨.pick (.t 53) (.t 56) (.c (.bool false)), (some 57), none, []⟩]
theorem v31_28 : VS L31_28.eq_1 := rfl
def L31_29 : List AStep := ⟨.faddr 2 (.t 5), (some 54), (some (53, true)), []⟩ :: ⟨.load 1 false (.t 54), (some 55), (some (53, true)), []⟩ :: L31_28
theorem v31_29 : VS L31_29.eq_1 := rfl
def L31_30 : List AStep := ⟨.mov (.t 3), (some 52), none, []⟩ :: ⟨.mov (.t 52), (some 53), none, []⟩ :: L31_29
theorem v31_30 : VS L31_30.eq_1 := rfl
def L31_31 : List AStep := [⟨.mov (.c (.bool false)), (some 2), none, []⟩]
theorem v31_31 : VS L31_31.eq_1 := rfl
def L31_32 : List AStep := [⟨.mov (.t 59), (some 3), none, []⟩]
theorem v31_32 : VS L31_32.eq_1 := rfl
def L31_33 : List AStep := ⟨.faddr 2 (.t 5), (some 58), none, []⟩ :: ⟨.load 1 false (.t 58), (some 59), none, []⟩ :: L31_32
theorem v31_33 : VS L31_33.eq_1 := rfl
def L31_34 : List AStep := [⟨.mov (.t 4), (some 60), none, []⟩, ⟨.bin .gtr (.t 60) (.c (.int .i64 0)), (some 61), none, []⟩]
theorem v31_34 : VS L31_34.eq_1 := rfl
def L31_35 : List AStep := [⟨.load 1 false (.t 67), (some 68), none, []⟩, ⟨.mov (.t 68), (some 6), none, []⟩]
theorem v31_35 : VS L31_35.eq_1 := rfl
def L31_36 : List AStep := ⟨.iaddr 4 (.t 63) (.t 65), (some 66), none, []⟩ :: ⟨.faddr 1 (.t 66), (some 67), none, []⟩ :: L31_35
theorem v31_36 : VS L31_36.eq_1 := rfl
def L31_37 : List AStep := ⟨.mov (.t 4), (some 64), none, []⟩ :: ⟨.bin .sub (.t 64) (.c (.int .i64 1)), (some 65), none, []⟩ :: L31_36
theorem v31_37 : VS L31_37.eq_1 := rfl
def L31_38 : List AStep := ⟨.faddr 0 (.t 1), (some 62), none, []⟩ :: ⟨.load 1 false (.t 62), (some 63), none, []⟩ :: L31_37
theorem v31_38 : VS L31_38.eq_1 := rfl
def L31_39 : List AStep := [⟨.pick (.t 73) (.c (.bool true)) (.t 82), (some 83), none, []⟩]
theorem v31_39 : VS L31_39.eq_1 := rfl
def L31_40 : List AStep := ⟨.not (.t 80), (some 81), (some (78, true)), []⟩ :: ⟨.pick (.t 78) (.t 81) (.c (.bool false)), (some 82), (some (73, false)), []⟩ :: L31_39
theorem v31_40 : VS L31_40.eq_1 := rfl
def L31_41 : List AStep := ⟨.load 4 true (.t 5), (some 79), (some (78, true)), []⟩ :: ⟨.call 76 [(.t 79)], (some 80), (some (78, true)), []⟩ :: L31_40
theorem v31_41 : VS L31_41.eq_1 := rfl
def L31_42 : List AStep := ⟨.bin .eql (.t 75) (.t 76), (some 77), (some (73, false)), []⟩ :: ⟨.mov (.t 77), (some 78), (some (73, false)), []⟩ :: L31_41
theorem v31_42 : VS L31_42.eq_1 := rfl
def L31_43 : List AStep := ⟨.load 1 false (.t 74), (some 75), (some (73, false)), []⟩ :: ⟨.mov (.t 6), (some 76), (some (73, false)), []⟩ :: L31_42
theorem v31_43 : VS L31_43.eq_1 := rfl
def L31_44 : List AStep := ⟨.mov (.t 72), (some 73), none, []⟩ :: ⟨.faddr 1 (.t 5), (some 74), (some (73, false)), []⟩ :: L31_43
theorem v31_44 : VS L31_44.eq_1 := rfl
def L31_45 : List AStep := ⟨.mov (.t 6), (some 71), none, []⟩ :: ⟨.bin .lss (.t 70) (.t 71), (some 72), none, []⟩ :: L31_44
theorem v31_45 : VS L31_45.eq_1 := rfl
def L31_46 : List AStep := ⟨.faddr 1 (.t 5), (some 69), none, []⟩ :: ⟨.load 1 false (.t 69), (some 70), none, []⟩ :: L31_45
theorem v31_46 : VS L31_46.eq_1 := rfl
def L31_47 : List AStep := [⟨.mov (.c (.bool false)), (some 2), none, []⟩]
theorem v31_47 : VS L31_47.eq_1 := rfl
def L31_48 : List AStep := [⟨.call 77 [(.t 87), (.t 89)], (some 90), none, []⟩, ⟨.bin .geq (.t 90) (.c (.int .i64 0)), (some 91), none, []⟩]
theorem v31_48 : VS L31_48.eq_1 := rfl
def L31_49 : List AStep := ⟨.faddr 0 (.t 5), (some 88), none, []⟩ :: ⟨.load 1 false (.t 88), (some 89), none, []⟩ :: L31_48
theorem v31_49 : VS L31_49.eq_1 := rfl
def L31_50 : List AStep := ⟨.mov (.t 4), (some 86), none, []⟩ :: ⟨.slice 39 4 (.t 85) none (some (.t 86)) none, (some 87), none, []⟩ :: L31_49
theorem v31_50 : VS L31_50.eq_1 := rfl
def L31_51 : List AStep := ⟨.faddr 0 (.t 1), (some 84), none, []⟩ :: ⟨.load 1 false (.t 84), (some 85), none, []⟩ :: L31_50
theorem v31_51 : VS L31_51.eq_1 := rfl
def L31_52 : List AStep := [⟨.mov (.c (.bool false)), (some 2), none, []⟩]
theorem v31_52 : VS L31_52.eq_1 := rfl
def L31_53 : List AStep := [⟨.bin .add (.t 10) (.c (.int .i64 1)), (some 92), none, []⟩, ⟨.mov (.t 92), (some 10), none, []⟩]
theorem v31_53 : VS L31_53.eq_1 := rfl
def L31_54 : List AStep := [⟨.mov (.t 96), (some 2), none, []⟩]
theorem v31_54 : VS L31_54.eq_1 := rfl
def L31_55 : List AStep := ⟨.len (.t 94), (some 95), none, []⟩ :: ⟨.bin .leq (.t 95) (.c (.int .i64 8)), (some 96), none, []⟩ :: L31_54
theorem v31_55 : VS L31_55.eq_1 := rfl
def L31_56 : List AStep := ⟨.faddr 0 (.t 1), (some 93), none, []⟩ :: ⟨.load 1 false (.t 93), (some 94), none, []⟩ :: L31_55
theorem v31_56 : VS L31_56.eq_1 := rfl
def C31_0 : ACode := .cond (.t 11) .skip (.exit 0)
theorem u31_0 : VC C31_0.eq_1 := rfl
def C31_1 : ACode := .seq (.reg L31_26) .ret
theorem u31_1 : VC C31_1.eq_1 := rfl
def C31_2 : ACode := .cond (.t 49) C31_1 .skip
theorem u31_2 : VC C31_2.eq_1 := rfl
def C31_3 : ACode := .seq (.reg L31_25) C31_2
theorem u31_3 : VC C31_3.eq_1 := rfl
def C31_4 : ACode := .seq (.reg L31_31) .ret
theorem u31_4 : VC C31_4.eq_1 := rfl
def C31_5 : ACode := .cond (.t 57) C31_4 .skip
theorem u31_5 : VC C31_5.eq_1 := rfl
def C31_6 : ACode := .seq (.reg L31_30) C31_5
theorem u31_6 : VC C31_6.eq_1 := rfl
def C31_7 : ACode := .seq C31_6 (.reg L31_33)
theorem u31_7 : VC C31_7.eq_1 := rfl
def C31_8 : ACode := .cond (.t 51) C31_7 .skip
theorem u31_8 : VC C31_8.eq_1 := rfl
def C31_9 : ACode := .seq (.reg L31_27) C31_8
theorem u31_9 : VC C31_9.eq_1 := rfl
def C31_10 : ACode := .seq (.reg L31_47) .ret
theorem u31_10 : VC C31_10.eq_1 := rfl
def C31_11 : ACode := .cond (.t 83) C31_10 .skip
theorem u31_11 : VC C31_11.eq_1 := rfl
def C31_12 : ACode := .seq (.reg L31_46) C31_11
theorem u31_12 : VC C31_12.eq_1 := rfl
def C31_13 : ACode := .seq (.reg L31_38) C31_12
theorem u31_13 : VC C31_13.eq_1 := rfl
def C31_14 : ACode := .cond (.t 61) C31_13 .skip
theorem u31_14 : VC C31_14.eq_1 := rfl
def C31_15 : ACode := .seq (.reg L31_34) C31_14
theorem u31_15 : VC C31_15.eq_1 := rfl
def C31_16 : ACode := .seq (.reg L31_52) .ret
theorem u31_16 : VC C31_16.eq_1 := rfl
def C31_17 : ACode := .cond (.t 91) C31_16 .skip
theorem u31_17 : VC C31_17.eq_1 := rfl
def C31_18 : ACode := .seq (.reg L31_51) C31_17
theorem u31_18 : VC C31_18.eq_1 := rfl
def C31_19 : ACode := .seq C31_15 C31_18
theorem u31_19 : VC C31_19.eq_1 := rfl
def C31_20 : ACode := .seq C31_9 C31_19
theorem u31_20 : VC C31_20.eq_1 := rfl
def C31_21 : ACode := .seq C31_3 C31_20
theorem u31_21 : VC C31_21.eq_1 := rfl
def C31_22 : ACode := .seq (.reg L31_7) C31_21
theorem u31_22 : VC C31_22.eq_1 := rfl
def C31_23 : ACode := .block 1 C31_22
theorem u31_23 : VC C31_23.eq_1 := rfl
def C31_24 : ACode := .seq C31_23 (.reg L31_53)
theorem u31_24 : VC C31_24.eq_1 := rfl
def C31_25 : ACode := .seq C31_0 C31_24
theorem u31_25 : VC C31_25.eq_1 := rfl
def C31_26 : ACode := .seq (.reg L31_4) C31_25
theorem u31_26 : VC C31_26.eq_1 := rfl
def C31_27 : ACode := .block 0 (.loop C31_26)
theorem u31_27 : VC C31_27.eq_1 := rfl
def C31_28 : ACode := .seq (.reg L31_3) C31_27
theorem u31_28 : VC C31_28.eq_1 := rfl
def C31_29 : ACode := .seq (.reg L31_56) .ret
theorem u31_29 : VC C31_29.eq_1 := rfl
def C31_30 : ACode := .seq C31_28 C31_29
theorem u31_30 : VC C31_30.eq_1 := rfl
def C31_31 : ACode := .seq (.reg L31_1) C31_30
theorem u31_31 : VC C31_31.eq_1 := rfl
def C31_32 : ACode := .seq (.reg L31_0) C31_31
theorem u31_32 : VC C31_32.eq_1 := rfl
def F31 : AFunc := ⟨97, [.tmp 2], C31_32⟩
theorem cF31 : compB Try.prog 31 = some F31 := by kernel_rfl
attribute [local go_sem ↓] u31_0 u31_1 u31_2 u31_3 u31_4 u31_5 u31_6 u31_7 u31_8 u31_9 u31_10 u31_11 u31_12 u31_13 u31_14 u31_15 u31_16 u31_17 u31_18 u31_19 u31_20 u31_21 u31_22 u31_23 u31_24 u31_25 u31_26 u31_27 u31_28 u31_29 u31_30 u31_31 u31_32 v31_0 v31_1 v31_2 v31_3 v31_4 v31_5 v31_6 v31_7 v31_8 v31_9 v31_10 v31_11 v31_12 v31_13 v31_14 v31_15 v31_16 v31_17 v31_18 v31_19 v31_20 v31_21 v31_22 v31_23 v31_24 v31_25 v31_26 v31_27 v31_28 v31_29 v31_30 v31_31 v31_32 v31_33 v31_34 v31_35 v31_36 v31_37 v31_38 v31_39 v31_40 v31_41 v31_42 v31_43 v31_44 v31_45 v31_46 v31_47 v31_48 v31_49 v31_50 v31_51 v31_52 v31_53 v31_54 v31_55 v31_56
theorem c_ValidSignature (l : List Param) (pv : CV) (h : H) (hl : SlQ h (.one pv) l) (hn : smQ l) : bm Try.prog 31 [.agg [pv]] h = some (ib (okSig l), h) := by
  refine bm_eq cF31 ?_
  simp +contextual (maxSteps := 2000000) only [go_sem, Nat.reduceEqDiff, reduceCtorEq, Nat.reduceAdd, Nat.reduceLeDiff, F31, hl.len]
  refine wpC_loop (fun i T L h' => h' = h ∧ T 1 = .lp 1 0 ∧ (L 1).2 = [pv] ∧ T 3 = .v (.one (.bool (optAt l i))) ∧ T 8 = .v (.one pv) ∧ T 9 = .v (.one (.int .i64 l.length)) ∧ T 10 = .v (.one (.int .i64 i)) ∧ Upto (stepAt l) i) l.length ?_ ?_ (Nat.zero_le _) ?_
  · rintro i T L h' hi ⟨rfl, t1, l1, t3, t8, t9, t10, hu⟩
    obtain ⟨v', e1, s1⟩ := hl.takeO (i := i) (by omega) (kd := .i64)
    have e2 : decide (paramAt (l.take i) l[i].name ≥ 0) = !(newAt Param.name l i) := newAt_ge hi
    have e3 := stepI_eq hi hu
    have e5 := optAt_next hi
    cases i with
    | zero =>
      have e4 : decide (((0 : Nat) : Int) > 0) = false := rfl
      rw [stepI_zero hi] at e3
      simp +contextual (maxSteps := 2000000) only [go_sem, Nat.reduceEqDiff, reduceCtorEq, Nat.reduceAdd, Nat.reduceLeDiff, e2, e4, e5, optAt, t1, l1, t3, t8, t9, t10, hl.iaddr hi, hl.whole hi, lt_true hi, e1, c_isName _ _ (hn.at hi), c_in, c_isValue, c_single, c_placed, c_find _ _ _ _ s1 (hn.take _)]
      (repeat' (first | refine And.intro ?_ ?_ | intro _)) <;> first | rfl | rw [wrap_next hi hn.len] | exact hu.next (by rw [← e3]; simp_all [okParam]) | (rw [okSig_not hi (by rw [← e3]; simp_all [okParam] <;> (intros; omega))]) | simp_all
    | succ j =>
      have e4 : decide (((j + 1 : Nat) : Int) > 0) = true := decide_eq_true (by omega)
      have hj : j < l.length := by omega
      rw [stepI_succ hi] at e3
      simp +contextual (maxSteps := 2000000) only [go_sem, Nat.reduceEqDiff, reduceCtorEq, Nat.reduceAdd, Nat.reduceLeDiff, e2, e4, e5, t1, l1, t3, t8, t9, t10, hl.iaddr hi, hl.whole hi, lt_true hi, e1, c_isName _ _ (hn.at hi), c_in, c_isValue, c_single, c_placed, c_find _ _ _ _ s1 (hn.take _), wrap_pred (show j < 2 ^ 62 from Nat.lt_trans (Nat.lt_succ_self j) (Nat.lt_trans hi hn.len)), hl.iaddr hj, hl.fieldO hj]
      (repeat' (first | refine And.intro ?_ ?_ | intro _)) <;> first | rfl | rw [wrap_next hi hn.len] | exact hu.next (by rw [← e3]; simp_all [okParam]) | (rw [okSig_not hi (by rw [← e3]; simp_all [okParam] <;> (intros; omega))]) | simp_all
  · rintro T L h' ⟨rfl, t1, l1, t3, t8, t9, t10, hu⟩
    simp +contextual (maxSteps := 2000000) only [go_sem, Nat.reduceEqDiff, reduceCtorEq, Nat.reduceAdd, Nat.reduceLeDiff, t1, l1, t8, t9, t10, hl.len, lt_false, okSig_of hu]
  · simp +contextual (maxSteps := 2000000) only [go_sem, Nat.reduceEqDiff, reduceCtorEq, Nat.reduceAdd, Nat.reduceLeDiff, optAt]
    (repeat' (first | refine And.intro ?_ ?_ | intro _)) <;> first | rfl | exact Upto.zero
end Go.Proofs.Ytekkimfdcbgcoab.Am
