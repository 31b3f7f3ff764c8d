/- Contracts of the program: signatures that are valid. -/
import Derived.Test.YtekkimfdcbgcoacA3
namespace Go.Proofs.Ytekkimfdcbgcoac.Am
open Go
set_option maxRecDepth 100000
set_option maxHeartbeats 4000000
set_option linter.unusedSimpArgs false
set_option linter.unusedVariables false
attribute [local go_sem ↓] bv_t bv_c ev_t ev_c put_same put_ne put_none kill_at pro_at lb_same lb_ne start_zero start_succ wpC_seq wpC_reg wpC_cond wpC_block wpC_skip wpC_exit wpC_ret thenQ_normal thenQ_exit thenQ_ret inBlk_normal inBlk_exit inBlk_ret wpS_nil wpS_step wpS_again wpS_guard wpO_mov wpO_load wpO_faddr wpO_nilCheck wpO_pick wpO_build wpO_bin wpO_eqb wpO_eqst wpO_eqnil wpO_not wpO_conv wpO_bytesStr wpO_iaddr wpO_idxStr wpO_field wpO_extract wpO_len wpO_lenStr wpO_cap wpO_min wpO_slice wpO_sliceStr wpO_alloc wpO_box wpO_store wpO_call wpO_callv wpO_mkfn wpO_buildSlice wpO_mkslice wpO_append wpO_appz proA_nil proA_cons tmpX_nil tmpX_tmp tmpX_cell doneB_normal doneB_ret agK_cons agK_nil agK_guard agG_tt agG_ff agG_tf agG_ft agG_undef pureB_load results_one results_two results_nil resBs_cons resBs_nil resB_tmp resB_cell
attribute [local go_sem] kill_v kill_lp_ne kill_lp_same pro_v pro_lp_same pro_lp_ne av_v av_lp optB_some optX_some valX_eq ldX_lp ldX_v faX_lp faX_v ncX_lp ncX_ptr ncX_fn boxK_one boxK_agg stL_some stK_lp_one stK_lp_agg stK_v_one stK_v_agg proM_v proM_lp callG_mk callVG_mk callvK_fn fnG_mk ptrsA_nil ptrsA_cons callH_some whenA_true whenA_false guardH_tt guardH_ff guardH_tf guardH_ft guardH_undef agV_one agV_agg lenO_sl lenStrO_str notO_bool pickO_bool convO_int eqbO_bool eqnilO_sl extractO_tup capO_sl minO_int loadL_one loadL_all storeL_eq fillA_nil fillA_one fillA_agg nat_ge neg_ge nat_lt neg_lt buildO bin_add bin_sub bin_mul bin_eql bin_neq bin_lss bin_leq bin_gtr bin_geq str_eql str_neq str_lss str_leq str_gtr str_geq retK_some endK_mk gcK_same gcK_int gcK_bool tupO_one tupO_agg rdy_self ib ii Option.map_none Option.map_some Option.some.injEq exists_eq_left' exists_eq_left ne_eq not_false_eq_true if_true if_false List.map_cons List.map_nil List.getElem?_cons_zero List.getElem?_cons_succ List.length_cons List.length_nil List.take_succ_cons List.take_zero List.take_nil List.drop_succ_cons List.drop_zero List.drop_nil List.cons_append List.nil_append List.append_nil List.set_cons_zero List.set_cons_succ Nat.zero_add forall_const true_and and_true and_self Bool.false_eq_true false_implies true_implies implies_true Bool.not_true Bool.not_false Bool.not_eq_true' Bool.not_eq_false' beq_self_eq_true Bool.bne_true Bool.bne_false
attribute [local go_sem] lenI lenS lenP lenQ lenB lenL lenT encI_0 encS_0 encP_0 encP_1 encQ_0 encQ_1 encQ_2 encQ_3 encB_0 encB_1 encL_0 encL_1 encT_0 encT_1
attribute [local go_sem low] whenA_bool guardH_bool
/-! impl.ValidSignature -/
def L27_0 : List AStep := [⟨.box 25 (.t 0), (some 1), none, []⟩, ⟨.mov (.c (.bool false)), (some 2), none, []⟩]
theorem v27_0 : VS L27_0.eq_1 := rfl
def L27_1 : List AStep := [⟨.mov (.c (.bool false)), (some 3), none, []⟩]
theorem v27_1 : VS L27_1.eq_1 := rfl
def L27_2 : List AStep := [⟨.len (.t 8), (some 9), none, []⟩, ⟨.mov (.c (.int .i64 0)), (some 10), none, []⟩]
theorem v27_2 : VS L27_2.eq_1 := rfl
def L27_3 : List AStep := ⟨.faddr 0 (.t 1), (some 7), none, []⟩ :: ⟨.load 1 false (.t 7), (some 8), none, []⟩ :: L27_2
theorem v27_3 : VS L27_3.eq_1 := rfl
def L27_4 : List AStep := [⟨.bin .lss (.t 10) (.t 9), (some 11), none, []⟩]
theorem v27_4 : VS L27_4.eq_1 := rfl
def L27_5 : List AStep := [⟨.mov (.t 12), (some 4), none, []⟩, ⟨.store 4 (.t 5) (.t 14), none, none, []⟩]
theorem v27_5 : VS L27_5.eq_1 := rfl
def L27_6 : List AStep := ⟨.load 4 true (.t 13), (some 14), none, []⟩ :: ⟨.alloc 44 [(.str (strOfNums [])), (.int .i64 0), (.bool false), (.int .i64 0)], (some 5), none, []⟩ :: L27_5
theorem v27_6 : VS L27_6.eq_1 := rfl
def L27_7 : List AStep := ⟨.mov (.t 10), (some 12), none, []⟩ :: ⟨.iaddr 4 (.t 8) (.t 10), (some 13), none, []⟩ :: L27_6
theorem v27_7 : VS L27_7.eq_1 := rfl
def L27_8 : List AStep := [⟨.pick (.t 41) (.c (.bool true)) (.t 48), (some 49), none, []⟩]
theorem v27_8 : VS L27_8.eq_1 := rfl
def L27_9 : List AStep := ⟨.not (.t 46), (some 47), (some (44, true)), []⟩ :: ⟨.pick (.t 44) (.t 47) (.c (.bool false)), (some 48), (some (41, false)), []⟩ :: L27_8
theorem v27_9 : VS L27_9.eq_1 := rfl
def L27_10 : List AStep := ⟨.load 4 true (.t 5), (some 45), (some (44, true)), []⟩ :: ⟨.call 69 [(.t 45)], (some 46), (some (44, true)), []⟩ :: L27_9
theorem v27_10 : VS L27_10.eq_1 := rfl
def L27_11 : List AStep := ⟨.load 1 false (.t 42), (some 43), (some (41, false)), []⟩ :: ⟨.mov (.t 43), (some 44), (some (41, false)), []⟩ :: L27_10
theorem v27_11 : VS L27_11.eq_1 := rfl
def L27_12 : List AStep := ⟨.mov (.t 40), (some 41), none, []⟩ :: ⟨.faddr 2 (.t 5), (some 42), (some (41, false)), []⟩ :: L27_11
theorem v27_12 : VS L27_12.eq_1 := rfl
def L27_13 : List AStep := ⟨.pick (.t 35) (.t 38) (.c (.bool false)), (some 39), (some (31, false)), []⟩ :: ⟨.pick (.t 31) (.c (.bool true)) (.t 39), (some 40), none, []⟩ :: L27_12
theorem v27_13 : VS L27_13.eq_1 := rfl
def L27_14 : List AStep := ⟨.load 1 false (.t 36), (some 37), (some (35, true)), []⟩ :: ⟨.bin .neq (.t 37) (.c (.int .i64 0)), (some 38), (some (35, true)), []⟩ :: L27_13
theorem v27_14 : VS L27_14.eq_1 := rfl
def L27_15 : List AStep := ⟨.mov (.t 34), (some 35), (some (31, false)), []⟩ :: ⟨.faddr 3 (.t 5), (some 36), (some (35, true)), []⟩ :: L27_14
theorem v27_15 : VS L27_15.eq_1 := rfl
def L27_16 : List AStep := ⟨.load 1 false (.t 32), (some 33), (some (31, false)), []⟩ :: ⟨.not (.t 33), (some 34), (some (31, false)), []⟩ :: L27_15
theorem v27_16 : VS L27_16.eq_1 := rfl
def L27_17 : List AStep := ⟨.mov (.t 30), (some 31), none, []⟩ :: ⟨.faddr 2 (.t 5), (some 32), (some (31, false)), []⟩ :: L27_16
theorem v27_17 : VS L27_17.eq_1 := rfl
def L27_18 : List AStep := ⟨.not (.t 28), (some 29), (some (25, false)), []⟩ :: ⟨.pick (.t 25) (.c (.bool true)) (.t 29), (some 30), none, []⟩ :: L27_17
theorem v27_18 : VS L27_18.eq_1 := rfl
def L27_19 : List AStep := ⟨.load 1 false (.t 26), (some 27), (some (25, false)), []⟩ :: ⟨.call 72 [(.t 27)], (some 28), (some (25, false)), []⟩ :: L27_18
theorem v27_19 : VS L27_19.eq_1 := rfl
def L27_20 : List AStep := ⟨.mov (.t 24), (some 25), none, []⟩ :: ⟨.faddr 3 (.t 5), (some 26), (some (25, false)), []⟩ :: L27_19
theorem v27_20 : VS L27_20.eq_1 := rfl
def L27_21 : List AStep := ⟨.not (.t 22), (some 23), (some (19, false)), []⟩ :: ⟨.pick (.t 19) (.c (.bool true)) (.t 23), (some 24), none, []⟩ :: L27_20
theorem v27_21 : VS L27_21.eq_1 := rfl
def L27_22 : List AStep := ⟨.load 1 false (.t 20), (some 21), (some (19, false)), []⟩ :: ⟨.call 71 [(.t 21), (.c (.int .i64 0)), (.c (.int .i64 4))], (some 22), (some (19, false)), []⟩ :: L27_21
theorem v27_22 : VS L27_22.eq_1 := rfl
def L27_23 : List AStep := ⟨.mov (.t 18), (some 19), none, []⟩ :: ⟨.faddr 1 (.t 5), (some 20), (some (19, false)), []⟩ :: L27_22
theorem v27_23 : VS L27_23.eq_1 := rfl
def L27_24 : List AStep := ⟨.call 70 [(.t 16)], (some 17), none, []⟩ :: ⟨.not (.t 17), (some 18), none, []⟩ :: L27_23
theorem v27_24 : VS L27_24.eq_1 := rfl
def L27_25 : List AStep := ⟨.faddr 0 (.t 5), (some 15), none, []⟩ :: ⟨.load 1 false (.t 15), (some 16), none, []⟩ :: L27_24
theorem v27_25 : VS L27_25.eq_1 := rfl
def L27_26 : List AStep := [⟨.mov (.c (.bool false)), (some 2), none, []⟩]
theorem v27_26 : VS L27_26.eq_1 := rfl
def L27_27 : List AStep := [⟨.load 4 true (.t 5), (some 50), none, []⟩, ⟨.call 61 [(.t 50)], (some 51), none, []⟩]
theorem v27_27 : VS L27_27.eq_1 := rfl
def L27_28 : List AStep := [⟨.not (.t 55), (some 56), (some (53, true)), []⟩, ⟨.pick (.t 53) (.t 56) (.c (.bool false)), (some 57), none, []⟩]
theorem v27_28 : VS L27_28.eq_1 := rfl
def L27_29 : List AStep := ⟨.faddr 2 (.t 5), (some 54), (some (53, true)), []⟩ :: ⟨.load 1 false (.t 54), (some 55), (some (53, true)), []⟩ :: L27_28
theorem v27_29 : VS L27_29.eq_1 := rfl
def L27_30 : List AStep := ⟨.mov (.t 3), (some 52), none, []⟩ :: ⟨.mov (.t 52), (some 53), none, []⟩ :: L27_29
theorem v27_30 : VS L27_30.eq_1 := rfl
def L27_31 : List AStep := [⟨.mov (.c (.bool false)), (some 2), none, []⟩]
theorem v27_31 : VS L27_31.eq_1 := rfl
def L27_32 : List AStep := [⟨.mov (.t 59), (some 3), none, []⟩]
theorem v27_32 : VS L27_32.eq_1 := rfl
def L27_33 : List AStep := ⟨.faddr 2 (.t 5), (some 58), none, []⟩ :: ⟨.load 1 false (.t 58), (some 59), none, []⟩ :: L27_32
theorem v27_33 : VS L27_33.eq_1 := rfl
def L27_34 : List AStep := [⟨.mov (.t 4), (some 60), none, []⟩, ⟨.bin .gtr (.t 60) (.c (.int .i64 0)), (some 61), none, []⟩]
theorem v27_34 : VS L27_34.eq_1 := rfl
def L27_35 : List AStep := [⟨.load 1 false (.t 67), (some 68), none, []⟩, ⟨.mov (.t 68), (some 6), none, []⟩]
theorem v27_35 : VS L27_35.eq_1 := rfl
def L27_36 : List AStep := ⟨.iaddr 4 (.t 63) (.t 65), (some 66), none, []⟩ :: ⟨.faddr 1 (.t 66), (some 67), none, []⟩ :: L27_35
theorem v27_36 : VS L27_36.eq_1 := rfl
def L27_37 : List AStep := ⟨.mov (.t 4), (some 64), none, []⟩ :: ⟨.bin .sub (.t 64) (.c (.int .i64 1)), (some 65), none, []⟩ :: L27_36
theorem v27_37 : VS L27_37.eq_1 := rfl
def L27_38 : List AStep := ⟨.faddr 0 (.t 1), (some 62), none, []⟩ :: ⟨.load 1 false (.t 62), (some 63), none, []⟩ :: L27_37
theorem v27_38 : VS L27_38.eq_1 := rfl
def L27_39 : List AStep := [⟨.pick (.t 73) (.c (.bool true)) (.t 82), (some 83), none, []⟩]
theorem v27_39 : VS L27_39.eq_1 := rfl
def L27_40 : List AStep := ⟨.not (.t 80), (some 81), (some (78, true)), []⟩ :: ⟨.pick (.t 78) (.t 81) (.c (.bool false)), (some 82), (some (73, false)), []⟩ :: L27_39
theorem v27_40 : VS L27_40.eq_1 := rfl
def L27_41 : List AStep := ⟨.load 4 true (.t 5), (some 79), (some (78, true)), []⟩ :: ⟨.call 69 [(.t 79)], (some 80), (some (78, true)), []⟩ :: L27_40
theorem v27_41 : VS L27_41.eq_1 := rfl
def L27_42 : List AStep := ⟨.bin .eql (.t 75) (.t 76), (some 77), (some (73, false)), []⟩ :: ⟨.mov (.t 77), (some 78), (some (73, false)), []⟩ :: L27_41
theorem v27_42 : VS L27_42.eq_1 := rfl
def L27_43 : List AStep := ⟨.load 1 false (.t 74), (some 75), (some (73, false)), []⟩ :: ⟨.mov (.t 6), (some 76), (some (73, false)), []⟩ :: L27_42
theorem v27_43 : VS L27_43.eq_1 := rfl
def L27_44 : List AStep := ⟨.mov (.t 72), (some 73), none, []⟩ :: ⟨.faddr 1 (.t 5), (some 74), (some (73, false)), []⟩ :: L27_43
theorem v27_44 : VS L27_44.eq_1 := rfl
def L27_45 : List AStep := ⟨.mov (.t 6), (some 71), none, []⟩ :: ⟨.bin .lss (.t 70) (.t 71), (some 72), none, []⟩ :: L27_44
theorem v27_45 : VS L27_45.eq_1 := rfl
def L27_46 : List AStep := ⟨.faddr 1 (.t 5), (some 69), none, []⟩ :: ⟨.load 1 false (.t 69), (some 70), none, []⟩ :: L27_45
theorem v27_46 : VS L27_46.eq_1 := rfl
def L27_47 : List AStep := [⟨.mov (.c (.bool false)), (some 2), none, []⟩]
theorem v27_47 : VS L27_47.eq_1 := rfl
def L27_48 : List AStep := [⟨.call 60 [(.t 87), (.t 89)], (some 90), none, []⟩, ⟨.bin .geq (.t 90) (.c (.int .i64 0)), (some 91), none, []⟩]
theorem v27_48 : VS L27_48.eq_1 := rfl
def L27_49 : List AStep := ⟨.faddr 0 (.t 5), (some 88), none, []⟩ :: ⟨.load 1 false (.t 88), (some 89), none, []⟩ :: L27_48
theorem v27_49 : VS L27_49.eq_1 := rfl
def L27_50 : List AStep := ⟨.mov (.t 4), (some 86), none, []⟩ :: ⟨.slice 44 4 (.t 85) none (some (.t 86)) none, (some 87), none, []⟩ :: L27_49
theorem v27_50 : VS L27_50.eq_1 := rfl
def L27_51 : List AStep := ⟨.faddr 0 (.t 1), (some 84), none, []⟩ :: ⟨.load 1 false (.t 84), (some 85), none, []⟩ :: L27_50
theorem v27_51 : VS L27_51.eq_1 := rfl
def L27_52 : List AStep := [⟨.mov (.c (.bool false)), (some 2), none, []⟩]
theorem v27_52 : VS L27_52.eq_1 := rfl
def L27_53 : List AStep := [⟨.bin .add (.t 10) (.c (.int .i64 1)), (some 92), none, []⟩, ⟨.mov (.t 92), (some 10), none, []⟩]
theorem v27_53 : VS L27_53.eq_1 := rfl
def L27_54 : List AStep := [⟨.mov (.t 96), (some 2), none, []⟩]
theorem v27_54 : VS L27_54.eq_1 := rfl
def L27_55 : List AStep := ⟨.len (.t 94), (some 95), none, []⟩ :: ⟨.bin .leq (.t 95) (.c (.int .i64 8)), (some 96), none, []⟩ :: L27_54
theorem v27_55 : VS L27_55.eq_1 := rfl
def L27_56 : List AStep := ⟨.faddr 0 (.t 1), (some 93), none, []⟩ :: ⟨.load 1 false (.t 93), (some 94), none, []⟩ :: L27_55
theorem v27_56 : VS L27_56.eq_1 := rfl
def C27_0 : ACode := .cond (.t 11) .skip (.exit 0)
theorem u27_0 : VC C27_0.eq_1 := rfl
def C27_1 : ACode := .seq (.reg L27_26) .ret
theorem u27_1 : VC C27_1.eq_1 := rfl
def C27_2 : ACode := .cond (.t 49) C27_1 .skip
theorem u27_2 : VC C27_2.eq_1 := rfl
def C27_3 : ACode := .seq (.reg L27_25) C27_2
theorem u27_3 : VC C27_3.eq_1 := rfl
def C27_4 : ACode := .seq (.reg L27_31) .ret
theorem u27_4 : VC C27_4.eq_1 := rfl
def C27_5 : ACode := .cond (.t 57) C27_4 .skip
theorem u27_5 : VC C27_5.eq_1 := rfl
def C27_6 : ACode := .seq (.reg L27_30) C27_5
theorem u27_6 : VC C27_6.eq_1 := rfl
def C27_7 : ACode := .seq C27_6 (.reg L27_33)
theorem u27_7 : VC C27_7.eq_1 := rfl
def C27_8 : ACode := .cond (.t 51) C27_7 .skip
theorem u27_8 : VC C27_8.eq_1 := rfl
def C27_9 : ACode := .seq (.reg L27_27) C27_8
theorem u27_9 : VC C27_9.eq_1 := rfl
def C27_10 : ACode := .seq (.reg L27_47) .ret
theorem u27_10 : VC C27_10.eq_1 := rfl
def C27_11 : ACode := .cond (.t 83) C27_10 .skip
theorem u27_11 : VC C27_11.eq_1 := rfl
def C27_12 : ACode := .seq (.reg L27_46) C27_11
theorem u27_12 : VC C27_12.eq_1 := rfl
def C27_13 : ACode := .seq (.reg L27_38) C27_12
theorem u27_13 : VC C27_13.eq_1 := rfl
def C27_14 : ACode := .cond (.t 61) C27_13 .skip
theorem u27_14 : VC C27_14.eq_1 := rfl
def C27_15 : ACode := .seq (.reg L27_34) C27_14
theorem u27_15 : VC C27_15.eq_1 := rfl
def C27_16 : ACode := .seq (.reg L27_52) .ret
theorem u27_16 : VC C27_16.eq_1 := rfl
def C27_17 : ACode := .cond (.t 91) C27_16 .skip
theorem u27_17 : VC C27_17.eq_1 := rfl
def C27_18 : ACode := .seq (.reg L27_51) C27_17
theorem u27_18 : VC C27_18.eq_1 := rfl
def C27_19 : ACode := .seq C27_15 C27_18
theorem u27_19 : VC C27_19.eq_1 := rfl
def C27_20 : ACode := .seq C27_9 C27_19
theorem u27_20 : VC C27_20.eq_1 := rfl
def C27_21 : ACode := .seq C27_3 C27_20
theorem u27_21 : VC C27_21.eq_1 := rfl
def C27_22 : ACode := .seq (.reg L27_7) C27_21
theorem u27_22 : VC C27_22.eq_1 := rfl
def C27_23 : ACode := .block 1 C27_22
theorem u27_23 : VC C27_23.eq_1 := rfl
def C27_24 : ACode := .seq C27_23 (.reg L27_53)
theorem u27_24 : VC C27_24.eq_1 := rfl
def C27_25 : ACode := .seq C27_0 C27_24
theorem u27_25 : VC C27_25.eq_1 := rfl
def C27_26 : ACode := .seq (.reg L27_4) C27_25
theorem u27_26 : VC C27_26.eq_1 := rfl
def C27_27 : ACode := .block 0 (.loop C27_26)
theorem u27_27 : VC C27_27.eq_1 := rfl
def C27_28 : ACode := .seq (.reg L27_3) C27_27
theorem u27_28 : VC C27_28.eq_1 := rfl
def C27_29 : ACode := .seq (.reg L27_56) .ret
theorem u27_29 : VC C27_29.eq_1 := rfl
def C27_30 : ACode := .seq C27_28 C27_29
theorem u27_30 : VC C27_30.eq_1 := rfl
def C27_31 : ACode := .seq (.reg L27_1) C27_30
theorem u27_31 : VC C27_31.eq_1 := rfl
def C27_32 : ACode := .seq (.reg L27_0) C27_31
theorem u27_32 : VC C27_32.eq_1 := rfl
def F27 : AFunc := ⟨97, [.tmp 2], C27_32⟩
theorem cF27 : compB Try.prog 27 = some F27 := by kernel_rfl
attribute [local go_sem ↓] u27_0 u27_1 u27_2 u27_3 u27_4 u27_5 u27_6 u27_7 u27_8 u27_9 u27_10 u27_11 u27_12 u27_13 u27_14 u27_15 u27_16 u27_17 u27_18 u27_19 u27_20 u27_21 u27_22 u27_23 u27_24 u27_25 u27_26 u27_27 u27_28 u27_29 u27_30 u27_31 u27_32 v27_0 v27_1 v27_2 v27_3 v27_4 v27_5 v27_6 v27_7 v27_8 v27_9 v27_10 v27_11 v27_12 v27_13 v27_14 v27_15 v27_16 v27_17 v27_18 v27_19 v27_20 v27_21 v27_22 v27_23 v27_24 v27_25 v27_26 v27_27 v27_28 v27_29 v27_30 v27_31 v27_32 v27_33 v27_34 v27_35 v27_36 v27_37 v27_38 v27_39 v27_40 v27_41 v27_42 v27_43 v27_44 v27_45 v27_46 v27_47 v27_48 v27_49 v27_50 v27_51 v27_52 v27_53 v27_54 v27_55 v27_56
theorem c_ValidSignature (l : List Param) (pv : CV) (h : H) (hl : SlQ h (.one pv) l) (hn : smQ l) : bm Try.prog 27 [.agg [pv]] h = some (ib (okSig l), h) := by
  refine bm_eq cF27 ?_
  simp +contextual (maxSteps := 2000000) only [go_sem, Nat.reduceEqDiff, reduceCtorEq, Nat.reduceAdd, Nat.reduceLeDiff, F27, hl.len]
  refine wpC_loop (fun i T L h' => h' = h ∧ T 1 = .lp 1 0 ∧ (L 1).2 = [pv] ∧ T 3 = .v (.one (.bool (optAt l i))) ∧ T 8 = .v (.one pv) ∧ T 9 = .v (.one (.int .i64 l.length)) ∧ T 10 = .v (.one (.int .i64 i)) ∧ Upto (stepAt l) i) l.length ?_ ?_ (Nat.zero_le _) ?_
  · rintro i T L h' hi ⟨rfl, t1, l1, t3, t8, t9, t10, hu⟩
    obtain ⟨v', e1, s1⟩ := hl.takeO (i := i) (by omega) (kd := .i64)
    have e2 : decide (paramAt (l.take i) l[i].name ≥ 0) = !(newAt Param.name l i) := newAt_ge hi
    have e3 := stepI_eq hi hu
    have e5 := optAt_next hi
    cases i with
    | zero =>
      have e4 : decide (((0 : Nat) : Int) > 0) = false := rfl
      rw [stepI_zero hi] at e3
      simp +contextual (maxSteps := 2000000) only [go_sem, Nat.reduceEqDiff, reduceCtorEq, Nat.reduceAdd, Nat.reduceLeDiff, e2, e4, e5, optAt, t1, l1, t3, t8, t9, t10, hl.iaddr hi, hl.whole hi, lt_true hi, e1, c_isName _ _ (hn.at hi), c_in, c_isValue, c_single, c_placed, c_find _ _ _ _ s1 (hn.take _)]
      (repeat' (first | refine And.intro ?_ ?_ | intro _)) <;> first | rfl | rw [wrap_next hi hn.len] | exact hu.next (by rw [← e3]; simp_all [okParam]) | (rw [okSig_not hi (by rw [← e3]; simp_all [okParam] <;> (intros; omega))]) | simp_all
    | succ j =>
      have e4 : decide (((j + 1 : Nat) : Int) > 0) = true := decide_eq_true (by omega)
      have hj : j < l.length := by omega
      rw [stepI_succ hi] at e3
      simp +contextual (maxSteps := 2000000) only [go_sem, Nat.reduceEqDiff, reduceCtorEq, Nat.reduceAdd, Nat.reduceLeDiff, e2, e4, e5, t1, l1, t3, t8, t9, t10, hl.iaddr hi, hl.whole hi, lt_true hi, e1, c_isName _ _ (hn.at hi), c_in, c_isValue, c_single, c_placed, c_find _ _ _ _ s1 (hn.take _), wrap_pred (show j < 2 ^ 62 from Nat.lt_trans (Nat.lt_succ_self j) (Nat.lt_trans hi hn.len)), hl.iaddr hj, hl.fieldO hj]
      (repeat' (first | refine And.intro ?_ ?_ | intro _)) <;> first | rfl | rw [wrap_next hi hn.len] | exact hu.next (by rw [← e3]; simp_all [okParam]) | (rw [okSig_not hi (by rw [← e3]; simp_all [okParam] <;> (intros; omega))]) | simp_all
  · rintro T L h' ⟨rfl, t1, l1, t3, t8, t9, t10, hu⟩
    simp +contextual (maxSteps := 2000000) only [go_sem, Nat.reduceEqDiff, reduceCtorEq, Nat.reduceAdd, Nat.reduceLeDiff, t1, l1, t8, t9, t10, hl.len, lt_false, okSig_of hu]
  · simp +contextual (maxSteps := 2000000) only [go_sem, Nat.reduceEqDiff, reduceCtorEq, Nat.reduceAdd, Nat.reduceLeDiff, optAt]
    (repeat' (first | refine And.intro ?_ ?_ | intro _)) <;> first | rfl | exact Upto.zero
end Go.Proofs.Ytekkimfdcbgcoac.Am
