/- Contracts of the program: signatures that are valid. -/
import Derived.Test.YtoeceafibmafpaaDoorA3
namespace Go.Proofs.YtoeceafibmafpaaDoor.Am
open Go
set_option maxRecDepth 100000
set_option maxHeartbeats 4000000
set_option linter.unusedSimpArgs false
set_option linter.unusedVariables false
attribute [local go_sem ↓] bv_t bv_c ev_t ev_c put_same put_ne put_none kill_at pro_at lb_same lb_ne start_zero start_succ wpC_seq wpC_reg wpC_cond wpC_block wpC_skip wpC_exit wpC_ret thenQ_normal thenQ_exit thenQ_ret inBlk_normal inBlk_exit inBlk_ret wpS_nil wpS_step wpS_again wpS_guard wpO_mov wpO_load wpO_faddr wpO_nilCheck wpO_pick wpO_build wpO_bin wpO_eqb wpO_eqst wpO_eqnil wpO_not wpO_conv wpO_bytesStr wpO_iaddr wpO_idxStr wpO_field wpO_extract wpO_len wpO_lenStr wpO_cap wpO_min wpO_slice wpO_sliceStr wpO_alloc wpO_box wpO_store wpO_call wpO_callv wpO_mkfn wpO_buildSlice wpO_mkslice wpO_append wpO_appz proA_nil proA_cons tmpX_nil tmpX_tmp tmpX_cell doneB_normal doneB_ret agK_cons agK_nil agK_guard agG_tt agG_ff agG_tf agG_ft agG_undef pureB_load results_one results_two results_nil resBs_cons resBs_nil resB_tmp resB_cell
attribute [local go_sem] kill_v kill_lp_ne kill_lp_same pro_v pro_lp_same pro_lp_ne av_v av_lp optB_some optX_some valX_eq ldX_lp ldX_v faX_lp faX_v ncX_lp ncX_ptr ncX_fn boxK_one boxK_agg stL_some stK_lp_one stK_lp_agg stK_v_one stK_v_agg proM_v proM_lp callG_mk callVG_mk callvK_fn fnG_mk ptrsA_nil ptrsA_cons callH_some whenA_true whenA_false guardH_tt guardH_ff guardH_tf guardH_ft guardH_undef agV_one agV_agg lenO_sl lenStrO_str notO_bool pickO_bool convO_int eqbO_bool eqnilO_sl extractO_tup capO_sl minO_int loadL_one loadL_all storeL_eq fillA_nil fillA_one fillA_agg nat_ge neg_ge nat_lt neg_lt buildO bin_add bin_sub bin_mul bin_eql bin_neq bin_lss bin_leq bin_gtr bin_geq str_eql str_neq str_lss str_leq str_gtr str_geq retK_some endK_mk gcK_same gcK_int gcK_bool tupO_one tupO_agg rdy_self ib ii Option.map_none Option.map_some Option.some.injEq exists_eq_left' exists_eq_left ne_eq not_false_eq_true if_true if_false List.map_cons List.map_nil List.getElem?_cons_zero List.getElem?_cons_succ List.length_cons List.length_nil List.take_succ_cons List.take_zero List.take_nil List.drop_succ_cons List.drop_zero List.drop_nil List.cons_append List.nil_append List.append_nil List.set_cons_zero List.set_cons_succ Nat.zero_add forall_const true_and and_true and_self Bool.false_eq_true false_implies true_implies implies_true Bool.not_true Bool.not_false Bool.not_eq_true' Bool.not_eq_false' beq_self_eq_true Bool.bne_true Bool.bne_false
attribute [local go_sem] lenI lenS lenP lenQ lenB lenL lenT encI_0 encS_0 encP_0 encP_1 encQ_0 encQ_1 encQ_2 encQ_3 encB_0 encB_1 encL_0 encL_1 encT_0 encT_1
attribute [local go_sem low] whenA_bool guardH_bool
/-! impl.ValidSignature -/
def L48_0 : List AStep := [⟨.box 38 (.t 0), (some 1), none, []⟩, ⟨.mov (.c (.bool false)), (some 2), none, []⟩]
theorem v48_0 : VS L48_0.eq_1 := rfl
def L48_1 : List AStep := [⟨.mov (.c (.bool false)), (some 3), none, []⟩]
theorem v48_1 : VS L48_1.eq_1 := rfl
def L48_2 : List AStep := [⟨.len (.t 8), (some 9), none, []⟩, ⟨.mov (.c (.int .i64 0)), (some 10), none, []⟩]
theorem v48_2 : VS L48_2.eq_1 := rfl
def L48_3 : List AStep := ⟨.faddr 0 (.t 1), (some 7), none, []⟩ :: ⟨.load 1 false (.t 7), (some 8), none, []⟩ :: L48_2
theorem v48_3 : VS L48_3.eq_1 := rfl
def L48_4 : List AStep := [⟨.bin .lss (.t 10) (.t 9), (some 11), none, []⟩]
theorem v48_4 : VS L48_4.eq_1 := rfl
def L48_5 : List AStep := [⟨.mov (.t 12), (some 4), none, []⟩, ⟨.store 4 (.t 5) (.t 14), none, none, []⟩]
theorem v48_5 : VS L48_5.eq_1 := rfl
def L48_6 : List AStep := ⟨.load 4 true (.t 13), (some 14), none, []⟩ :: ⟨.alloc 83 [(.str (strOfNums [])), (.int .i64 0), (.bool false), (.int .i64 0)], (some 5), none, []⟩ :: L48_5
theorem v48_6 : VS L48_6.eq_1 := rfl
def L48_7 : List AStep := ⟨.mov (.t 10), (some 12), none, []⟩ :: ⟨.iaddr 4 (.t 8) (.t 10), (some 13), none, []⟩ :: L48_6
theorem v48_7 : VS L48_7.eq_1 := rfl
def L48_8 : List AStep := [⟨.pick (.t 41) (.c (.bool true)) (.t 48), (some 49), none, []⟩]
theorem v48_8 : VS L48_8.eq_1 := rfl
def L48_9 : List AStep := ⟨.not (.t 46), (some 47), (some (44, true)), []⟩ :: ⟨.pick (.t 44) (.t 47) (.c (.bool false)), (some 48), (some (41, false)), []⟩ :: L48_8
theorem v48_9 : VS L48_9.eq_1 := rfl
def L48_10 : List AStep := ⟨.load 4 true (.t 5), (some 45), (some (44, true)), []⟩ :: ⟨.call 82 [(.t 45)], (some 46), (some (44, true)), []⟩ :: L48_9
theorem v48_10 : VS L48_10.eq_1 := rfl
def L48_11 : List AStep := ⟨.load 1 false (.t 42), (some 43), (some (41, false)), []⟩ :: ⟨.mov (.t 43), (some 44), (some (41, false)), []⟩ :: L48_10
theorem v48_11 : VS L48_11.eq_1 := rfl
def L48_12 : List AStep := ⟨.mov (.t 40), (some 41), none, []⟩ :: ⟨.faddr 2 (.t 5), (some 42), (some (41, false)), []⟩ :: L48_11
theorem v48_12 : VS L48_12.eq_1 := rfl
def L48_13 : List AStep := ⟨.pick (.t 35) (.t 38) (.c (.bool false)), (some 39), (some (31, false)), []⟩ :: ⟨.pick (.t 31) (.c (.bool true)) (.t 39), (some 40), none, []⟩ :: L48_12
theorem v48_13 : VS L48_13.eq_1 := rfl
def L48_14 : List AStep := ⟨.load 1 false (.t 36), (some 37), (some (35, true)), []⟩ :: ⟨.bin .neq (.t 37) (.c (.int .i64 0)), (some 38), (some (35, true)), []⟩ :: L48_13
theorem v48_14 : VS L48_14.eq_1 := rfl
def L48_15 : List AStep := ⟨.mov (.t 34), (some 35), (some (31, false)), []⟩ :: ⟨.faddr 3 (.t 5), (some 36), (some (35, true)), []⟩ :: L48_14
theorem v48_15 : VS L48_15.eq_1 := rfl
def L48_16 : List AStep := ⟨.load 1 false (.t 32), (some 33), (some (31, false)), []⟩ :: ⟨.not (.t 33), (some 34), (some (31, false)), []⟩ :: L48_15
theorem v48_16 : VS L48_16.eq_1 := rfl
def L48_17 : List AStep := ⟨.mov (.t 30), (some 31), none, []⟩ :: ⟨.faddr 2 (.t 5), (some 32), (some (31, false)), []⟩ :: L48_16
theorem v48_17 : VS L48_17.eq_1 := rfl
def L48_18 : List AStep := ⟨.not (.t 28), (some 29), (some (25, false)), []⟩ :: ⟨.pick (.t 25) (.c (.bool true)) (.t 29), (some 30), none, []⟩ :: L48_17
theorem v48_18 : VS L48_18.eq_1 := rfl
def L48_19 : List AStep := ⟨.load 1 false (.t 26), (some 27), (some (25, false)), []⟩ :: ⟨.call 81 [(.t 27)], (some 28), (some (25, false)), []⟩ :: L48_18
theorem v48_19 : VS L48_19.eq_1 := rfl
def L48_20 : List AStep := ⟨.mov (.t 24), (some 25), none, []⟩ :: ⟨.faddr 3 (.t 5), (some 26), (some (25, false)), []⟩ :: L48_19
theorem v48_20 : VS L48_20.eq_1 := rfl
def L48_21 : List AStep := ⟨.not (.t 22), (some 23), (some (19, false)), []⟩ :: ⟨.pick (.t 19) (.c (.bool true)) (.t 23), (some 24), none, []⟩ :: L48_20
theorem v48_21 : VS L48_21.eq_1 := rfl
def L48_22 : List AStep := ⟨.load 1 false (.t 20), (some 21), (some (19, false)), []⟩ :: ⟨.call 69 [(.t 21), (.c (.int .i64 0)), (.c (.int .i64 4))], (some 22), (some (19, false)), []⟩ :: L48_21
theorem v48_22 : VS L48_22.eq_1 := rfl
def L48_23 : List AStep := ⟨.mov (.t 18), (some 19), none, []⟩ :: ⟨.faddr 1 (.t 5), (some 20), (some (19, false)), []⟩ :: L48_22
theorem v48_23 : VS L48_23.eq_1 := rfl
def L48_24 : List AStep := ⟨.call 56 [(.t 16)], (some 17), none, []⟩ :: ⟨.not (.t 17), (some 18), none, []⟩ :: L48_23
theorem v48_24 : VS L48_24.eq_1 := rfl
def L48_25 : List AStep := ⟨.faddr 0 (.t 5), (some 15), none, []⟩ :: ⟨.load 1 false (.t 15), (some 16), none, []⟩ :: L48_24
theorem v48_25 : VS L48_25.eq_1 := rfl
def L48_26 : List AStep := [⟨.mov (.c (.bool false)), (some 2), none, []⟩]
theorem v48_26 : VS L48_26.eq_1 := rfl
def L48_27 : List AStep := [⟨.load 4 true (.t 5), (some 50), none, []⟩, ⟨.call 83 [(.t 50)], (some 51), none, []⟩]
theorem v48_27 : VS L48_27.eq_1 := rfl
def L48_28 : List AStep := [⟨.not (.t 55), (some 56), (some (53, true)), []⟩, ⟨.pick (.t 53) (.t 56) (.c (.bool false)), (some 57), none, []⟩]
theorem v48_28 : VS L48_28.eq_1 := rfl
def L48_29 : List AStep := ⟨.faddr 2 (.t 5), (some 54), (some (53, true)), []⟩ :: ⟨.load 1 false (.t 54), (some 55), (some (53, true)), []⟩ :: L48_28
theorem v48_29 : VS L48_29.eq_1 := rfl
def L48_30 : List AStep := ⟨.mov (.t 3), (some 52), none, []⟩ :: ⟨.mov (.t 52), (some 53), none, []⟩ :: L48_29
theorem v48_30 : VS L48_30.eq_1 := rfl
def L48_31 : List AStep := [⟨.mov (.c (.bool false)), (some 2), none, []⟩]
theorem v48_31 : VS L48_31.eq_1 := rfl
def L48_32 : List AStep := [⟨.mov (.t 59), (some 3), none, []⟩]
theorem v48_32 : VS L48_32.eq_1 := rfl
def L48_33 : List AStep := ⟨.faddr 2 (.t 5), (some 58), none, []⟩ :: ⟨.load 1 false (.t 58), (some 59), none, []⟩ :: L48_32
theorem v48_33 : VS L48_33.eq_1 := rfl
def L48_34 : List AStep := [⟨.mov (.t 4), (some 60), none, []⟩, ⟨.bin .gtr (.t 60) (.c (.int .i64 0)), (some 61), none, []⟩]
theorem v48_34 : VS L48_34.eq_1 := rfl
def L48_35 : List AStep := [⟨.load 1 false (.t 67), (some 68), none, []⟩, ⟨.mov (.t 68), (some 6), none, []⟩]
theorem v48_35 : VS L48_35.eq_1 := rfl
def L48_36 : List AStep := ⟨.iaddr 4 (.t 63) (.t 65), (some 66), none, []⟩ :: ⟨.faddr 1 (.t 66), (some 67), none, []⟩ :: L48_35
theorem v48_36 : VS L48_36.eq_1 := rfl
def L48_37 : List AStep := ⟨.mov (.t 4), (some 64), none, []⟩ :: ⟨.bin .sub (.t 64) (.c (.int .i64 1)), (some 65), none, []⟩ :: L48_36
theorem v48_37 : VS L48_37.eq_1 := rfl
def L48_38 : List AStep := ⟨.faddr 0 (.t 1), (some 62), none, []⟩ :: ⟨.load 1 false (.t 62), (some 63), none, []⟩ :: L48_37
theorem v48_38 : VS L48_38.eq_1 := rfl
def L48_39 : List AStep := [⟨.pick (.t 73) (.c (.bool true)) (.t 82), (some 83), none, []⟩]
theorem v48_39 : VS L48_39.eq_1 := rfl
def L48_40 : List AStep := ⟨.not (.t 80), (some 81), (some (78, true)), []⟩ :: ⟨.pick (.t 78) (.t 81) (.c (.bool false)), (some 82), (some (73, false)), []⟩ :: L48_39
theorem v48_40 : VS L48_40.eq_1 := rfl
def L48_41 : List AStep := ⟨.load 4 true (.t 5), (some 79), (some (78, true)), []⟩ :: ⟨.call 82 [(.t 79)], (some 80), (some (78, true)), []⟩ :: L48_40
theorem v48_41 : VS L48_41.eq_1 := rfl
def L48_42 : List AStep := ⟨.bin .eql (.t 75) (.t 76), (some 77), (some (73, false)), []⟩ :: ⟨.mov (.t 77), (some 78), (some (73, false)), []⟩ :: L48_41
theorem v48_42 : VS L48_42.eq_1 := rfl
def L48_43 : List AStep := ⟨.load 1 false (.t 74), (some 75), (some (73, false)), []⟩ :: ⟨.mov (.t 6), (some 76), (some (73, false)), []⟩ :: L48_42
theorem v48_43 : VS L48_43.eq_1 := rfl
def L48_44 : List AStep := ⟨.mov (.t 72), (some 73), none, []⟩ :: ⟨.faddr 1 (.t 5), (some 74), (some (73, false)), []⟩ :: L48_43
theorem v48_44 : VS L48_44.eq_1 := rfl
def L48_45 : List AStep := ⟨.mov (.t 6), (some 71), none, []⟩ :: ⟨.bin .lss (.t 70) (.t 71), (some 72), none, []⟩ :: L48_44
theorem v48_45 : VS L48_45.eq_1 := rfl
def L48_46 : List AStep := ⟨.faddr 1 (.t 5), (some 69), none, []⟩ :: ⟨.load 1 false (.t 69), (some 70), none, []⟩ :: L48_45
theorem v48_46 : VS L48_46.eq_1 := rfl
def L48_47 : List AStep := [⟨.mov (.c (.bool false)), (some 2), none, []⟩]
theorem v48_47 : VS L48_47.eq_1 := rfl
def L48_48 : List AStep := [⟨.call 84 [(.t 87), (.t 89)], (some 90), none, []⟩, ⟨.bin .geq (.t 90) (.c (.int .i64 0)), (some 91), none, []⟩]
theorem v48_48 : VS L48_48.eq_1 := rfl
def L48_49 : List AStep := ⟨.faddr 0 (.t 5), (some 88), none, []⟩ :: ⟨.load 1 false (.t 88), (some 89), none, []⟩ :: L48_48
theorem v48_49 : VS L48_49.eq_1 := rfl
def L48_50 : List AStep := ⟨.mov (.t 4), (some 86), none, []⟩ :: ⟨.slice 83 4 (.t 85) none (some (.t 86)) none, (some 87), none, []⟩ :: L48_49
theorem v48_50 : VS L48_50.eq_1 := rfl
def L48_51 : List AStep := ⟨.faddr 0 (.t 1), (some 84), none, []⟩ :: ⟨.load 1 false (.t 84), (some 85), none, []⟩ :: L48_50
theorem v48_51 : VS L48_51.eq_1 := rfl
def L48_52 : List AStep := [⟨.mov (.c (.bool false)), (some 2), none, []⟩]
theorem v48_52 : VS L48_52.eq_1 := rfl
def L48_53 : List AStep := [⟨.bin .add (.t 10) (.c (.int .i64 1)), (some 92), none, []⟩, ⟨.mov (.t 92), (some 10), none, []⟩]
theorem v48_53 : VS L48_53.eq_1 := rfl
def L48_54 : List AStep := [⟨.mov (.t 96), (some 2), none, []⟩]
theorem v48_54 : VS L48_54.eq_1 := rfl
def L48_55 : List AStep := ⟨.len (.t 94), (some 95), none, []⟩ :: ⟨.bin .leq (.t 95) (.c (.int .i64 8)), (some 96), none, []⟩ :: L48_54
theorem v48_55 : VS L48_55.eq_1 := rfl
def L48_56 : List AStep := ⟨.faddr 0 (.t 1), (some 93), none, []⟩ :: ⟨.load 1 false (.t 93), (some 94), none, []⟩ :: L48_55
theorem v48_56 : VS L48_56.eq_1 := rfl
def C48_0 : ACode := .cond (.t 11) .skip (.exit 0)
theorem u48_0 : VC C48_0.eq_1 := rfl
def C48_1 : ACode := .seq (.reg L48_26) .ret
theorem u48_1 : VC C48_1.eq_1 := rfl
def C48_2 : ACode := .cond (.t 49) C48_1 .skip
theorem u48_2 : VC C48_2.eq_1 := rfl
def C48_3 : ACode := .seq (.reg L48_25) C48_2
theorem u48_3 : VC C48_3.eq_1 := rfl
def C48_4 : ACode := .seq (.reg L48_31) .ret
theorem u48_4 : VC C48_4.eq_1 := rfl
def C48_5 : ACode := .cond (.t 57) C48_4 .skip
theorem u48_5 : VC C48_5.eq_1 := rfl
def C48_6 : ACode := .seq (.reg L48_30) C48_5
theorem u48_6 : VC C48_6.eq_1 := rfl
def C48_7 : ACode := .seq C48_6 (.reg L48_33)
theorem u48_7 : VC C48_7.eq_1 := rfl
def C48_8 : ACode := .cond (.t 51) C48_7 .skip
theorem u48_8 : VC C48_8.eq_1 := rfl
def C48_9 : ACode := .seq (.reg L48_27) C48_8
theorem u48_9 : VC C48_9.eq_1 := rfl
def C48_10 : ACode := .seq (.reg L48_47) .ret
theorem u48_10 : VC C48_10.eq_1 := rfl
def C48_11 : ACode := .cond (.t 83) C48_10 .skip
theorem u48_11 : VC C48_11.eq_1 := rfl
def C48_12 : ACode := .seq (.reg L48_46) C48_11
theorem u48_12 : VC C48_12.eq_1 := rfl
def C48_13 : ACode := .seq (.reg L48_38) C48_12
theorem u48_13 : VC C48_13.eq_1 := rfl
def C48_14 : ACode := .cond (.t 61) C48_13 .skip
theorem u48_14 : VC C48_14.eq_1 := rfl
def C48_15 : ACode := .seq (.reg L48_34) C48_14
theorem u48_15 : VC C48_15.eq_1 := rfl
def C48_16 : ACode := .seq (.reg L48_52) .ret
theorem u48_16 : VC C48_16.eq_1 := rfl
def C48_17 : ACode := .cond (.t 91) C48_16 .skip
theorem u48_17 : VC C48_17.eq_1 := rfl
def C48_18 : ACode := .seq (.reg L48_51) C48_17
theorem u48_18 : VC C48_18.eq_1 := rfl
def C48_19 : ACode := .seq C48_15 C48_18
theorem u48_19 : VC C48_19.eq_1 := rfl
def C48_20 : ACode := .seq C48_9 C48_19
theorem u48_20 : VC C48_20.eq_1 := rfl
def C48_21 : ACode := .seq C48_3 C48_20
theorem u48_21 : VC C48_21.eq_1 := rfl
def C48_22 : ACode := .seq (.reg L48_7) C48_21
theorem u48_22 : VC C48_22.eq_1 := rfl
def C48_23 : ACode := .block 1 C48_22
theorem u48_23 : VC C48_23.eq_1 := rfl
def C48_24 : ACode := .seq C48_23 (.reg L48_53)
theorem u48_24 : VC C48_24.eq_1 := rfl
def C48_25 : ACode := .seq C48_0 C48_24
theorem u48_25 : VC C48_25.eq_1 := rfl
def C48_26 : ACode := .seq (.reg L48_4) C48_25
theorem u48_26 : VC C48_26.eq_1 := rfl
def C48_27 : ACode := .block 0 (.loop C48_26)
theorem u48_27 : VC C48_27.eq_1 := rfl
def C48_28 : ACode := .seq (.reg L48_3) C48_27
theorem u48_28 : VC C48_28.eq_1 := rfl
def C48_29 : ACode := .seq (.reg L48_56) .ret
theorem u48_29 : VC C48_29.eq_1 := rfl
def C48_30 : ACode := .seq C48_28 C48_29
theorem u48_30 : VC C48_30.eq_1 := rfl
def C48_31 : ACode := .seq (.reg L48_1) C48_30
theorem u48_31 : VC C48_31.eq_1 := rfl
def C48_32 : ACode := .seq (.reg L48_0) C48_31
theorem u48_32 : VC C48_32.eq_1 := rfl
def F48 : AFunc := ⟨97, [.tmp 2], C48_32⟩
theorem cF48 : compB Tryd.prog 48 = some F48 := by kernel_rfl
attribute [local go_sem ↓] u48_0 u48_1 u48_2 u48_3 u48_4 u48_5 u48_6 u48_7 u48_8 u48_9 u48_10 u48_11 u48_12 u48_13 u48_14 u48_15 u48_16 u48_17 u48_18 u48_19 u48_20 u48_21 u48_22 u48_23 u48_24 u48_25 u48_26 u48_27 u48_28 u48_29 u48_30 u48_31 u48_32 v48_0 v48_1 v48_2 v48_3 v48_4 v48_5 v48_6 v48_7 v48_8 v48_9 v48_10 v48_11 v48_12 v48_13 v48_14 v48_15 v48_16 v48_17 v48_18 v48_19 v48_20 v48_21 v48_22 v48_23 v48_24 v48_25 v48_26 v48_27 v48_28 v48_29 v48_30 v48_31 v48_32 v48_33 v48_34 v48_35 v48_36 v48_37 v48_38 v48_39 v48_40 v48_41 v48_42 v48_43 v48_44 v48_45 v48_46 v48_47 v48_48 v48_49 v48_50 v48_51 v48_52 v48_53 v48_54 v48_55 v48_56
theorem c_ValidSignature (l : List Param) (pv : CV) (h : H) (hl : SlQ h (.one pv) l) (hn : smQ l) : bm Tryd.prog 48 [.agg [pv]] h = some (ib (okSig l), h) := by
  refine bm_eq cF48 ?_
  simp +contextual (maxSteps := 2000000) only [go_sem, Nat.reduceEqDiff, reduceCtorEq, Nat.reduceAdd, Nat.reduceLeDiff, F48, hl.len]
  refine wpC_loop (fun i T L h' => h' = h ∧ T 1 = .lp 1 0 ∧ (L 1).2 = [pv] ∧ T 3 = .v (.one (.bool (optAt l i))) ∧ T 8 = .v (.one pv) ∧ T 9 = .v (.one (.int .i64 l.length)) ∧ T 10 = .v (.one (.int .i64 i)) ∧ Upto (stepAt l) i) l.length ?_ ?_ (Nat.zero_le _) ?_
  · rintro i T L h' hi ⟨rfl, t1, l1, t3, t8, t9, t10, hu⟩
    obtain ⟨v', e1, s1⟩ := hl.takeO (i := i) (by omega) (kd := .i64)
    have e2 : decide (paramAt (l.take i) l[i].name ≥ 0) = !(newAt Param.name l i) := newAt_ge hi
    have e3 := stepI_eq hi hu
    have e5 := optAt_next hi
    cases i with
    | zero =>
      have e4 : decide (((0 : Nat) : Int) > 0) = false := rfl
      rw [stepI_zero hi] at e3
      simp +contextual (maxSteps := 2000000) only [go_sem, Nat.reduceEqDiff, reduceCtorEq, Nat.reduceAdd, Nat.reduceLeDiff, e2, e4, e5, optAt, t1, l1, t3, t8, t9, t10, hl.iaddr hi, hl.whole hi, lt_true hi, e1, c_isName _ _ (hn.at hi), c_in, c_isValue, c_single, c_placed, c_find _ _ _ _ s1 (hn.take _)]
      (repeat' (first | refine And.intro ?_ ?_ | intro _)) <;> first | rfl | rw [wrap_next hi hn.len] | exact hu.next (by rw [← e3]; simp_all [okParam]) | (rw [okSig_not hi (by rw [← e3]; simp_all [okParam] <;> (intros; omega))]) | simp_all
    | succ j =>
      have e4 : decide (((j + 1 : Nat) : Int) > 0) = true := decide_eq_true (by omega)
      have hj : j < l.length := by omega
      rw [stepI_succ hi] at e3
      simp +contextual (maxSteps := 2000000) only [go_sem, Nat.reduceEqDiff, reduceCtorEq, Nat.reduceAdd, Nat.reduceLeDiff, e2, e4, e5, t1, l1, t3, t8, t9, t10, hl.iaddr hi, hl.whole hi, lt_true hi, e1, c_isName _ _ (hn.at hi), c_in, c_isValue, c_single, c_placed, c_find _ _ _ _ s1 (hn.take _), wrap_pred (show j < 2 ^ 62 from Nat.lt_trans (Nat.lt_succ_self j) (Nat.lt_trans hi hn.len)), hl.iaddr hj, hl.fieldO hj]
      (repeat' (first | refine And.intro ?_ ?_ | intro _)) <;> first | rfl | rw [wrap_next hi hn.len] | exact hu.next (by rw [← e3]; simp_all [okParam]) | (rw [okSig_not hi (by rw [← e3]; simp_all [okParam] <;> (intros; omega))]) | simp_all
  · rintro T L h' ⟨rfl, t1, l1, t3, t8, t9, t10, hu⟩
    simp +contextual (maxSteps := 2000000) only [go_sem, Nat.reduceEqDiff, reduceCtorEq, Nat.reduceAdd, Nat.reduceLeDiff, t1, l1, t8, t9, t10, hl.len, lt_false, okSig_of hu]
  · simp +contextual (maxSteps := 2000000) only [go_sem, Nat.reduceEqDiff, reduceCtorEq, Nat.reduceAdd, Nat.reduceLeDiff, optAt]
    (repeat' (first | refine And.intro ?_ ?_ | intro _)) <;> first | rfl | exact Upto.zero
end Go.Proofs.YtoeceafibmafpaaDoor.Am
