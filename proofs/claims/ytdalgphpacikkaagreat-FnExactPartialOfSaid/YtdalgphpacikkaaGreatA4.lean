/- Contracts of the program: signatures that are valid. -/
import Derived.Test.YtdalgphpacikkaaGreatA3
namespace Go.Proofs.YtdalgphpacikkaaGreat.Am
open Go
set_option maxRecDepth 100000
set_option maxHeartbeats 4000000
set_option linter.unusedSimpArgs false
set_option linter.unusedVariables false
attribute [local go_sem ↓] bv_t bv_c ev_t ev_c put_same put_ne put_none kill_at pro_at lb_same lb_ne start_zero start_succ wpC_seq wpC_reg wpC_cond wpC_block wpC_skip wpC_exit wpC_ret thenQ_normal thenQ_exit thenQ_ret inBlk_normal inBlk_exit inBlk_ret wpS_nil wpS_step wpS_again wpS_guard wpO_mov wpO_load wpO_faddr wpO_nilCheck wpO_pick wpO_build wpO_bin wpO_eqb wpO_eqst wpO_eqnil wpO_not wpO_conv wpO_bytesStr wpO_iaddr wpO_idxStr wpO_field wpO_extract wpO_len wpO_lenStr wpO_cap wpO_min wpO_slice wpO_sliceStr wpO_alloc wpO_box wpO_store wpO_call wpO_callv wpO_mkfn wpO_buildSlice wpO_mkslice wpO_append wpO_appz proA_nil proA_cons tmpX_nil tmpX_tmp tmpX_cell doneB_normal doneB_ret agK_cons agK_nil agK_guard agG_tt agG_ff agG_tf agG_ft agG_undef pureB_load results_one results_two results_nil resBs_cons resBs_nil resB_tmp resB_cell
attribute [local go_sem] kill_v kill_lp_ne kill_lp_same pro_v pro_lp_same pro_lp_ne av_v av_lp optB_some optX_some valX_eq ldX_lp ldX_v faX_lp faX_v ncX_lp ncX_ptr ncX_fn boxK_one boxK_agg stL_some stK_lp_one stK_lp_agg stK_v_one stK_v_agg proM_v proM_lp callG_mk callVG_mk callvK_fn fnG_mk ptrsA_nil ptrsA_cons callH_some whenA_true whenA_false guardH_tt guardH_ff guardH_tf guardH_ft guardH_undef agV_one agV_agg lenO_sl lenStrO_str notO_bool pickO_bool convO_int eqbO_bool eqnilO_sl extractO_tup capO_sl minO_int loadL_one loadL_all storeL_eq fillA_nil fillA_one fillA_agg nat_ge neg_ge nat_lt neg_lt buildO bin_add bin_sub bin_mul bin_eql bin_neq bin_lss bin_leq bin_gtr bin_geq str_eql str_neq str_lss str_leq str_gtr str_geq retK_some endK_mk gcK_same gcK_int gcK_bool tupO_one tupO_agg rdy_self ib ii Option.map_none Option.map_some Option.some.injEq exists_eq_left' exists_eq_left ne_eq not_false_eq_true if_true if_false List.map_cons List.map_nil List.getElem?_cons_zero List.getElem?_cons_succ List.length_cons List.length_nil List.take_succ_cons List.take_zero List.take_nil List.drop_succ_cons List.drop_zero List.drop_nil List.cons_append List.nil_append List.append_nil List.set_cons_zero List.set_cons_succ Nat.zero_add forall_const true_and and_true and_self Bool.false_eq_true false_implies true_implies implies_true Bool.not_true Bool.not_false Bool.not_eq_true' Bool.not_eq_false' beq_self_eq_true Bool.bne_true Bool.bne_false
attribute [local go_sem] lenI lenS lenP lenQ lenB lenL lenT encI_0 encS_0 encP_0 encP_1 encQ_0 encQ_1 encQ_2 encQ_3 encB_0 encB_1 encL_0 encL_1 encT_0 encT_1
attribute [local go_sem low] whenA_bool guardH_bool
/-! impl.ValidSignature -/
def L76_0 : List AStep := [⟨.box 33 (.t 0), (some 1), none, []⟩, ⟨.mov (.c (.bool false)), (some 2), none, []⟩]
theorem v76_0 : VS L76_0.eq_1 := rfl
def L76_1 : List AStep := [⟨.mov (.c (.bool false)), (some 3), none, []⟩]
theorem v76_1 : VS L76_1.eq_1 := rfl
def L76_2 : List AStep := [⟨.len (.t 8), (some 9), none, []⟩, ⟨.mov (.c (.int .i64 0)), (some 10), none, []⟩]
theorem v76_2 : VS L76_2.eq_1 := rfl
def L76_3 : List AStep := ⟨.faddr 0 (.t 1), (some 7), none, []⟩ :: ⟨.load 1 false (.t 7), (some 8), none, []⟩ :: L76_2
theorem v76_3 : VS L76_3.eq_1 := rfl
def L76_4 : List AStep := [⟨.bin .lss (.t 10) (.t 9), (some 11), none, []⟩]
theorem v76_4 : VS L76_4.eq_1 := rfl
def L76_5 : List AStep := [⟨.mov (.t 12), (some 4), none, []⟩, ⟨.store 4 (.t 5) (.t 14), none, none, []⟩]
theorem v76_5 : VS L76_5.eq_1 := rfl
def L76_6 : List AStep := ⟨.load 4 true (.t 13), (some 14), none, []⟩ :: ⟨.alloc 79 [(.str (strOfNums [])), (.int .i64 0), (.bool false), (.int .i64 0)], (some 5), none, []⟩ :: L76_5
theorem v76_6 : VS L76_6.eq_1 := rfl
def L76_7 : List AStep := ⟨.mov (.t 10), (some 12), none, []⟩ :: ⟨.iaddr 4 (.t 8) (.t 10), (some 13), none, []⟩ :: L76_6
theorem v76_7 : VS L76_7.eq_1 := rfl
def L76_8 : List AStep := [⟨.pick (.t 41) (.c (.bool true)) (.t 48), (some 49), none, []⟩]
theorem v76_8 : VS L76_8.eq_1 := rfl
def L76_9 : List AStep := ⟨.not (.t 46), (some 47), (some (44, true)), []⟩ :: ⟨.pick (.t 44) (.t 47) (.c (.bool false)), (some 48), (some (41, false)), []⟩ :: L76_8
theorem v76_9 : VS L76_9.eq_1 := rfl
def L76_10 : List AStep := ⟨.load 4 true (.t 5), (some 45), (some (44, true)), []⟩ :: ⟨.call 80 [(.t 45)], (some 46), (some (44, true)), []⟩ :: L76_9
theorem v76_10 : VS L76_10.eq_1 := rfl
def L76_11 : List AStep := ⟨.load 1 false (.t 42), (some 43), (some (41, false)), []⟩ :: ⟨.mov (.t 43), (some 44), (some (41, false)), []⟩ :: L76_10
theorem v76_11 : VS L76_11.eq_1 := rfl
def L76_12 : List AStep := ⟨.mov (.t 40), (some 41), none, []⟩ :: ⟨.faddr 2 (.t 5), (some 42), (some (41, false)), []⟩ :: L76_11
theorem v76_12 : VS L76_12.eq_1 := rfl
def L76_13 : List AStep := ⟨.pick (.t 35) (.t 38) (.c (.bool false)), (some 39), (some (31, false)), []⟩ :: ⟨.pick (.t 31) (.c (.bool true)) (.t 39), (some 40), none, []⟩ :: L76_12
theorem v76_13 : VS L76_13.eq_1 := rfl
def L76_14 : List AStep := ⟨.load 1 false (.t 36), (some 37), (some (35, true)), []⟩ :: ⟨.bin .neq (.t 37) (.c (.int .i64 0)), (some 38), (some (35, true)), []⟩ :: L76_13
theorem v76_14 : VS L76_14.eq_1 := rfl
def L76_15 : List AStep := ⟨.mov (.t 34), (some 35), (some (31, false)), []⟩ :: ⟨.faddr 3 (.t 5), (some 36), (some (35, true)), []⟩ :: L76_14
theorem v76_15 : VS L76_15.eq_1 := rfl
def L76_16 : List AStep := ⟨.load 1 false (.t 32), (some 33), (some (31, false)), []⟩ :: ⟨.not (.t 33), (some 34), (some (31, false)), []⟩ :: L76_15
theorem v76_16 : VS L76_16.eq_1 := rfl
def L76_17 : List AStep := ⟨.mov (.t 30), (some 31), none, []⟩ :: ⟨.faddr 2 (.t 5), (some 32), (some (31, false)), []⟩ :: L76_16
theorem v76_17 : VS L76_17.eq_1 := rfl
def L76_18 : List AStep := ⟨.not (.t 28), (some 29), (some (25, false)), []⟩ :: ⟨.pick (.t 25) (.c (.bool true)) (.t 29), (some 30), none, []⟩ :: L76_17
theorem v76_18 : VS L76_18.eq_1 := rfl
def L76_19 : List AStep := ⟨.load 1 false (.t 26), (some 27), (some (25, false)), []⟩ :: ⟨.call 89 [(.t 27)], (some 28), (some (25, false)), []⟩ :: L76_18
theorem v76_19 : VS L76_19.eq_1 := rfl
def L76_20 : List AStep := ⟨.mov (.t 24), (some 25), none, []⟩ :: ⟨.faddr 3 (.t 5), (some 26), (some (25, false)), []⟩ :: L76_19
theorem v76_20 : VS L76_20.eq_1 := rfl
def L76_21 : List AStep := ⟨.not (.t 22), (some 23), (some (19, false)), []⟩ :: ⟨.pick (.t 19) (.c (.bool true)) (.t 23), (some 24), none, []⟩ :: L76_20
theorem v76_21 : VS L76_21.eq_1 := rfl
def L76_22 : List AStep := ⟨.load 1 false (.t 20), (some 21), (some (19, false)), []⟩ :: ⟨.call 88 [(.t 21), (.c (.int .i64 0)), (.c (.int .i64 4))], (some 22), (some (19, false)), []⟩ :: L76_21
theorem v76_22 : VS L76_22.eq_1 := rfl
def L76_23 : List AStep := ⟨.mov (.t 18), (some 19), none, []⟩ :: ⟨.faddr 1 (.t 5), (some 20), (some (19, false)), []⟩ :: L76_22
theorem v76_23 : VS L76_23.eq_1 := rfl
def L76_24 : List AStep := ⟨.call 87 [(.t 16)], (some 17), none, []⟩ :: ⟨.not (.t 17), (some 18), none, []⟩ :: L76_23
theorem v76_24 : VS L76_24.eq_1 := rfl
def L76_25 : List AStep := ⟨.faddr 0 (.t 5), (some 15), none, []⟩ :: ⟨.load 1 false (.t 15), (some 16), none, []⟩ :: L76_24
theorem v76_25 : VS L76_25.eq_1 := rfl
def L76_26 : List AStep := [⟨.mov (.c (.bool false)), (some 2), none, []⟩]
theorem v76_26 : VS L76_26.eq_1 := rfl
def L76_27 : List AStep := [⟨.load 4 true (.t 5), (some 50), none, []⟩, ⟨.call 78 [(.t 50)], (some 51), none, []⟩]
theorem v76_27 : VS L76_27.eq_1 := rfl
def L76_28 : List AStep := [⟨.not (.t 55), (some 56), (some (53, true)), []⟩, ⟨.pick (.t 53) (.t 56) (.c (.bool false)), (some 57), none, []⟩]
theorem v76_28 : VS L76_28.eq_1 := rfl
def L76_29 : List AStep := ⟨.faddr 2 (.t 5), (some 54), (some (53, true)), []⟩ :: ⟨.load 1 false (.t 54), (some 55), (some (53, true)), []⟩ :: L76_28
theorem v76_29 : VS L76_29.eq_1 := rfl
def L76_30 : List AStep := ⟨.mov (.t 3), (some 52), none, []⟩ :: ⟨.mov (.t 52), (some 53), none, []⟩ :: L76_29
theorem v76_30 : VS L76_30.eq_1 := rfl
def L76_31 : List AStep := [⟨.mov (.c (.bool false)), (some 2), none, []⟩]
theorem v76_31 : VS L76_31.eq_1 := rfl
def L76_32 : List AStep := [⟨.mov (.t 59), (some 3), none, []⟩]
theorem v76_32 : VS L76_32.eq_1 := rfl
def L76_33 : List AStep := ⟨.faddr 2 (.t 5), (some 58), none, []⟩ :: ⟨.load 1 false (.t 58), (some 59), none, []⟩ :: L76_32
theorem v76_33 : VS L76_33.eq_1 := rfl
def L76_34 : List AStep := [⟨.mov (.t 4), (some 60), none, []⟩, ⟨.bin .gtr (.t 60) (.c (.int .i64 0)), (some 61), none, []⟩]
theorem v76_34 : VS L76_34.eq_1 := rfl
def L76_35 : List AStep := [⟨.load 1 false (.t 67), (some 68), none, []⟩, ⟨.mov (.t 68), (some 6), none, []⟩]
theorem v76_35 : VS L76_35.eq_1 := rfl
def L76_36 : List AStep := ⟨.iaddr 4 (.t 63) (.t 65), (some 66), none, []⟩ :: ⟨.faddr 1 (.t 66), (some 67), none, []⟩ :: L76_35
theorem v76_36 : VS L76_36.eq_1 := rfl
def L76_37 : List AStep := ⟨.mov (.t 4), (some 64), none, []⟩ :: ⟨.bin .sub (.t 64) (.c (.int .i64 1)), (some 65), none, []⟩ :: L76_36
theorem v76_37 : VS L76_37.eq_1 := rfl
def L76_38 : List AStep := ⟨.faddr 0 (.t 1), (some 62), none, []⟩ :: ⟨.load 1 false (.t 62), (some 63), none, []⟩ :: L76_37
theorem v76_38 : VS L76_38.eq_1 := rfl
def L76_39 : List AStep := [⟨.pick (.t 73) (.c (.bool true)) (.t 82), (some 83), none, []⟩]
theorem v76_39 : VS L76_39.eq_1 := rfl
def L76_40 : List AStep := ⟨.not (.t 80), (some 81), (some (78, true)), []⟩ :: ⟨.pick (.t 78) (.t 81) (.c (.bool false)), (some 82), (some (73, false)), []⟩ :: L76_39
theorem v76_40 : VS L76_40.eq_1 := rfl
def L76_41 : List AStep := ⟨.load 4 true (.t 5), (some 79), (some (78, true)), []⟩ :: ⟨.call 80 [(.t 79)], (some 80), (some (78, true)), []⟩ :: L76_40
theorem v76_41 : VS L76_41.eq_1 := rfl
def L76_42 : List AStep := ⟨.bin .eql (.t 75) (.t 76), (some 77), (some (73, false)), []⟩ :: ⟨.mov (.t 77), (some 78), (some (73, false)), []⟩ :: L76_41
theorem v76_42 : VS L76_42.eq_1 := rfl
def L76_43 : List AStep := ⟨.load 1 false (.t 74), (some 75), (some (73, false)), []⟩ :: ⟨.mov (.t 6), (some 76), (some (73, false)), []⟩ :: L76_42
theorem v76_43 : VS L76_43.eq_1 := rfl
def L76_44 : List AStep := ⟨.mov (.t 72), (some 73), none, []⟩ :: ⟨.faddr 1 (.t 5), (some 74), (some (73, false)), []⟩ :: L76_43
theorem v76_44 : VS L76_44.eq_1 := rfl
def L76_45 : List AStep := ⟨.mov (.t 6), (some 71), none, []⟩ :: ⟨.bin .lss (.t 70) (.t 71), (some 72), none, []⟩ :: L76_44
theorem v76_45 : VS L76_45.eq_1 := rfl
def L76_46 : List AStep := ⟨.faddr 1 (.t 5), (some 69), none, []⟩ :: ⟨.load 1 false (.t 69), (some 70), none, []⟩ :: L76_45
theorem v76_46 : VS L76_46.eq_1 := rfl
def L76_47 : List AStep := [⟨.mov (.c (.bool false)), (some 2), none, []⟩]
theorem v76_47 : VS L76_47.eq_1 := rfl
def L76_48 : List AStep := [⟨.call 90 [(.t 87), (.t 89)], (some 90), none, []⟩, ⟨.bin .geq (.t 90) (.c (.int .i64 0)), (some 91), none, []⟩]
theorem v76_48 : VS L76_48.eq_1 := rfl
def L76_49 : List AStep := ⟨.faddr 0 (.t 5), (some 88), none, []⟩ :: ⟨.load 1 false (.t 88), (some 89), none, []⟩ :: L76_48
theorem v76_49 : VS L76_49.eq_1 := rfl
def L76_50 : List AStep := ⟨.mov (.t 4), (some 86), none, []⟩ :: ⟨.slice 79 4 (.t 85) none (some (.t 86)) none, (some 87), none, []⟩ :: L76_49
theorem v76_50 : VS L76_50.eq_1 := rfl
def L76_51 : List AStep := ⟨.faddr 0 (.t 1), (some 84), none, []⟩ :: ⟨.load 1 false (.t 84), (some 85), none, []⟩ :: L76_50
theorem v76_51 : VS L76_51.eq_1 := rfl
def L76_52 : List AStep := [⟨.mov (.c (.bool false)), (some 2), none, []⟩]
theorem v76_52 : VS L76_52.eq_1 := rfl
def L76_53 : List AStep := [⟨.bin .add (.t 10) (.c (.int .i64 1)), (some 92), none, []⟩, ⟨.mov (.t 92), (some 10), none, []⟩]
theorem v76_53 : VS L76_53.eq_1 := rfl
def L76_54 : List AStep := [⟨.mov (.t 96), (some 2), none, []⟩]
theorem v76_54 : VS L76_54.eq_1 := rfl
def L76_55 : List AStep := ⟨.len (.t 94), (some 95), none, []⟩ :: ⟨.bin .leq (.t 95) (.c (.int .i64 8)), (some 96), none, []⟩ :: L76_54
theorem v76_55 : VS L76_55.eq_1 := rfl
def L76_56 : List AStep := ⟨.faddr 0 (.t 1), (some 93), none, []⟩ :: ⟨.load 1 false (.t 93), (some 94), none, []⟩ :: L76_55
theorem v76_56 : VS L76_56.eq_1 := rfl
def C76_0 : ACode := .cond (.t 11) .skip (.exit 0)
theorem u76_0 : VC C76_0.eq_1 := rfl
def C76_1 : ACode := .seq (.reg L76_26) .ret
theorem u76_1 : VC C76_1.eq_1 := rfl
def C76_2 : ACode := .cond (.t 49) C76_1 .skip
theorem u76_2 : VC C76_2.eq_1 := rfl
def C76_3 : ACode := .seq (.reg L76_25) C76_2
theorem u76_3 : VC C76_3.eq_1 := rfl
def C76_4 : ACode := .seq (.reg L76_31) .ret
theorem u76_4 : VC C76_4.eq_1 := rfl
def C76_5 : ACode := .cond (.t 57) C76_4 .skip
theorem u76_5 : VC C76_5.eq_1 := rfl
def C76_6 : ACode := .seq (.reg L76_30) C76_5
theorem u76_6 : VC C76_6.eq_1 := rfl
def C76_7 : ACode := .seq C76_6 (.reg L76_33)
theorem u76_7 : VC C76_7.eq_1 := rfl
def C76_8 : ACode := .cond (.t 51) C76_7 .skip
theorem u76_8 : VC C76_8.eq_1 := rfl
def C76_9 : ACode := .seq (.reg L76_27) C76_8
theorem u76_9 : VC C76_9.eq_1 := rfl
def C76_10 : ACode := .seq (.reg L76_47) .ret
theorem u76_10 : VC C76_10.eq_1 := rfl
def C76_11 : ACode := .cond (.t 83) C76_10 .skip
theorem u76_11 : VC C76_11.eq_1 := rfl
def C76_12 : ACode := .seq (.reg L76_46) C76_11
theorem u76_12 : VC C76_12.eq_1 := rfl
def C76_13 : ACode := .seq (.reg L76_38) C76_12
theorem u76_13 : VC C76_13.eq_1 := rfl
def C76_14 : ACode := .cond (.t 61) C76_13 .skip
theorem u76_14 : VC C76_14.eq_1 := rfl
def C76_15 : ACode := .seq (.reg L76_34) C76_14
theorem u76_15 : VC C76_15.eq_1 := rfl
def C76_16 : ACode := .seq (.reg L76_52) .ret
theorem u76_16 : VC C76_16.eq_1 := rfl
def C76_17 : ACode := .cond (.t 91) C76_16 .skip
theorem u76_17 : VC C76_17.eq_1 := rfl
def C76_18 : ACode := .seq (.reg L76_51) C76_17
theorem u76_18 : VC C76_18.eq_1 := rfl
def C76_19 : ACode := .seq C76_15 C76_18
theorem u76_19 : VC C76_19.eq_1 := rfl
def C76_20 : ACode := .seq C76_9 C76_19
theorem u76_20 : VC C76_20.eq_1 := rfl
def C76_21 : ACode := .seq C76_3 C76_20
theorem u76_21 : VC C76_21.eq_1 := rfl
def C76_22 : ACode := .seq (.reg L76_7) C76_21
theorem u76_22 : VC C76_22.eq_1 := rfl
def C76_23 : ACode := .block 1 C76_22
theorem u76_23 : VC C76_23.eq_1 := rfl
def C76_24 : ACode := .seq C76_23 (.reg L76_53)
theorem u76_24 : VC C76_24.eq_1 := rfl
def C76_25 : ACode := .seq C76_0 C76_24
theorem u76_25 : VC C76_25.eq_1 := rfl
def C76_26 : ACode := .seq (.reg L76_4) C76_25
theorem u76_26 : VC C76_26.eq_1 := rfl
def C76_27 : ACode := .block 0 (.loop C76_26)
theorem u76_27 : VC C76_27.eq_1 := rfl
def C76_28 : ACode := .seq (.reg L76_3) C76_27
theorem u76_28 : VC C76_28.eq_1 := rfl
def C76_29 : ACode := .seq (.reg L76_56) .ret
theorem u76_29 : VC C76_29.eq_1 := rfl
def C76_30 : ACode := .seq C76_28 C76_29
theorem u76_30 : VC C76_30.eq_1 := rfl
def C76_31 : ACode := .seq (.reg L76_1) C76_30
theorem u76_31 : VC C76_31.eq_1 := rfl
def C76_32 : ACode := .seq (.reg L76_0) C76_31
theorem u76_32 : VC C76_32.eq_1 := rfl
def F76 : AFunc := ⟨97, [.tmp 2], C76_32⟩
theorem cF76 : compB Tryz.prog 76 = some F76 := by kernel_rfl
attribute [local go_sem ↓] u76_0 u76_1 u76_2 u76_3 u76_4 u76_5 u76_6 u76_7 u76_8 u76_9 u76_10 u76_11 u76_12 u76_13 u76_14 u76_15 u76_16 u76_17 u76_18 u76_19 u76_20 u76_21 u76_22 u76_23 u76_24 u76_25 u76_26 u76_27 u76_28 u76_29 u76_30 u76_31 u76_32 v76_0 v76_1 v76_2 v76_3 v76_4 v76_5 v76_6 v76_7 v76_8 v76_9 v76_10 v76_11 v76_12 v76_13 v76_14 v76_15 v76_16 v76_17 v76_18 v76_19 v76_20 v76_21 v76_22 v76_23 v76_24 v76_25 v76_26 v76_27 v76_28 v76_29 v76_30 v76_31 v76_32 v76_33 v76_34 v76_35 v76_36 v76_37 v76_38 v76_39 v76_40 v76_41 v76_42 v76_43 v76_44 v76_45 v76_46 v76_47 v76_48 v76_49 v76_50 v76_51 v76_52 v76_53 v76_54 v76_55 v76_56
theorem c_ValidSignature (l : List Param) (pv : CV) (h : H) (hl : SlQ h (.one pv) l) (hn : smQ l) : bm Tryz.prog 76 [.agg [pv]] h = some (ib (okSig l), h) := by
  refine bm_eq cF76 ?_
  simp +contextual (maxSteps := 2000000) only [go_sem, Nat.reduceEqDiff, reduceCtorEq, Nat.reduceAdd, Nat.reduceLeDiff, F76, hl.len]
  refine wpC_loop (fun i T L h' => h' = h ∧ T 1 = .lp 1 0 ∧ (L 1).2 = [pv] ∧ T 3 = .v (.one (.bool (optAt l i))) ∧ T 8 = .v (.one pv) ∧ T 9 = .v (.one (.int .i64 l.length)) ∧ T 10 = .v (.one (.int .i64 i)) ∧ Upto (stepAt l) i) l.length ?_ ?_ (Nat.zero_le _) ?_
  · rintro i T L h' hi ⟨rfl, t1, l1, t3, t8, t9, t10, hu⟩
    obtain ⟨v', e1, s1⟩ := hl.takeO (i := i) (by omega) (kd := .i64)
    have e2 : decide (paramAt (l.take i) l[i].name ≥ 0) = !(newAt Param.name l i) := newAt_ge hi
    have e3 := stepI_eq hi hu
    have e5 := optAt_next hi
    cases i with
    | zero =>
      have e4 : decide (((0 : Nat) : Int) > 0) = false := rfl
      rw [stepI_zero hi] at e3
      simp +contextual (maxSteps := 2000000) only [go_sem, Nat.reduceEqDiff, reduceCtorEq, Nat.reduceAdd, Nat.reduceLeDiff, e2, e4, e5, optAt, t1, l1, t3, t8, t9, t10, hl.iaddr hi, hl.whole hi, lt_true hi, e1, c_isName _ _ (hn.at hi), c_in, c_isValue, c_single, c_placed, c_find _ _ _ _ s1 (hn.take _)]
      (repeat' (first | refine And.intro ?_ ?_ | intro _)) <;> first | rfl | rw [wrap_next hi hn.len] | exact hu.next (by rw [← e3]; simp_all [okParam]) | (rw [okSig_not hi (by rw [← e3]; simp_all [okParam] <;> (intros; omega))]) | simp_all
    | succ j =>
      have e4 : decide (((j + 1 : Nat) : Int) > 0) = true := decide_eq_true (by omega)
      have hj : j < l.length := by omega
      rw [stepI_succ hi] at e3
      simp +contextual (maxSteps := 2000000) only [go_sem, Nat.reduceEqDiff, reduceCtorEq, Nat.reduceAdd, Nat.reduceLeDiff, e2, e4, e5, t1, l1, t3, t8, t9, t10, hl.iaddr hi, hl.whole hi, lt_true hi, e1, c_isName _ _ (hn.at hi), c_in, c_isValue, c_single, c_placed, c_find _ _ _ _ s1 (hn.take _), wrap_pred (show j < 2 ^ 62 from Nat.lt_trans (Nat.lt_succ_self j) (Nat.lt_trans hi hn.len)), hl.iaddr hj, hl.fieldO hj]
      (repeat' (first | refine And.intro ?_ ?_ | intro _)) <;> first | rfl | rw [wrap_next hi hn.len] | exact hu.next (by rw [← e3]; simp_all [okParam]) | (rw [okSig_not hi (by rw [← e3]; simp_all [okParam] <;> (intros; omega))]) | simp_all
  · rintro T L h' ⟨rfl, t1, l1, t3, t8, t9, t10, hu⟩
    simp +contextual (maxSteps := 2000000) only [go_sem, Nat.reduceEqDiff, reduceCtorEq, Nat.reduceAdd, Nat.reduceLeDiff, t1, l1, t8, t9, t10, hl.len, lt_false, okSig_of hu]
  · simp +contextual (maxSteps := 2000000) only [go_sem, Nat.reduceEqDiff, reduceCtorEq, Nat.reduceAdd, Nat.reduceLeDiff, optAt]
    (repeat' (first | refine And.intro ?_ ?_ | intro _)) <;> first | rfl | exact Upto.zero
end Go.Proofs.YtdalgphpacikkaaGreat.Am
