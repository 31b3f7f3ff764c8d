/- Contracts of the program: signatures that are valid. -/
import Derived.Test.YtekkimfdcbgcoaaA3
namespace Go.Proofs.Ytekkimfdcbgcoaa.Am
open Go
set_option maxRecDepth 100000
set_option maxHeartbeats 4000000
set_option linter.unusedSimpArgs false
set_option linter.unusedVariables false
attribute [local go_sem ↓] bv_t bv_c ev_t ev_c put_same put_ne put_none kill_at pro_at lb_same lb_ne start_zero start_succ wpC_seq wpC_reg wpC_cond wpC_block wpC_skip wpC_exit wpC_ret thenQ_normal thenQ_exit thenQ_ret inBlk_normal inBlk_exit inBlk_ret wpS_nil wpS_step wpS_again wpS_guard wpO_mov wpO_load wpO_faddr wpO_nilCheck wpO_pick wpO_build wpO_bin wpO_eqb wpO_eqst wpO_eqnil wpO_not wpO_conv wpO_bytesStr wpO_iaddr wpO_idxStr wpO_field wpO_extract wpO_len wpO_lenStr wpO_cap wpO_min wpO_slice wpO_sliceStr wpO_alloc wpO_box wpO_store wpO_call wpO_callv wpO_mkfn wpO_buildSlice wpO_mkslice wpO_append wpO_appz proA_nil proA_cons tmpX_nil tmpX_tmp tmpX_cell doneB_normal doneB_ret agK_cons agK_nil agK_guard agG_tt agG_ff agG_tf agG_ft agG_undef pureB_load results_one results_two results_nil resBs_cons resBs_nil resB_tmp resB_cell
attribute [local go_sem] kill_v kill_lp_ne kill_lp_same pro_v pro_lp_same pro_lp_ne av_v av_lp optB_some optX_some valX_eq ldX_lp ldX_v faX_lp faX_v ncX_lp ncX_ptr ncX_fn boxK_one boxK_agg stL_some stK_lp_one stK_lp_agg stK_v_one stK_v_agg proM_v proM_lp callG_mk callVG_mk callvK_fn fnG_mk ptrsA_nil ptrsA_cons callH_some whenA_true whenA_false guardH_tt guardH_ff guardH_tf guardH_ft guardH_undef agV_one agV_agg lenO_sl lenStrO_str notO_bool pickO_bool convO_int eqbO_bool eqnilO_sl extractO_tup capO_sl minO_int loadL_one loadL_all storeL_eq fillA_nil fillA_one fillA_agg nat_ge neg_ge nat_lt neg_lt buildO bin_add bin_sub bin_mul bin_eql bin_neq bin_lss bin_leq bin_gtr bin_geq str_eql str_neq str_lss str_leq str_gtr str_geq retK_some endK_mk gcK_same gcK_int gcK_bool tupO_one tupO_agg rdy_self ib ii Option.map_none Option.map_some Option.some.injEq exists_eq_left' exists_eq_left ne_eq not_false_eq_true if_true if_false List.map_cons List.map_nil List.getElem?_cons_zero List.getElem?_cons_succ List.length_cons List.length_nil List.take_succ_cons List.take_zero List.take_nil List.drop_succ_cons List.drop_zero List.drop_nil List.cons_append List.nil_append List.append_nil List.set_cons_zero List.set_cons_succ Nat.zero_add forall_const true_and and_true and_self Bool.false_eq_true false_implies true_implies implies_true Bool.not_true Bool.not_false Bool.not_eq_true' Bool.not_eq_false' beq_self_eq_true Bool.bne_true Bool.bne_false
attribute [local go_sem] lenI lenS lenP lenQ lenB lenL lenT encI_0 encS_0 encP_0 encP_1 encQ_0 encQ_1 encQ_2 encQ_3 encB_0 encB_1 encL_0 encL_1 encT_0 encT_1
attribute [local go_sem low] whenA_bool guardH_bool
/-! impl.ValidSignature -/
def L49_0 : List AStep := [⟨.box 38 (.t 0), (some 1), none, []⟩, ⟨.mov (.c (.bool false)), (some 2), none, []⟩]
theorem v49_0 : VS L49_0.eq_1 := rfl
def L49_1 : List AStep := [⟨.mov (.c (.bool false)), (some 3), none, []⟩]
theorem v49_1 : VS L49_1.eq_1 := rfl
def L49_2 : List AStep := [⟨.len (.t 8), (some 9), none, []⟩, ⟨.mov (.c (.int .i64 0)), (some 10), none, []⟩]
theorem v49_2 : VS L49_2.eq_1 := rfl
def L49_3 : List AStep := ⟨.faddr 0 (.t 1), (some 7), none, []⟩ :: ⟨.load 1 false (.t 7), (some 8), none, []⟩ :: L49_2
theorem v49_3 : VS L49_3.eq_1 := rfl
def L49_4 : List AStep := [⟨.bin .lss (.t 10) (.t 9), (some 11), none, []⟩]
theorem v49_4 : VS L49_4.eq_1 := rfl
def L49_5 : List AStep := [⟨.mov (.t 12), (some 4), none, []⟩, ⟨.store 4 (.t 5) (.t 14), none, none, []⟩]
theorem v49_5 : VS L49_5.eq_1 := rfl
def L49_6 : List AStep := ⟨.load 4 true (.t 13), (some 14), none, []⟩ :: ⟨.alloc 35 [(.str (strOfNums [])), (.int .i64 0), (.bool false), (.int .i64 0)], (some 5), none, []⟩ :: L49_5
theorem v49_6 : VS L49_6.eq_1 := rfl
def L49_7 : List AStep := ⟨.mov (.t 10), (some 12), none, []⟩ :: ⟨.iaddr 4 (.t 8) (.t 10), (some 13), none, []⟩ :: L49_6
theorem v49_7 : VS L49_7.eq_1 := rfl
def L49_8 : List AStep := [⟨.pick (.t 41) (.c (.bool true)) (.t 48), (some 49), none, []⟩]
theorem v49_8 : VS L49_8.eq_1 := rfl
def L49_9 : List AStep := ⟨.not (.t 46), (some 47), (some (44, true)), []⟩ :: ⟨.pick (.t 44) (.t 47) (.c (.bool false)), (some 48), (some (41, false)), []⟩ :: L49_8
theorem v49_9 : VS L49_9.eq_1 := rfl
def L49_10 : List AStep := ⟨.load 4 true (.t 5), (some 45), (some (44, true)), []⟩ :: ⟨.call 100 [(.t 45)], (some 46), (some (44, true)), []⟩ :: L49_9
theorem v49_10 : VS L49_10.eq_1 := rfl
def L49_11 : List AStep := ⟨.load 1 false (.t 42), (some 43), (some (41, false)), []⟩ :: ⟨.mov (.t 43), (some 44), (some (41, false)), []⟩ :: L49_10
theorem v49_11 : VS L49_11.eq_1 := rfl
def L49_12 : List AStep := ⟨.mov (.t 40), (some 41), none, []⟩ :: ⟨.faddr 2 (.t 5), (some 42), (some (41, false)), []⟩ :: L49_11
theorem v49_12 : VS L49_12.eq_1 := rfl
def L49_13 : List AStep := ⟨.pick (.t 35) (.t 38) (.c (.bool false)), (some 39), (some (31, false)), []⟩ :: ⟨.pick (.t 31) (.c (.bool true)) (.t 39), (some 40), none, []⟩ :: L49_12
theorem v49_13 : VS L49_13.eq_1 := rfl
def L49_14 : List AStep := ⟨.load 1 false (.t 36), (some 37), (some (35, true)), []⟩ :: ⟨.bin .neq (.t 37) (.c (.int .i64 0)), (some 38), (some (35, true)), []⟩ :: L49_13
theorem v49_14 : VS L49_14.eq_1 := rfl
def L49_15 : List AStep := ⟨.mov (.t 34), (some 35), (some (31, false)), []⟩ :: ⟨.faddr 3 (.t 5), (some 36), (some (35, true)), []⟩ :: L49_14
theorem v49_15 : VS L49_15.eq_1 := rfl
def L49_16 : List AStep := ⟨.load 1 false (.t 32), (some 33), (some (31, false)), []⟩ :: ⟨.not (.t 33), (some 34), (some (31, false)), []⟩ :: L49_15
theorem v49_16 : VS L49_16.eq_1 := rfl
def L49_17 : List AStep := ⟨.mov (.t 30), (some 31), none, []⟩ :: ⟨.faddr 2 (.t 5), (some 32), (some (31, false)), []⟩ :: L49_16
theorem v49_17 : VS L49_17.eq_1 := rfl
def L49_18 : List AStep := ⟨.not (.t 28), (some 29), (some (25, false)), []⟩ :: ⟨.pick (.t 25) (.c (.bool true)) (.t 29), (some 30), none, []⟩ :: L49_17
theorem v49_18 : VS L49_18.eq_1 := rfl
def L49_19 : List AStep := ⟨.load 1 false (.t 26), (some 27), (some (25, false)), []⟩ :: ⟨.call 99 [(.t 27)], (some 28), (some (25, false)), []⟩ :: L49_18
theorem v49_19 : VS L49_19.eq_1 := rfl
def L49_20 : List AStep := ⟨.mov (.t 24), (some 25), none, []⟩ :: ⟨.faddr 3 (.t 5), (some 26), (some (25, false)), []⟩ :: L49_19
theorem v49_20 : VS L49_20.eq_1 := rfl
def L49_21 : List AStep := ⟨.not (.t 22), (some 23), (some (19, false)), []⟩ :: ⟨.pick (.t 19) (.c (.bool true)) (.t 23), (some 24), none, []⟩ :: L49_20
theorem v49_21 : VS L49_21.eq_1 := rfl
def L49_22 : List AStep := ⟨.load 1 false (.t 20), (some 21), (some (19, false)), []⟩ :: ⟨.call 86 [(.t 21), (.c (.int .i64 0)), (.c (.int .i64 4))], (some 22), (some (19, false)), []⟩ :: L49_21
theorem v49_22 : VS L49_22.eq_1 := rfl
def L49_23 : List AStep := ⟨.mov (.t 18), (some 19), none, []⟩ :: ⟨.faddr 1 (.t 5), (some 20), (some (19, false)), []⟩ :: L49_22
theorem v49_23 : VS L49_23.eq_1 := rfl
def L49_24 : List AStep := ⟨.call 61 [(.t 16)], (some 17), none, []⟩ :: ⟨.not (.t 17), (some 18), none, []⟩ :: L49_23
theorem v49_24 : VS L49_24.eq_1 := rfl
def L49_25 : List AStep := ⟨.faddr 0 (.t 5), (some 15), none, []⟩ :: ⟨.load 1 false (.t 15), (some 16), none, []⟩ :: L49_24
theorem v49_25 : VS L49_25.eq_1 := rfl
def L49_26 : List AStep := [⟨.mov (.c (.bool false)), (some 2), none, []⟩]
theorem v49_26 : VS L49_26.eq_1 := rfl
def L49_27 : List AStep := [⟨.load 4 true (.t 5), (some 50), none, []⟩, ⟨.call 101 [(.t 50)], (some 51), none, []⟩]
theorem v49_27 : VS L49_27.eq_1 := rfl
def L49_28 : List AStep := [⟨.not (.t 55), (some 56), (some (53, true)), []⟩, ⟨.pick (.t 53) (.t 56) (.c (.bool false)), (some 57), none, []⟩]
theorem v49_28 : VS L49_28.eq_1 := rfl
def L49_29 : List AStep := ⟨.faddr 2 (.t 5), (some 54), (some (53, true)), []⟩ :: ⟨.load 1 false (.t 54), (some 55), (some (53, true)), []⟩ :: L49_28
theorem v49_29 : VS L49_29.eq_1 := rfl
def L49_30 : List AStep := ⟨.mov (.t 3), (some 52), none, []⟩ :: ⟨.mov (.t 52), (some 53), none, []⟩ :: L49_29
theorem v49_30 : VS L49_30.eq_1 := rfl
def L49_31 : List AStep := [⟨.mov (.c (.bool false)), (some 2), none, []⟩]
theorem v49_31 : VS L49_31.eq_1 := rfl
def L49_32 : List AStep := [⟨.mov (.t 59), (some 3), none, []⟩]
theorem v49_32 : VS L49_32.eq_1 := rfl
def L49_33 : List AStep := ⟨.faddr 2 (.t 5), (some 58), none, []⟩ :: ⟨.load 1 false (.t 58), (some 59), none, []⟩ :: L49_32
theorem v49_33 : VS L49_33.eq_1 := rfl
def L49_34 : List AStep := [⟨.mov (.t 4), (some 60), none, []⟩, ⟨.bin .gtr (.t 60) (.c (.int .i64 0)), (some 61), none, []⟩]
theorem v49_34 : VS L49_34.eq_1 := rfl
def L49_35 : List AStep := [⟨.load 1 false (.t 67), (some 68), none, []⟩, ⟨.mov (.t 68), (some 6), none, []⟩]
theorem v49_35 : VS L49_35.eq_1 := rfl
def L49_36 : List AStep := ⟨.iaddr 4 (.t 63) (.t 65), (some 66), none, []⟩ :: ⟨.faddr 1 (.t 66), (some 67), none, []⟩ :: L49_35
theorem v49_36 : VS L49_36.eq_1 := rfl
def L49_37 : List AStep := ⟨.mov (.t 4), (some 64), none, []⟩ :: ⟨.bin .sub (.t 64) (.c (.int .i64 1)), (some 65), none, []⟩ :: L49_36
theorem v49_37 : VS L49_37.eq_1 := rfl
def L49_38 : List AStep := ⟨.faddr 0 (.t 1), (some 62), none, []⟩ :: ⟨.load 1 false (.t 62), (some 63), none, []⟩ :: L49_37
theorem v49_38 : VS L49_38.eq_1 := rfl
def L49_39 : List AStep := [⟨.pick (.t 73) (.c (.bool true)) (.t 82), (some 83), none, []⟩]
theorem v49_39 : VS L49_39.eq_1 := rfl
def L49_40 : List AStep := ⟨.not (.t 80), (some 81), (some (78, true)), []⟩ :: ⟨.pick (.t 78) (.t 81) (.c (.bool false)), (some 82), (some (73, false)), []⟩ :: L49_39
theorem v49_40 : VS L49_40.eq_1 := rfl
def L49_41 : List AStep := ⟨.load 4 true (.t 5), (some 79), (some (78, true)), []⟩ :: ⟨.call 100 [(.t 79)], (some 80), (some (78, true)), []⟩ :: L49_40
theorem v49_41 : VS L49_41.eq_1 := rfl
def L49_42 : List AStep := ⟨.bin .eql (.t 75) (.t 76), (some 77), (some (73, false)), []⟩ :: ⟨.mov (.t 77), (some 78), (some (73, false)), []⟩ :: L49_41
theorem v49_42 : VS L49_42.eq_1 := rfl
def L49_43 : List AStep := ⟨.load 1 false (.t 74), (some 75), (some (73, false)), []⟩ :: ⟨.mov (.t 6), (some 76), (some (73, false)), []⟩ :: L49_42
theorem v49_43 : VS L49_43.eq_1 := rfl
def L49_44 : List AStep := ⟨.mov (.t 72), (some 73), none, []⟩ :: ⟨.faddr 1 (.t 5), (some 74), (some (73, false)), []⟩ :: L49_43
theorem v49_44 : VS L49_44.eq_1 := rfl
def L49_45 : List AStep := ⟨.mov (.t 6), (some 71), none, []⟩ :: ⟨.bin .lss (.t 70) (.t 71), (some 72), none, []⟩ :: L49_44
theorem v49_45 : VS L49_45.eq_1 := rfl
def L49_46 : List AStep := ⟨.faddr 1 (.t 5), (some 69), none, []⟩ :: ⟨.load 1 false (.t 69), (some 70), none, []⟩ :: L49_45
theorem v49_46 : VS L49_46.eq_1 := rfl
def L49_47 : List AStep := [⟨.mov (.c (.bool false)), (some 2), none, []⟩]
theorem v49_47 : VS L49_47.eq_1 := rfl
def L49_48 : List AStep := [⟨.call 102 [(.t 87), (.t 89)], (some 90), none, []⟩, ⟨.bin .geq (.t 90) (.c (.int .i64 0)), (some 91), none, []⟩]
theorem v49_48 : VS L49_48.eq_1 := rfl
def L49_49 : List AStep := ⟨.faddr 0 (.t 5), (some 88), none, []⟩ :: ⟨.load 1 false (.t 88), (some 89), none, []⟩ :: L49_48
theorem v49_49 : VS L49_49.eq_1 := rfl
def L49_50 : List AStep := ⟨.mov (.t 4), (some 86), none, []⟩ :: ⟨.slice 35 4 (.t 85) none (some (.t 86)) none, (some 87), none, []⟩ :: L49_49
theorem v49_50 : VS L49_50.eq_1 := rfl
def L49_51 : List AStep := ⟨.faddr 0 (.t 1), (some 84), none, []⟩ :: ⟨.load 1 false (.t 84), (some 85), none, []⟩ :: L49_50
theorem v49_51 : VS L49_51.eq_1 := rfl
def L49_52 : List AStep := [⟨.mov (.c (.bool false)), (some 2), none, []⟩]
theorem v49_52 : VS L49_52.eq_1 := rfl
def L49_53 : List AStep := [⟨.bin .add (.t 10) (.c (.int .i64 1)), (some 92), none, []⟩, ⟨.mov (.t 92), (some 10), none, []⟩]
theorem v49_53 : VS L49_53.eq_1 := rfl
def L49_54 : List AStep := [⟨.mov (.t 96), (some 2), none, []⟩]
theorem v49_54 : VS L49_54.eq_1 := rfl
def L49_55 : List AStep := ⟨.len (.t 94), (some 95), none, []⟩ :: ⟨.bin .leq (.t 95) (.c (.int .i64 8)), (some 96), none, []⟩ :: L49_54
theorem v49_55 : VS L49_55.eq_1 := rfl
def L49_56 : List AStep := ⟨.faddr 0 (.t 1), (some 93), none, []⟩ :: ⟨.load 1 false (.t 93), (some 94), none, []⟩ :: L49_55
theorem v49_56 : VS L49_56.eq_1 := rfl
def C49_0 : ACode := .cond (.t 11) .skip (.exit 0)
theorem u49_0 : VC C49_0.eq_1 := rfl
def C49_1 : ACode := .seq (.reg L49_26) .ret
theorem u49_1 : VC C49_1.eq_1 := rfl
def C49_2 : ACode := .cond (.t 49) C49_1 .skip
theorem u49_2 : VC C49_2.eq_1 := rfl
def C49_3 : ACode := .seq (.reg L49_25) C49_2
theorem u49_3 : VC C49_3.eq_1 := rfl
def C49_4 : ACode := .seq (.reg L49_31) .ret
theorem u49_4 : VC C49_4.eq_1 := rfl
def C49_5 : ACode := .cond (.t 57) C49_4 .skip
theorem u49_5 : VC C49_5.eq_1 := rfl
def C49_6 : ACode := .seq (.reg L49_30) C49_5
theorem u49_6 : VC C49_6.eq_1 := rfl
def C49_7 : ACode := .seq C49_6 (.reg L49_33)
theorem u49_7 : VC C49_7.eq_1 := rfl
def C49_8 : ACode := .cond (.t 51) C49_7 .skip
theorem u49_8 : VC C49_8.eq_1 := rfl
def C49_9 : ACode := .seq (.reg L49_27) C49_8
theorem u49_9 : VC C49_9.eq_1 := rfl
def C49_10 : ACode := .seq (.reg L49_47) .ret
theorem u49_10 : VC C49_10.eq_1 := rfl
def C49_11 : ACode := .cond (.t 83) C49_10 .skip
theorem u49_11 : VC C49_11.eq_1 := rfl
def C49_12 : ACode := .seq (.reg L49_46) C49_11
theorem u49_12 : VC C49_12.eq_1 := rfl
def C49_13 : ACode := .seq (.reg L49_38) C49_12
theorem u49_13 : VC C49_13.eq_1 := rfl
def C49_14 : ACode := .cond (.t 61) C49_13 .skip
theorem u49_14 : VC C49_14.eq_1 := rfl
def C49_15 : ACode := .seq (.reg L49_34) C49_14
theorem u49_15 : VC C49_15.eq_1 := rfl
def C49_16 : ACode := .seq (.reg L49_52) .ret
theorem u49_16 : VC C49_16.eq_1 := rfl
def C49_17 : ACode := .cond (.t 91) C49_16 .skip
theorem u49_17 : VC C49_17.eq_1 := rfl
def C49_18 : ACode := .seq (.reg L49_51) C49_17
theorem u49_18 : VC C49_18.eq_1 := rfl
def C49_19 : ACode := .seq C49_15 C49_18
theorem u49_19 : VC C49_19.eq_1 := rfl
def C49_20 : ACode := .seq C49_9 C49_19
theorem u49_20 : VC C49_20.eq_1 := rfl
def C49_21 : ACode := .seq C49_3 C49_20
theorem u49_21 : VC C49_21.eq_1 := rfl
def C49_22 : ACode := .seq (.reg L49_7) C49_21
theorem u49_22 : VC C49_22.eq_1 := rfl
def C49_23 : ACode := .block 1 C49_22
theorem u49_23 : VC C49_23.eq_1 := rfl
def C49_24 : ACode := .seq C49_23 (.reg L49_53)
theorem u49_24 : VC C49_24.eq_1 := rfl
def C49_25 : ACode := .seq C49_0 C49_24
theorem u49_25 : VC C49_25.eq_1 := rfl
def C49_26 : ACode := .seq (.reg L49_4) C49_25
theorem u49_26 : VC C49_26.eq_1 := rfl
def C49_27 : ACode := .block 0 (.loop C49_26)
theorem u49_27 : VC C49_27.eq_1 := rfl
def C49_28 : ACode := .seq (.reg L49_3) C49_27
theorem u49_28 : VC C49_28.eq_1 := rfl
def C49_29 : ACode := .seq (.reg L49_56) .ret
theorem u49_29 : VC C49_29.eq_1 := rfl
def C49_30 : ACode := .seq C49_28 C49_29
theorem u49_30 : VC C49_30.eq_1 := rfl
def C49_31 : ACode := .seq (.reg L49_1) C49_30
theorem u49_31 : VC C49_31.eq_1 := rfl
def C49_32 : ACode := .seq (.reg L49_0) C49_31
theorem u49_32 : VC C49_32.eq_1 := rfl
def F49 : AFunc := ⟨97, [.tmp 2], C49_32⟩
theorem cF49 : compB Try.prog 49 = some F49 := by kernel_rfl
attribute [local go_sem ↓] u49_0 u49_1 u49_2 u49_3 u49_4 u49_5 u49_6 u49_7 u49_8 u49_9 u49_10 u49_11 u49_12 u49_13 u49_14 u49_15 u49_16 u49_17 u49_18 u49_19 u49_20 u49_21 u49_22 u49_23 u49_24 u49_25 u49_26 u49_27 u49_28 u49_29 u49_30 u49_31 u49_32 v49_0 v49_1 v49_2 v49_3 v49_4 v49_5 v49_6 v49_7 v49_8 v49_9 v49_10 v49_11 v49_12 v49_13 v49_14 v49_15 v49_16 v49_17 v49_18 v49_19 v49_20 v49_21 v49_22 v49_23 v49_24 v49_25 v49_26 v49_27 v49_28 v49_29 v49_30 v49_31 v49_32 v49_33 v49_34 v49_35 v49_36 v49_37 v49_38 v49_39 v49_40 v49_41 v49_42 v49_43 v49_44 v49_45 v49_46 v49_47 v49_48 v49_49 v49_50 v49_51 v49_52 v49_53 v49_54 v49_55 v49_56
theorem c_ValidSignature (l : List Param) (pv : CV) (h : H) (hl : SlQ h (.one pv) l) (hn : smQ l) : bm Try.prog 49 [.agg [pv]] h = some (ib (okSig l), h) := by
  refine bm_eq cF49 ?_
  simp +contextual (maxSteps := 2000000) only [go_sem, Nat.reduceEqDiff, reduceCtorEq, Nat.reduceAdd, Nat.reduceLeDiff, F49, hl.len]
  refine wpC_loop (fun i T L h' => h' = h ∧ T 1 = .lp 1 0 ∧ (L 1).2 = [pv] ∧ T 3 = .v (.one (.bool (optAt l i))) ∧ T 8 = .v (.one pv) ∧ T 9 = .v (.one (.int .i64 l.length)) ∧ T 10 = .v (.one (.int .i64 i)) ∧ Upto (stepAt l) i) l.length ?_ ?_ (Nat.zero_le _) ?_
  · rintro i T L h' hi ⟨rfl, t1, l1, t3, t8, t9, t10, hu⟩
    obtain ⟨v', e1, s1⟩ := hl.takeO (i := i) (by omega) (kd := .i64)
    have e2 : decide (paramAt (l.take i) l[i].name ≥ 0) = !(newAt Param.name l i) := newAt_ge hi
    have e3 := stepI_eq hi hu
    have e5 := optAt_next hi
    cases i with
    | zero =>
      have e4 : decide (((0 : Nat) : Int) > 0) = false := rfl
      rw [stepI_zero hi] at e3
      simp +contextual (maxSteps := 2000000) only [go_sem, Nat.reduceEqDiff, reduceCtorEq, Nat.reduceAdd, Nat.reduceLeDiff, e2, e4, e5, optAt, t1, l1, t3, t8, t9, t10, hl.iaddr hi, hl.whole hi, lt_true hi, e1, c_isName _ _ (hn.at hi), c_in, c_isValue, c_single, c_placed, c_find _ _ _ _ s1 (hn.take _)]
      (repeat' (first | refine And.intro ?_ ?_ | intro _)) <;> first | rfl | rw [wrap_next hi hn.len] | exact hu.next (by rw [← e3]; simp_all [okParam]) | (rw [okSig_not hi (by rw [← e3]; simp_all [okParam] <;> (intros; omega))]) | simp_all
    | succ j =>
      have e4 : decide (((j + 1 : Nat) : Int) > 0) = true := decide_eq_true (by omega)
      have hj : j < l.length := by omega
      rw [stepI_succ hi] at e3
      simp +contextual (maxSteps := 2000000) only [go_sem, Nat.reduceEqDiff, reduceCtorEq, Nat.reduceAdd, Nat.reduceLeDiff, e2, e4, e5, t1, l1, t3, t8, t9, t10, hl.iaddr hi, hl.whole hi, lt_true hi, e1, c_isName _ _ (hn.at hi), c_in, c_isValue, c_single, c_placed, c_find _ _ _ _ s1 (hn.take _), wrap_pred (show j < 2 ^ 62 from Nat.lt_trans (Nat.lt_succ_self j) (Nat.lt_trans hi hn.len)), hl.iaddr hj, hl.fieldO hj]
      (repeat' (first | refine And.intro ?_ ?_ | intro _)) <;> first | rfl | rw [wrap_next hi hn.len] | exact hu.next (by rw [← e3]; simp_all [okParam]) | (rw [okSig_not hi (by rw [← e3]; simp_all [okParam] <;> (intros; omega))]) | simp_all
  · rintro T L h' ⟨rfl, t1, l1, t3, t8, t9, t10, hu⟩
    simp +contextual (maxSteps := 2000000) only [go_sem, Nat.reduceEqDiff, reduceCtorEq, Nat.reduceAdd, Nat.reduceLeDiff, t1, l1, t8, t9, t10, hl.len, lt_false, okSig_of hu]
  · simp +contextual (maxSteps := 2000000) only [go_sem, Nat.reduceEqDiff, reduceCtorEq, Nat.reduceAdd, Nat.reduceLeDiff, optAt]
    (repeat' (first | refine And.intro ?_ ?_ | intro _)) <;> first | rfl | exact Upto.zero
end Go.Proofs.Ytekkimfdcbgcoaa.Am
