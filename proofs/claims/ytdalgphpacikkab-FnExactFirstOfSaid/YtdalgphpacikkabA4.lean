/- Contracts of the program: signatures that are valid. -/
import Derived.Test.YtdalgphpacikkabA3
namespace Go.Proofs.Ytdalgphpacikkab.Am
open Go
set_option maxRecDepth 100000
set_option maxHeartbeats 4000000
set_option linter.unusedSimpArgs false
set_option linter.unusedVariables false
attribute [local go_sem ↓] bv_t bv_c ev_t ev_c put_same put_ne put_none kill_at pro_at lb_same lb_ne start_zero start_succ wpC_seq wpC_reg wpC_cond wpC_block wpC_skip wpC_exit wpC_ret thenQ_normal thenQ_exit thenQ_ret inBlk_normal inBlk_exit inBlk_ret wpS_nil wpS_step wpS_again wpS_guard wpO_mov wpO_load wpO_faddr wpO_nilCheck wpO_pick wpO_build wpO_bin wpO_eqb wpO_eqst wpO_eqnil wpO_not wpO_conv wpO_bytesStr wpO_iaddr wpO_idxStr wpO_field wpO_extract wpO_len wpO_lenStr wpO_cap wpO_min wpO_slice wpO_sliceStr wpO_alloc wpO_box wpO_store wpO_call wpO_callv wpO_mkfn wpO_buildSlice wpO_mkslice wpO_append wpO_appz proA_nil proA_cons tmpX_nil tmpX_tmp tmpX_cell doneB_normal doneB_ret agK_cons agK_nil agK_guard agG_tt agG_ff agG_tf agG_ft agG_undef pureB_load results_one results_two results_nil resBs_cons resBs_nil resB_tmp resB_cell
attribute [local go_sem] kill_v kill_lp_ne kill_lp_same pro_v pro_lp_same pro_lp_ne av_v av_lp optB_some optX_some valX_eq ldX_lp ldX_v faX_lp faX_v ncX_lp ncX_ptr ncX_fn boxK_one boxK_agg stL_some stK_lp_one stK_lp_agg stK_v_one stK_v_agg proM_v proM_lp callG_mk callVG_mk callvK_fn fnG_mk ptrsA_nil ptrsA_cons callH_some whenA_true whenA_false guardH_tt guardH_ff guardH_tf guardH_ft guardH_undef agV_one agV_agg lenO_sl lenStrO_str notO_bool pickO_bool convO_int eqbO_bool eqnilO_sl extractO_tup capO_sl minO_int loadL_one loadL_all storeL_eq fillA_nil fillA_one fillA_agg nat_ge neg_ge nat_lt neg_lt buildO bin_add bin_sub bin_mul bin_eql bin_neq bin_lss bin_leq bin_gtr bin_geq str_eql str_neq str_lss str_leq str_gtr str_geq retK_some endK_mk gcK_same gcK_int gcK_bool tupO_one tupO_agg rdy_self ib ii Option.map_none Option.map_some Option.some.injEq exists_eq_left' exists_eq_left ne_eq not_false_eq_true if_true if_false List.map_cons List.map_nil List.getElem?_cons_zero List.getElem?_cons_succ List.length_cons List.length_nil List.take_succ_cons List.take_zero List.take_nil List.drop_succ_cons List.drop_zero List.drop_nil List.cons_append List.nil_append List.append_nil List.set_cons_zero List.set_cons_succ Nat.zero_add forall_const true_and and_true and_self Bool.false_eq_true false_implies true_implies implies_true Bool.not_true Bool.not_false Bool.not_eq_true' Bool.not_eq_false' beq_self_eq_true Bool.bne_true Bool.bne_false
attribute [local go_sem] lenI lenS lenP lenQ lenB lenL lenT encI_0 encS_0 encP_0 encP_1 encQ_0 encQ_1 encQ_2 encQ_3 encB_0 encB_1 encL_0 encL_1 encT_0 encT_1
attribute [local go_sem low] whenA_bool guardH_bool
/-! impl.ValidSignature -/
def L95_0 : List AStep := [⟨.box 36 (.t 0), (some 1), none, []⟩, ⟨.mov (.c (.bool false)), (some 2), none, []⟩]
theorem v95_0 : VS L95_0.eq_1 := rfl
def L95_1 : List AStep := [⟨.mov (.c (.bool false)), (some 3), none, []⟩]
theorem v95_1 : VS L95_1.eq_1 := rfl
def L95_2 : List AStep := [⟨.len (.t 8), (some 9), none, []⟩, ⟨.mov (.c (.int .i64 0)), (some 10), none, []⟩]
theorem v95_2 : VS L95_2.eq_1 := rfl
def L95_3 : List AStep := ⟨.faddr 0 (.t 1), (some 7), none, []⟩ :: ⟨.load 1 false (.t 7), (some 8), none, []⟩ :: L95_2
theorem v95_3 : VS L95_3.eq_1 := rfl
def L95_4 : List AStep := [⟨.bin .lss (.t 10) (.t 9), (some 11), none, []⟩]
theorem v95_4 : VS L95_4.eq_1 := rfl
def L95_5 : List AStep := [⟨.mov (.t 12), (some 4), none, []⟩, ⟨.store 4 (.t 5) (.t 14), none, none, []⟩]
theorem v95_5 : VS L95_5.eq_1 := rfl
def L95_6 : List AStep := ⟨.load 4 true (.t 13), (some 14), none, []⟩ :: ⟨.alloc 81 [(.str (strOfNums [])), (.int .i64 0), (.bool false), (.int .i64 0)], (some 5), none, []⟩ :: L95_5
theorem v95_6 : VS L95_6.eq_1 := rfl
def L95_7 : List AStep := ⟨.mov (.t 10), (some 12), none, []⟩ :: ⟨.iaddr 4 (.t 8) (.t 10), (some 13), none, []⟩ :: L95_6
theorem v95_7 : VS L95_7.eq_1 := rfl
def L95_8 : List AStep := [⟨.pick (.t 41) (.c (.bool true)) (.t 48), (some 49), none, []⟩]
theorem v95_8 : VS L95_8.eq_1 := rfl
def L95_9 : List AStep := ⟨.not (.t 46), (some 47), (some (44, true)), []⟩ :: ⟨.pick (.t 44) (.t 47) (.c (.bool false)), (some 48), (some (41, false)), []⟩ :: L95_8
theorem v95_9 : VS L95_9.eq_1 := rfl
def L95_10 : List AStep := ⟨.load 4 true (.t 5), (some 45), (some (44, true)), []⟩ :: ⟨.call 86 [(.t 45)], (some 46), (some (44, true)), []⟩ :: L95_9
theorem v95_10 : VS L95_10.eq_1 := rfl
def L95_11 : List AStep := ⟨.load 1 false (.t 42), (some 43), (some (41, false)), []⟩ :: ⟨.mov (.t 43), (some 44), (some (41, false)), []⟩ :: L95_10
theorem v95_11 : VS L95_11.eq_1 := rfl
def L95_12 : List AStep := ⟨.mov (.t 40), (some 41), none, []⟩ :: ⟨.faddr 2 (.t 5), (some 42), (some (41, false)), []⟩ :: L95_11
theorem v95_12 : VS L95_12.eq_1 := rfl
def L95_13 : List AStep := ⟨.pick (.t 35) (.t 38) (.c (.bool false)), (some 39), (some (31, false)), []⟩ :: ⟨.pick (.t 31) (.c (.bool true)) (.t 39), (some 40), none, []⟩ :: L95_12
theorem v95_13 : VS L95_13.eq_1 := rfl
def L95_14 : List AStep := ⟨.load 1 false (.t 36), (some 37), (some (35, true)), []⟩ :: ⟨.bin .neq (.t 37) (.c (.int .i64 0)), (some 38), (some (35, true)), []⟩ :: L95_13
theorem v95_14 : VS L95_14.eq_1 := rfl
def L95_15 : List AStep := ⟨.mov (.t 34), (some 35), (some (31, false)), []⟩ :: ⟨.faddr 3 (.t 5), (some 36), (some (35, true)), []⟩ :: L95_14
theorem v95_15 : VS L95_15.eq_1 := rfl
def L95_16 : List AStep := ⟨.load 1 false (.t 32), (some 33), (some (31, false)), []⟩ :: ⟨.not (.t 33), (some 34), (some (31, false)), []⟩ :: L95_15
theorem v95_16 : VS L95_16.eq_1 := rfl
def L95_17 : List AStep := ⟨.mov (.t 30), (some 31), none, []⟩ :: ⟨.faddr 2 (.t 5), (some 32), (some (31, false)), []⟩ :: L95_16
theorem v95_17 : VS L95_17.eq_1 := rfl
def L95_18 : List AStep := ⟨.not (.t 28), (some 29), (some (25, false)), []⟩ :: ⟨.pick (.t 25) (.c (.bool true)) (.t 29), (some 30), none, []⟩ :: L95_17
theorem v95_18 : VS L95_18.eq_1 := rfl
def L95_19 : List AStep := ⟨.load 1 false (.t 26), (some 27), (some (25, false)), []⟩ :: ⟨.call 119 [(.t 27)], (some 28), (some (25, false)), []⟩ :: L95_18
theorem v95_19 : VS L95_19.eq_1 := rfl
def L95_20 : List AStep := ⟨.mov (.t 24), (some 25), none, []⟩ :: ⟨.faddr 3 (.t 5), (some 26), (some (25, false)), []⟩ :: L95_19
theorem v95_20 : VS L95_20.eq_1 := rfl
def L95_21 : List AStep := ⟨.not (.t 22), (some 23), (some (19, false)), []⟩ :: ⟨.pick (.t 19) (.c (.bool true)) (.t 23), (some 24), none, []⟩ :: L95_20
theorem v95_21 : VS L95_21.eq_1 := rfl
def L95_22 : List AStep := ⟨.load 1 false (.t 20), (some 21), (some (19, false)), []⟩ :: ⟨.call 118 [(.t 21), (.c (.int .i64 0)), (.c (.int .i64 4))], (some 22), (some (19, false)), []⟩ :: L95_21
theorem v95_22 : VS L95_22.eq_1 := rfl
def L95_23 : List AStep := ⟨.mov (.t 18), (some 19), none, []⟩ :: ⟨.faddr 1 (.t 5), (some 20), (some (19, false)), []⟩ :: L95_22
theorem v95_23 : VS L95_23.eq_1 := rfl
def L95_24 : List AStep := ⟨.call 117 [(.t 16)], (some 17), none, []⟩ :: ⟨.not (.t 17), (some 18), none, []⟩ :: L95_23
theorem v95_24 : VS L95_24.eq_1 := rfl
def L95_25 : List AStep := ⟨.faddr 0 (.t 5), (some 15), none, []⟩ :: ⟨.load 1 false (.t 15), (some 16), none, []⟩ :: L95_24
theorem v95_25 : VS L95_25.eq_1 := rfl
def L95_26 : List AStep := [⟨.mov (.c (.bool false)), (some 2), none, []⟩]
theorem v95_26 : VS L95_26.eq_1 := rfl
def L95_27 : List AStep := [⟨.load 4 true (.t 5), (some 50), none, []⟩, ⟨.call 113 [(.t 50)], (some 51), none, []⟩]
theorem v95_27 : VS L95_27.eq_1 := rfl
def L95_28 : List AStep := [⟨.not (.t 55), (some 56), (some (53, true)), []⟩, ⟨.pick (.t 53) (.t 56) (.c (.bool false)), (some 57), none, []⟩]
theorem v95_28 : VS L95_28.eq_1 := rfl
def L95_29 : List AStep := ⟨.faddr 2 (.t 5), (some 54), (some (53, true)), []⟩ :: ⟨.load 1 false (.t 54), (some 55), (some (53, true)), []⟩ :: L95_28
theorem v95_29 : VS L95_29.eq_1 := rfl
def L95_30 : List AStep := ⟨.mov (.t 3), (some 52), none, []⟩ :: ⟨.mov (.t 52), (some 53), none, []⟩ :: L95_29
theorem v95_30 : VS L95_30.eq_1 := rfl
def L95_31 : List AStep := [⟨.mov (.c (.bool false)), (some 2), none, []⟩]
theorem v95_31 : VS L95_31.eq_1 := rfl
def L95_32 : List AStep := [⟨.mov (.t 59), (some 3), none, []⟩]
theorem v95_32 : VS L95_32.eq_1 := rfl
def L95_33 : List AStep := ⟨.faddr 2 (.t 5), (some 58), none, []⟩ :: ⟨.load 1 false (.t 58), (some 59), none, []⟩ :: L95_32
theorem v95_33 : VS L95_33.eq_1 := rfl
def L95_34 : List AStep := [⟨.mov (.t 4), (some 60), none, []⟩, ⟨.bin .gtr (.t 60) (.c (.int .i64 0)), (some 61), none, []⟩]
theorem v95_34 : VS L95_34.eq_1 := rfl
def L95_35 : List AStep := [⟨.load 1 false (.t 67), (some 68), none, []⟩, ⟨.mov (.t 68), (some 6), none, []⟩]
theorem v95_35 : VS L95_35.eq_1 := rfl
def L95_36 : List AStep := ⟨.iaddr 4 (.t 63) (.t 65), (some 66), none, []⟩ :: ⟨.faddr 1 (.t 66), (some 67), none, []⟩ :: L95_35
theorem v95_36 : VS L95_36.eq_1 := rfl
def L95_37 : List AStep := ⟨.mov (.t 4), (some 64), none, []⟩ :: ⟨.bin .sub (.t 64) (.c (.int .i64 1)), (some 65), none, []⟩ :: L95_36
theorem v95_37 : VS L95_37.eq_1 := rfl
def L95_38 : List AStep := ⟨.faddr 0 (.t 1), (some 62), none, []⟩ :: ⟨.load 1 false (.t 62), (some 63), none, []⟩ :: L95_37
theorem v95_38 : VS L95_38.eq_1 := rfl
def L95_39 : List AStep := [⟨.pick (.t 73) (.c (.bool true)) (.t 82), (some 83), none, []⟩]
theorem v95_39 : VS L95_39.eq_1 := rfl
def L95_40 : List AStep := ⟨.not (.t 80), (some 81), (some (78, true)), []⟩ :: ⟨.pick (.t 78) (.t 81) (.c (.bool false)), (some 82), (some (73, false)), []⟩ :: L95_39
theorem v95_40 : VS L95_40.eq_1 := rfl
def L95_41 : List AStep := ⟨.load 4 true (.t 5), (some 79), (some (78, true)), []⟩ :: ⟨.call 86 [(.t 79)], (some 80), (some (78, true)), []⟩ :: L95_40
theorem v95_41 : VS L95_41.eq_1 := rfl
def L95_42 : List AStep := ⟨.bin .eql (.t 75) (.t 76), (some 77), (some (73, false)), []⟩ :: ⟨.mov (.t 77), (some 78), (some (73, false)), []⟩ :: L95_41
theorem v95_42 : VS L95_42.eq_1 := rfl
def L95_43 : List AStep := ⟨.load 1 false (.t 74), (some 75), (some (73, false)), []⟩ :: ⟨.mov (.t 6), (some 76), (some (73, false)), []⟩ :: L95_42
theorem v95_43 : VS L95_43.eq_1 := rfl
def L95_44 : List AStep := ⟨.mov (.t 72), (some 73), none, []⟩ :: ⟨.faddr 1 (.t 5), (some 74), (some (73, false)), []⟩ :: L95_43
theorem v95_44 : VS L95_44.eq_1 := rfl
def L95_45 : List AStep := ⟨.mov (.t 6), (some 71), none, []⟩ :: ⟨.bin .lss (.t 70) (.t 71), (some 72), none, []⟩ :: L95_44
theorem v95_45 : VS L95_45.eq_1 := rfl
def L95_46 : List AStep := ⟨.faddr 1 (.t 5), (some 69), none, []⟩ :: ⟨.load 1 false (.t 69), (some 70), none, []⟩ :: L95_45
theorem v95_46 : VS L95_46.eq_1 := rfl
def L95_47 : List AStep := [⟨.mov (.c (.bool false)), (some 2), none, []⟩]
theorem v95_47 : VS L95_47.eq_1 := rfl
def L95_48 : List AStep := [⟨.call 120 [(.t 87), (.t 89)], (some 90), none, []⟩, ⟨.bin .geq (.t 90) (.c (.int .i64 0)), (some 91), none, []⟩]
theorem v95_48 : VS L95_48.eq_1 := rfl
def L95_49 : List AStep := ⟨.faddr 0 (.t 5), (some 88), none, []⟩ :: ⟨.load 1 false (.t 88), (some 89), none, []⟩ :: L95_48
theorem v95_49 : VS L95_49.eq_1 := rfl
def L95_50 : List AStep := ⟨.mov (.t 4), (some 86), none, []⟩ :: ⟨.slice 81 4 (.t 85) none (some (.t 86)) none, (some 87), none, []⟩ :: L95_49
theorem v95_50 : VS L95_50.eq_1 := rfl
def L95_51 : List AStep := ⟨.faddr 0 (.t 1), (some 84), none, []⟩ :: ⟨.load 1 false (.t 84), (some 85), none, []⟩ :: L95_50
theorem v95_51 : VS L95_51.eq_1 := rfl
def L95_52 : List AStep := [⟨.mov (.c (.bool false)), (some 2), none, []⟩]
theorem v95_52 : VS L95_52.eq_1 := rfl
def L95_53 : List AStep := [⟨.bin .add (.t 10) (.c (.int .i64 1)), (some 92), none, []⟩, ⟨.mov (.t 92), (some 10), none, []⟩]
theorem v95_53 : VS L95_53.eq_1 := rfl
def L95_54 : List AStep := [⟨.mov (.t 96), (some 2), none, []⟩]
theorem v95_54 : VS L95_54.eq_1 := rfl
def L95_55 : List AStep := ⟨.len (.t 94), (some 95), none, []⟩ :: ⟨.bin .leq (.t 95) (.c (.int .i64 8)), (some 96), none, []⟩ :: L95_54
theorem v95_55 : VS L95_55.eq_1 := rfl
def L95_56 : List AStep := ⟨.faddr 0 (.t 1), (some 93), none, []⟩ :: ⟨.load 1 false (.t 93), (some 94), none, []⟩ :: L95_55
theorem v95_56 : VS L95_56.eq_1 := rfl
def C95_0 : ACode := .cond (.t 11) .skip (.exit 0)
theorem u95_0 : VC C95_0.eq_1 := rfl
def C95_1 : ACode := .seq (.reg L95_26) .ret
theorem u95_1 : VC C95_1.eq_1 := rfl
def C95_2 : ACode := .cond (.t 49) C95_1 .skip
theorem u95_2 : VC C95_2.eq_1 := rfl
def C95_3 : ACode := .seq (.reg L95_25) C95_2
theorem u95_3 : VC C95_3.eq_1 := rfl
def C95_4 : ACode := .seq (.reg L95_31) .ret
theorem u95_4 : VC C95_4.eq_1 := rfl
def C95_5 : ACode := .cond (.t 57) C95_4 .skip
theorem u95_5 : VC C95_5.eq_1 := rfl
def C95_6 : ACode := .seq (.reg L95_30) C95_5
theorem u95_6 : VC C95_6.eq_1 := rfl
def C95_7 : ACode := .seq C95_6 (.reg L95_33)
theorem u95_7 : VC C95_7.eq_1 := rfl
def C95_8 : ACode := .cond (.t 51) C95_7 .skip
theorem u95_8 : VC C95_8.eq_1 := rfl
def C95_9 : ACode := .seq (.reg L95_27) C95_8
theorem u95_9 : VC C95_9.eq_1 := rfl
def C95_10 : ACode := .seq (.reg L95_47) .ret
theorem u95_10 : VC C95_10.eq_1 := rfl
def C95_11 : ACode := .cond (.t 83) C95_10 .skip
theorem u95_11 : VC C95_11.eq_1 := rfl
def C95_12 : ACode := .seq (.reg L95_46) C95_11
theorem u95_12 : VC C95_12.eq_1 := rfl
def C95_13 : ACode := .seq (.reg L95_38) C95_12
theorem u95_13 : VC C95_13.eq_1 := rfl
def C95_14 : ACode := .cond (.t 61) C95_13 .skip
theorem u95_14 : VC C95_14.eq_1 := rfl
def C95_15 : ACode := .seq (.reg L95_34) C95_14
theorem u95_15 : VC C95_15.eq_1 := rfl
def C95_16 : ACode := .seq (.reg L95_52) .ret
theorem u95_16 : VC C95_16.eq_1 := rfl
def C95_17 : ACode := .cond (.t 91) C95_16 .skip
theorem u95_17 : VC C95_17.eq_1 := rfl
def C95_18 : ACode := .seq (.reg L95_51) C95_17
theorem u95_18 : VC C95_18.eq_1 := rfl
def C95_19 : ACode := .seq C95_15 C95_18
theorem u95_19 : VC C95_19.eq_1 := rfl
def C95_20 : ACode := .seq C95_9 C95_19
theorem u95_20 : VC C95_20.eq_1 := rfl
def C95_21 : ACode := .seq C95_3 C95_20
theorem u95_21 : VC C95_21.eq_1 := rfl
def C95_22 : ACode := .seq (.reg L95_7) C95_21
theorem u95_22 : VC C95_22.eq_1 := rfl
def C95_23 : ACode := .block 1 C95_22
theorem u95_23 : VC C95_23.eq_1 := rfl
def C95_24 : ACode := .seq C95_23 (.reg L95_53)
theorem u95_24 : VC C95_24.eq_1 := rfl
def C95_25 : ACode := .seq C95_0 C95_24
theorem u95_25 : VC C95_25.eq_1 := rfl
def C95_26 : ACode := .seq (.reg L95_4) C95_25
theorem u95_26 : VC C95_26.eq_1 := rfl
def C95_27 : ACode := .block 0 (.loop C95_26)
theorem u95_27 : VC C95_27.eq_1 := rfl
def C95_28 : ACode := .seq (.reg L95_3) C95_27
theorem u95_28 : VC C95_28.eq_1 := rfl
def C95_29 : ACode := .seq (.reg L95_56) .ret
theorem u95_29 : VC C95_29.eq_1 := rfl
def C95_30 : ACode := .seq C95_28 C95_29
theorem u95_30 : VC C95_30.eq_1 := rfl
def C95_31 : ACode := .seq (.reg L95_1) C95_30
theorem u95_31 : VC C95_31.eq_1 := rfl
def C95_32 : ACode := .seq (.reg L95_0) C95_31
theorem u95_32 : VC C95_32.eq_1 := rfl
def F95 : AFunc := ⟨97, [.tmp 2], C95_32⟩
theorem cF95 : compB Try.prog 95 = some F95 := by kernel_rfl
attribute [local go_sem ↓] u95_0 u95_1 u95_2 u95_3 u95_4 u95_5 u95_6 u95_7 u95_8 u95_9 u95_10 u95_11 u95_12 u95_13 u95_14 u95_15 u95_16 u95_17 u95_18 u95_19 u95_20 u95_21 u95_22 u95_23 u95_24 u95_25 u95_26 u95_27 u95_28 u95_29 u95_30 u95_31 u95_32 v95_0 v95_1 v95_2 v95_3 v95_4 v95_5 v95_6 v95_7 v95_8 v95_9 v95_10 v95_11 v95_12 v95_13 v95_14 v95_15 v95_16 v95_17 v95_18 v95_19 v95_20 v95_21 v95_22 v95_23 v95_24 v95_25 v95_26 v95_27 v95_28 v95_29 v95_30 v95_31 v95_32 v95_33 v95_34 v95_35 v95_36 v95_37 v95_38 v95_39 v95_40 v95_41 v95_42 v95_43 v95_44 v95_45 v95_46 v95_47 v95_48 v95_49 v95_50 v95_51 v95_52 v95_53 v95_54 v95_55 v95_56
theorem c_ValidSignature (l : List Param) (pv : CV) (h : H) (hl : SlQ h (.one pv) l) (hn : smQ l) : bm Try.prog 95 [.agg [pv]] h = some (ib (okSig l), h) := by
  refine bm_eq cF95 ?_
  simp +contextual (maxSteps := 2000000) only [go_sem, Nat.reduceEqDiff, reduceCtorEq, Nat.reduceAdd, Nat.reduceLeDiff, F95, hl.len]
  refine wpC_loop (fun i T L h' => h' = h ∧ T 1 = .lp 1 0 ∧ (L 1).2 = [pv] ∧ T 3 = .v (.one (.bool (optAt l i))) ∧ T 8 = .v (.one pv) ∧ T 9 = .v (.one (.int .i64 l.length)) ∧ T 10 = .v (.one (.int .i64 i)) ∧ Upto (stepAt l) i) l.length ?_ ?_ (Nat.zero_le _) ?_
  · rintro i T L h' hi ⟨rfl, t1, l1, t3, t8, t9, t10, hu⟩
    obtain ⟨v', e1, s1⟩ := hl.takeO (i := i) (by omega) (kd := .i64)
    have e2 : decide (paramAt (l.take i) l[i].name ≥ 0) = !(newAt Param.name l i) := newAt_ge hi
    have e3 := stepI_eq hi hu
    have e5 := optAt_next hi
    cases i with
    | zero =>
      have e4 : decide (((0 : Nat) : Int) > 0) = false := rfl
      rw [stepI_zero hi] at e3
      simp +contextual (maxSteps := 2000000) only [go_sem, Nat.reduceEqDiff, reduceCtorEq, Nat.reduceAdd, Nat.reduceLeDiff, e2, e4, e5, optAt, t1, l1, t3, t8, t9, t10, hl.iaddr hi, hl.whole hi, lt_true hi, e1, c_isName _ _ (hn.at hi), c_in, c_isValue, c_single, c_placed, c_find _ _ _ _ s1 (hn.take _)]
      (repeat' (first | refine And.intro ?_ ?_ | intro _)) <;> first | rfl | rw [wrap_next hi hn.len] | exact hu.next (by rw [← e3]; simp_all [okParam]) | (rw [okSig_not hi (by rw [← e3]; simp_all [okParam] <;> (intros; omega))]) | simp_all
    | succ j =>
      have e4 : decide (((j + 1 : Nat) : Int) > 0) = true := decide_eq_true (by omega)
      have hj : j < l.length := by omega
      rw [stepI_succ hi] at e3
      simp +contextual (maxSteps := 2000000) only [go_sem, Nat.reduceEqDiff, reduceCtorEq, Nat.reduceAdd, Nat.reduceLeDiff, e2, e4, e5, t1, l1, t3, t8, t9, t10, hl.iaddr hi, hl.whole hi, lt_true hi, e1, c_isName _ _ (hn.at hi), c_in, c_isValue, c_single, c_placed, c_find _ _ _ _ s1 (hn.take _), wrap_pred (show j < 2 ^ 62 from Nat.lt_trans (Nat.lt_succ_self j) (Nat.lt_trans hi hn.len)), hl.iaddr hj, hl.fieldO hj]
      (repeat' (first | refine And.intro ?_ ?_ | intro _)) <;> first | rfl | rw [wrap_next hi hn.len] | exact hu.next (by rw [← e3]; simp_all [okParam]) | (rw [okSig_not hi (by rw [← e3]; simp_all [okParam] <;> (intros; omega))]) | simp_all
  · rintro T L h' ⟨rfl, t1, l1, t3, t8, t9, t10, hu⟩
    simp +contextual (maxSteps := 2000000) only [go_sem, Nat.reduceEqDiff, reduceCtorEq, Nat.reduceAdd, Nat.reduceLeDiff, t1, l1, t8, t9, t10, hl.len, lt_false, okSig_of hu]
  · simp +contextual (maxSteps := 2000000) only [go_sem, Nat.reduceEqDiff, reduceCtorEq, Nat.reduceAdd, Nat.reduceLeDiff, optAt]
    (repeat' (first | refine And.intro ?_ ?_ | intro _)) <;> first | rfl | exact Upto.zero
end Go.Proofs.Ytdalgphpacikkab.Am
