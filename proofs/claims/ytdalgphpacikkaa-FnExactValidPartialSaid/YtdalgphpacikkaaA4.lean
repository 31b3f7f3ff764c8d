/- Contracts of the program: signatures that are valid. -/
import Derived.Test.YtdalgphpacikkaaA3
namespace Go.Proofs.Ytdalgphpacikkaa.Am
open Go
set_option maxRecDepth 100000
set_option maxHeartbeats 4000000
set_option linter.unusedSimpArgs false
set_option linter.unusedVariables false
attribute [local go_sem ↓] bv_t bv_c ev_t ev_c put_same put_ne put_none kill_at pro_at lb_same lb_ne start_zero start_succ wpC_seq wpC_reg wpC_cond wpC_block wpC_skip wpC_exit wpC_ret thenQ_normal thenQ_exit thenQ_ret inBlk_normal inBlk_exit inBlk_ret wpS_nil wpS_step wpS_again wpS_guard wpO_mov wpO_load wpO_faddr wpO_nilCheck wpO_pick wpO_build wpO_bin wpO_eqb wpO_eqst wpO_eqnil wpO_not wpO_conv wpO_bytesStr wpO_iaddr wpO_idxStr wpO_field wpO_extract wpO_len wpO_lenStr wpO_cap wpO_min wpO_slice wpO_sliceStr wpO_alloc wpO_box wpO_store wpO_call wpO_callv wpO_mkfn wpO_buildSlice wpO_mkslice wpO_append wpO_appz proA_nil proA_cons tmpX_nil tmpX_tmp tmpX_cell doneB_normal doneB_ret agK_cons agK_nil agK_guard agG_tt agG_ff agG_tf agG_ft agG_undef pureB_load results_one results_two results_nil resBs_cons resBs_nil resB_tmp resB_cell
attribute [local go_sem] kill_v kill_lp_ne kill_lp_same pro_v pro_lp_same pro_lp_ne av_v av_lp optB_some optX_some valX_eq ldX_lp ldX_v faX_lp faX_v ncX_lp ncX_ptr ncX_fn boxK_one boxK_agg stL_some stK_lp_one stK_lp_agg stK_v_one stK_v_agg proM_v proM_lp callG_mk callVG_mk callvK_fn fnG_mk ptrsA_nil ptrsA_cons callH_some whenA_true whenA_false guardH_tt guardH_ff guardH_tf guardH_ft guardH_undef agV_one agV_agg lenO_sl lenStrO_str notO_bool pickO_bool convO_int eqbO_bool eqnilO_sl extractO_tup capO_sl minO_int loadL_one loadL_all storeL_eq fillA_nil fillA_one fillA_agg nat_ge neg_ge nat_lt neg_lt buildO bin_add bin_sub bin_mul bin_eql bin_neq bin_lss bin_leq bin_gtr bin_geq str_eql str_neq str_lss str_leq str_gtr str_geq retK_some endK_mk gcK_same gcK_int gcK_bool tupO_one tupO_agg rdy_self ib ii Option.map_none Option.map_some Option.some.injEq exists_eq_left' exists_eq_left ne_eq not_false_eq_true if_true if_false List.map_cons List.map_nil List.getElem?_cons_zero List.getElem?_cons_succ List.length_cons List.length_nil List.take_succ_cons List.take_zero List.take_nil List.drop_succ_cons List.drop_zero List.drop_nil List.cons_append List.nil_append List.append_nil List.set_cons_zero List.set_cons_succ Nat.zero_add forall_const true_and and_true and_self Bool.false_eq_true false_implies true_implies implies_true Bool.not_true Bool.not_false Bool.not_eq_true' Bool.not_eq_false' beq_self_eq_true Bool.bne_true Bool.bne_false
attribute [local go_sem] lenI lenS lenP lenQ lenB lenL lenT encI_0 encS_0 encP_0 encP_1 encQ_0 encQ_1 encQ_2 encQ_3 encB_0 encB_1 encL_0 encL_1 encT_0 encT_1
attribute [local go_sem low] whenA_bool guardH_bool
/-! impl.ValidSignature -/
def L71_0 : List AStep := [⟨.box 38 (.t 0), (some 1), none, []⟩, ⟨.mov (.c (.bool false)), (some 2), none, []⟩]
theorem v71_0 : VS L71_0.eq_1 := rfl
def L71_1 : List AStep := [⟨.mov (.c (.bool false)), (some 3), none, []⟩]
theorem v71_1 : VS L71_1.eq_1 := rfl
def L71_2 : List AStep := [⟨.len (.t 8), (some 9), none, []⟩, ⟨.mov (.c (.int .i64 0)), (some 10), none, []⟩]
theorem v71_2 : VS L71_2.eq_1 := rfl
def L71_3 : List AStep := ⟨.faddr 0 (.t 1), (some 7), none, []⟩ :: ⟨.load 1 false (.t 7), (some 8), none, []⟩ :: L71_2
theorem v71_3 : VS L71_3.eq_1 := rfl
def L71_4 : List AStep := [⟨.bin .lss (.t 10) (.t 9), (some 11), none, []⟩]
theorem v71_4 : VS L71_4.eq_1 := rfl
def L71_5 : List AStep := [⟨.mov (.t 12), (some 4), none, []⟩, ⟨.store 4 (.t 5) (.t 14), none, none, []⟩]
theorem v71_5 : VS L71_5.eq_1 := rfl
def L71_6 : List AStep := ⟨.load 4 true (.t 13), (some 14), none, []⟩ :: ⟨.alloc 100 [(.str (strOfNums [])), (.int .i64 0), (.bool false), (.int .i64 0)], (some 5), none, []⟩ :: L71_5
theorem v71_6 : VS L71_6.eq_1 := rfl
def L71_7 : List AStep := ⟨.mov (.t 10), (some 12), none, []⟩ :: ⟨.iaddr 4 (.t 8) (.t 10), (some 13), none, []⟩ :: L71_6
theorem v71_7 : VS L71_7.eq_1 := rfl
def L71_8 : List AStep := [⟨.pick (.t 41) (.c (.bool true)) (.t 48), (some 49), none, []⟩]
theorem v71_8 : VS L71_8.eq_1 := rfl
def L71_9 : List AStep := ⟨.not (.t 46), (some 47), (some (44, true)), []⟩ :: ⟨.pick (.t 44) (.t 47) (.c (.bool false)), (some 48), (some (41, false)), []⟩ :: L71_8
theorem v71_9 : VS L71_9.eq_1 := rfl
def L71_10 : List AStep := ⟨.load 4 true (.t 5), (some 45), (some (44, true)), []⟩ :: ⟨.call 77 [(.t 45)], (some 46), (some (44, true)), []⟩ :: L71_9
theorem v71_10 : VS L71_10.eq_1 := rfl
def L71_11 : List AStep := ⟨.load 1 false (.t 42), (some 43), (some (41, false)), []⟩ :: ⟨.mov (.t 43), (some 44), (some (41, false)), []⟩ :: L71_10
theorem v71_11 : VS L71_11.eq_1 := rfl
def L71_12 : List AStep := ⟨.mov (.t 40), (some 41), none, []⟩ :: ⟨.faddr 2 (.t 5), (some 42), (some (41, false)), []⟩ :: L71_11
theorem v71_12 : VS L71_12.eq_1 := rfl
def L71_13 : List AStep := ⟨.pick (.t 35) (.t 38) (.c (.bool false)), (some 39), (some (31, false)), []⟩ :: ⟨.pick (.t 31) (.c (.bool true)) (.t 39), (some 40), none, []⟩ :: L71_12
theorem v71_13 : VS L71_13.eq_1 := rfl
def L71_14 : List AStep := ⟨.load 1 false (.t 36), (some 37), (some (35, true)), []⟩ :: ⟨.bin .neq (.t 37) (.c (.int .i64 0)), (some 38), (some (35, true)), []⟩ :: L71_13
theorem v71_14 : VS L71_14.eq_1 := rfl
def L71_15 : List AStep := ⟨.mov (.t 34), (some 35), (some (31, false)), []⟩ :: ⟨.faddr 3 (.t 5), (some 36), (some (35, true)), []⟩ :: L71_14
theorem v71_15 : VS L71_15.eq_1 := rfl
def L71_16 : List AStep := ⟨.load 1 false (.t 32), (some 33), (some (31, false)), []⟩ :: ⟨.not (.t 33), (some 34), (some (31, false)), []⟩ :: L71_15
theorem v71_16 : VS L71_16.eq_1 := rfl
def L71_17 : List AStep := ⟨.mov (.t 30), (some 31), none, []⟩ :: ⟨.faddr 2 (.t 5), (some 32), (some (31, false)), []⟩ :: L71_16
theorem v71_17 : VS L71_17.eq_1 := rfl
def L71_18 : List AStep := ⟨.not (.t 28), (some 29), (some (25, false)), []⟩ :: ⟨.pick (.t 25) (.c (.bool true)) (.t 29), (some 30), none, []⟩ :: L71_17
theorem v71_18 : VS L71_18.eq_1 := rfl
def L71_19 : List AStep := ⟨.load 1 false (.t 26), (some 27), (some (25, false)), []⟩ :: ⟨.call 95 [(.t 27)], (some 28), (some (25, false)), []⟩ :: L71_18
theorem v71_19 : VS L71_19.eq_1 := rfl
def L71_20 : List AStep := ⟨.mov (.t 24), (some 25), none, []⟩ :: ⟨.faddr 3 (.t 5), (some 26), (some (25, false)), []⟩ :: L71_19
theorem v71_20 : VS L71_20.eq_1 := rfl
def L71_21 : List AStep := ⟨.not (.t 22), (some 23), (some (19, false)), []⟩ :: ⟨.pick (.t 19) (.c (.bool true)) (.t 23), (some 24), none, []⟩ :: L71_20
theorem v71_21 : VS L71_21.eq_1 := rfl
def L71_22 : List AStep := ⟨.load 1 false (.t 20), (some 21), (some (19, false)), []⟩ :: ⟨.call 94 [(.t 21), (.c (.int .i64 0)), (.c (.int .i64 4))], (some 22), (some (19, false)), []⟩ :: L71_21
theorem v71_22 : VS L71_22.eq_1 := rfl
def L71_23 : List AStep := ⟨.mov (.t 18), (some 19), none, []⟩ :: ⟨.faddr 1 (.t 5), (some 20), (some (19, false)), []⟩ :: L71_22
theorem v71_23 : VS L71_23.eq_1 := rfl
def L71_24 : List AStep := ⟨.call 93 [(.t 16)], (some 17), none, []⟩ :: ⟨.not (.t 17), (some 18), none, []⟩ :: L71_23
theorem v71_24 : VS L71_24.eq_1 := rfl
def L71_25 : List AStep := ⟨.faddr 0 (.t 5), (some 15), none, []⟩ :: ⟨.load 1 false (.t 15), (some 16), none, []⟩ :: L71_24
theorem v71_25 : VS L71_25.eq_1 := rfl
def L71_26 : List AStep := [⟨.mov (.c (.bool false)), (some 2), none, []⟩]
theorem v71_26 : VS L71_26.eq_1 := rfl
def L71_27 : List AStep := [⟨.load 4 true (.t 5), (some 50), none, []⟩, ⟨.call 73 [(.t 50)], (some 51), none, []⟩]
theorem v71_27 : VS L71_27.eq_1 := rfl
def L71_28 : List AStep := [⟨.not (.t 55), (some 56), (some (53, true)), []⟩, ⟨.pick (.t 53) (.t 56) (.c (.bool false)), (some 57), none, []⟩]
theorem v71_28 : VS L71_28.eq_1 := rfl
def L71_29 : List AStep := ⟨.faddr 2 (.t 5), (some 54), (some (53, true)), []⟩ :: ⟨.load 1 false (.t 54), (some 55), (some (53, true)), []⟩ :: L71_28
theorem v71_29 : VS L71_29.eq_1 := rfl
def L71_30 : List AStep := ⟨.mov (.t 3), (some 52), none, []⟩ :: ⟨.mov (.t 52), (some 53), none, []⟩ :: L71_29
theorem v71_30 : VS L71_30.eq_1 := rfl
def L71_31 : List AStep := [⟨.mov (.c (.bool false)), (some 2), none, []⟩]
theorem v71_31 : VS L71_31.eq_1 := rfl
def L71_32 : List AStep := [⟨.mov (.t 59), (some 3), none, []⟩]
theorem v71_32 : VS L71_32.eq_1 := rfl
def L71_33 : List AStep := ⟨.faddr 2 (.t 5), (some 58), none, []⟩ :: ⟨.load 1 false (.t 58), (some 59), none, []⟩ :: L71_32
theorem v71_33 : VS L71_33.eq_1 := rfl
def L71_34 : List AStep := [⟨.mov (.t 4), (some 60), none, []⟩, ⟨.bin .gtr (.t 60) (.c (.int .i64 0)), (some 61), none, []⟩]
theorem v71_34 : VS L71_34.eq_1 := rfl
def L71_35 : List AStep := [⟨.load 1 false (.t 67), (some 68), none, []⟩, ⟨.mov (.t 68), (some 6), none, []⟩]
theorem v71_35 : VS L71_35.eq_1 := rfl
def L71_36 : List AStep := ⟨.iaddr 4 (.t 63) (.t 65), (some 66), none, []⟩ :: ⟨.faddr 1 (.t 66), (some 67), none, []⟩ :: L71_35
theorem v71_36 : VS L71_36.eq_1 := rfl
def L71_37 : List AStep := ⟨.mov (.t 4), (some 64), none, []⟩ :: ⟨.bin .sub (.t 64) (.c (.int .i64 1)), (some 65), none, []⟩ :: L71_36
theorem v71_37 : VS L71_37.eq_1 := rfl
def L71_38 : List AStep := ⟨.faddr 0 (.t 1), (some 62), none, []⟩ :: ⟨.load 1 false (.t 62), (some 63), none, []⟩ :: L71_37
theorem v71_38 : VS L71_38.eq_1 := rfl
def L71_39 : List AStep := [⟨.pick (.t 73) (.c (.bool true)) (.t 82), (some 83), none, []⟩]
theorem v71_39 : VS L71_39.eq_1 := rfl
def L71_40 : List AStep := ⟨.not (.t 80), (some 81), (some (78, true)), []⟩ :: ⟨.pick (.t 78) (.t 81) (.c (.bool false)), (some 82), (some (73, false)), []⟩ :: L71_39
theorem v71_40 : VS L71_40.eq_1 := rfl
def L71_41 : List AStep := ⟨.load 4 true (.t 5), (some 79), (some (78, true)), []⟩ :: ⟨.call 77 [(.t 79)], (some 80), (some (78, true)), []⟩ :: L71_40
theorem v71_41 : VS L71_41.eq_1 := rfl
def L71_42 : List AStep := ⟨.bin .eql (.t 75) (.t 76), (some 77), (some (73, false)), []⟩ :: ⟨.mov (.t 77), (some 78), (some (73, false)), []⟩ :: L71_41
theorem v71_42 : VS L71_42.eq_1 := rfl
def L71_43 : List AStep := ⟨.load 1 false (.t 74), (some 75), (some (73, false)), []⟩ :: ⟨.mov (.t 6), (some 76), (some (73, false)), []⟩ :: L71_42
theorem v71_43 : VS L71_43.eq_1 := rfl
def L71_44 : List AStep := ⟨.mov (.t 72), (some 73), none, []⟩ :: ⟨.faddr 1 (.t 5), (some 74), (some (73, false)), []⟩ :: L71_43
theorem v71_44 : VS L71_44.eq_1 := rfl
def L71_45 : List AStep := ⟨.mov (.t 6), (some 71), none, []⟩ :: ⟨.bin .lss (.t 70) (.t 71), (some 72), none, []⟩ :: L71_44
theorem v71_45 : VS L71_45.eq_1 := rfl
def L71_46 : List AStep := ⟨.faddr 1 (.t 5), (some 69), none, []⟩ :: ⟨.load 1 false (.t 69), (some 70), none, []⟩ :: L71_45
theorem v71_46 : VS L71_46.eq_1 := rfl
def L71_47 : List AStep := [⟨.mov (.c (.bool false)), (some 2), none, []⟩]
theorem v71_47 : VS L71_47.eq_1 := rfl
def L71_48 : List AStep := [⟨.call 96 [(.t 87), (.t 89)], (some 90), none, []⟩, ⟨.bin .geq (.t 90) (.c (.int .i64 0)), (some 91), none, []⟩]
theorem v71_48 : VS L71_48.eq_1 := rfl
def L71_49 : List AStep := ⟨.faddr 0 (.t 5), (some 88), none, []⟩ :: ⟨.load 1 false (.t 88), (some 89), none, []⟩ :: L71_48
theorem v71_49 : VS L71_49.eq_1 := rfl
def L71_50 : List AStep := ⟨.mov (.t 4), (some 86), none, []⟩ :: ⟨.slice 100 4 (.t 85) none (some (.t 86)) none, (some 87), none, []⟩ :: L71_49
theorem v71_50 : VS L71_50.eq_1 := rfl
def L71_51 : List AStep := ⟨.faddr 0 (.t 1), (some 84), none, []⟩ :: ⟨.load 1 false (.t 84), (some 85), none, []⟩ :: L71_50
theorem v71_51 : VS L71_51.eq_1 := rfl
def L71_52 : List AStep := [⟨.mov (.c (.bool false)), (some 2), none, []⟩]
theorem v71_52 : VS L71_52.eq_1 := rfl
def L71_53 : List AStep := [⟨.bin .add (.t 10) (.c (.int .i64 1)), (some 92), none, []⟩, ⟨.mov (.t 92), (some 10), none, []⟩]
theorem v71_53 : VS L71_53.eq_1 := rfl
def L71_54 : List AStep := [⟨.mov (.t 96), (some 2), none, []⟩]
theorem v71_54 : VS L71_54.eq_1 := rfl
def L71_55 : List AStep := ⟨.len (.t 94), (some 95), none, []⟩ :: ⟨.bin .leq (.t 95) (.c (.int .i64 8)), (some 96), none, []⟩ :: L71_54
theorem v71_55 : VS L71_55.eq_1 := rfl
def L71_56 : List AStep := ⟨.faddr 0 (.t 1), (some 93), none, []⟩ :: ⟨.load 1 false (.t 93), (some 94), none, []⟩ :: L71_55
theorem v71_56 : VS L71_56.eq_1 := rfl
def C71_0 : ACode := .cond (.t 11) .skip (.exit 0)
theorem u71_0 : VC C71_0.eq_1 := rfl
def C71_1 : ACode := .seq (.reg L71_26) .ret
theorem u71_1 : VC C71_1.eq_1 := rfl
def C71_2 : ACode := .cond (.t 49) C71_1 .skip
theorem u71_2 : VC C71_2.eq_1 := rfl
def C71_3 : ACode := .seq (.reg L71_25) C71_2
theorem u71_3 : VC C71_3.eq_1 := rfl
def C71_4 : ACode := .seq (.reg L71_31) .ret
theorem u71_4 : VC C71_4.eq_1 := rfl
def C71_5 : ACode := .cond (.t 57) C71_4 .skip
theorem u71_5 : VC C71_5.eq_1 := rfl
def C71_6 : ACode := .seq (.reg L71_30) C71_5
theorem u71_6 : VC C71_6.eq_1 := rfl
def C71_7 : ACode := .seq C71_6 (.reg L71_33)
theorem u71_7 : VC C71_7.eq_1 := rfl
def C71_8 : ACode := .cond (.t 51) C71_7 .skip
theorem u71_8 : VC C71_8.eq_1 := rfl
def C71_9 : ACode := .seq (.reg L71_27) C71_8
theorem u71_9 : VC C71_9.eq_1 := rfl
def C71_10 : ACode := .seq (.reg L71_47) .ret
theorem u71_10 : VC C71_10.eq_1 := rfl
def C71_11 : ACode := .cond (.t 83) C71_10 .skip
theorem u71_11 : VC C71_11.eq_1 := rfl
def C71_12 : ACode := .seq (.reg L71_46) C71_11
theorem u71_12 : VC C71_12.eq_1 := rfl
def C71_13 : ACode := .seq (.reg L71_38) C71_12
theorem u71_13 : VC C71_13.eq_1 := rfl
def C71_14 : ACode := .cond (.t 61) C71_13 .skip
theorem u71_14 : VC C71_14.eq_1 := rfl
def C71_15 : ACode := .seq (.reg L71_34) C71_14
theorem u71_15 : VC C71_15.eq_1 := rfl
def C71_16 : ACode := .seq (.reg L71_52) .ret
theorem u71_16 : VC C71_16.eq_1 := rfl
def C71_17 : ACode := .cond (.t 91) C71_16 .skip
theorem u71_17 : VC C71_17.eq_1 := rfl
def C71_18 : ACode := .seq (.reg L71_51) C71_17
theorem u71_18 : VC C71_18.eq_1 := rfl
def C71_19 : ACode := .seq C71_15 C71_18
theorem u71_19 : VC C71_19.eq_1 := rfl
def C71_20 : ACode := .seq C71_9 C71_19
theorem u71_20 : VC C71_20.eq_1 := rfl
def C71_21 : ACode := .seq C71_3 C71_20
theorem u71_21 : VC C71_21.eq_1 := rfl
def C71_22 : ACode := .seq (.reg L71_7) C71_21
theorem u71_22 : VC C71_22.eq_1 := rfl
def C71_23 : ACode := .block 1 C71_22
theorem u71_23 : VC C71_23.eq_1 := rfl
def C71_24 : ACode := .seq C71_23 (.reg L71_53)
theorem u71_24 : VC C71_24.eq_1 := rfl
def C71_25 : ACode := .seq C71_0 C71_24
theorem u71_25 : VC C71_25.eq_1 := rfl
def C71_26 : ACode := .seq (.reg L71_4) C71_25
theorem u71_26 : VC C71_26.eq_1 := rfl
def C71_27 : ACode := .block 0 (.loop C71_26)
theorem u71_27 : VC C71_27.eq_1 := rfl
def C71_28 : ACode := .seq (.reg L71_3) C71_27
theorem u71_28 : VC C71_28.eq_1 := rfl
def C71_29 : ACode := .seq (.reg L71_56) .ret
theorem u71_29 : VC C71_29.eq_1 := rfl
def C71_30 : ACode := .seq C71_28 C71_29
theorem u71_30 : VC C71_30.eq_1 := rfl
def C71_31 : ACode := .seq (.reg L71_1) C71_30
theorem u71_31 : VC C71_31.eq_1 := rfl
def C71_32 : ACode := .seq (.reg L71_0) C71_31
theorem u71_32 : VC C71_32.eq_1 := rfl
def F71 : AFunc := ⟨97, [.tmp 2], C71_32⟩
theorem cF71 : compB Try.prog 71 = some F71 := by kernel_rfl
attribute [local go_sem ↓] u71_0 u71_1 u71_2 u71_3 u71_4 u71_5 u71_6 u71_7 u71_8 u71_9 u71_10 u71_11 u71_12 u71_13 u71_14 u71_15 u71_16 u71_17 u71_18 u71_19 u71_20 u71_21 u71_22 u71_23 u71_24 u71_25 u71_26 u71_27 u71_28 u71_29 u71_30 u71_31 u71_32 v71_0 v71_1 v71_2 v71_3 v71_4 v71_5 v71_6 v71_7 v71_8 v71_9 v71_10 v71_11 v71_12 v71_13 v71_14 v71_15 v71_16 v71_17 v71_18 v71_19 v71_20 v71_21 v71_22 v71_23 v71_24 v71_25 v71_26 v71_27 v71_28 v71_29 v71_30 v71_31 v71_32 v71_33 v71_34 v71_35 v71_36 v71_37 v71_38 v71_39 v71_40 v71_41 v71_42 v71_43 v71_44 v71_45 v71_46 v71_47 v71_48 v71_49 v71_50 v71_51 v71_52 v71_53 v71_54 v71_55 v71_56
theorem c_ValidSignature (l : List Param) (pv : CV) (h : H) (hl : SlQ h (.one pv) l) (hn : smQ l) : bm Try.prog 71 [.agg [pv]] h = some (ib (okSig l), h) := by
  refine bm_eq cF71 ?_
  simp +contextual (maxSteps := 2000000) only [go_sem, Nat.reduceEqDiff, reduceCtorEq, Nat.reduceAdd, Nat.reduceLeDiff, F71, hl.len]
  refine wpC_loop (fun i T L h' => h' = h ∧ T 1 = .lp 1 0 ∧ (L 1).2 = [pv] ∧ T 3 = .v (.one (.bool (optAt l i))) ∧ T 8 = .v (.one pv) ∧ T 9 = .v (.one (.int .i64 l.length)) ∧ T 10 = .v (.one (.int .i64 i)) ∧ Upto (stepAt l) i) l.length ?_ ?_ (Nat.zero_le _) ?_
  · rintro i T L h' hi ⟨rfl, t1, l1, t3, t8, t9, t10, hu⟩
    obtain ⟨v', e1, s1⟩ := hl.takeO (i := i) (by omega) (kd := .i64)
    have e2 : decide (paramAt (l.take i) l[i].name ≥ 0) = !(newAt Param.name l i) := newAt_ge hi
    have e3 := stepI_eq hi hu
    have e5 := optAt_next hi
    cases i with
    | zero =>
      have e4 : decide (((0 : Nat) : Int) > 0) = false := rfl
      rw [stepI_zero hi] at e3
      simp +contextual (maxSteps := 2000000) only [go_sem, Nat.reduceEqDiff, reduceCtorEq, Nat.reduceAdd, Nat.reduceLeDiff, e2, e4, e5, optAt, t1, l1, t3, t8, t9, t10, hl.iaddr hi, hl.whole hi, lt_true hi, e1, c_isName _ _ (hn.at hi), c_in, c_isValue, c_single, c_placed, c_find _ _ _ _ s1 (hn.take _)]
      (repeat' (first | refine And.intro ?_ ?_ | intro _)) <;> first | rfl | rw [wrap_next hi hn.len] | exact hu.next (by rw [← e3]; simp_all [okParam]) | (rw [okSig_not hi (by rw [← e3]; simp_all [okParam] <;> (intros; omega))]) | simp_all
    | succ j =>
      have e4 : decide (((j + 1 : Nat) : Int) > 0) = true := decide_eq_true (by omega)
      have hj : j < l.length := by omega
      rw [stepI_succ hi] at e3
      simp +contextual (maxSteps := 2000000) only [go_sem, Nat.reduceEqDiff, reduceCtorEq, Nat.reduceAdd, Nat.reduceLeDiff, e2, e4, e5, t1, l1, t3, t8, t9, t10, hl.iaddr hi, hl.whole hi, lt_true hi, e1, c_isName _ _ (hn.at hi), c_in, c_isValue, c_single, c_placed, c_find _ _ _ _ s1 (hn.take _), wrap_pred (show j < 2 ^ 62 from Nat.lt_trans (Nat.lt_succ_self j) (Nat.lt_trans hi hn.len)), hl.iaddr hj, hl.fieldO hj]
      (repeat' (first | refine And.intro ?_ ?_ | intro _)) <;> first | rfl | rw [wrap_next hi hn.len] | exact hu.next (by rw [← e3]; simp_all [okParam]) | (rw [okSig_not hi (by rw [← e3]; simp_all [okParam] <;> (intros; omega))]) | simp_all
  · rintro T L h' ⟨rfl, t1, l1, t3, t8, t9, t10, hu⟩
    simp +contextual (maxSteps := 2000000) only [go_sem, Nat.reduceEqDiff, reduceCtorEq, Nat.reduceAdd, Nat.reduceLeDiff, t1, l1, t8, t9, t10, hl.len, lt_false, okSig_of hu]
  · simp +contextual (maxSteps := 2000000) only [go_sem, Nat.reduceEqDiff, reduceCtorEq, Nat.reduceAdd, Nat.reduceLeDiff, optAt]
    (repeat' (first | refine And.intro ?_ ?_ | intro _)) <;> first | rfl | exact Upto.zero
end Go.Proofs.Ytdalgphpacikkaa.Am
