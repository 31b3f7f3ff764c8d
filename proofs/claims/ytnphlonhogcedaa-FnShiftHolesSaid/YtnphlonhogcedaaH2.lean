/- Contracts: one call with holes into another, of both sides. -/
import Derived.Test.YtnphlonhogcedaaH1
import Derived.Test.YtnphlonhogcedaaBY
namespace Go.Proofs.Ytnphlonhogcedaa.Am
open Go
set_option maxRecDepth 100000
set_option maxHeartbeats 4000000
set_option linter.unusedSimpArgs false
set_option linter.unusedVariables false
attribute [local go_sem ↓] bv_t bv_c ev_t ev_c put_same put_ne put_none kill_at pro_at lb_same lb_ne start_zero start_succ wpC_seq wpC_reg wpC_cond wpC_block wpC_skip wpC_exit wpC_ret thenQ_normal thenQ_exit thenQ_ret inBlk_normal inBlk_exit inBlk_ret wpS_nil wpS_step wpS_again wpS_guard wpO_mov wpO_load wpO_faddr wpO_nilCheck wpO_pick wpO_build wpO_bin wpO_eqb wpO_eqst wpO_eqnil wpO_not wpO_conv wpO_bytesStr wpO_iaddr wpO_idxStr wpO_field wpO_extract wpO_len wpO_lenStr wpO_cap wpO_min wpO_slice wpO_sliceStr wpO_alloc wpO_box wpO_store wpO_call wpO_callv wpO_mkfn wpO_buildSlice wpO_mkslice wpO_append wpO_appz proA_nil proA_cons tmpX_nil tmpX_tmp tmpX_cell doneB_normal doneB_ret agK_cons agK_nil agK_guard agG_tt agG_ff agG_tf agG_ft agG_undef pureB_load results_one results_two results_nil resBs_cons resBs_nil resB_tmp resB_cell
attribute [local go_sem] kill_v kill_lp_ne kill_lp_same pro_v pro_lp_same pro_lp_ne av_v av_lp optB_some optX_some valX_eq ldX_lp ldX_v faX_lp faX_v ncX_lp ncX_ptr ncX_fn boxK_one boxK_agg stL_some stK_lp_one stK_lp_agg stK_v_one stK_v_agg proM_v proM_lp callG_mk callVG_mk callvK_fn fnG_mk ptrsA_nil ptrsA_cons callH_some whenA_true whenA_false guardH_tt guardH_ff guardH_tf guardH_ft guardH_undef agV_one agV_agg lenO_sl lenStrO_str notO_bool pickO_bool convO_int eqbO_bool eqnilO_sl extractO_tup capO_sl minO_int loadL_one loadL_all storeL_eq fillA_nil fillA_one fillA_agg nat_ge neg_ge nat_lt neg_lt buildO bin_add bin_sub bin_mul bin_eql bin_neq bin_lss bin_leq bin_gtr bin_geq str_eql str_neq str_lss str_leq str_gtr str_geq retK_some endK_mk gcK_same gcK_int gcK_bool tupO_one tupO_agg rdy_self ib ii Option.map_none Option.map_some Option.some.injEq exists_eq_left' exists_eq_left ne_eq not_false_eq_true if_true if_false List.map_cons List.map_nil List.getElem?_cons_zero List.getElem?_cons_succ List.length_cons List.length_nil List.take_succ_cons List.take_zero List.take_nil List.drop_succ_cons List.drop_zero List.drop_nil List.cons_append List.nil_append List.append_nil List.set_cons_zero List.set_cons_succ Nat.zero_add forall_const true_and and_true and_self Bool.false_eq_true false_implies true_implies implies_true Bool.not_true Bool.not_false Bool.not_eq_true' Bool.not_eq_false' beq_self_eq_true Bool.bne_true Bool.bne_false
attribute [local go_sem] lenI lenS lenP lenQ lenB lenL lenT encI_0 encS_0 encP_0 encP_1 encQ_0 encQ_1 encQ_2 encQ_3 encB_0 encB_1 encL_0 encL_1 encT_0 encT_1
attribute [local go_sem low] whenA_bool guardH_bool
theorem shiftH_sm {f g : Holes} (hn : miniH f) (hm : miniH g) {i : Nat} : smH ⟨fillPl f.pl g.pl, putAll f.nl (g.nl.take i)⟩ := by
  have a1 := hn.pl
  have a2 := hm.pl
  have a3 := hn.nl
  have a4 := hm.nl
  exact ⟨by simp [fillPl]; unfold big; omega, putAll_sm (by unfold big; omega) hn.sm.nl.2 hm.sm.nl.2⟩
/-! spec.ShiftHoles -/
def L23_0 : List AStep := [⟨.alloc 41 [(.sl none 0 (some 0)), (.sl none 0 (some 0))], (some 4), none, []⟩, ⟨.mov (.c (.bool false)), (some 5), none, []⟩]
theorem v23_0 : VS L23_0.eq_1 := rfl
def L23_1 : List AStep := ⟨.box 41 (.t 0), (some 2), none, []⟩ :: ⟨.box 41 (.t 1), (some 3), none, []⟩ :: L23_0
theorem v23_1 : VS L23_1.eq_1 := rfl
def L23_2 : List AStep := [⟨.bin .lss (.t 21) (.t 23), (some 24), (some (18, false)), []⟩, ⟨.pick (.t 18) (.c (.bool true)) (.t 24), (some 25), none, []⟩]
theorem v23_2 : VS L23_2.eq_1 := rfl
def L23_3 : List AStep := ⟨.load 2 true (.t 2), (some 22), (some (18, false)), []⟩ :: ⟨.call 89 [(.t 22)], (some 23), (some (18, false)), [(.load 1 false (.t 19), (some 20), (some (18, false)))]⟩ :: L23_2
theorem v23_3 : VS L23_3.eq_1 := rfl
def L23_4 : List AStep := ⟨.load 1 false (.t 19), (some 20), (some (18, false)), []⟩ :: ⟨.len (.t 20), (some 21), (some (18, false)), []⟩ :: L23_3
theorem v23_4 : VS L23_4.eq_1 := rfl
def L23_5 : List AStep := ⟨.mov (.t 17), (some 18), none, []⟩ :: ⟨.faddr 0 (.t 3), (some 19), (some (18, false)), []⟩ :: L23_4
theorem v23_5 : VS L23_5.eq_1 := rfl
def L23_6 : List AStep := ⟨.not (.t 15), (some 16), (some (13, false)), []⟩ :: ⟨.pick (.t 13) (.c (.bool true)) (.t 16), (some 17), none, []⟩ :: L23_5
theorem v23_6 : VS L23_6.eq_1 := rfl
def L23_7 : List AStep := ⟨.load 2 true (.t 3), (some 14), (some (13, false)), []⟩ :: ⟨.call 88 [(.t 14)], (some 15), (some (13, false)), []⟩ :: L23_6
theorem v23_7 : VS L23_7.eq_1 := rfl
def L23_8 : List AStep := ⟨.not (.t 11), (some 12), none, []⟩ :: ⟨.mov (.t 12), (some 13), none, []⟩ :: L23_7
theorem v23_8 : VS L23_8.eq_1 := rfl
def L23_9 : List AStep := ⟨.load 2 true (.t 2), (some 10), none, []⟩ :: ⟨.call 88 [(.t 10)], (some 11), none, []⟩ :: L23_8
theorem v23_9 : VS L23_9.eq_1 := rfl
def L23_10 : List AStep := [⟨.mov (.c (.bool false)), (some 5), none, []⟩]
theorem v23_10 : VS L23_10.eq_1 := rfl
def L23_11 : List AStep := ⟨.build [(.sl none 0 (some 0)), (.sl none 0 (some 0))] [], (some 26), none, []⟩ :: ⟨.store 2 (.t 4) (.t 26), none, none, []⟩ :: L23_10
theorem v23_11 : VS L23_11.eq_1 := rfl
def L23_12 : List AStep := [⟨.store 2 (.t 6) (.t 35), none, none, []⟩]
theorem v23_12 : VS L23_12.eq_1 := rfl
def L23_13 : List AStep := ⟨.append 86 2 24 (.t 31) (.t 33), (some 34), none, []⟩ :: ⟨.build [(.sl none 0 (some 0)), (.sl none 0 (some 0))] [(0, 1, (.t 30)), (1, 1, (.t 34))], (some 35), none, []⟩ :: L23_12
theorem v23_13 : VS L23_13.eq_1 := rfl
def L23_14 : List AStep := ⟨.alloc 41 [(.sl none 0 (some 0)), (.sl none 0 (some 0))], (some 6), none, []⟩ :: ⟨.append 83 2 16 (.t 27) (.t 29), (some 30), none, [(.load 1 false (.t 32), (some 33), none)]⟩ :: L23_13
theorem v23_14 : VS L23_14.eq_1 := rfl
def L23_15 : List AStep := ⟨.faddr 1 (.t 2), (some 32), none, []⟩ :: ⟨.load 1 false (.t 32), (some 33), none, []⟩ :: L23_14
theorem v23_15 : VS L23_15.eq_1 := rfl
def L23_16 : List AStep := ⟨.load 1 false (.t 28), (some 29), none, []⟩ :: ⟨.buildSlice 86 0 [(.str (strOfNums [])), (.int .i64 0)] [], (some 31), none, []⟩ :: L23_15
theorem v23_16 : VS L23_16.eq_1 := rfl
def L23_17 : List AStep := ⟨.buildSlice 83 0 [(.bool false), (.int .i64 0)] [], (some 27), none, []⟩ :: ⟨.faddr 0 (.t 2), (some 28), none, []⟩ :: L23_16
theorem v23_17 : VS L23_17.eq_1 := rfl
def L23_18 : List AStep := [⟨.mov (.c (.int .i64 0)), (some 7), none, []⟩]
theorem v23_18 : VS L23_18.eq_1 := rfl
def L23_19 : List AStep := [⟨.mov (.c (.int .i64 0)), (some 8), none, []⟩]
theorem v23_19 : VS L23_19.eq_1 := rfl
def L23_20 : List AStep := [⟨.bin .lss (.t 36) (.t 39), (some 40), none, []⟩]
theorem v23_20 : VS L23_20.eq_1 := rfl
def L23_21 : List AStep := ⟨.load 1 false (.t 37), (some 38), none, []⟩ :: ⟨.len (.t 38), (some 39), none, []⟩ :: L23_20
theorem v23_21 : VS L23_21.eq_1 := rfl
def L23_22 : List AStep := ⟨.mov (.t 8), (some 36), none, []⟩ :: ⟨.faddr 0 (.t 6), (some 37), none, []⟩ :: L23_21
theorem v23_22 : VS L23_22.eq_1 := rfl
def L23_23 : List AStep := [⟨.faddr 0 (.t 46), (some 47), none, []⟩, ⟨.load 1 false (.t 47), (some 48), none, []⟩]
theorem v23_23 : VS L23_23.eq_1 := rfl
def L23_24 : List AStep := ⟨.mov (.t 8), (some 45), none, []⟩ :: ⟨.iaddr 2 (.t 44) (.t 45), (some 46), none, []⟩ :: L23_23
theorem v23_24 : VS L23_24.eq_1 := rfl
def L23_25 : List AStep := ⟨.faddr 0 (.t 6), (some 43), none, []⟩ :: ⟨.load 1 false (.t 43), (some 44), none, []⟩ :: L23_24
theorem v23_25 : VS L23_25.eq_1 := rfl
def L23_26 : List AStep := [⟨.iaddr 2 (.t 50) (.t 51), (some 57), none, []⟩, ⟨.store 2 (.t 57) (.t 56), none, none, []⟩]
theorem v23_26 : VS L23_26.eq_1 := rfl
def L23_27 : List AStep := ⟨.iaddr 2 (.t 53) (.t 54), (some 55), none, []⟩ :: ⟨.load 2 true (.t 55), (some 56), none, []⟩ :: L23_26
theorem v23_27 : VS L23_27.eq_1 := rfl
def L23_28 : List AStep := ⟨.load 1 false (.t 52), (some 53), none, []⟩ :: ⟨.mov (.t 7), (some 54), none, []⟩ :: L23_27
theorem v23_28 : VS L23_28.eq_1 := rfl
def L23_29 : List AStep := ⟨.mov (.t 8), (some 51), none, []⟩ :: ⟨.faddr 0 (.t 3), (some 52), none, []⟩ :: L23_28
theorem v23_29 : VS L23_29.eq_1 := rfl
def L23_30 : List AStep := ⟨.faddr 0 (.t 6), (some 49), none, []⟩ :: ⟨.load 1 false (.t 49), (some 50), none, []⟩ :: L23_29
theorem v23_30 : VS L23_30.eq_1 := rfl
def L23_31 : List AStep := [⟨.mov (.t 59), (some 7), none, []⟩]
theorem v23_31 : VS L23_31.eq_1 := rfl
def L23_32 : List AStep := ⟨.mov (.t 7), (some 58), none, []⟩ :: ⟨.bin .add (.t 58) (.c (.int .i64 1)), (some 59), none, []⟩ :: L23_31
theorem v23_32 : VS L23_32.eq_1 := rfl
def L23_33 : List AStep := [⟨.mov (.t 42), (some 8), none, []⟩]
theorem v23_33 : VS L23_33.eq_1 := rfl
def L23_34 : List AStep := ⟨.mov (.t 8), (some 41), none, []⟩ :: ⟨.bin .add (.t 41) (.c (.int .i64 1)), (some 42), none, []⟩ :: L23_33
theorem v23_34 : VS L23_34.eq_1 := rfl
def L23_35 : List AStep := [⟨.store 1 (.t 67) (.t 66), none, none, []⟩]
theorem v23_35 : VS L23_35.eq_1 := rfl
def L23_36 : List AStep := ⟨.append 83 2 16 (.t 61) (.t 65), (some 66), none, []⟩ :: ⟨.faddr 0 (.t 6), (some 67), none, []⟩ :: L23_35
theorem v23_36 : VS L23_36.eq_1 := rfl
def L23_37 : List AStep := ⟨.mov (.t 7), (some 64), none, []⟩ :: ⟨.slice 83 2 (.t 63) (some (.t 64)) none none, (some 65), none, []⟩ :: L23_36
theorem v23_37 : VS L23_37.eq_1 := rfl
def L23_38 : List AStep := ⟨.faddr 0 (.t 3), (some 62), none, []⟩ :: ⟨.load 1 false (.t 62), (some 63), none, []⟩ :: L23_37
theorem v23_38 : VS L23_38.eq_1 := rfl
def L23_39 : List AStep := ⟨.faddr 0 (.t 6), (some 60), none, []⟩ :: ⟨.load 1 false (.t 60), (some 61), none, []⟩ :: L23_38
theorem v23_39 : VS L23_39.eq_1 := rfl
def L23_40 : List AStep := [⟨.mov (.c (.int .i64 0)), (some 9), none, []⟩]
theorem v23_40 : VS L23_40.eq_1 := rfl
def L23_41 : List AStep := [⟨.bin .lss (.t 68) (.t 71), (some 72), none, []⟩]
theorem v23_41 : VS L23_41.eq_1 := rfl
def L23_42 : List AStep := ⟨.load 1 false (.t 69), (some 70), none, []⟩ :: ⟨.len (.t 70), (some 71), none, []⟩ :: L23_41
theorem v23_42 : VS L23_42.eq_1 := rfl
def L23_43 : List AStep := ⟨.mov (.t 9), (some 68), none, []⟩ :: ⟨.faddr 1 (.t 3), (some 69), none, []⟩ :: L23_42
theorem v23_43 : VS L23_43.eq_1 := rfl
def L23_44 : List AStep := [⟨.faddr 1 (.t 6), (some 83), none, []⟩, ⟨.store 1 (.t 83) (.t 82), none, none, []⟩]
theorem v23_44 : VS L23_44.eq_1 := rfl
def L23_45 : List AStep := ⟨.load 2 true (.t 80), (some 81), none, []⟩ :: ⟨.call 90 [(.t 76), (.t 81)], (some 82), none, []⟩ :: L23_44
theorem v23_45 : VS L23_45.eq_1 := rfl
def L23_46 : List AStep := ⟨.mov (.t 9), (some 79), none, []⟩ :: ⟨.iaddr 2 (.t 78) (.t 79), (some 80), none, []⟩ :: L23_45
theorem v23_46 : VS L23_46.eq_1 := rfl
def L23_47 : List AStep := ⟨.faddr 1 (.t 3), (some 77), none, []⟩ :: ⟨.load 1 false (.t 77), (some 78), none, []⟩ :: L23_46
theorem v23_47 : VS L23_47.eq_1 := rfl
def L23_48 : List AStep := ⟨.faddr 1 (.t 6), (some 75), none, []⟩ :: ⟨.load 1 false (.t 75), (some 76), none, []⟩ :: L23_47
theorem v23_48 : VS L23_48.eq_1 := rfl
def L23_49 : List AStep := [⟨.mov (.t 74), (some 9), none, []⟩]
theorem v23_49 : VS L23_49.eq_1 := rfl
def L23_50 : List AStep := ⟨.mov (.t 9), (some 73), none, []⟩ :: ⟨.bin .add (.t 73) (.c (.int .i64 1)), (some 74), none, []⟩ :: L23_49
theorem v23_50 : VS L23_50.eq_1 := rfl
def L23_51 : List AStep := [⟨.not (.t 85), (some 86), none, []⟩]
theorem v23_51 : VS L23_51.eq_1 := rfl
def L23_52 : List AStep := ⟨.load 2 true (.t 6), (some 84), none, []⟩ :: ⟨.call 88 [(.t 84)], (some 85), none, []⟩ :: L23_51
theorem v23_52 : VS L23_52.eq_1 := rfl
def L23_53 : List AStep := [⟨.mov (.c (.bool false)), (some 5), none, []⟩]
theorem v23_53 : VS L23_53.eq_1 := rfl
def L23_54 : List AStep := ⟨.build [(.sl none 0 (some 0)), (.sl none 0 (some 0))] [], (some 87), none, []⟩ :: ⟨.store 2 (.t 4) (.t 87), none, none, []⟩ :: L23_53
theorem v23_54 : VS L23_54.eq_1 := rfl
def L23_55 : List AStep := [⟨.mov (.c (.bool true)), (some 5), none, []⟩]
theorem v23_55 : VS L23_55.eq_1 := rfl
def L23_56 : List AStep := ⟨.load 2 true (.t 6), (some 88), none, []⟩ :: ⟨.store 2 (.t 4) (.t 88), none, none, []⟩ :: L23_55
theorem v23_56 : VS L23_56.eq_1 := rfl
def C23_0 : ACode := .seq (.reg L23_11) .ret
theorem u23_0 : VC C23_0.eq_1 := rfl
def C23_1 : ACode := .cond (.t 25) C23_0 .skip
theorem u23_1 : VC C23_1.eq_1 := rfl
def C23_2 : ACode := .seq (.reg L23_9) C23_1
theorem u23_2 : VC C23_2.eq_1 := rfl
def C23_3 : ACode := .cond (.t 40) .skip (.exit 0)
theorem u23_3 : VC C23_3.eq_1 := rfl
def C23_4 : ACode := .seq (.reg L23_22) C23_3
theorem u23_4 : VC C23_4.eq_1 := rfl
def C23_5 : ACode := .seq (.reg L23_30) (.reg L23_32)
theorem u23_5 : VC C23_5.eq_1 := rfl
def C23_6 : ACode := .cond (.t 48) C23_5 .skip
theorem u23_6 : VC C23_6.eq_1 := rfl
def C23_7 : ACode := .seq (.reg L23_25) C23_6
theorem u23_7 : VC C23_7.eq_1 := rfl
def C23_8 : ACode := .block 1 C23_7
theorem u23_8 : VC C23_8.eq_1 := rfl
def C23_9 : ACode := .seq C23_8 (.reg L23_34)
theorem u23_9 : VC C23_9.eq_1 := rfl
def C23_10 : ACode := .seq C23_4 C23_9
theorem u23_10 : VC C23_10.eq_1 := rfl
def C23_11 : ACode := .block 0 (.loop C23_10)
theorem u23_11 : VC C23_11.eq_1 := rfl
def C23_12 : ACode := .seq (.reg L23_19) C23_11
theorem u23_12 : VC C23_12.eq_1 := rfl
def C23_13 : ACode := .cond (.t 72) .skip (.exit 2)
theorem u23_13 : VC C23_13.eq_1 := rfl
def C23_14 : ACode := .seq (.reg L23_43) C23_13
theorem u23_14 : VC C23_14.eq_1 := rfl
def C23_15 : ACode := .block 3 (.reg L23_48)
theorem u23_15 : VC C23_15.eq_1 := rfl
def C23_16 : ACode := .seq C23_15 (.reg L23_50)
theorem u23_16 : VC C23_16.eq_1 := rfl
def C23_17 : ACode := .seq C23_14 C23_16
theorem u23_17 : VC C23_17.eq_1 := rfl
def C23_18 : ACode := .block 2 (.loop C23_17)
theorem u23_18 : VC C23_18.eq_1 := rfl
def C23_19 : ACode := .seq (.reg L23_40) C23_18
theorem u23_19 : VC C23_19.eq_1 := rfl
def C23_20 : ACode := .seq (.reg L23_54) .ret
theorem u23_20 : VC C23_20.eq_1 := rfl
def C23_21 : ACode := .cond (.t 86) C23_20 .skip
theorem u23_21 : VC C23_21.eq_1 := rfl
def C23_22 : ACode := .seq (.reg L23_52) C23_21
theorem u23_22 : VC C23_22.eq_1 := rfl
def C23_23 : ACode := .seq (.reg L23_56) .ret
theorem u23_23 : VC C23_23.eq_1 := rfl
def C23_24 : ACode := .seq C23_22 C23_23
theorem u23_24 : VC C23_24.eq_1 := rfl
def C23_25 : ACode := .seq C23_19 C23_24
theorem u23_25 : VC C23_25.eq_1 := rfl
def C23_26 : ACode := .seq (.reg L23_39) C23_25
theorem u23_26 : VC C23_26.eq_1 := rfl
def C23_27 : ACode := .seq C23_12 C23_26
theorem u23_27 : VC C23_27.eq_1 := rfl
def C23_28 : ACode := .seq (.reg L23_18) C23_27
theorem u23_28 : VC C23_28.eq_1 := rfl
def C23_29 : ACode := .seq (.reg L23_17) C23_28
theorem u23_29 : VC C23_29.eq_1 := rfl
def C23_30 : ACode := .seq C23_2 C23_29
theorem u23_30 : VC C23_30.eq_1 := rfl
def C23_31 : ACode := .seq (.reg L23_1) C23_30
theorem u23_31 : VC C23_31.eq_1 := rfl
def F23 : AFunc := ⟨89, [.cell 4 2 true, .tmp 5], C23_31⟩
theorem cF23 : compB Try.prog 23 = some F23 := by kernel_rfl
attribute [local go_sem ↓] u23_0 u23_1 u23_2 u23_3 u23_4 u23_5 u23_6 u23_7 u23_8 u23_9 u23_10 u23_11 u23_12 u23_13 u23_14 u23_15 u23_16 u23_17 u23_18 u23_19 u23_20 u23_21 u23_22 u23_23 u23_24 u23_25 u23_26 u23_27 u23_28 u23_29 u23_30 u23_31 v23_0 v23_1 v23_2 v23_3 v23_4 v23_5 v23_6 v23_7 v23_8 v23_9 v23_10 v23_11 v23_12 v23_13 v23_14 v23_15 v23_16 v23_17 v23_18 v23_19 v23_20 v23_21 v23_22 v23_23 v23_24 v23_25 v23_26 v23_27 v23_28 v23_29 v23_30 v23_31 v23_32 v23_33 v23_34 v23_35 v23_36 v23_37 v23_38 v23_39 v23_40 v23_41 v23_42 v23_43 v23_44 v23_45 v23_46 v23_47 v23_48 v23_49 v23_50 v23_51 v23_52 v23_53 v23_54 v23_55 v23_56
theorem k_sShiftHoles (f g : Holes) (p n q m : CV) (h : H) (hf : SlH h p n f) (hg : SlH h q m g) (hn : miniH f) (hm : miniH g) :
    callK (bm Try.prog 23 [.agg [p, n], .agg [q, m]] h) fun r h' => Grow h h' ∧ ∃ p' n', r = .tup [.agg [p', n'], .one (.bool (ShiftHoles f g).isSome)] ∧ NwH h h' p' n' (orH (ShiftHoles f g)) := by
  refine bm_of cF23 ?_
  have v1 := c_validHoles f p n h hf hn.sm
  have v2 := c_validHoles g q m h hg hm.sm
  have v3 := c_countHoles f p n h hf hn.sm
  unfold ShiftHoles
  cases b1 : okHoles f with
  | false =>
    simp +contextual (maxSteps := 2000000) only [go_sem, Nat.reduceEqDiff, reduceCtorEq, Nat.reduceAdd, Nat.reduceLeDiff, F23, v1, b1, false_and, if_false]
    exact ⟨Grow.refl h, _, _, rfl, .nil⟩
  | true =>
  cases b2 : okHoles g with
  | false =>
    simp +contextual (maxSteps := 2000000) only [go_sem, Nat.reduceEqDiff, reduceCtorEq, Nat.reduceAdd, Nat.reduceLeDiff, F23, v1, b1, v2, b2, false_and, and_false, if_false]
    exact ⟨Grow.refl h, _, _, rfl, .nil⟩
  | true =>
  by_cases b3 : countH f.pl ≤ g.pl.length
  case neg =>
    have b4 : decide ((g.pl.length : Int) < (countH f.pl : Nat)) = true := decide_eq_true (by omega)
    simp +contextual (maxSteps := 2000000) only [go_sem, Nat.reduceEqDiff, reduceCtorEq, Nat.reduceAdd, Nat.reduceLeDiff, F23, v1, b1, v2, b2, v3, hg.pl.len, b4, b3, and_false, if_false]
    exact ⟨Grow.refl h, _, _, rfl, .nil⟩
  have b4 : decide ((g.pl.length : Int) < (countH f.pl : Nat)) = false := decide_eq_false (by omega)
  simp +contextual (maxSteps := 2000000) only [go_sem, Nat.reduceEqDiff, reduceCtorEq, Nat.reduceAdd, Nat.reduceLeDiff, F23, v1, b1, v2, b2, v3, hg.pl.len, b4, b3, and_self, if_true]
  have a1 := hn.pl
  have a2 := hm.pl
  have a3 := hn.nl
  have a4 := hm.nl
  refine wp_lit (enc := encL) (k := 2) (l := []) rfl rfl ?_
  intro h1 w1 g1 n1 _
  simp +contextual (maxSteps := 2000000) only [go_sem, Nat.reduceEqDiff, reduceCtorEq, Nat.reduceAdd, Nat.reduceLeDiff]
  refine wp_lit (enc := encP) (k := 2) (l := []) rfl rfl ?_
  intro h2 w2 g2 n2 _
  simp +contextual (maxSteps := 2000000) only [go_sem, Nat.reduceEqDiff, reduceCtorEq, Nat.reduceAdd, Nat.reduceLeDiff]
  refine wp_append lenL (n1.grow g2) ((hf.pl.grow g1).grow g2) (g1.trans g2) (by simp; omega) ?_
  intro h3 s3 g3 n3 st3 hb3
  simp +contextual (maxSteps := 2000000) only [go_sem, Nat.reduceEqDiff, reduceCtorEq, Nat.reduceAdd, Nat.reduceLeDiff]
  have m2 := (n2.stay st3 (n1.apart n2).symm).from g1.n
  refine wp_append lenP m2 (hf.nl.grow g3) g3 (by simp; omega) ?_
  intro h4 s4 g4 n4 st4 hb4
  obtain ⟨c, rfl⟩ := n3.one
  obtain ⟨d, rfl⟩ := n4.one
  have sp : Sep (.one c) w2 := fun i hi hw => by
    rcases hb3 i hi with e | e
    · exact n1.apart n2 i e hw
    · have := (n2.lt hw).1
      omega
  have sd : Sep (.one c) (.one d) := fun i hi hd => by
    rcases hb4 i hd with e | e
    · exact sp i hi e
    · have := (n3.lt hi).1
      omega
  have n5 : NwL h h4 (.one c) f.pl := by simpa using n3.stay st4 sp
  have n6 : NwP h h4 (.one d) f.nl := by simpa using n4
  simp +contextual (maxSteps := 2000000) only [go_sem, Nat.reduceEqDiff, reduceCtorEq, Nat.reduceAdd, Nat.reduceLeDiff]
  refine wpC_loop (fun i T L h' => Grow h h' ∧ T 3 = .lp 3 0 ∧ (L 3).2 = [q, m] ∧ T 4 = .lp 4 0 ∧ (L 4).2 = [.sl none 0 (some 0), .sl none 0 (some 0)] ∧ T 6 = .lp 6 0 ∧ (L 6).2 = [c, d] ∧ T 7 = .v (.one (.int .i64 (cnt (fun p : Place => p.hole) f.pl i))) ∧ T 8 = .v (.one (.int .i64 i)) ∧ NwL h h' (.one c) (fillT f.pl g.pl i) ∧ NwP h h' (.one d) f.nl) f.pl.length ?_ ?_ (Nat.zero_le _) ?_
  · rintro i T L h' hi ⟨gg, t3, l3, t4, l4, t6, l6, t7, t8, nl, nn⟩
    have e := cnt_next (p := fun p : Place => p.hole) hi
    have ec : cnt (fun p : Place => p.hole) f.pl (i + 1) ≤ countH f.pl := by
      unfold cnt countH
      exact (List.take_sublist _ _).countP_le
    have hlen : (fillT f.pl g.pl i).length = f.pl.length := fillT_len (by omega)
    have hio : i < (fillT f.pl g.pl i).length := by omega
    have hln := nl.length
    rw [hlen] at hln
    have hfo := (nl.sl lenL).fieldO (off := 0) hio (by omega)
    rw [fillT_at hi hio] at hfo
    have k := hg.grow gg
    cases b : f.pl[i].hole with
    | true =>
      rw [if_pos b] at e
      have hk : cnt (fun p : Place => p.hole) f.pl i < g.pl.length := by omega
      simp +contextual (maxSteps := 2000000) only [go_sem, Nat.reduceEqDiff, reduceCtorEq, Nat.reduceAdd, Nat.reduceLeDiff, t3, l3, t4, l4, t6, l6, t7, t8, hln, nl.iaddr hio, hfo, b, k.pl.iaddr hk, k.pl.whole hk, lt_true hi]
      refine wp_setE (x := g.pl[cnt (fun p : Place => p.hole) f.pl i]) lenL nl hio rfl rfl gg ?_
      intro h5 g5 n7 s5
      rw [← fillE_hole hi b hk, fillT_set hi] at n7
      simp +contextual (maxSteps := 2000000) only [go_sem, Nat.reduceEqDiff, reduceCtorEq, Nat.reduceAdd, Nat.reduceLeDiff, t3, l3, t4, l4, t6, l6, t7, t8]
      exact ⟨g5, by rw [wrap_next hk (by omega), e], by rw [wrap_next hi (by omega)], n7, nn.stay s5 sd.symm⟩
    | false =>
      rw [if_neg (by simp [b])] at e
      have e : cnt (fun p : Place => p.hole) f.pl (i + 1) = cnt (fun p : Place => p.hole) f.pl i := e
      simp +contextual (maxSteps := 2000000) only [go_sem, Nat.reduceEqDiff, reduceCtorEq, Nat.reduceAdd, Nat.reduceLeDiff, t3, l3, t4, l4, t6, l6, t7, t8, hln, nl.iaddr hio, hfo, b, lt_true hi]
      exact ⟨gg, by rw [e], by rw [wrap_next hi (by omega)], by rw [fillT_plain hi b]; exact nl, nn⟩
  · rintro T L h' ⟨gg, t3, l3, t4, l4, t6, l6, t7, t8, nl, nn⟩
    have hln := nl.length
    rw [fillT_len (Nat.le_refl _)] at hln
    rw [cnt_all] at t7
    rw [fillT_all] at nl
    have k := hg.grow gg
    obtain ⟨w, e1, s1⟩ := k.pl.dropO (i := countH f.pl) b3 (kd := .i64)
    have t7' : T 7 = .v (.one (.int .i64 (countH f.pl : Nat))) := t7
    simp +contextual (maxSteps := 2000000) only [go_sem, Nat.reduceEqDiff, reduceCtorEq, Nat.reduceAdd, Nat.reduceLeDiff, t3, l3, t4, l4, t6, l6, t7', t8, hln, lt_false, e1]
    refine wp_append lenL nl s1 gg (by simp; omega) ?_
    intro h5 s5 g5 n7 st5 hb5
    obtain ⟨c2, rfl⟩ := n7.one
    have n8 : NwL h h5 (.one c2) (fillPl f.pl g.pl) := n7
    have nn5 := nn.stay st5 sd.symm
    have sd2 : Sep (.one c2) (.one d) := fun i hi hd => by
      rcases hb5 i hi with e | e
      · exact sd i e hd
      · have := (nn.lt hd).1
        omega
    simp +contextual (maxSteps := 2000000) only [go_sem, Nat.reduceEqDiff, reduceCtorEq, Nat.reduceAdd, Nat.reduceLeDiff, t3, l3, t4, l4, t6, l6]
    refine wpC_loop (fun i T L h' => Grow h h' ∧ T 3 = .lp 3 0 ∧ (L 3).2 = [q, m] ∧ T 4 = .lp 4 0 ∧ (L 4).2 = [.sl none 0 (some 0), .sl none 0 (some 0)] ∧ T 6 = .lp 6 0 ∧ (∃ b, (L 6).2 = [c2, b] ∧ NwL h h' (.one c2) (fillPl f.pl g.pl) ∧ NwP h h' (.one b) (putAll f.nl (g.nl.take i)) ∧ Sep (.one c2) (.one b)) ∧ T 9 = .v (.one (.int .i64 i))) g.nl.length ?_ ?_ (Nat.zero_le _) ?_
    · rintro i T L h' hi ⟨gg, t3, l3, t4, l4, t6, ⟨b, l6, x1, x2, x3⟩, t9⟩
      have k5 := hg.grow gg
      simp +contextual (maxSteps := 2000000) only [go_sem, Nat.reduceEqDiff, reduceCtorEq, Nat.reduceAdd, Nat.reduceLeDiff, t3, l3, t4, l4, t6, l6, t9, k5.nl.len, k5.nl.iaddr hi, k5.nl.whole hi, lt_true hi]
      refine wp_call (c_putPair _ _ g.nl[i] h' (x2.sl lenP) (shiftH_sm hn hm).nl) ?_
      rintro r h6 ⟨g6, n9⟩
      obtain ⟨d2, rfl⟩ := n9.one
      simp +contextual (maxSteps := 2000000) only [go_sem, Nat.reduceEqDiff, reduceCtorEq, Nat.reduceAdd, Nat.reduceLeDiff, t3, l3, t4, l4, t6, l6, t9]
      rw [wrap_next hi (by omega), putAll_next hi]
      exact ⟨gg.trans g6, ⟨d2, rfl, x1.grow g6, n9.from gg.n, x1.apart n9⟩, rfl⟩
    · rintro T L h' ⟨gg, t3, l3, t4, l4, t6, ⟨b, l6, x1, x2, x3⟩, t9⟩
      have hz := shiftH_sm hn hm (i := g.nl.length)
      rw [List.take_length] at x2 hz
      have x4 : NwH h h' c2 b (shiftH f g) := ⟨x1, x2, x3⟩
      have v4 := c_validHoles (shiftH f g) c2 b h' x4.sl hz
      cases b5 : okHoles (shiftH f g) with
      | false =>
        simp +contextual (maxSteps := 2000000) only [go_sem, Nat.reduceEqDiff, reduceCtorEq, Nat.reduceAdd, Nat.reduceLeDiff, t3, l3, t4, l4, t6, l6, t9, (hg.grow gg).nl.len, lt_false, v4, b5, if_false]
        exact gcK_of ⟨gg, _, _, rfl, .nil⟩ (fun hs _ => ⟨Grow.refl h, _, _, rfl, .nil⟩)
      | true =>
        simp +contextual (maxSteps := 2000000) only [go_sem, Nat.reduceEqDiff, reduceCtorEq, Nat.reduceAdd, Nat.reduceLeDiff, t3, l3, t4, l4, t6, l6, t9, (hg.grow gg).nl.len, lt_false, v4, b5, if_true]
        exact gcK_of ⟨gg, _, _, rfl, x4⟩ (fun hs _ => ⟨Grow.refl h, _, _, rfl, x4.scalar (by simpa [AV.scalar, AV.scalars, CV.scalar] using hs) h⟩)
    · simp +contextual (maxSteps := 2000000) only [go_sem, Nat.reduceEqDiff, reduceCtorEq, Nat.reduceAdd, Nat.reduceLeDiff, t3, l3, t4, l4, t6, l6]
      exact ⟨g5, ⟨d, rfl, n8, nn5, sd2⟩, rfl⟩
  · simp +contextual (maxSteps := 2000000) only [go_sem, Nat.reduceEqDiff, reduceCtorEq, Nat.reduceAdd, Nat.reduceLeDiff]
    exact ⟨g4, rfl, rfl, by rw [fillT_zero]; exact n5, n6⟩
/-! impl.ShiftHoles -/
def L22_0 : List AStep := [⟨.alloc 41 [(.sl none 0 (some 0)), (.sl none 0 (some 0))], (some 4), none, []⟩, ⟨.mov (.c (.bool false)), (some 5), none, []⟩]
theorem v22_0 : VS L22_0.eq_1 := rfl
def L22_1 : List AStep := ⟨.box 41 (.t 0), (some 2), none, []⟩ :: ⟨.box 41 (.t 1), (some 3), none, []⟩ :: L22_0
theorem v22_1 : VS L22_1.eq_1 := rfl
def L22_2 : List AStep := [⟨.bin .lss (.t 25) (.t 27), (some 28), (some (22, false)), []⟩, ⟨.pick (.t 22) (.c (.bool true)) (.t 28), (some 29), none, []⟩]
theorem v22_2 : VS L22_2.eq_1 := rfl
def L22_3 : List AStep := ⟨.load 2 true (.t 2), (some 26), (some (22, false)), []⟩ :: ⟨.call 84 [(.t 26)], (some 27), (some (22, false)), [(.load 1 false (.t 23), (some 24), (some (22, false)))]⟩ :: L22_2
theorem v22_3 : VS L22_3.eq_1 := rfl
def L22_4 : List AStep := ⟨.load 1 false (.t 23), (some 24), (some (22, false)), []⟩ :: ⟨.len (.t 24), (some 25), (some (22, false)), []⟩ :: L22_3
theorem v22_4 : VS L22_4.eq_1 := rfl
def L22_5 : List AStep := ⟨.mov (.t 21), (some 22), none, []⟩ :: ⟨.faddr 0 (.t 3), (some 23), (some (22, false)), []⟩ :: L22_4
theorem v22_5 : VS L22_5.eq_1 := rfl
def L22_6 : List AStep := ⟨.not (.t 19), (some 20), (some (17, false)), []⟩ :: ⟨.pick (.t 17) (.c (.bool true)) (.t 20), (some 21), none, []⟩ :: L22_5
theorem v22_6 : VS L22_6.eq_1 := rfl
def L22_7 : List AStep := ⟨.load 2 true (.t 3), (some 18), (some (17, false)), []⟩ :: ⟨.call 83 [(.t 18)], (some 19), (some (17, false)), []⟩ :: L22_6
theorem v22_7 : VS L22_7.eq_1 := rfl
def L22_8 : List AStep := ⟨.not (.t 15), (some 16), none, []⟩ :: ⟨.mov (.t 16), (some 17), none, []⟩ :: L22_7
theorem v22_8 : VS L22_8.eq_1 := rfl
def L22_9 : List AStep := ⟨.load 2 true (.t 2), (some 14), none, []⟩ :: ⟨.call 83 [(.t 14)], (some 15), none, []⟩ :: L22_8
theorem v22_9 : VS L22_9.eq_1 := rfl
def L22_10 : List AStep := [⟨.mov (.c (.bool false)), (some 5), none, []⟩]
theorem v22_10 : VS L22_10.eq_1 := rfl
def L22_11 : List AStep := ⟨.build [(.sl none 0 (some 0)), (.sl none 0 (some 0))] [], (some 30), none, []⟩ :: ⟨.store 2 (.t 4) (.t 30), none, none, []⟩ :: L22_10
theorem v22_11 : VS L22_11.eq_1 := rfl
def L22_12 : List AStep := [⟨.mov (.t 35), (some 7), none, []⟩]
theorem v22_12 : VS L22_12.eq_1 := rfl
def L22_13 : List AStep := ⟨.call 85 [(.t 32)], (some 33), none, [(.load 1 false (.t 34), (some 35), none)]⟩ :: ⟨.mov (.t 33), (some 6), none, []⟩ :: L22_12
theorem v22_13 : VS L22_13.eq_1 := rfl
def L22_14 : List AStep := ⟨.faddr 0 (.t 3), (some 34), none, []⟩ :: ⟨.load 1 false (.t 34), (some 35), none, []⟩ :: L22_13
theorem v22_14 : VS L22_14.eq_1 := rfl
def L22_15 : List AStep := ⟨.faddr 0 (.t 2), (some 31), none, []⟩ :: ⟨.load 1 false (.t 31), (some 32), none, []⟩ :: L22_14
theorem v22_15 : VS L22_15.eq_1 := rfl
def L22_16 : List AStep := [⟨.mov (.c (.int .i64 0)), (some 38), none, []⟩]
theorem v22_16 : VS L22_16.eq_1 := rfl
def L22_17 : List AStep := ⟨.mov (.t 6), (some 36), none, []⟩ :: ⟨.len (.t 36), (some 37), none, []⟩ :: L22_16
theorem v22_17 : VS L22_17.eq_1 := rfl
def L22_18 : List AStep := [⟨.bin .lss (.t 38) (.t 37), (some 39), none, []⟩]
theorem v22_18 : VS L22_18.eq_1 := rfl
def L22_19 : List AStep := [⟨.mov (.t 40), (some 8), none, []⟩, ⟨.store 2 (.t 9) (.t 42), none, none, []⟩]
theorem v22_19 : VS L22_19.eq_1 := rfl
def L22_20 : List AStep := ⟨.load 2 true (.t 41), (some 42), none, []⟩ :: ⟨.alloc 83 [(.bool false), (.int .i64 0)], (some 9), none, []⟩ :: L22_19
theorem v22_20 : VS L22_20.eq_1 := rfl
def L22_21 : List AStep := ⟨.mov (.t 38), (some 40), none, []⟩ :: ⟨.iaddr 2 (.t 36) (.t 38), (some 41), none, []⟩ :: L22_20
theorem v22_21 : VS L22_21.eq_1 := rfl
def L22_22 : List AStep := [⟨.faddr 0 (.t 9), (some 43), none, []⟩, ⟨.load 1 false (.t 43), (some 44), none, []⟩]
theorem v22_22 : VS L22_22.eq_1 := rfl
def L22_23 : List AStep := [⟨.store 2 (.t 50) (.t 49), none, none, []⟩]
theorem v22_23 : VS L22_23.eq_1 := rfl
def L22_24 : List AStep := ⟨.load 2 true (.t 48), (some 49), none, []⟩ :: ⟨.iaddr 2 (.t 45) (.t 46), (some 50), none, []⟩ :: L22_23
theorem v22_24 : VS L22_24.eq_1 := rfl
def L22_25 : List AStep := ⟨.mov (.t 7), (some 47), none, []⟩ :: ⟨.iaddr 2 (.t 47) (.c (.int .i64 0)), (some 48), none, []⟩ :: L22_24
theorem v22_25 : VS L22_25.eq_1 := rfl
def L22_26 : List AStep := ⟨.mov (.t 6), (some 45), none, []⟩ :: ⟨.mov (.t 8), (some 46), none, []⟩ :: L22_25
theorem v22_26 : VS L22_26.eq_1 := rfl
def L22_27 : List AStep := [⟨.mov (.t 52), (some 7), none, []⟩]
theorem v22_27 : VS L22_27.eq_1 := rfl
def L22_28 : List AStep := ⟨.mov (.t 7), (some 51), none, []⟩ :: ⟨.slice 83 2 (.t 51) (some (.c (.int .i64 1))) none none, (some 52), none, []⟩ :: L22_27
theorem v22_28 : VS L22_28.eq_1 := rfl
def L22_29 : List AStep := [⟨.bin .add (.t 38) (.c (.int .i64 1)), (some 53), none, []⟩, ⟨.mov (.t 53), (some 38), none, []⟩]
theorem v22_29 : VS L22_29.eq_1 := rfl
def L22_30 : List AStep := [⟨.store 2 (.t 10) (.t 56), none, none, []⟩]
theorem v22_30 : VS L22_30.eq_1 := rfl
def L22_31 : List AStep := ⟨.build [(.sl none 0 (some 0)), (.sl none 0 (some 0))] [(0, 1, (.c (.sl none 0 (some 0)))), (1, 1, (.t 55))], (some 56), none, []⟩ :: ⟨.alloc 30 [(.sl none 0 (some 0)), (.sl none 0 (some 0))], (some 10), none, []⟩ :: L22_30
theorem v22_31 : VS L22_31.eq_1 := rfl
def L22_32 : List AStep := ⟨.faddr 1 (.t 2), (some 54), none, []⟩ :: ⟨.load 1 false (.t 54), (some 55), none, []⟩ :: L22_31
theorem v22_32 : VS L22_32.eq_1 := rfl
def L22_33 : List AStep := [⟨.len (.t 58), (some 59), none, []⟩, ⟨.mov (.c (.int .i64 0)), (some 60), none, []⟩]
theorem v22_33 : VS L22_33.eq_1 := rfl
def L22_34 : List AStep := ⟨.faddr 1 (.t 3), (some 57), none, []⟩ :: ⟨.load 1 false (.t 57), (some 58), none, []⟩ :: L22_33
theorem v22_34 : VS L22_34.eq_1 := rfl
def L22_35 : List AStep := [⟨.bin .lss (.t 60) (.t 59), (some 61), none, []⟩]
theorem v22_35 : VS L22_35.eq_1 := rfl
def L22_36 : List AStep := [⟨.alloc 86 [(.str (strOfNums [])), (.int .i64 0)], (some 12), none, []⟩, ⟨.store 2 (.t 12) (.t 63), none, none, []⟩]
theorem v22_36 : VS L22_36.eq_1 := rfl
def L22_37 : List AStep := ⟨.iaddr 2 (.t 58) (.t 60), (some 62), none, []⟩ :: ⟨.load 2 true (.t 62), (some 63), none, []⟩ :: L22_36
theorem v22_37 : VS L22_37.eq_1 := rfl
def L22_38 : List AStep := [⟨.store 2 (.t 10) (.t 69), none, none, []⟩]
theorem v22_38 : VS L22_38.eq_1 := rfl
def L22_39 : List AStep := ⟨.load 1 false (.t 67), (some 68), none, []⟩ :: ⟨.call 86 [(.t 64), (.t 66), (.t 68)], (some 69), none, []⟩ :: L22_38
theorem v22_39 : VS L22_39.eq_1 := rfl
def L22_40 : List AStep := ⟨.load 1 false (.t 65), (some 66), none, []⟩ :: ⟨.faddr 1 (.t 12), (some 67), none, []⟩ :: L22_39
theorem v22_40 : VS L22_40.eq_1 := rfl
def L22_41 : List AStep := ⟨.load 2 true (.t 10), (some 64), none, []⟩ :: ⟨.faddr 0 (.t 12), (some 65), none, []⟩ :: L22_40
theorem v22_41 : VS L22_41.eq_1 := rfl
def L22_42 : List AStep := [⟨.bin .add (.t 60) (.c (.int .i64 1)), (some 70), none, []⟩, ⟨.mov (.t 70), (some 60), none, []⟩]
theorem v22_42 : VS L22_42.eq_1 := rfl
def L22_43 : List AStep := [⟨.build [(.sl none 0 (some 0)), (.sl none 0 (some 0))] [(0, 1, (.t 74)), (1, 1, (.t 77))], (some 78), none, []⟩, ⟨.store 2 (.t 13) (.t 78), none, none, []⟩]
theorem v22_43 : VS L22_43.eq_1 := rfl
def L22_44 : List AStep := ⟨.call 85 [(.t 73)], (some 74), none, [(.load 1 false (.t 75), (some 76), none)]⟩ :: ⟨.call 87 [(.t 76)], (some 77), none, []⟩ :: L22_43
theorem v22_44 : VS L22_44.eq_1 := rfl
def L22_45 : List AStep := ⟨.alloc 41 [(.sl none 0 (some 0)), (.sl none 0 (some 0))], (some 13), none, []⟩ :: ⟨.append 83 2 16 (.t 71) (.t 72), (some 73), none, [(.load 1 false (.t 75), (some 76), none)]⟩ :: L22_44
theorem v22_45 : VS L22_45.eq_1 := rfl
def L22_46 : List AStep := ⟨.faddr 1 (.t 10), (some 75), none, []⟩ :: ⟨.load 1 false (.t 75), (some 76), none, []⟩ :: L22_45
theorem v22_46 : VS L22_46.eq_1 := rfl
def L22_47 : List AStep := ⟨.mov (.t 6), (some 71), none, []⟩ :: ⟨.mov (.t 7), (some 72), none, []⟩ :: L22_46
theorem v22_47 : VS L22_47.eq_1 := rfl
def L22_48 : List AStep := [⟨.not (.t 80), (some 81), none, []⟩]
theorem v22_48 : VS L22_48.eq_1 := rfl
def L22_49 : List AStep := ⟨.load 2 true (.t 13), (some 79), none, []⟩ :: ⟨.call 83 [(.t 79)], (some 80), none, []⟩ :: L22_48
theorem v22_49 : VS L22_49.eq_1 := rfl
def L22_50 : List AStep := [⟨.mov (.c (.bool false)), (some 5), none, []⟩]
theorem v22_50 : VS L22_50.eq_1 := rfl
def L22_51 : List AStep := ⟨.build [(.sl none 0 (some 0)), (.sl none 0 (some 0))] [], (some 82), none, []⟩ :: ⟨.store 2 (.t 4) (.t 82), none, none, []⟩ :: L22_50
theorem v22_51 : VS L22_51.eq_1 := rfl
def L22_52 : List AStep := [⟨.mov (.c (.bool true)), (some 5), none, []⟩]
theorem v22_52 : VS L22_52.eq_1 := rfl
def L22_53 : List AStep := ⟨.load 2 true (.t 13), (some 83), none, []⟩ :: ⟨.store 2 (.t 4) (.t 83), none, none, []⟩ :: L22_52
theorem v22_53 : VS L22_53.eq_1 := rfl
def C22_0 : ACode := .seq (.reg L22_11) .ret
theorem u22_0 : VC C22_0.eq_1 := rfl
def C22_1 : ACode := .cond (.t 29) C22_0 .skip
theorem u22_1 : VC C22_1.eq_1 := rfl
def C22_2 : ACode := .seq (.reg L22_9) C22_1
theorem u22_2 : VC C22_2.eq_1 := rfl
def C22_3 : ACode := .cond (.t 39) .skip (.exit 0)
theorem u22_3 : VC C22_3.eq_1 := rfl
def C22_4 : ACode := .seq (.reg L22_26) (.reg L22_28)
theorem u22_4 : VC C22_4.eq_1 := rfl
def C22_5 : ACode := .cond (.t 44) C22_4 .skip
theorem u22_5 : VC C22_5.eq_1 := rfl
def C22_6 : ACode := .seq (.reg L22_22) C22_5
theorem u22_6 : VC C22_6.eq_1 := rfl
def C22_7 : ACode := .seq (.reg L22_21) C22_6
theorem u22_7 : VC C22_7.eq_1 := rfl
def C22_8 : ACode := .block 1 C22_7
theorem u22_8 : VC C22_8.eq_1 := rfl
def C22_9 : ACode := .seq C22_8 (.reg L22_29)
theorem u22_9 : VC C22_9.eq_1 := rfl
def C22_10 : ACode := .seq C22_3 C22_9
theorem u22_10 : VC C22_10.eq_1 := rfl
def C22_11 : ACode := .seq (.reg L22_18) C22_10
theorem u22_11 : VC C22_11.eq_1 := rfl
def C22_12 : ACode := .block 0 (.loop C22_11)
theorem u22_12 : VC C22_12.eq_1 := rfl
def C22_13 : ACode := .seq (.reg L22_17) C22_12
theorem u22_13 : VC C22_13.eq_1 := rfl
def C22_14 : ACode := .cond (.t 61) .skip (.exit 2)
theorem u22_14 : VC C22_14.eq_1 := rfl
def C22_15 : ACode := .seq (.reg L22_37) (.reg L22_41)
theorem u22_15 : VC C22_15.eq_1 := rfl
def C22_16 : ACode := .block 3 C22_15
theorem u22_16 : VC C22_16.eq_1 := rfl
def C22_17 : ACode := .seq C22_16 (.reg L22_42)
theorem u22_17 : VC C22_17.eq_1 := rfl
def C22_18 : ACode := .seq C22_14 C22_17
theorem u22_18 : VC C22_18.eq_1 := rfl
def C22_19 : ACode := .seq (.reg L22_35) C22_18
theorem u22_19 : VC C22_19.eq_1 := rfl
def C22_20 : ACode := .block 2 (.loop C22_19)
theorem u22_20 : VC C22_20.eq_1 := rfl
def C22_21 : ACode := .seq (.reg L22_34) C22_20
theorem u22_21 : VC C22_21.eq_1 := rfl
def C22_22 : ACode := .seq (.reg L22_51) .ret
theorem u22_22 : VC C22_22.eq_1 := rfl
def C22_23 : ACode := .cond (.t 81) C22_22 .skip
theorem u22_23 : VC C22_23.eq_1 := rfl
def C22_24 : ACode := .seq (.reg L22_49) C22_23
theorem u22_24 : VC C22_24.eq_1 := rfl
def C22_25 : ACode := .seq (.reg L22_53) .ret
theorem u22_25 : VC C22_25.eq_1 := rfl
def C22_26 : ACode := .seq C22_24 C22_25
theorem u22_26 : VC C22_26.eq_1 := rfl
def C22_27 : ACode := .seq (.reg L22_47) C22_26
theorem u22_27 : VC C22_27.eq_1 := rfl
def C22_28 : ACode := .seq C22_21 C22_27
theorem u22_28 : VC C22_28.eq_1 := rfl
def C22_29 : ACode := .seq (.reg L22_32) C22_28
theorem u22_29 : VC C22_29.eq_1 := rfl
def C22_30 : ACode := .seq C22_13 C22_29
theorem u22_30 : VC C22_30.eq_1 := rfl
def C22_31 : ACode := .seq (.reg L22_15) C22_30
theorem u22_31 : VC C22_31.eq_1 := rfl
def C22_32 : ACode := .seq C22_2 C22_31
theorem u22_32 : VC C22_32.eq_1 := rfl
def C22_33 : ACode := .seq (.reg L22_1) C22_32
theorem u22_33 : VC C22_33.eq_1 := rfl
def F22 : AFunc := ⟨84, [.cell 4 2 true, .tmp 5], C22_33⟩
theorem cF22 : compB Try.prog 22 = some F22 := by kernel_rfl
attribute [local go_sem ↓] u22_0 u22_1 u22_2 u22_3 u22_4 u22_5 u22_6 u22_7 u22_8 u22_9 u22_10 u22_11 u22_12 u22_13 u22_14 u22_15 u22_16 u22_17 u22_18 u22_19 u22_20 u22_21 u22_22 u22_23 u22_24 u22_25 u22_26 u22_27 u22_28 u22_29 u22_30 u22_31 u22_32 u22_33 v22_0 v22_1 v22_2 v22_3 v22_4 v22_5 v22_6 v22_7 v22_8 v22_9 v22_10 v22_11 v22_12 v22_13 v22_14 v22_15 v22_16 v22_17 v22_18 v22_19 v22_20 v22_21 v22_22 v22_23 v22_24 v22_25 v22_26 v22_27 v22_28 v22_29 v22_30 v22_31 v22_32 v22_33 v22_34 v22_35 v22_36 v22_37 v22_38 v22_39 v22_40 v22_41 v22_42 v22_43 v22_44 v22_45 v22_46 v22_47 v22_48 v22_49 v22_50 v22_51 v22_52 v22_53
theorem k_iShiftHoles (f g : Holes) (p n q m : CV) (h : H) (hf : SlH h p n f) (hg : SlH h q m g) (hn : miniH f) (hm : miniH g) :
    callK (bm Try.prog 22 [.agg [p, n], .agg [q, m]] h) fun r h' => Grow h h' ∧ ∃ p' n', r = .tup [.agg [p', n'], .one (.bool (ShiftHoles f g).isSome)] ∧ NwH h h' p' n' (orH (ShiftHoles f g)) := by
  refine bm_of cF22 ?_
  have v1 := c_ValidHoles f p n h hf hn.sm
  have v2 := c_ValidHoles g q m h hg hm.sm
  have v3 := c_holes f p n h hf hn.sm
  unfold ShiftHoles
  cases b1 : okHoles f with
  | false =>
    simp +contextual (maxSteps := 2000000) only [go_sem, Nat.reduceEqDiff, reduceCtorEq, Nat.reduceAdd, Nat.reduceLeDiff, F22, v1, b1, false_and, if_false]
    exact ⟨Grow.refl h, _, _, rfl, .nil⟩
  | true =>
  cases b2 : okHoles g with
  | false =>
    simp +contextual (maxSteps := 2000000) only [go_sem, Nat.reduceEqDiff, reduceCtorEq, Nat.reduceAdd, Nat.reduceLeDiff, F22, v1, b1, v2, b2, false_and, and_false, if_false]
    exact ⟨Grow.refl h, _, _, rfl, .nil⟩
  | true =>
  by_cases b3 : countH f.pl ≤ g.pl.length
  case neg =>
    have b4 : decide ((g.pl.length : Int) < (countH f.pl : Nat)) = true := decide_eq_true (by omega)
    simp +contextual (maxSteps := 2000000) only [go_sem, Nat.reduceEqDiff, reduceCtorEq, Nat.reduceAdd, Nat.reduceLeDiff, F22, v1, b1, v2, b2, v3, hg.pl.len, b4, b3, and_false, if_false]
    exact ⟨Grow.refl h, _, _, rfl, .nil⟩
  have b4 : decide ((g.pl.length : Int) < (countH f.pl : Nat)) = false := decide_eq_false (by omega)
  simp +contextual (maxSteps := 2000000) only [go_sem, Nat.reduceEqDiff, reduceCtorEq, Nat.reduceAdd, Nat.reduceLeDiff, F22, v1, b1, v2, b2, v3, hg.pl.len, b4, b3, and_self, if_true]
  have a1 := hn.pl
  have a2 := hm.pl
  have a3 := hn.nl
  have a4 := hm.nl
  refine wp_call (c_cloneL _ _ h hf.pl (by unfold big; omega)) ?_
  rintro r h1 ⟨g1, n1⟩
  obtain ⟨c, rfl⟩ := n1.one
  simp +contextual (maxSteps := 2000000) only [go_sem, Nat.reduceEqDiff, reduceCtorEq, Nat.reduceAdd, Nat.reduceLeDiff, n1.length]
  refine wpC_loop (fun i T L h' => Grow h h' ∧ T 2 = .lp 2 0 ∧ (L 2).2 = [p, n] ∧ T 3 = .lp 3 0 ∧ (L 3).2 = [q, m] ∧ T 4 = .lp 4 0 ∧ (L 4).2 = [.sl none 0 (some 0), .sl none 0 (some 0)] ∧ T 6 = .v (.one c) ∧ (∃ u, T 7 = .v u ∧ SlL h' u (g.pl.drop (cnt (fun p : Place => p.hole) f.pl i)) ∧ ∀ j, baseOf u = some j → j < h.n) ∧ T 36 = .v (.one c) ∧ T 37 = .v (.one (.int .i64 f.pl.length)) ∧ T 38 = .v (.one (.int .i64 i)) ∧ NwL h h' (.one c) (fillT f.pl g.pl i)) f.pl.length ?_ ?_ (Nat.zero_le _) ?_
  · rintro i T L h' hi ⟨gg, t2, l2, t3, l3, t4, l4, t6, ⟨u, t7, xu, bu⟩, t36, t37, t38, nl⟩
    have e := cnt_next (p := fun p : Place => p.hole) hi
    have ec : cnt (fun p : Place => p.hole) f.pl (i + 1) ≤ countH f.pl := by
      unfold cnt countH
      exact (List.take_sublist _ _).countP_le
    have hlen : (fillT f.pl g.pl i).length = f.pl.length := fillT_len (by omega)
    have hio : i < (fillT f.pl g.pl i).length := by omega
    have hw := (nl.sl lenL).whole hio
    rw [fillT_at hi hio] at hw
    have ni := nl.iaddr hio (kd := .i64)
    have sep : ∀ j, baseOf u = some j → baseOf (.one c) ≠ some j := fun j hj hv => by
      have := bu j hj
      have := (nl.lt hv).2
      omega
    cases b : f.pl[i].hole with
    | true =>
      rw [if_pos b] at e
      have hk : cnt (fun p : Place => p.hole) f.pl i < g.pl.length := by omega
      have hd : 0 < (g.pl.drop (cnt (fun p : Place => p.hole) f.pl i)).length := by simp; omega
      have ui : iaddrO 2 u (.one (.int .i64 0)) = some (.one (.ptr (some (elem 2 u 0)))) := xu.iaddr hd
      have uw : loadO 2 true h' (.one (.ptr (some (elem 2 u 0)))) = some (.agg (encL g.pl[cnt (fun p : Place => p.hole) f.pl i])) := by
        rw [xu.whole hd]
        simp
      simp +contextual (maxSteps := 2000000) only [go_sem, Nat.reduceEqDiff, reduceCtorEq, Nat.reduceAdd, Nat.reduceLeDiff, t2, l2, t3, l3, t4, l4, t6, t7, t36, t37, t38, ni, hw, encL, b, lt_true hi, ui, uw]
      refine wp_setE (x := g.pl[cnt (fun p : Place => p.hole) f.pl i]) lenL nl hio rfl rfl gg ?_
      intro h5 g5 n7 s5
      rw [← fillE_hole hi b hk, fillT_set hi] at n7
      have xu5 := xu.of_stay s5 sep
      obtain ⟨u2, e2, xu2, bu2⟩ := xu5.dropB (i := 1) (by omega) (kd := .i64)
      have e3 : cutO 83 2 h5 u (some (.one (.int .i64 1))) none none = some u2 := e2
      rw [List.drop_drop] at xu2
      simp +contextual (maxSteps := 2000000) only [go_sem, Nat.reduceEqDiff, reduceCtorEq, Nat.reduceAdd, Nat.reduceLeDiff, t2, l2, t3, l3, t4, l4, t6, t7, t36, t37, t38, e3]
      exact ⟨g5, ⟨u2, rfl, by rw [e]; exact xu2, fun j hj => bu j (bu2 j hj)⟩, by rw [wrap_next hi (by omega)], n7⟩
    | false =>
      rw [if_neg (by simp [b])] at e
      have e : cnt (fun p : Place => p.hole) f.pl (i + 1) = cnt (fun p : Place => p.hole) f.pl i := e
      simp +contextual (maxSteps := 2000000) only [go_sem, Nat.reduceEqDiff, reduceCtorEq, Nat.reduceAdd, Nat.reduceLeDiff, t2, l2, t3, l3, t4, l4, t6, t7, t36, t37, t38, ni, hw, encL, b, lt_true hi]
      exact ⟨gg, ⟨u, rfl, by rw [e]; exact xu, bu⟩, by rw [wrap_next hi (by omega)], by rw [fillT_plain hi b]; exact nl⟩
  · rintro T L h' ⟨gg, t2, l2, t3, l3, t4, l4, t6, ⟨u, t7, xu, bu⟩, t36, t37, t38, nl⟩
    rw [cnt_all] at xu
    rw [fillT_all] at nl
    have k := hg.grow gg
    have kf := hf.grow gg
    simp +contextual (maxSteps := 2000000) only [go_sem, Nat.reduceEqDiff, reduceCtorEq, Nat.reduceAdd, Nat.reduceLeDiff, t2, l2, t3, l3, t4, l4, t6, t7, t36, t37, t38, lt_false, k.nl.len]
    refine wpC_loop (fun i T L h' => Grow h h' ∧ T 4 = .lp 4 0 ∧ (L 4).2 = [.sl none 0 (some 0), .sl none 0 (some 0)] ∧ T 6 = .v (.one c) ∧ T 7 = .v u ∧ SlL h' u (g.pl.drop (countH f.pl)) ∧ T 10 = .lp 10 0 ∧ (∃ a b, (L 10).2 = [a, b] ∧ SlI h' (.one a) [] ∧ SlP h' (.one b) (putAll f.nl (g.nl.take i)) ∧ Sep (.one b) (.one c)) ∧ T 58 = .v (.one m) ∧ T 59 = .v (.one (.int .i64 g.nl.length)) ∧ T 60 = .v (.one (.int .i64 i)) ∧ NwL h h' (.one c) ((List.range f.pl.length).map (fillE f.pl g.pl))) g.nl.length ?_ ?_ (Nat.zero_le _) ?_
    · rintro i T L h' hi ⟨gg, t4, l4, t6, t7, xu, t10, ⟨a, b, l10, s1, s2, sbc⟩, t58, t59, t60, nl⟩
      have k5 := hg.grow gg
      have hsm : smF ⟨[], putAll f.nl (g.nl.take i)⟩ := ⟨by simp, (shiftH_sm hn hm).nl⟩
      simp +contextual (maxSteps := 2000000) only [go_sem, Nat.reduceEqDiff, reduceCtorEq, Nat.reduceAdd, Nat.reduceLeDiff, t4, l4, t6, t7, t10, l10, t58, t59, t60, k5.nl.iaddr hi, k5.nl.whole hi, encP, lt_true hi]
      refine wp_call (c_put ⟨[], putAll f.nl (g.nl.take i)⟩ a b g.nl[i].name g.nl[i].value h' ⟨s1, s2⟩ hsm) ?_
      rintro r h5 ⟨g5, a', b', rfl, n5⟩
      simp +contextual (maxSteps := 2000000) only [go_sem, Nat.reduceEqDiff, reduceCtorEq, Nat.reduceAdd, Nat.reduceLeDiff, t4, l4, t6, t7, t10, l10, t58, t59, t60]
      refine ⟨gg.trans g5, xu.grow g5, ⟨a', b', rfl, n5.sl.pl, ?_, fun j hj hk => ?_⟩, by rw [wrap_next hi (by omega)], nl.grow g5⟩
      · have := n5.sl.nl
        rw [putAll_next hi]
        exact this
      · have := (n5.nl.lt hj).2
        have := (nl.lt hk).1
        omega
    · rintro T L h' ⟨gg, t4, l4, t6, t7, xu, t10, ⟨a, b, l10, s1, s2, sbc⟩, t58, t59, t60, nl⟩
      have hz := shiftH_sm hn hm (i := g.nl.length)
      rw [List.take_length] at s2 hz
      simp +contextual (maxSteps := 2000000) only [go_sem, Nat.reduceEqDiff, reduceCtorEq, Nat.reduceAdd, Nat.reduceLeDiff, t4, l4, t6, t7, t10, l10, t58, t59, t60, lt_false]
      refine wp_append lenL nl xu gg (by simp; omega) ?_
      intro h5 s5 g5 n5 st5 hb5
      obtain ⟨c5, rfl⟩ := n5.one
      have n5 : NwL h h5 (.one c5) (fillPl f.pl g.pl) := n5
      have s2 := s2.of_stay st5 sbc
      have hz1 := hz.pl
      have hz2 := hz.nl.1
      simp +contextual (maxSteps := 2000000) only [go_sem, Nat.reduceEqDiff, reduceCtorEq, Nat.reduceAdd, Nat.reduceLeDiff, t4, l4, t6, t7, t10, l10]
      refine wp_call (c_cloneL _ _ h5 (n5.sl lenL) hz1) ?_
      rintro r h6 ⟨g6, n6⟩
      obtain ⟨c6, rfl⟩ := n6.one
      simp +contextual (maxSteps := 2000000) only [go_sem, Nat.reduceEqDiff, reduceCtorEq, Nat.reduceAdd, Nat.reduceLeDiff, t4, l4, t6, t7, t10, l10]
      refine wp_call (c_cloneP _ _ h6 (s2.grow g6) hz2) ?_
      rintro r h7 ⟨g7, n7⟩
      obtain ⟨c7, rfl⟩ := n7.one
      have x4 : NwH h h7 c6 c7 (shiftH f g) := ⟨(n6.grow g7).from g5.n, n7.from (g5.trans g6).n, n6.apart n7⟩
      have v4 := c_ValidHoles (shiftH f g) c6 c7 h7 x4.sl hz
      have gl := (g5.trans g6).trans g7
      cases b5 : okHoles (shiftH f g) with
      | false =>
        simp +contextual (maxSteps := 2000000) only [go_sem, Nat.reduceEqDiff, reduceCtorEq, Nat.reduceAdd, Nat.reduceLeDiff, t4, l4, t6, t7, t10, l10, v4, b5, if_false]
        exact gcK_of ⟨gl, _, _, rfl, .nil⟩ (fun hs _ => ⟨Grow.refl h, _, _, rfl, .nil⟩)
      | true =>
        simp +contextual (maxSteps := 2000000) only [go_sem, Nat.reduceEqDiff, reduceCtorEq, Nat.reduceAdd, Nat.reduceLeDiff, t4, l4, t6, t7, t10, l10, v4, b5, if_true]
        exact gcK_of ⟨gl, _, _, rfl, x4⟩ (fun hs _ => ⟨Grow.refl h, _, _, rfl, x4.scalar (by simpa [AV.scalar, AV.scalars, CV.scalar] using hs) h⟩)
    · simp +contextual (maxSteps := 2000000) only [go_sem, Nat.reduceEqDiff, reduceCtorEq, Nat.reduceAdd, Nat.reduceLeDiff, t4, l4, t6, t7]
      exact ⟨gg, xu, ⟨_, n, rfl, Sl.nil lenI, kf.nl, fun j hj hk => by have := hf.nl.lt_of hj; have := (nl.lt hk).2; omega⟩, rfl, nl⟩
  · simp +contextual (maxSteps := 2000000) only [go_sem, Nat.reduceEqDiff, reduceCtorEq, Nat.reduceAdd, Nat.reduceLeDiff]
    exact ⟨g1, ⟨.one q, rfl, by rw [cnt_zero]; exact hg.pl.grow g1, fun j hj => hg.pl.lt_of hj⟩, rfl, by rw [fillT_zero]; exact n1⟩
end Go.Proofs.Ytnphlonhogcedaa.Am
