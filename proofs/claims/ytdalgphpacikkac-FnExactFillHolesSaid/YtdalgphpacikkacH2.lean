/- Contracts: one call with holes into another, of both sides. -/
import Derived.Test.YtdalgphpacikkacH1
import Derived.Test.YtdalgphpacikkacBY
namespace Go.Proofs.Ytdalgphpacikkac.Am
open Go
set_option maxRecDepth 100000
set_option maxHeartbeats 4000000
set_option linter.unusedSimpArgs false
set_option linter.unusedVariables false
attribute [local go_sem ↓] bv_t bv_c ev_t ev_c put_same put_ne put_none kill_at pro_at lb_same lb_ne start_zero start_succ wpC_seq wpC_reg wpC_cond wpC_block wpC_skip wpC_exit wpC_ret thenQ_normal thenQ_exit thenQ_ret inBlk_normal inBlk_exit inBlk_ret wpS_nil wpS_step wpS_again wpS_guard wpO_mov wpO_load wpO_faddr wpO_nilCheck wpO_pick wpO_build wpO_bin wpO_eqb wpO_eqst wpO_eqnil wpO_not wpO_conv wpO_bytesStr wpO_iaddr wpO_idxStr wpO_field wpO_extract wpO_len wpO_lenStr wpO_cap wpO_min wpO_slice wpO_sliceStr wpO_alloc wpO_box wpO_store wpO_call wpO_callv wpO_mkfn wpO_buildSlice wpO_mkslice wpO_append wpO_appz proA_nil proA_cons tmpX_nil tmpX_tmp tmpX_cell doneB_normal doneB_ret agK_cons agK_nil agK_guard agG_tt agG_ff agG_tf agG_ft agG_undef pureB_load results_one results_two results_nil resBs_cons resBs_nil resB_tmp resB_cell
attribute [local go_sem] kill_v kill_lp_ne kill_lp_same pro_v pro_lp_same pro_lp_ne av_v av_lp optB_some optX_some valX_eq ldX_lp ldX_v faX_lp faX_v ncX_lp ncX_ptr ncX_fn boxK_one boxK_agg stL_some stK_lp_one stK_lp_agg stK_v_one stK_v_agg proM_v proM_lp callG_mk callVG_mk callvK_fn fnG_mk ptrsA_nil ptrsA_cons callH_some whenA_true whenA_false guardH_tt guardH_ff guardH_tf guardH_ft guardH_undef agV_one agV_agg lenO_sl lenStrO_str notO_bool pickO_bool convO_int eqbO_bool eqnilO_sl extractO_tup capO_sl minO_int loadL_one loadL_all storeL_eq fillA_nil fillA_one fillA_agg nat_ge neg_ge nat_lt neg_lt buildO bin_add bin_sub bin_mul bin_eql bin_neq bin_lss bin_leq bin_gtr bin_geq str_eql str_neq str_lss str_leq str_gtr str_geq retK_some endK_mk gcK_same gcK_int gcK_bool tupO_one tupO_agg rdy_self ib ii Option.map_none Option.map_some Option.some.injEq exists_eq_left' exists_eq_left ne_eq not_false_eq_true if_true if_false List.map_cons List.map_nil List.getElem?_cons_zero List.getElem?_cons_succ List.length_cons List.length_nil List.take_succ_cons List.take_zero List.take_nil List.drop_succ_cons List.drop_zero List.drop_nil List.cons_append List.nil_append List.append_nil List.set_cons_zero List.set_cons_succ Nat.zero_add forall_const true_and and_true and_self Bool.false_eq_true false_implies true_implies implies_true Bool.not_true Bool.not_false Bool.not_eq_true' Bool.not_eq_false' beq_self_eq_true Bool.bne_true Bool.bne_false
attribute [local go_sem] lenI lenS lenP lenQ lenB lenL lenT encI_0 encS_0 encP_0 encP_1 encQ_0 encQ_1 encQ_2 encQ_3 encB_0 encB_1 encL_0 encL_1 encT_0 encT_1
attribute [local go_sem low] whenA_bool guardH_bool
theorem shiftH_sm {f g : Holes} (hn : miniH f) (hm : miniH g) {i : Nat} : smH ⟨fillPl f.pl g.pl, putAll f.nl (g.nl.take i)⟩ := by
  have a1 := hn.pl
  have a2 := hm.pl
  have a3 := hn.nl
  have a4 := hm.nl
  exact ⟨by simp [fillPl]; unfold big; omega, putAll_sm (by unfold big; omega) hn.sm.nl.2 hm.sm.nl.2⟩
/-! impl.ShiftHoles -/
def L49_0 : List AStep := [⟨.alloc 38 [(.sl none 0 (some 0)), (.sl none 0 (some 0))], (some 4), none, []⟩, ⟨.mov (.c (.bool false)), (some 5), none, []⟩]
theorem v49_0 : VS L49_0.eq_1 := rfl
def L49_1 : List AStep := ⟨.box 38 (.t 0), (some 2), none, []⟩ :: ⟨.box 38 (.t 1), (some 3), none, []⟩ :: L49_0
theorem v49_1 : VS L49_1.eq_1 := rfl
def L49_2 : List AStep := [⟨.bin .lss (.t 25) (.t 27), (some 28), (some (22, false)), []⟩, ⟨.pick (.t 22) (.c (.bool true)) (.t 28), (some 29), none, []⟩]
theorem v49_2 : VS L49_2.eq_1 := rfl
def L49_3 : List AStep := ⟨.load 2 true (.t 2), (some 26), (some (22, false)), []⟩ :: ⟨.call 99 [(.t 26)], (some 27), (some (22, false)), [(.load 1 false (.t 23), (some 24), (some (22, false)))]⟩ :: L49_2
theorem v49_3 : VS L49_3.eq_1 := rfl
def L49_4 : List AStep := ⟨.load 1 false (.t 23), (some 24), (some (22, false)), []⟩ :: ⟨.len (.t 24), (some 25), (some (22, false)), []⟩ :: L49_3
theorem v49_4 : VS L49_4.eq_1 := rfl
def L49_5 : List AStep := ⟨.mov (.t 21), (some 22), none, []⟩ :: ⟨.faddr 0 (.t 3), (some 23), (some (22, false)), []⟩ :: L49_4
theorem v49_5 : VS L49_5.eq_1 := rfl
def L49_6 : List AStep := ⟨.not (.t 19), (some 20), (some (17, false)), []⟩ :: ⟨.pick (.t 17) (.c (.bool true)) (.t 20), (some 21), none, []⟩ :: L49_5
theorem v49_6 : VS L49_6.eq_1 := rfl
def L49_7 : List AStep := ⟨.load 2 true (.t 3), (some 18), (some (17, false)), []⟩ :: ⟨.call 98 [(.t 18)], (some 19), (some (17, false)), []⟩ :: L49_6
theorem v49_7 : VS L49_7.eq_1 := rfl
def L49_8 : List AStep := ⟨.not (.t 15), (some 16), none, []⟩ :: ⟨.mov (.t 16), (some 17), none, []⟩ :: L49_7
theorem v49_8 : VS L49_8.eq_1 := rfl
def L49_9 : List AStep := ⟨.load 2 true (.t 2), (some 14), none, []⟩ :: ⟨.call 98 [(.t 14)], (some 15), none, []⟩ :: L49_8
theorem v49_9 : VS L49_9.eq_1 := rfl
def L49_10 : List AStep := [⟨.mov (.c (.bool false)), (some 5), none, []⟩]
theorem v49_10 : VS L49_10.eq_1 := rfl
def L49_11 : List AStep := ⟨.build [(.sl none 0 (some 0)), (.sl none 0 (some 0))] [], (some 30), none, []⟩ :: ⟨.store 2 (.t 4) (.t 30), none, none, []⟩ :: L49_10
theorem v49_11 : VS L49_11.eq_1 := rfl
def L49_12 : List AStep := [⟨.mov (.t 35), (some 7), none, []⟩]
theorem v49_12 : VS L49_12.eq_1 := rfl
def L49_13 : List AStep := ⟨.call 100 [(.t 32)], (some 33), none, [(.load 1 false (.t 34), (some 35), none)]⟩ :: ⟨.mov (.t 33), (some 6), none, []⟩ :: L49_12
theorem v49_13 : VS L49_13.eq_1 := rfl
def L49_14 : List AStep := ⟨.faddr 0 (.t 3), (some 34), none, []⟩ :: ⟨.load 1 false (.t 34), (some 35), none, []⟩ :: L49_13
theorem v49_14 : VS L49_14.eq_1 := rfl
def L49_15 : List AStep := ⟨.faddr 0 (.t 2), (some 31), none, []⟩ :: ⟨.load 1 false (.t 31), (some 32), none, []⟩ :: L49_14
theorem v49_15 : VS L49_15.eq_1 := rfl
def L49_16 : List AStep := [⟨.mov (.c (.int .i64 0)), (some 38), none, []⟩]
theorem v49_16 : VS L49_16.eq_1 := rfl
def L49_17 : List AStep := ⟨.mov (.t 6), (some 36), none, []⟩ :: ⟨.len (.t 36), (some 37), none, []⟩ :: L49_16
theorem v49_17 : VS L49_17.eq_1 := rfl
def L49_18 : List AStep := [⟨.bin .lss (.t 38) (.t 37), (some 39), none, []⟩]
theorem v49_18 : VS L49_18.eq_1 := rfl
def L49_19 : List AStep := [⟨.mov (.t 40), (some 8), none, []⟩, ⟨.store 2 (.t 9) (.t 42), none, none, []⟩]
theorem v49_19 : VS L49_19.eq_1 := rfl
def L49_20 : List AStep := ⟨.load 2 true (.t 41), (some 42), none, []⟩ :: ⟨.alloc 86 [(.bool false), (.int .i64 0)], (some 9), none, []⟩ :: L49_19
theorem v49_20 : VS L49_20.eq_1 := rfl
def L49_21 : List AStep := ⟨.mov (.t 38), (some 40), none, []⟩ :: ⟨.iaddr 2 (.t 36) (.t 38), (some 41), none, []⟩ :: L49_20
theorem v49_21 : VS L49_21.eq_1 := rfl
def L49_22 : List AStep := [⟨.faddr 0 (.t 9), (some 43), none, []⟩, ⟨.load 1 false (.t 43), (some 44), none, []⟩]
theorem v49_22 : VS L49_22.eq_1 := rfl
def L49_23 : List AStep := [⟨.store 2 (.t 50) (.t 49), none, none, []⟩]
theorem v49_23 : VS L49_23.eq_1 := rfl
def L49_24 : List AStep := ⟨.load 2 true (.t 48), (some 49), none, []⟩ :: ⟨.iaddr 2 (.t 45) (.t 46), (some 50), none, []⟩ :: L49_23
theorem v49_24 : VS L49_24.eq_1 := rfl
def L49_25 : List AStep := ⟨.mov (.t 7), (some 47), none, []⟩ :: ⟨.iaddr 2 (.t 47) (.c (.int .i64 0)), (some 48), none, []⟩ :: L49_24
theorem v49_25 : VS L49_25.eq_1 := rfl
def L49_26 : List AStep := ⟨.mov (.t 6), (some 45), none, []⟩ :: ⟨.mov (.t 8), (some 46), none, []⟩ :: L49_25
theorem v49_26 : VS L49_26.eq_1 := rfl
def L49_27 : List AStep := [⟨.mov (.t 52), (some 7), none, []⟩]
theorem v49_27 : VS L49_27.eq_1 := rfl
def L49_28 : List AStep := ⟨.mov (.t 7), (some 51), none, []⟩ :: ⟨.slice 86 2 (.t 51) (some (.c (.int .i64 1))) none none, (some 52), none, []⟩ :: L49_27
theorem v49_28 : VS L49_28.eq_1 := rfl
def L49_29 : List AStep := [⟨.bin .add (.t 38) (.c (.int .i64 1)), (some 53), none, []⟩, ⟨.mov (.t 53), (some 38), none, []⟩]
theorem v49_29 : VS L49_29.eq_1 := rfl
def L49_30 : List AStep := [⟨.store 2 (.t 10) (.t 56), none, none, []⟩]
theorem v49_30 : VS L49_30.eq_1 := rfl
def L49_31 : List AStep := ⟨.build [(.sl none 0 (some 0)), (.sl none 0 (some 0))] [(0, 1, (.c (.sl none 0 (some 0)))), (1, 1, (.t 55))], (some 56), none, []⟩ :: ⟨.alloc 33 [(.sl none 0 (some 0)), (.sl none 0 (some 0))], (some 10), none, []⟩ :: L49_30
theorem v49_31 : VS L49_31.eq_1 := rfl
def L49_32 : List AStep := ⟨.faddr 1 (.t 2), (some 54), none, []⟩ :: ⟨.load 1 false (.t 54), (some 55), none, []⟩ :: L49_31
theorem v49_32 : VS L49_32.eq_1 := rfl
def L49_33 : List AStep := [⟨.len (.t 58), (some 59), none, []⟩, ⟨.mov (.c (.int .i64 0)), (some 60), none, []⟩]
theorem v49_33 : VS L49_33.eq_1 := rfl
def L49_34 : List AStep := ⟨.faddr 1 (.t 3), (some 57), none, []⟩ :: ⟨.load 1 false (.t 57), (some 58), none, []⟩ :: L49_33
theorem v49_34 : VS L49_34.eq_1 := rfl
def L49_35 : List AStep := [⟨.bin .lss (.t 60) (.t 59), (some 61), none, []⟩]
theorem v49_35 : VS L49_35.eq_1 := rfl
def L49_36 : List AStep := [⟨.alloc 106 [(.str (strOfNums [])), (.int .i64 0)], (some 12), none, []⟩, ⟨.store 2 (.t 12) (.t 63), none, none, []⟩]
theorem v49_36 : VS L49_36.eq_1 := rfl
def L49_37 : List AStep := ⟨.iaddr 2 (.t 58) (.t 60), (some 62), none, []⟩ :: ⟨.load 2 true (.t 62), (some 63), none, []⟩ :: L49_36
theorem v49_37 : VS L49_37.eq_1 := rfl
def L49_38 : List AStep := [⟨.store 2 (.t 10) (.t 69), none, none, []⟩]
theorem v49_38 : VS L49_38.eq_1 := rfl
def L49_39 : List AStep := ⟨.load 1 false (.t 67), (some 68), none, []⟩ :: ⟨.call 101 [(.t 64), (.t 66), (.t 68)], (some 69), none, []⟩ :: L49_38
theorem v49_39 : VS L49_39.eq_1 := rfl
def L49_40 : List AStep := ⟨.load 1 false (.t 65), (some 66), none, []⟩ :: ⟨.faddr 1 (.t 12), (some 67), none, []⟩ :: L49_39
theorem v49_40 : VS L49_40.eq_1 := rfl
def L49_41 : List AStep := ⟨.load 2 true (.t 10), (some 64), none, []⟩ :: ⟨.faddr 0 (.t 12), (some 65), none, []⟩ :: L49_40
theorem v49_41 : VS L49_41.eq_1 := rfl
def L49_42 : List AStep := [⟨.bin .add (.t 60) (.c (.int .i64 1)), (some 70), none, []⟩, ⟨.mov (.t 70), (some 60), none, []⟩]
theorem v49_42 : VS L49_42.eq_1 := rfl
def L49_43 : List AStep := [⟨.build [(.sl none 0 (some 0)), (.sl none 0 (some 0))] [(0, 1, (.t 74)), (1, 1, (.t 77))], (some 78), none, []⟩, ⟨.store 2 (.t 13) (.t 78), none, none, []⟩]
theorem v49_43 : VS L49_43.eq_1 := rfl
def L49_44 : List AStep := ⟨.call 100 [(.t 73)], (some 74), none, [(.load 1 false (.t 75), (some 76), none)]⟩ :: ⟨.call 102 [(.t 76)], (some 77), none, []⟩ :: L49_43
theorem v49_44 : VS L49_44.eq_1 := rfl
def L49_45 : List AStep := ⟨.alloc 38 [(.sl none 0 (some 0)), (.sl none 0 (some 0))], (some 13), none, []⟩ :: ⟨.append 86 2 16 (.t 71) (.t 72), (some 73), none, [(.load 1 false (.t 75), (some 76), none)]⟩ :: L49_44
theorem v49_45 : VS L49_45.eq_1 := rfl
def L49_46 : List AStep := ⟨.faddr 1 (.t 10), (some 75), none, []⟩ :: ⟨.load 1 false (.t 75), (some 76), none, []⟩ :: L49_45
theorem v49_46 : VS L49_46.eq_1 := rfl
def L49_47 : List AStep := ⟨.mov (.t 6), (some 71), none, []⟩ :: ⟨.mov (.t 7), (some 72), none, []⟩ :: L49_46
theorem v49_47 : VS L49_47.eq_1 := rfl
def L49_48 : List AStep := [⟨.not (.t 80), (some 81), none, []⟩]
theorem v49_48 : VS L49_48.eq_1 := rfl
def L49_49 : List AStep := ⟨.load 2 true (.t 13), (some 79), none, []⟩ :: ⟨.call 98 [(.t 79)], (some 80), none, []⟩ :: L49_48
theorem v49_49 : VS L49_49.eq_1 := rfl
def L49_50 : List AStep := [⟨.mov (.c (.bool false)), (some 5), none, []⟩]
theorem v49_50 : VS L49_50.eq_1 := rfl
def L49_51 : List AStep := ⟨.build [(.sl none 0 (some 0)), (.sl none 0 (some 0))] [], (some 82), none, []⟩ :: ⟨.store 2 (.t 4) (.t 82), none, none, []⟩ :: L49_50
theorem v49_51 : VS L49_51.eq_1 := rfl
def L49_52 : List AStep := [⟨.mov (.c (.bool true)), (some 5), none, []⟩]
theorem v49_52 : VS L49_52.eq_1 := rfl
def L49_53 : List AStep := ⟨.load 2 true (.t 13), (some 83), none, []⟩ :: ⟨.store 2 (.t 4) (.t 83), none, none, []⟩ :: L49_52
theorem v49_53 : VS L49_53.eq_1 := rfl
def C49_0 : ACode := .seq (.reg L49_11) .ret
theorem u49_0 : VC C49_0.eq_1 := rfl
def C49_1 : ACode := .cond (.t 29) C49_0 .skip
theorem u49_1 : VC C49_1.eq_1 := rfl
def C49_2 : ACode := .seq (.reg L49_9) C49_1
theorem u49_2 : VC C49_2.eq_1 := rfl
def C49_3 : ACode := .cond (.t 39) .skip (.exit 0)
theorem u49_3 : VC C49_3.eq_1 := rfl
def C49_4 : ACode := .seq (.reg L49_26) (.reg L49_28)
theorem u49_4 : VC C49_4.eq_1 := rfl
def C49_5 : ACode := .cond (.t 44) C49_4 .skip
theorem u49_5 : VC C49_5.eq_1 := rfl
def C49_6 : ACode := .seq (.reg L49_22) C49_5
theorem u49_6 : VC C49_6.eq_1 := rfl
def C49_7 : ACode := .seq (.reg L49_21) C49_6
theorem u49_7 : VC C49_7.eq_1 := rfl
def C49_8 : ACode := .block 1 C49_7
theorem u49_8 : VC C49_8.eq_1 := rfl
def C49_9 : ACode := .seq C49_8 (.reg L49_29)
theorem u49_9 : VC C49_9.eq_1 := rfl
def C49_10 : ACode := .seq C49_3 C49_9
theorem u49_10 : VC C49_10.eq_1 := rfl
def C49_11 : ACode := .seq (.reg L49_18) C49_10
theorem u49_11 : VC C49_11.eq_1 := rfl
def C49_12 : ACode := .block 0 (.loop C49_11)
theorem u49_12 : VC C49_12.eq_1 := rfl
def C49_13 : ACode := .seq (.reg L49_17) C49_12
theorem u49_13 : VC C49_13.eq_1 := rfl
def C49_14 : ACode := .cond (.t 61) .skip (.exit 2)
theorem u49_14 : VC C49_14.eq_1 := rfl
def C49_15 : ACode := .seq (.reg L49_37) (.reg L49_41)
theorem u49_15 : VC C49_15.eq_1 := rfl
def C49_16 : ACode := .block 3 C49_15
theorem u49_16 : VC C49_16.eq_1 := rfl
def C49_17 : ACode := .seq C49_16 (.reg L49_42)
theorem u49_17 : VC C49_17.eq_1 := rfl
def C49_18 : ACode := .seq C49_14 C49_17
theorem u49_18 : VC C49_18.eq_1 := rfl
def C49_19 : ACode := .seq (.reg L49_35) C49_18
theorem u49_19 : VC C49_19.eq_1 := rfl
def C49_20 : ACode := .block 2 (.loop C49_19)
theorem u49_20 : VC C49_20.eq_1 := rfl
def C49_21 : ACode := .seq (.reg L49_34) C49_20
theorem u49_21 : VC C49_21.eq_1 := rfl
def C49_22 : ACode := .seq (.reg L49_51) .ret
theorem u49_22 : VC C49_22.eq_1 := rfl
def C49_23 : ACode := .cond (.t 81) C49_22 .skip
theorem u49_23 : VC C49_23.eq_1 := rfl
def C49_24 : ACode := .seq (.reg L49_49) C49_23
theorem u49_24 : VC C49_24.eq_1 := rfl
def C49_25 : ACode := .seq (.reg L49_53) .ret
theorem u49_25 : VC C49_25.eq_1 := rfl
def C49_26 : ACode := .seq C49_24 C49_25
theorem u49_26 : VC C49_26.eq_1 := rfl
def C49_27 : ACode := .seq (.reg L49_47) C49_26
theorem u49_27 : VC C49_27.eq_1 := rfl
def C49_28 : ACode := .seq C49_21 C49_27
theorem u49_28 : VC C49_28.eq_1 := rfl
def C49_29 : ACode := .seq (.reg L49_32) C49_28
theorem u49_29 : VC C49_29.eq_1 := rfl
def C49_30 : ACode := .seq C49_13 C49_29
theorem u49_30 : VC C49_30.eq_1 := rfl
def C49_31 : ACode := .seq (.reg L49_15) C49_30
theorem u49_31 : VC C49_31.eq_1 := rfl
def C49_32 : ACode := .seq C49_2 C49_31
theorem u49_32 : VC C49_32.eq_1 := rfl
def C49_33 : ACode := .seq (.reg L49_1) C49_32
theorem u49_33 : VC C49_33.eq_1 := rfl
def F49 : AFunc := ⟨84, [.cell 4 2 true, .tmp 5], C49_33⟩
theorem cF49 : compB Try.prog 49 = some F49 := by kernel_rfl
attribute [local go_sem ↓] u49_0 u49_1 u49_2 u49_3 u49_4 u49_5 u49_6 u49_7 u49_8 u49_9 u49_10 u49_11 u49_12 u49_13 u49_14 u49_15 u49_16 u49_17 u49_18 u49_19 u49_20 u49_21 u49_22 u49_23 u49_24 u49_25 u49_26 u49_27 u49_28 u49_29 u49_30 u49_31 u49_32 u49_33 v49_0 v49_1 v49_2 v49_3 v49_4 v49_5 v49_6 v49_7 v49_8 v49_9 v49_10 v49_11 v49_12 v49_13 v49_14 v49_15 v49_16 v49_17 v49_18 v49_19 v49_20 v49_21 v49_22 v49_23 v49_24 v49_25 v49_26 v49_27 v49_28 v49_29 v49_30 v49_31 v49_32 v49_33 v49_34 v49_35 v49_36 v49_37 v49_38 v49_39 v49_40 v49_41 v49_42 v49_43 v49_44 v49_45 v49_46 v49_47 v49_48 v49_49 v49_50 v49_51 v49_52 v49_53
theorem k_iShiftHoles (f g : Holes) (p n q m : CV) (h : H) (hf : SlH h p n f) (hg : SlH h q m g) (hn : miniH f) (hm : miniH g) :
    callK (bm Try.prog 49 [.agg [p, n], .agg [q, m]] h) fun r h' => Grow h h' ∧ ∃ p' n', r = .tup [.agg [p', n'], .one (.bool (ShiftHoles f g).isSome)] ∧ NwH h h' p' n' (orH (ShiftHoles f g)) := by
  refine bm_of cF49 ?_
  have v1 := c_ValidHoles f p n h hf hn.sm
  have v2 := c_ValidHoles g q m h hg hm.sm
  have v3 := c_holes f p n h hf hn.sm
  unfold ShiftHoles
  cases b1 : okHoles f with
  | false =>
    simp +contextual (maxSteps := 2000000) only [go_sem, Nat.reduceEqDiff, reduceCtorEq, Nat.reduceAdd, Nat.reduceLeDiff, F49, v1, b1, false_and, if_false]
    exact ⟨Grow.refl h, _, _, rfl, .nil⟩
  | true =>
  cases b2 : okHoles g with
  | false =>
    simp +contextual (maxSteps := 2000000) only [go_sem, Nat.reduceEqDiff, reduceCtorEq, Nat.reduceAdd, Nat.reduceLeDiff, F49, v1, b1, v2, b2, false_and, and_false, if_false]
    exact ⟨Grow.refl h, _, _, rfl, .nil⟩
  | true =>
  by_cases b3 : countH f.pl ≤ g.pl.length
  case neg =>
    have b4 : decide ((g.pl.length : Int) < (countH f.pl : Nat)) = true := decide_eq_true (by omega)
    simp +contextual (maxSteps := 2000000) only [go_sem, Nat.reduceEqDiff, reduceCtorEq, Nat.reduceAdd, Nat.reduceLeDiff, F49, v1, b1, v2, b2, v3, hg.pl.len, b4, b3, and_false, if_false]
    exact ⟨Grow.refl h, _, _, rfl, .nil⟩
  have b4 : decide ((g.pl.length : Int) < (countH f.pl : Nat)) = false := decide_eq_false (by omega)
  simp +contextual (maxSteps := 2000000) only [go_sem, Nat.reduceEqDiff, reduceCtorEq, Nat.reduceAdd, Nat.reduceLeDiff, F49, v1, b1, v2, b2, v3, hg.pl.len, b4, b3, and_self, if_true]
  have a1 := hn.pl
  have a2 := hm.pl
  have a3 := hn.nl
  have a4 := hm.nl
  refine wp_call (c_cloneL _ _ h hf.pl (by unfold big; omega)) ?_
  rintro r h1 ⟨g1, n1⟩
  obtain ⟨c, rfl⟩ := n1.one
  simp +contextual (maxSteps := 2000000) only [go_sem, Nat.reduceEqDiff, reduceCtorEq, Nat.reduceAdd, Nat.reduceLeDiff, n1.length]
  refine wpC_loop (fun i T L h' => Grow h h' ∧ T 2 = .lp 2 0 ∧ (L 2).2 = [p, n] ∧ T 3 = .lp 3 0 ∧ (L 3).2 = [q, m] ∧ T 4 = .lp 4 0 ∧ (L 4).2 = [.sl none 0 (some 0), .sl none 0 (some 0)] ∧ T 6 = .v (.one c) ∧ (∃ u, T 7 = .v u ∧ SlL h' u (g.pl.drop (cnt (fun p : Place => p.hole) f.pl i)) ∧ ∀ j, baseOf u = some j → j < h.n) ∧ T 36 = .v (.one c) ∧ T 37 = .v (.one (.int .i64 f.pl.length)) ∧ T 38 = .v (.one (.int .i64 i)) ∧ NwL h h' (.one c) (fillT f.pl g.pl i)) f.pl.length ?_ ?_ (Nat.zero_le _) ?_
  · rintro i T L h' hi ⟨gg, t2, l2, t3, l3, t4, l4, t6, ⟨u, t7, xu, bu⟩, t36, t37, t38, nl⟩
    have e := cnt_next (p := fun p : Place => p.hole) hi
    have ec : cnt (fun p : Place => p.hole) f.pl (i + 1) ≤ countH f.pl := by
      unfold cnt countH
      exact (List.take_sublist _ _).countP_le
    have hlen : (fillT f.pl g.pl i).length = f.pl.length := fillT_len (by omega)
    have hio : i < (fillT f.pl g.pl i).length := by omega
    have hw := (nl.sl lenL).whole hio
    rw [fillT_at hi hio] at hw
    have ni := nl.iaddr hio (kd := .i64)
    have sep : ∀ j, baseOf u = some j → baseOf (.one c) ≠ some j := fun j hj hv => by
      have := bu j hj
      have := (nl.lt hv).2
      omega
    cases b : f.pl[i].hole with
    | true =>
      rw [if_pos b] at e
      have hk : cnt (fun p : Place => p.hole) f.pl i < g.pl.length := by omega
      have hd : 0 < (g.pl.drop (cnt (fun p : Place => p.hole) f.pl i)).length := by simp; omega
      have ui : iaddrO 2 u (.one (.int .i64 0)) = some (.one (.ptr (some (elem 2 u 0)))) := xu.iaddr hd
      have uw : loadO 2 true h' (.one (.ptr (some (elem 2 u 0)))) = some (.agg (encL g.pl[cnt (fun p : Place => p.hole) f.pl i])) := by
        rw [xu.whole hd]
        simp
      simp +contextual (maxSteps := 2000000) only [go_sem, Nat.reduceEqDiff, reduceCtorEq, Nat.reduceAdd, Nat.reduceLeDiff, t2, l2, t3, l3, t4, l4, t6, t7, t36, t37, t38, ni, hw, encL, b, lt_true hi, ui, uw]
      refine wp_setE (x := g.pl[cnt (fun p : Place => p.hole) f.pl i]) lenL nl hio rfl rfl gg ?_
      intro h5 g5 n7 s5
      rw [← fillE_hole hi b hk, fillT_set hi] at n7
      have xu5 := xu.of_stay s5 sep
      obtain ⟨u2, e2, xu2, bu2⟩ := xu5.dropB (i := 1) (by omega) (kd := .i64)
      have e3 : cutO 86 2 h5 u (some (.one (.int .i64 1))) none none = some u2 := e2
      rw [List.drop_drop] at xu2
      simp +contextual (maxSteps := 2000000) only [go_sem, Nat.reduceEqDiff, reduceCtorEq, Nat.reduceAdd, Nat.reduceLeDiff, t2, l2, t3, l3, t4, l4, t6, t7, t36, t37, t38, e3]
      exact ⟨g5, ⟨u2, rfl, by rw [e]; exact xu2, fun j hj => bu j (bu2 j hj)⟩, by rw [wrap_next hi (by omega)], n7⟩
    | false =>
      rw [if_neg (by simp [b])] at e
      have e : cnt (fun p : Place => p.hole) f.pl (i + 1) = cnt (fun p : Place => p.hole) f.pl i := e
      simp +contextual (maxSteps := 2000000) only [go_sem, Nat.reduceEqDiff, reduceCtorEq, Nat.reduceAdd, Nat.reduceLeDiff, t2, l2, t3, l3, t4, l4, t6, t7, t36, t37, t38, ni, hw, encL, b, lt_true hi]
      exact ⟨gg, ⟨u, rfl, by rw [e]; exact xu, bu⟩, by rw [wrap_next hi (by omega)], by rw [fillT_plain hi b]; exact nl⟩
  · rintro T L h' ⟨gg, t2, l2, t3, l3, t4, l4, t6, ⟨u, t7, xu, bu⟩, t36, t37, t38, nl⟩
    rw [cnt_all] at xu
    rw [fillT_all] at nl
    have k := hg.grow gg
    have kf := hf.grow gg
    simp +contextual (maxSteps := 2000000) only [go_sem, Nat.reduceEqDiff, reduceCtorEq, Nat.reduceAdd, Nat.reduceLeDiff, t2, l2, t3, l3, t4, l4, t6, t7, t36, t37, t38, lt_false, k.nl.len]
    refine wpC_loop (fun i T L h' => Grow h h' ∧ T 4 = .lp 4 0 ∧ (L 4).2 = [.sl none 0 (some 0), .sl none 0 (some 0)] ∧ T 6 = .v (.one c) ∧ T 7 = .v u ∧ SlL h' u (g.pl.drop (countH f.pl)) ∧ T 10 = .lp 10 0 ∧ (∃ a b, (L 10).2 = [a, b] ∧ SlI h' (.one a) [] ∧ SlP h' (.one b) (putAll f.nl (g.nl.take i)) ∧ Sep (.one b) (.one c)) ∧ T 58 = .v (.one m) ∧ T 59 = .v (.one (.int .i64 g.nl.length)) ∧ T 60 = .v (.one (.int .i64 i)) ∧ NwL h h' (.one c) ((List.range f.pl.length).map (fillE f.pl g.pl))) g.nl.length ?_ ?_ (Nat.zero_le _) ?_
    · rintro i T L h' hi ⟨gg, t4, l4, t6, t7, xu, t10, ⟨a, b, l10, s1, s2, sbc⟩, t58, t59, t60, nl⟩
      have k5 := hg.grow gg
      have hsm : smF ⟨[], putAll f.nl (g.nl.take i)⟩ := ⟨by simp, (shiftH_sm hn hm).nl⟩
      simp +contextual (maxSteps := 2000000) only [go_sem, Nat.reduceEqDiff, reduceCtorEq, Nat.reduceAdd, Nat.reduceLeDiff, t4, l4, t6, t7, t10, l10, t58, t59, t60, k5.nl.iaddr hi, k5.nl.whole hi, encP, lt_true hi]
      refine wp_call (c_put ⟨[], putAll f.nl (g.nl.take i)⟩ a b g.nl[i].name g.nl[i].value h' ⟨s1, s2⟩ hsm) ?_
      rintro r h5 ⟨g5, a', b', rfl, n5⟩
      simp +contextual (maxSteps := 2000000) only [go_sem, Nat.reduceEqDiff, reduceCtorEq, Nat.reduceAdd, Nat.reduceLeDiff, t4, l4, t6, t7, t10, l10, t58, t59, t60]
      refine ⟨gg.trans g5, xu.grow g5, ⟨a', b', rfl, n5.sl.pl, ?_, fun j hj hk => ?_⟩, by rw [wrap_next hi (by omega)], nl.grow g5⟩
      · have := n5.sl.nl
        rw [putAll_next hi]
        exact this
      · have := (n5.nl.lt hj).2
        have := (nl.lt hk).1
        omega
    · rintro T L h' ⟨gg, t4, l4, t6, t7, xu, t10, ⟨a, b, l10, s1, s2, sbc⟩, t58, t59, t60, nl⟩
      have hz := shiftH_sm hn hm (i := g.nl.length)
      rw [List.take_length] at s2 hz
      simp +contextual (maxSteps := 2000000) only [go_sem, Nat.reduceEqDiff, reduceCtorEq, Nat.reduceAdd, Nat.reduceLeDiff, t4, l4, t6, t7, t10, l10, t58, t59, t60, lt_false]
      refine wp_append lenL nl xu gg (by simp; omega) ?_
      intro h5 s5 g5 n5 st5 hb5
      obtain ⟨c5, rfl⟩ := n5.one
      have n5 : NwL h h5 (.one c5) (fillPl f.pl g.pl) := n5
      have s2 := s2.of_stay st5 sbc
      have hz1 := hz.pl
      have hz2 := hz.nl.1
      simp +contextual (maxSteps := 2000000) only [go_sem, Nat.reduceEqDiff, reduceCtorEq, Nat.reduceAdd, Nat.reduceLeDiff, t4, l4, t6, t7, t10, l10]
      refine wp_call (c_cloneL _ _ h5 (n5.sl lenL) hz1) ?_
      rintro r h6 ⟨g6, n6⟩
      obtain ⟨c6, rfl⟩ := n6.one
      simp +contextual (maxSteps := 2000000) only [go_sem, Nat.reduceEqDiff, reduceCtorEq, Nat.reduceAdd, Nat.reduceLeDiff, t4, l4, t6, t7, t10, l10]
      refine wp_call (c_cloneP _ _ h6 (s2.grow g6) hz2) ?_
      rintro r h7 ⟨g7, n7⟩
      obtain ⟨c7, rfl⟩ := n7.one
      have x4 : NwH h h7 c6 c7 (shiftH f g) := ⟨(n6.grow g7).from g5.n, n7.from (g5.trans g6).n, n6.apart n7⟩
      have v4 := c_ValidHoles (shiftH f g) c6 c7 h7 x4.sl hz
      have gl := (g5.trans g6).trans g7
      cases b5 : okHoles (shiftH f g) with
      | false =>
        simp +contextual (maxSteps := 2000000) only [go_sem, Nat.reduceEqDiff, reduceCtorEq, Nat.reduceAdd, Nat.reduceLeDiff, t4, l4, t6, t7, t10, l10, v4, b5, if_false]
        exact gcK_of ⟨gl, _, _, rfl, .nil⟩ (fun hs _ => ⟨Grow.refl h, _, _, rfl, .nil⟩)
      | true =>
        simp +contextual (maxSteps := 2000000) only [go_sem, Nat.reduceEqDiff, reduceCtorEq, Nat.reduceAdd, Nat.reduceLeDiff, t4, l4, t6, t7, t10, l10, v4, b5, if_true]
        exact gcK_of ⟨gl, _, _, rfl, x4⟩ (fun hs _ => ⟨Grow.refl h, _, _, rfl, x4.scalar (by simpa [AV.scalar, AV.scalars, CV.scalar] using hs) h⟩)
    · simp +contextual (maxSteps := 2000000) only [go_sem, Nat.reduceEqDiff, reduceCtorEq, Nat.reduceAdd, Nat.reduceLeDiff, t4, l4, t6, t7]
      exact ⟨gg, xu, ⟨_, n, rfl, Sl.nil lenI, kf.nl, fun j hj hk => by have := hf.nl.lt_of hj; have := (nl.lt hk).2; omega⟩, rfl, nl⟩
  · simp +contextual (maxSteps := 2000000) only [go_sem, Nat.reduceEqDiff, reduceCtorEq, Nat.reduceAdd, Nat.reduceLeDiff]
    exact ⟨g1, ⟨.one q, rfl, by rw [cnt_zero]; exact hg.pl.grow g1, fun j hj => hg.pl.lt_of hj⟩, rfl, by rw [fillT_zero]; exact n1⟩
end Go.Proofs.Ytdalgphpacikkac.Am
