/- The law FnFlattenCall. -/
import Derived.Test.YtekkimfdcbgcoaaDX
import Derived.Test.YtekkimfdcbgcoaaFP
import Derived.Test.YtekkimfdcbgcoaaFC
import Derived.Test.YtekkimfdcbgcoaaE1
import Derived.Test.YtekkimfdcbgcoaaL1
namespace Go.Proofs.Ytekkimfdcbgcoaa.Am
open Go
attribute [local go_sem] loadL_agg
set_option maxRecDepth 100000
set_option maxHeartbeats 4000000
set_option linter.unusedSimpArgs false
set_option linter.unusedVariables false
attribute [local go_sem ↓] bv_t bv_c ev_t ev_c put_same put_ne put_none kill_at pro_at lb_same lb_ne start_zero start_succ wpC_seq wpC_reg wpC_cond wpC_block wpC_skip wpC_exit wpC_ret thenQ_normal thenQ_exit thenQ_ret inBlk_normal inBlk_exit inBlk_ret wpS_nil wpS_step wpS_again wpS_guard wpO_mov wpO_load wpO_faddr wpO_nilCheck wpO_pick wpO_build wpO_bin wpO_eqb wpO_eqst wpO_eqnil wpO_not wpO_conv wpO_bytesStr wpO_iaddr wpO_idxStr wpO_field wpO_extract wpO_len wpO_lenStr wpO_cap wpO_min wpO_slice wpO_sliceStr wpO_alloc wpO_box wpO_store wpO_call wpO_callv wpO_mkfn wpO_buildSlice wpO_mkslice wpO_append wpO_appz proA_nil proA_cons tmpX_nil tmpX_tmp tmpX_cell doneB_normal doneB_ret agK_cons agK_nil agK_guard agG_tt agG_ff agG_tf agG_ft agG_undef pureB_load results_one results_two results_nil resBs_cons resBs_nil resB_tmp resB_cell
attribute [local go_sem] kill_v kill_lp_ne kill_lp_same pro_v pro_lp_same pro_lp_ne av_v av_lp optB_some optX_some valX_eq ldX_lp ldX_v faX_lp faX_v ncX_lp ncX_ptr ncX_fn boxK_one boxK_agg stL_some stK_lp_one stK_lp_agg stK_v_one stK_v_agg proM_v proM_lp callG_mk callVG_mk callvK_fn fnG_mk ptrsA_nil ptrsA_cons callH_some whenA_true whenA_false guardH_tt guardH_ff guardH_tf guardH_ft guardH_undef agV_one agV_agg lenO_sl lenStrO_str notO_bool pickO_bool convO_int eqbO_bool eqnilO_sl extractO_tup capO_sl minO_int loadL_one loadL_all storeL_eq fillA_nil fillA_one fillA_agg nat_ge neg_ge nat_lt neg_lt buildO bin_add bin_sub bin_mul bin_eql bin_neq bin_lss bin_leq bin_gtr bin_geq str_eql str_neq str_lss str_leq str_gtr str_geq retK_some endK_mk gcK_same gcK_int gcK_bool tupO_one tupO_agg rdy_self ib ii Option.map_none Option.map_some Option.some.injEq exists_eq_left' exists_eq_left ne_eq not_false_eq_true if_true if_false List.map_cons List.map_nil List.getElem?_cons_zero List.getElem?_cons_succ List.length_cons List.length_nil List.take_succ_cons List.take_zero List.take_nil List.drop_succ_cons List.drop_zero List.drop_nil List.cons_append List.nil_append List.append_nil List.set_cons_zero List.set_cons_succ Nat.zero_add forall_const true_and and_true and_self Bool.false_eq_true false_implies true_implies implies_true Bool.not_true Bool.not_false Bool.not_eq_true' Bool.not_eq_false' beq_self_eq_true Bool.bne_true Bool.bne_false
attribute [local go_sem] lenI lenS lenP lenQ lenB lenL lenT encI_0 encS_0 encP_0 encP_1 encQ_0 encQ_1 encQ_2 encQ_3 encB_0 encB_1 encL_0 encL_1 encT_0 encT_1
attribute [local go_sem low] whenA_bool guardH_bool
attribute [local go_sem] lenC encC_0 encC_1 encC_2 encC_3
theorem front_at : ∀ (l : List Arg), ∃ n, n ≤ l.length ∧ (∀ i (hi : i < l.length), i < n → l[i].kind < 2) ∧ ∀ hl : n < l.length, l[n].kind ≥ 2
  | [] => ⟨0, Nat.le_refl 0, fun i hi => absurd hi (Nat.not_lt_zero _), fun hl => absurd hl (Nat.not_lt_zero _)⟩
  | a :: l => by
    by_cases h : a.kind < 2
    · obtain ⟨n, h1, h2, h3⟩ := front_at l
      refine ⟨n + 1, by simp; omega, fun i hi hin => ?_, fun hl => ?_⟩
      · cases i with
        | zero => exact h
        | succ i => exact h2 i (by simpa using hi) (by omega)
      · exact h3 (by simpa using hl)
    · exact ⟨0, Nat.zero_le _, fun i _ hi => absurd hi (Nat.not_lt_zero _), fun _ => by show a.kind ≥ 2; omega⟩
theorem SlC.take {h : H} {v : CV} {l : List Arg} (x : SlC h v l) {n : Nat} (hn : n ≤ l.length) : ∃ w, cutO 64 4 h (.one v) none (some (.one (.int .i64 n))) none = some (.one w) ∧ SlC h w (l.take n) := by
  obtain ⟨rs, y⟩ := x.ex
  obtain ⟨w, e, s⟩ := y.out.takeO (i := n) (by rw [y.len]; exact hn) (kd := .i64)
  obtain ⟨w, rfl⟩ := s.isOne
  refine ⟨w, e, rs.take n, s, by simp [y.len], fun i hi => ?_⟩
  have hi2 : i < rs.length := by simp at hi; omega
  have hin : i < n := by simp at hi; omega
  have hl := y.len
  have z := y.el i hi2
  rw [getC_eq (show i < l.length by omega)] at z
  rw [getC_eq (by simp; omega), List.getElem_take, List.getElem_take]
  exact z
/-! laws.FnFlattenCall -/
def L6_0 : List AStep := [⟨.mov (.c (.bool false)), (some 2), none, []⟩]
theorem v6_0 : VS L6_0.eq_1 := rfl
def L6_1 : List AStep := [⟨.bin .gtr (.t 14) (.c (.int .i64 1048576)), (some 15), none, []⟩]
theorem v6_1 : VS L6_1.eq_1 := rfl
def L6_2 : List AStep := ⟨.mov (.t 0), (some 13), none, []⟩ :: ⟨.len (.t 13), (some 14), none, []⟩ :: L6_1
theorem v6_2 : VS L6_2.eq_1 := rfl
def L6_3 : List AStep := [⟨.mov (.c (.bool true)), (some 2), none, []⟩]
theorem v6_3 : VS L6_3.eq_1 := rfl
def L6_4 : List AStep := [⟨.alloc 58 [(.sl none 0 (some 0))], (some 3), none, []⟩, ⟨.store 1 (.t 3) (.t 17), none, none, []⟩]
theorem v6_4 : VS L6_4.eq_1 := rfl
def L6_5 : List AStep := ⟨.mov (.t 0), (some 16), none, []⟩ :: ⟨.call 28 [(.t 16)], (some 17), none, []⟩ :: L6_4
theorem v6_5 : VS L6_5.eq_1 := rfl
def L6_6 : List AStep := [⟨.store 2 (.t 4) (.t 21), none, none, []⟩, ⟨.mov (.t 22), (some 5), none, []⟩]
theorem v6_6 : VS L6_6.eq_1 := rfl
def L6_7 : List AStep := ⟨.extract (.t 18) 1, (some 22), none, []⟩ :: ⟨.alloc 27 [(.sl none 0 (some 0)), (.sl none 0 (some 0))], (some 4), none, []⟩ :: L6_6
theorem v6_7 : VS L6_7.eq_1 := rfl
def L6_8 : List AStep := ⟨.mov (.t 20), (some 18), none, []⟩ :: ⟨.extract (.t 18) 0, (some 21), none, []⟩ :: L6_7
theorem v6_8 : VS L6_8.eq_1 := rfl
def L6_9 : List AStep := ⟨.load 1 true (.t 3), (some 19), none, []⟩ :: ⟨.call 29 [(.t 19)], (some 20), none, []⟩ :: L6_8
theorem v6_9 : VS L6_9.eq_1 := rfl
def L6_10 : List AStep := [⟨.store 2 (.t 6) (.t 26), none, none, []⟩, ⟨.mov (.t 27), (some 7), none, []⟩]
theorem v6_10 : VS L6_10.eq_1 := rfl
def L6_11 : List AStep := ⟨.extract (.t 23) 1, (some 27), none, []⟩ :: ⟨.alloc 27 [(.sl none 0 (some 0)), (.sl none 0 (some 0))], (some 6), none, []⟩ :: L6_10
theorem v6_11 : VS L6_11.eq_1 := rfl
def L6_12 : List AStep := ⟨.mov (.t 25), (some 23), none, []⟩ :: ⟨.extract (.t 23) 0, (some 26), none, []⟩ :: L6_11
theorem v6_12 : VS L6_12.eq_1 := rfl
def L6_13 : List AStep := ⟨.load 1 true (.t 3), (some 24), none, []⟩ :: ⟨.call 30 [(.t 24)], (some 25), none, []⟩ :: L6_12
theorem v6_13 : VS L6_13.eq_1 := rfl
def L6_14 : List AStep := [⟨.pick (.t 37) (.c (.bool true)) (.t 39), (some 40), none, []⟩]
theorem v6_14 : VS L6_14.eq_1 := rfl
def L6_15 : List AStep := ⟨.mov (.t 5), (some 38), (some (37, false)), []⟩ :: ⟨.not (.t 38), (some 39), (some (37, false)), []⟩ :: L6_14
theorem v6_15 : VS L6_15.eq_1 := rfl
def L6_16 : List AStep := ⟨.pick (.t 32) (.c (.bool true)) (.t 35), (some 36), none, []⟩ :: ⟨.mov (.t 36), (some 37), none, []⟩ :: L6_15
theorem v6_16 : VS L6_16.eq_1 := rfl
def L6_17 : List AStep := ⟨.mov (.t 7), (some 34), (some (32, false)), []⟩ :: ⟨.eqb true (.t 33) (.t 34), (some 35), (some (32, false)), []⟩ :: L6_16
theorem v6_17 : VS L6_17.eq_1 := rfl
def L6_18 : List AStep := ⟨.mov (.t 31), (some 32), none, []⟩ :: ⟨.mov (.t 5), (some 33), (some (32, false)), []⟩ :: L6_17
theorem v6_18 : VS L6_18.eq_1 := rfl
def L6_19 : List AStep := ⟨.call 14 [(.t 28), (.t 29)], (some 30), none, []⟩ :: ⟨.not (.t 30), (some 31), none, []⟩ :: L6_18
theorem v6_19 : VS L6_19.eq_1 := rfl
def L6_20 : List AStep := ⟨.load 2 true (.t 4), (some 28), none, []⟩ :: ⟨.load 2 true (.t 6), (some 29), none, []⟩ :: L6_19
theorem v6_20 : VS L6_20.eq_1 := rfl
def L6_21 : List AStep := [⟨.mov (.t 48), (some 2), none, []⟩]
theorem v6_21 : VS L6_21.eq_1 := rfl
def L6_22 : List AStep := ⟨.eqb false (.t 45) (.t 46), (some 47), (some (44, true)), []⟩ :: ⟨.pick (.t 44) (.t 47) (.c (.bool false)), (some 48), none, []⟩ :: L6_21
theorem v6_22 : VS L6_22.eq_1 := rfl
def L6_23 : List AStep := ⟨.mov (.t 5), (some 45), (some (44, true)), []⟩ :: ⟨.mov (.t 7), (some 46), (some (44, true)), []⟩ :: L6_22
theorem v6_23 : VS L6_23.eq_1 := rfl
def L6_24 : List AStep := ⟨.call 14 [(.t 41), (.t 42)], (some 43), none, []⟩ :: ⟨.mov (.t 43), (some 44), none, []⟩ :: L6_23
theorem v6_24 : VS L6_24.eq_1 := rfl
def L6_25 : List AStep := ⟨.load 2 true (.t 4), (some 41), none, []⟩ :: ⟨.load 2 true (.t 6), (some 42), none, []⟩ :: L6_24
theorem v6_25 : VS L6_25.eq_1 := rfl
def L6_26 : List AStep := [⟨.mov (.t 54), (some 9), none, []⟩]
theorem v6_26 : VS L6_26.eq_1 := rfl
def L6_27 : List AStep := ⟨.alloc 27 [(.sl none 0 (some 0)), (.sl none 0 (some 0))], (some 8), none, []⟩ :: ⟨.store 2 (.t 8) (.t 53), none, none, []⟩ :: L6_26
theorem v6_27 : VS L6_27.eq_1 := rfl
def L6_28 : List AStep := ⟨.extract (.t 49) 0, (some 53), none, []⟩ :: ⟨.extract (.t 49) 1, (some 54), none, []⟩ :: L6_27
theorem v6_28 : VS L6_28.eq_1 := rfl
def L6_29 : List AStep := ⟨.call 29 [(.t 51)], (some 52), none, []⟩ :: ⟨.mov (.t 52), (some 49), none, []⟩ :: L6_28
theorem v6_29 : VS L6_29.eq_1 := rfl
def L6_30 : List AStep := ⟨.load 2 true (.t 4), (some 50), none, []⟩ :: ⟨.call 31 [(.t 50)], (some 51), none, []⟩ :: L6_29
theorem v6_30 : VS L6_30.eq_1 := rfl
def L6_31 : List AStep := [⟨.mov (.c (.int .i64 0)), (some 10), none, []⟩]
theorem v6_31 : VS L6_31.eq_1 := rfl
def L6_32 : List AStep := [⟨.bin .lss (.t 66) (.c (.int .i64 2)), (some 67), (some (60, true)), []⟩, ⟨.pick (.t 60) (.t 67) (.c (.bool false)), (some 68), none, []⟩]
theorem v6_32 : VS L6_32.eq_1 := rfl
def L6_33 : List AStep := ⟨.faddr 0 (.t 64), (some 65), (some (60, true)), []⟩ :: ⟨.load 1 false (.t 65), (some 66), (some (60, true)), []⟩ :: L6_32
theorem v6_33 : VS L6_33.eq_1 := rfl
def L6_34 : List AStep := ⟨.mov (.t 10), (some 63), (some (60, true)), []⟩ :: ⟨.iaddr 4 (.t 62) (.t 63), (some 64), (some (60, true)), []⟩ :: L6_33
theorem v6_34 : VS L6_34.eq_1 := rfl
def L6_35 : List AStep := ⟨.faddr 0 (.t 3), (some 61), (some (60, true)), []⟩ :: ⟨.load 1 false (.t 61), (some 62), (some (60, true)), []⟩ :: L6_34
theorem v6_35 : VS L6_35.eq_1 := rfl
def L6_36 : List AStep := ⟨.bin .lss (.t 55) (.t 58), (some 59), none, []⟩ :: ⟨.mov (.t 59), (some 60), none, []⟩ :: L6_35
theorem v6_36 : VS L6_36.eq_1 := rfl
def L6_37 : List AStep := ⟨.load 1 false (.t 56), (some 57), none, []⟩ :: ⟨.len (.t 57), (some 58), none, []⟩ :: L6_36
theorem v6_37 : VS L6_37.eq_1 := rfl
def L6_38 : List AStep := ⟨.mov (.t 10), (some 55), none, []⟩ :: ⟨.faddr 0 (.t 3), (some 56), none, []⟩ :: L6_37
theorem v6_38 : VS L6_38.eq_1 := rfl
def L6_39 : List AStep := [⟨.mov (.t 70), (some 10), none, []⟩]
theorem v6_39 : VS L6_39.eq_1 := rfl
def L6_40 : List AStep := ⟨.mov (.t 10), (some 69), none, []⟩ :: ⟨.bin .add (.t 69) (.c (.int .i64 1)), (some 70), none, []⟩ :: L6_39
theorem v6_40 : VS L6_40.eq_1 := rfl
def L6_41 : List AStep := [⟨.store 2 (.t 11) (.t 78), none, none, []⟩, ⟨.mov (.t 79), (some 12), none, []⟩]
theorem v6_41 : VS L6_41.eq_1 := rfl
def L6_42 : List AStep := ⟨.extract (.t 71) 1, (some 79), none, []⟩ :: ⟨.alloc 27 [(.sl none 0 (some 0)), (.sl none 0 (some 0))], (some 11), none, []⟩ :: L6_41
theorem v6_42 : VS L6_42.eq_1 := rfl
def L6_43 : List AStep := ⟨.mov (.t 77), (some 71), none, []⟩ :: ⟨.extract (.t 71) 0, (some 78), none, []⟩ :: L6_42
theorem v6_43 : VS L6_43.eq_1 := rfl
def L6_44 : List AStep := ⟨.build [(.sl none 0 (some 0))] [(0, 1, (.t 75))], (some 76), none, []⟩ :: ⟨.call 29 [(.t 76)], (some 77), none, []⟩ :: L6_43
theorem v6_44 : VS L6_44.eq_1 := rfl
def L6_45 : List AStep := ⟨.mov (.t 10), (some 74), none, []⟩ :: ⟨.slice 64 4 (.t 73) none (some (.t 74)) none, (some 75), none, []⟩ :: L6_44
theorem v6_45 : VS L6_45.eq_1 := rfl
def L6_46 : List AStep := ⟨.faddr 0 (.t 3), (some 72), none, []⟩ :: ⟨.load 1 false (.t 72), (some 73), none, []⟩ :: L6_45
theorem v6_46 : VS L6_46.eq_1 := rfl
def L6_47 : List AStep := [⟨.mov (.t 101), (some 2), none, []⟩]
theorem v6_47 : VS L6_47.eq_1 := rfl
def L6_48 : List AStep := ⟨.bin .eql (.t 99) (.c (.int .i64 0)), (some 100), (some (96, true)), []⟩ :: ⟨.pick (.t 96) (.t 100) (.c (.bool false)), (some 101), none, []⟩ :: L6_47
theorem v6_48 : VS L6_48.eq_1 := rfl
def L6_49 : List AStep := ⟨.load 1 false (.t 97), (some 98), (some (96, true)), []⟩ :: ⟨.len (.t 98), (some 99), (some (96, true)), []⟩ :: L6_48
theorem v6_49 : VS L6_49.eq_1 := rfl
def L6_50 : List AStep := ⟨.mov (.t 95), (some 96), none, []⟩ :: ⟨.faddr 1 (.t 11), (some 97), (some (96, true)), []⟩ :: L6_49
theorem v6_50 : VS L6_50.eq_1 := rfl
def L6_51 : List AStep := ⟨.call 20 [(.t 91), (.t 93)], (some 94), (some (89, true)), []⟩ :: ⟨.pick (.t 89) (.t 94) (.c (.bool false)), (some 95), none, []⟩ :: L6_50
theorem v6_51 : VS L6_51.eq_1 := rfl
def L6_52 : List AStep := ⟨.faddr 0 (.t 4), (some 92), (some (89, true)), []⟩ :: ⟨.load 1 false (.t 92), (some 93), (some (89, true)), []⟩ :: L6_51
theorem v6_52 : VS L6_52.eq_1 := rfl
def L6_53 : List AStep := ⟨.faddr 0 (.t 11), (some 90), (some (89, true)), []⟩ :: ⟨.load 1 false (.t 90), (some 91), (some (89, true)), []⟩ :: L6_52
theorem v6_53 : VS L6_53.eq_1 := rfl
def L6_54 : List AStep := ⟨.pick (.t 86) (.t 87) (.c (.bool false)), (some 88), none, []⟩ :: ⟨.mov (.t 88), (some 89), none, []⟩ :: L6_53
theorem v6_54 : VS L6_54.eq_1 := rfl
def L6_55 : List AStep := ⟨.mov (.t 85), (some 86), none, []⟩ :: ⟨.mov (.t 12), (some 87), (some (86, true)), []⟩ :: L6_54
theorem v6_55 : VS L6_55.eq_1 := rfl
def L6_56 : List AStep := ⟨.call 14 [(.t 82), (.t 83)], (some 84), (some (81, true)), []⟩ :: ⟨.pick (.t 81) (.t 84) (.c (.bool false)), (some 85), none, []⟩ :: L6_55
theorem v6_56 : VS L6_56.eq_1 := rfl
def L6_57 : List AStep := ⟨.load 2 true (.t 8), (some 82), (some (81, true)), []⟩ :: ⟨.load 2 true (.t 4), (some 83), (some (81, true)), []⟩ :: L6_56
theorem v6_57 : VS L6_57.eq_1 := rfl
def L6_58 : List AStep := ⟨.mov (.t 9), (some 80), none, []⟩ :: ⟨.mov (.t 80), (some 81), none, []⟩ :: L6_57
theorem v6_58 : VS L6_58.eq_1 := rfl
def C6_0 : ACode := .seq (.reg L6_3) .ret
theorem u6_0 : VC C6_0.eq_1 := rfl
def C6_1 : ACode := .cond (.t 15) C6_0 .skip
theorem u6_1 : VC C6_1.eq_1 := rfl
def C6_2 : ACode := .seq (.reg L6_2) C6_1
theorem u6_2 : VC C6_2.eq_1 := rfl
def C6_3 : ACode := .seq (.reg L6_25) .ret
theorem u6_3 : VC C6_3.eq_1 := rfl
def C6_4 : ACode := .cond (.t 40) C6_3 .skip
theorem u6_4 : VC C6_4.eq_1 := rfl
def C6_5 : ACode := .seq (.reg L6_20) C6_4
theorem u6_5 : VC C6_5.eq_1 := rfl
def C6_6 : ACode := .cond (.t 68) .skip (.exit 0)
theorem u6_6 : VC C6_6.eq_1 := rfl
def C6_7 : ACode := .seq (.reg L6_38) C6_6
theorem u6_7 : VC C6_7.eq_1 := rfl
def C6_8 : ACode := .block 1 (.reg L6_40)
theorem u6_8 : VC C6_8.eq_1 := rfl
def C6_9 : ACode := .seq C6_7 C6_8
theorem u6_9 : VC C6_9.eq_1 := rfl
def C6_10 : ACode := .block 0 (.loop C6_9)
theorem u6_10 : VC C6_10.eq_1 := rfl
def C6_11 : ACode := .seq (.reg L6_58) .ret
theorem u6_11 : VC C6_11.eq_1 := rfl
def C6_12 : ACode := .seq (.reg L6_46) C6_11
theorem u6_12 : VC C6_12.eq_1 := rfl
def C6_13 : ACode := .seq C6_10 C6_12
theorem u6_13 : VC C6_13.eq_1 := rfl
def C6_14 : ACode := .seq (.reg L6_31) C6_13
theorem u6_14 : VC C6_14.eq_1 := rfl
def C6_15 : ACode := .seq (.reg L6_30) C6_14
theorem u6_15 : VC C6_15.eq_1 := rfl
def C6_16 : ACode := .seq C6_5 C6_15
theorem u6_16 : VC C6_16.eq_1 := rfl
def C6_17 : ACode := .seq (.reg L6_13) C6_16
theorem u6_17 : VC C6_17.eq_1 := rfl
def C6_18 : ACode := .seq (.reg L6_9) C6_17
theorem u6_18 : VC C6_18.eq_1 := rfl
def C6_19 : ACode := .seq (.reg L6_5) C6_18
theorem u6_19 : VC C6_19.eq_1 := rfl
def C6_20 : ACode := .seq C6_2 C6_19
theorem u6_20 : VC C6_20.eq_1 := rfl
def C6_21 : ACode := .seq (.reg L6_0) C6_20
theorem u6_21 : VC C6_21.eq_1 := rfl
def F6 : AFunc := ⟨102, [.tmp 2], C6_21⟩
theorem cF6 : compB Try.prog 6 = some F6 := by kernel_rfl
attribute [local go_sem ↓] u6_0 u6_1 u6_2 u6_3 u6_4 u6_5 u6_6 u6_7 u6_8 u6_9 u6_10 u6_11 u6_13 u6_14 u6_15 u6_16 u6_17 u6_18 u6_19 u6_20 u6_21 v6_0 v6_1 v6_2 v6_3 v6_4 v6_5 v6_6 v6_7 v6_8 v6_9 v6_10 v6_11 v6_12 v6_13 v6_14 v6_15 v6_16 v6_17 v6_18 v6_19 v6_20 v6_21 v6_22 v6_23 v6_24 v6_25 v6_26 v6_27 v6_28 v6_29 v6_30 v6_31 v6_32 v6_33 v6_34 v6_35 v6_36 v6_37 v6_38 v6_39 v6_40 v6_41 v6_42 v6_43 v6_44 v6_45 v6_46 v6_47 v6_48 v6_49 v6_50 v6_51 v6_52 v6_53 v6_54 v6_55 v6_56 v6_57 v6_58
theorem law6 (h : H) (avs : List AV) (hok : okVs Try.prog h 6 [ 22 ] avs) : callK (bm Try.prog 6 avs h) fun r _ => r = ib true := by
  obtain ⟨v0, avs, rfl, hv0, hok⟩ := okVs_cons hok
  obtain rfl := okVs_nil hok
  obtain ⟨v, code, rfl, s0, hc, k0⟩ := dBytes hv0
  refine bm_of cF6 ?_
  cases b0 : decide ((code.length : Int) > 1048576) with
  | true => simp +contextual (maxSteps := 2000000) only [go_sem, Nat.reduceEqDiff, reduceCtorEq, Nat.reduceAdd, Nat.reduceLeDiff, F6, s0.len, b0]
  | false =>
  simp +contextual (maxSteps := 2000000) only [go_sem, Nat.reduceEqDiff, reduceCtorEq, Nat.reduceAdd, Nat.reduceLeDiff, F6, s0.len, b0]
  refine wp_call (c_drawFlattenCall code v h s0 hc) ?_
  rintro q h1 ⟨g1, x, l, rfl, sc, tc⟩
  have mc := tc.mini
  simp +contextual (maxSteps := 2000000) only [go_sem, Nat.reduceEqDiff, reduceCtorEq, Nat.reduceAdd, Nat.reduceLeDiff]
  refine wp_call (k_iFlattenCall l x h1 sc mc) ?_
  rintro r h2 ⟨g2, c, d, rfl, y⟩
  simp +contextual (maxSteps := 2000000) only [go_sem, Nat.reduceEqDiff, reduceCtorEq, Nat.reduceAdd, Nat.reduceLeDiff]
  refine wp_call (k_sFlattenCall l x h2 (sc.grow g2) mc) ?_
  rintro r h3 ⟨g3, c2, d2, rfl, y2⟩
  have so := y.sl.grow g3
  have sc := sc.grow (g2.trans g3)
  have mF : miniF (orF (FlattenC l)) := .flatten
  have eqs : ∀ (h' : H) (p q r s : CV), SlF h' p q (orF (FlattenC l)) → SlF h' r s (orF (FlattenC l)) → bm Try.prog 14 [.agg [p, q], .agg [r, s]] h' = some (ib true, h') := fun h' p q r s a b => by
    have := c_equalFlat (orF (FlattenC l)) (orF (FlattenC l)) p q r s h' a.pl a.nl b.pl b.nl (Nat.le_trans mF.pl (by decide)) (Nat.le_trans mF.nl (by decide))
    rwa [decide_eq_true rfl] at this
  have eq := eqs h3 c d c2 d2 so y2.sl
  have ebb : ∀ b : Bool, (b == b) = true := fun b => by cases b <;> rfl
  have enb : ∀ b : Bool, (!(b == b)) = false := fun b => by cases b <;> rfl
  cases b1 : (FlattenC l).isSome with
  | false =>
    simp +contextual (maxSteps := 2000000) only [go_sem, Nat.reduceEqDiff, reduceCtorEq, Nat.reduceAdd, Nat.reduceLeDiff, eq, ebb, enb]
    exact gcK_of rfl (fun _ _ => rfl)
  | true =>
  obtain ⟨ok1, ok2, ef⟩ := Flatten_some b1
  have eo : orF (FlattenC l) = flatC l := by rw [ef]; rfl
  rw [eo] at so mF eqs
  simp +contextual (maxSteps := 2000000) only [go_sem, Nat.reduceEqDiff, reduceCtorEq, Nat.reduceAdd, Nat.reduceLeDiff, eq, ebb, enb]
  refine wp_call (k_iCallOf (flatC l) c d h3 so mF) ?_
  rintro r h4 ⟨g4, q4, R4, rfl, n4⟩
  simp +contextual (maxSteps := 2000000) only [go_sem, Nat.reduceEqDiff, reduceCtorEq, Nat.reduceAdd, Nat.reduceLeDiff]
  refine wp_call (k_iFlattenCall (callOf (flatC l)) q4 h4 n4.sl (.callOf mF)) ?_
  rintro r h5 ⟨g5, c5, d5, rfl, y5⟩
  rw [flat_again ok2] at y5 ⊢
  have y5 : NwF h4 h5 c5 d5 (flatC l) := y5
  have sc := sc.grow (g4.trans g5)
  have so := so.grow (g4.trans g5)
  obtain ⟨n, hn, hb, ha⟩ := front_at l
  obtain ⟨rs, X⟩ := sc.ex
  have hl := X.len
  have slen : lenO (.one x) = some (ii l.length) := by rw [X.out.len, hl]
  obtain ⟨w, ew, sw⟩ := sc.take hn
  have e1 := okCall_take ok1 n
  have e2 := flat_front ok1 hn hb ha
  have e3 : FlattenC (l.take n) = some ⟨(flatC l).pl, []⟩ := Flatten_is e1 e2 (front_ok ok2)
  simp +contextual (maxSteps := 2000000) only [go_sem, Nat.reduceEqDiff, reduceCtorEq, Nat.reduceAdd, Nat.reduceLeDiff, Option.isSome_some]
  refine wpC_loop (fun i T L h' => h' = h5 ∧ T 3 = .lp 3 0 ∧ (L 3).2 = [x] ∧ T 4 = .lp 4 0 ∧ (L 4).2 = [c, d] ∧ T 8 = .lp 8 0 ∧ (L 8).2 = [c5, d5] ∧ T 9 = .v (.one (.bool true)) ∧ T 10 = .v (.one (.int .i64 i))) n ?_ ?_ (Nat.zero_le _) ?_
  · rintro i T L h' hi ⟨rfl, t3, l3, t4, l4, t8, l8, t9, t10⟩
    have hil : i < l.length := by omega
    have hir : i < rs.length := by omega
    have hk := (X.el i hir).kind
    rw [getC_eq hil] at hk
    have hlt := hb i hil hi
    simp +contextual (maxSteps := 2000000) only [go_sem, Nat.reduceEqDiff, reduceCtorEq, Nat.reduceAdd, Nat.reduceLeDiff, t3, l3, t4, l4, t8, l8, t9, t10, slen, lt_true hil, X.out.iaddr hir, X.out.fieldO hir, decide_eq_true (show rs[i].kind < 2 by omega)]
    rw [wrap_next hil (by have := tc.len; omega)]
  · rintro T L h' ⟨rfl, t3, l3, t4, l4, t8, l8, t9, t10⟩
    have go : ∀ (K : AV → H → Prop) , True := fun _ => trivial
    apply joinC (P := Try.prog) (c := C6_12) (M := fun T L h2 => h2 = h' ∧ T 3 = .lp 3 0 ∧ (L 3).2 = [x] ∧ T 4 = .lp 4 0 ∧ (L 4).2 = [c, d] ∧ T 8 = .lp 8 0 ∧ (L 8).2 = [c5, d5] ∧ T 9 = .v (.one (.bool true)) ∧ T 10 = .v (.one (.int .i64 n)))
    · intro J
      by_cases hnl : n < l.length
      · have hnr : n < rs.length := by omega
        have hk := (X.el n hnr).kind
        rw [getC_eq hnl] at hk
        have hge := ha hnl
        simp +contextual (maxSteps := 2000000) only [go_sem, Nat.reduceEqDiff, reduceCtorEq, Nat.reduceAdd, Nat.reduceLeDiff, t3, l3, t4, l4, t8, l8, t9, t10, slen, lt_true hnl, X.out.iaddr hnr, X.out.fieldO hnr, decide_eq_false (show ¬ rs[n].kind < 2 by omega)]
        refine J _ _ _ ?_
        simp +contextual (maxSteps := 2000000) only [go_sem, Nat.reduceEqDiff, reduceCtorEq, Nat.reduceAdd, Nat.reduceLeDiff, t3, l3, t4, l4, t8, l8, t9, t10]
      · have : decide ((n : Int) < (l.length : Int)) = false := decide_eq_false (by omega)
        simp +contextual (maxSteps := 2000000) only [go_sem, Nat.reduceEqDiff, reduceCtorEq, Nat.reduceAdd, Nat.reduceLeDiff, t3, l3, t4, l4, t8, l8, t9, t10, slen, this]
        refine J _ _ _ ?_
        simp +contextual (maxSteps := 2000000) only [go_sem, Nat.reduceEqDiff, reduceCtorEq, Nat.reduceAdd, Nat.reduceLeDiff, t3, l3, t4, l4, t8, l8, t9, t10]
    rintro T L h2 ⟨rfl, t3, l3, t4, l4, t8, l8, t9, t10⟩
    simp +contextual (maxSteps := 2000000) only [go_sem, Nat.reduceEqDiff, reduceCtorEq, Nat.reduceAdd, Nat.reduceLeDiff, ↓u6_12, t3, l3, t4, l4, t8, l8, t9, t10, ew]
    refine wp_call (k_iFlattenCall (l.take n) w h2 sw (tc.take n).mini) ?_
    rintro r h6 ⟨g6, c6, d6, rfl, y6⟩
    rw [e3] at y6 ⊢
    have y6 : NwF h2 h6 c6 d6 ⟨(flatC l).pl, []⟩ := y6
    have so6 := so.grow g6
    have q1 := eqs h6 c5 d5 c d (y5.sl.grow g6) so6
    have q2 : bm Try.prog 20 [.one c6, .one c] h6 = some (ib true, h6) := by
      have := c_equalInts (flatC l).pl (flatC l).pl _ _ h6 y6.sl.pl so6.pl (Nat.le_trans mF.pl (by decide))
      rwa [decide_eq_true rfl] at this
    have q3 : lenO (.one d6) = some (ii 0) := y6.sl.nl.len
    simp +contextual (maxSteps := 2000000) only [go_sem, Nat.reduceEqDiff, reduceCtorEq, Nat.reduceAdd, Nat.reduceLeDiff, t3, l3, t4, l4, t8, l8, t9, t10, q1, q2, q3, Option.isSome_some]
    try exact gcK_of rfl (fun _ _ => rfl)
  · simp +contextual (maxSteps := 2000000) only [go_sem, Nat.reduceEqDiff, reduceCtorEq, Nat.reduceAdd, Nat.reduceLeDiff]
    rfl
end Go.Proofs.Ytekkimfdcbgcoaa.Am
