/- The law FnPassedFlat. -/
import Derived.Test.YtekkimfdcbgcoabPP
import Derived.Test.YtekkimfdcbgcoabPF
import Derived.Test.YtekkimfdcbgcoabPB
import Derived.Test.YtekkimfdcbgcoabDW
namespace Go.Proofs.Ytekkimfdcbgcoab.Am
open Go
attribute [local go_sem] loadL_agg
set_option maxRecDepth 100000
set_option maxHeartbeats 4000000
set_option linter.unusedSimpArgs false
set_option linter.unusedVariables false
attribute [local go_sem ↓] bv_t bv_c ev_t ev_c put_same put_ne put_none kill_at pro_at lb_same lb_ne start_zero start_succ wpC_seq wpC_reg wpC_cond wpC_block wpC_skip wpC_exit wpC_ret thenQ_normal thenQ_exit thenQ_ret inBlk_normal inBlk_exit inBlk_ret wpS_nil wpS_step wpS_again wpS_guard wpO_mov wpO_load wpO_faddr wpO_nilCheck wpO_pick wpO_build wpO_bin wpO_eqb wpO_eqst wpO_eqnil wpO_not wpO_conv wpO_bytesStr wpO_iaddr wpO_idxStr wpO_field wpO_extract wpO_len wpO_lenStr wpO_cap wpO_min wpO_slice wpO_sliceStr wpO_alloc wpO_box wpO_store wpO_call wpO_callv wpO_mkfn wpO_buildSlice wpO_mkslice wpO_append wpO_appz proA_nil proA_cons tmpX_nil tmpX_tmp tmpX_cell doneB_normal doneB_ret agK_cons agK_nil agK_guard agG_tt agG_ff agG_tf agG_ft agG_undef pureB_load results_one results_two results_nil resBs_cons resBs_nil resB_tmp resB_cell
attribute [local go_sem] kill_v kill_lp_ne kill_lp_same pro_v pro_lp_same pro_lp_ne av_v av_lp optB_some optX_some valX_eq ldX_lp ldX_v faX_lp faX_v ncX_lp ncX_ptr ncX_fn boxK_one boxK_agg stL_some stK_lp_one stK_lp_agg stK_v_one stK_v_agg proM_v proM_lp callG_mk callVG_mk callvK_fn fnG_mk ptrsA_nil ptrsA_cons callH_some whenA_true whenA_false guardH_tt guardH_ff guardH_tf guardH_ft guardH_undef agV_one agV_agg lenO_sl lenStrO_str notO_bool pickO_bool convO_int eqbO_bool eqnilO_sl extractO_tup capO_sl minO_int loadL_one loadL_all storeL_eq fillA_nil fillA_one fillA_agg nat_ge neg_ge nat_lt neg_lt buildO bin_add bin_sub bin_mul bin_eql bin_neq bin_lss bin_leq bin_gtr bin_geq str_eql str_neq str_lss str_leq str_gtr str_geq retK_some endK_mk gcK_same gcK_int gcK_bool tupO_one tupO_agg rdy_self ib ii Option.map_none Option.map_some Option.some.injEq exists_eq_left' exists_eq_left ne_eq not_false_eq_true if_true if_false List.map_cons List.map_nil List.getElem?_cons_zero List.getElem?_cons_succ List.length_cons List.length_nil List.take_succ_cons List.take_zero List.take_nil List.drop_succ_cons List.drop_zero List.drop_nil List.cons_append List.nil_append List.append_nil List.set_cons_zero List.set_cons_succ Nat.zero_add forall_const true_and and_true and_self Bool.false_eq_true false_implies true_implies implies_true Bool.not_true Bool.not_false Bool.not_eq_true' Bool.not_eq_false' beq_self_eq_true Bool.bne_true Bool.bne_false
attribute [local go_sem] lenI lenS lenP lenQ lenB lenL lenT encI_0 encS_0 encP_0 encP_1 encQ_0 encQ_1 encQ_2 encQ_3 encB_0 encB_1 encL_0 encL_1 encT_0 encT_1
attribute [local go_sem low] whenA_bool guardH_bool
/-! laws.named -/
def L17_0 : List AStep := [⟨.box 29 (.t 0), (some 2), none, []⟩, ⟨.mov (.c (.bool false)), (some 4), none, []⟩]
theorem v17_0 : VS L17_0.eq_1 := rfl
def L17_1 : List AStep := [⟨.mov (.c (.int .i64 0)), (some 5), none, []⟩]
theorem v17_1 : VS L17_1.eq_1 := rfl
def L17_2 : List AStep := [⟨.bin .lss (.t 6) (.t 9), (some 10), none, []⟩]
theorem v17_2 : VS L17_2.eq_1 := rfl
def L17_3 : List AStep := ⟨.load 1 false (.t 7), (some 8), none, []⟩ :: ⟨.len (.t 8), (some 9), none, []⟩ :: L17_2
theorem v17_3 : VS L17_3.eq_1 := rfl
def L17_4 : List AStep := ⟨.mov (.t 5), (some 6), none, []⟩ :: ⟨.faddr 1 (.t 2), (some 7), none, []⟩ :: L17_3
theorem v17_4 : VS L17_4.eq_1 := rfl
def L17_5 : List AStep := [⟨.mov (.t 1), (some 19), none, []⟩, ⟨.bin .eql (.t 18) (.t 19), (some 20), none, []⟩]
theorem v17_5 : VS L17_5.eq_1 := rfl
def L17_6 : List AStep := ⟨.faddr 0 (.t 16), (some 17), none, []⟩ :: ⟨.load 1 false (.t 17), (some 18), none, []⟩ :: L17_5
theorem v17_6 : VS L17_6.eq_1 := rfl
def L17_7 : List AStep := ⟨.mov (.t 5), (some 15), none, []⟩ :: ⟨.iaddr 2 (.t 14) (.t 15), (some 16), none, []⟩ :: L17_6
theorem v17_7 : VS L17_7.eq_1 := rfl
def L17_8 : List AStep := ⟨.faddr 1 (.t 2), (some 13), none, []⟩ :: ⟨.load 1 false (.t 13), (some 14), none, []⟩ :: L17_7
theorem v17_8 : VS L17_8.eq_1 := rfl
def L17_9 : List AStep := [⟨.mov (.c (.bool true)), (some 4), none, []⟩]
theorem v17_9 : VS L17_9.eq_1 := rfl
def L17_10 : List AStep := [⟨.mov (.t 12), (some 5), none, []⟩]
theorem v17_10 : VS L17_10.eq_1 := rfl
def L17_11 : List AStep := ⟨.mov (.t 5), (some 11), none, []⟩ :: ⟨.bin .add (.t 11) (.c (.int .i64 1)), (some 12), none, []⟩ :: L17_10
theorem v17_11 : VS L17_11.eq_1 := rfl
def L17_12 : List AStep := [⟨.mov (.c (.bool false)), (some 4), none, []⟩]
theorem v17_12 : VS L17_12.eq_1 := rfl
def C17_0 : ACode := .cond (.t 10) .skip (.exit 0)
theorem u17_0 : VC C17_0.eq_1 := rfl
def C17_1 : ACode := .seq (.reg L17_4) C17_0
theorem u17_1 : VC C17_1.eq_1 := rfl
def C17_2 : ACode := .seq (.reg L17_9) .ret
theorem u17_2 : VC C17_2.eq_1 := rfl
def C17_3 : ACode := .cond (.t 20) C17_2 .skip
theorem u17_3 : VC C17_3.eq_1 := rfl
def C17_4 : ACode := .seq (.reg L17_8) C17_3
theorem u17_4 : VC C17_4.eq_1 := rfl
def C17_5 : ACode := .block 1 C17_4
theorem u17_5 : VC C17_5.eq_1 := rfl
def C17_6 : ACode := .seq C17_5 (.reg L17_11)
theorem u17_6 : VC C17_6.eq_1 := rfl
def C17_7 : ACode := .seq C17_1 C17_6
theorem u17_7 : VC C17_7.eq_1 := rfl
def C17_8 : ACode := .block 0 (.loop C17_7)
theorem u17_8 : VC C17_8.eq_1 := rfl
def C17_9 : ACode := .seq (.reg L17_1) C17_8
theorem u17_9 : VC C17_9.eq_1 := rfl
def C17_10 : ACode := .seq (.reg L17_12) .ret
theorem u17_10 : VC C17_10.eq_1 := rfl
def C17_11 : ACode := .seq C17_9 C17_10
theorem u17_11 : VC C17_11.eq_1 := rfl
def C17_12 : ACode := .seq (.reg L17_0) C17_11
theorem u17_12 : VC C17_12.eq_1 := rfl
def F17 : AFunc := ⟨21, [.tmp 4], C17_12⟩
theorem cF17 : compB Try.prog 17 = some F17 := by kernel_rfl
attribute [local go_sem ↓] u17_0 u17_1 u17_2 u17_3 u17_4 u17_5 u17_6 u17_7 u17_8 u17_9 u17_10 u17_11 u17_12 v17_0 v17_1 v17_2 v17_3 v17_4 v17_5 v17_6 v17_7 v17_8 v17_9 v17_10 v17_11 v17_12
theorem c_namedL (f : Flat) (p n : CV) (s : ByteArray) (h : H) (hf : SlF h p n f) (hn : f.nl.length ≤ big) : bm Try.prog 17 [.agg [p, n], .one (.str s)] h = some (ib (hasN f.nl s), h) := by
  refine bm_eq cF17 ?_
  have hl := hf.nl
  simp +contextual (maxSteps := 2000000) only [go_sem, Nat.reduceEqDiff, reduceCtorEq, Nat.reduceAdd, Nat.reduceLeDiff, F17]
  refine wpC_loop (fun i T L h' => h' = h ∧ T 1 = .v (.one (.str s)) ∧ T 2 = .lp 2 0 ∧ (L 2).2 = [p, n] ∧ T 5 = .v (.one (.int .i64 i)) ∧ Pre (fun p : Pair => decide (p.name = s)) false f.nl i) f.nl.length ?_ ?_ (Nat.zero_le _) ?_
  · rintro i T L h' hi ⟨rfl, t1, t2, l2, t5, hp⟩
    cases b : decide (f.nl[i].name = s) with
    | true =>
      have e : hasN f.nl s = true := List.any_eq_true.2 ⟨_, List.getElem_mem hi, b⟩
      simp +contextual (maxSteps := 2000000) only [go_sem, Nat.reduceEqDiff, reduceCtorEq, Nat.reduceAdd, Nat.reduceLeDiff, t1, t2, l2, t5, hl.len, hl.iaddr hi, hl.fieldO hi, lt_true hi, b, e]
    | false =>
      simp +contextual (maxSteps := 2000000) only [go_sem, Nat.reduceEqDiff, reduceCtorEq, Nat.reduceAdd, Nat.reduceLeDiff, t1, t2, l2, t5, hl.len, hl.iaddr hi, hl.fieldO hi, lt_true hi, b]
      exact ⟨by rw [wrap_next hi (big_lt hn)], hp.next hi b⟩
  · rintro T L h' ⟨rfl, t1, t2, l2, t5, hp⟩
    have e : hasN f.nl s = false := List.any_eq_false.2 fun x hx => by
      have := hp.out x (by rw [List.take_length]; exact hx)
      simpa using this
    simp +contextual (maxSteps := 2000000) only [go_sem, Nat.reduceEqDiff, reduceCtorEq, Nat.reduceAdd, Nat.reduceLeDiff, t1, t2, l2, t5, hl.len, lt_false, e]
  · simp +contextual (maxSteps := 2000000) only [go_sem, Nat.reduceEqDiff, reduceCtorEq, Nat.reduceAdd, Nat.reduceLeDiff]
    exact ⟨rfl, Pre.zero⟩
/-! laws.FnPassedFlat -/
def L10_0 : List AStep := [⟨.mov (.c (.bool false)), (some 2), none, []⟩]
theorem v10_0 : VS L10_0.eq_1 := rfl
def L10_1 : List AStep := [⟨.bin .gtr (.t 13) (.c (.int .i64 1048576)), (some 14), none, []⟩]
theorem v10_1 : VS L10_1.eq_1 := rfl
def L10_2 : List AStep := ⟨.mov (.t 0), (some 12), none, []⟩ :: ⟨.len (.t 12), (some 13), none, []⟩ :: L10_1
theorem v10_2 : VS L10_2.eq_1 := rfl
def L10_3 : List AStep := [⟨.mov (.c (.bool true)), (some 2), none, []⟩]
theorem v10_3 : VS L10_3.eq_1 := rfl
def L10_4 : List AStep := [⟨.store 2 (.t 4) (.t 19), none, none, []⟩]
theorem v10_4 : VS L10_4.eq_1 := rfl
def L10_5 : List AStep := ⟨.alloc 29 [(.sl none 0 (some 0)), (.sl none 0 (some 0))], (some 4), none, []⟩ :: ⟨.store 1 (.t 3) (.t 18), none, none, []⟩ :: L10_4
theorem v10_5 : VS L10_5.eq_1 := rfl
def L10_6 : List AStep := ⟨.extract (.t 15) 1, (some 19), none, []⟩ :: ⟨.alloc 25 [(.sl none 0 (some 0))], (some 3), none, []⟩ :: L10_5
theorem v10_6 : VS L10_6.eq_1 := rfl
def L10_7 : List AStep := ⟨.mov (.t 17), (some 15), none, []⟩ :: ⟨.extract (.t 15) 0, (some 18), none, []⟩ :: L10_6
theorem v10_7 : VS L10_7.eq_1 := rfl
def L10_8 : List AStep := ⟨.mov (.t 0), (some 16), none, []⟩ :: ⟨.call 42 [(.t 16)], (some 17), none, []⟩ :: L10_7
theorem v10_8 : VS L10_8.eq_1 := rfl
def L10_9 : List AStep := [⟨.mov (.t 25), (some 6), none, []⟩]
theorem v10_9 : VS L10_9.eq_1 := rfl
def L10_10 : List AStep := ⟨.alloc 29 [(.sl none 0 (some 0)), (.sl none 0 (some 0))], (some 5), none, []⟩ :: ⟨.store 2 (.t 5) (.t 24), none, none, []⟩ :: L10_9
theorem v10_10 : VS L10_10.eq_1 := rfl
def L10_11 : List AStep := ⟨.extract (.t 20) 0, (some 24), none, []⟩ :: ⟨.extract (.t 20) 1, (some 25), none, []⟩ :: L10_10
theorem v10_11 : VS L10_11.eq_1 := rfl
def L10_12 : List AStep := ⟨.call 43 [(.t 21), (.t 22)], (some 23), none, []⟩ :: ⟨.mov (.t 23), (some 20), none, []⟩ :: L10_11
theorem v10_12 : VS L10_12.eq_1 := rfl
def L10_13 : List AStep := ⟨.load 1 true (.t 3), (some 21), none, []⟩ :: ⟨.load 2 true (.t 4), (some 22), none, []⟩ :: L10_12
theorem v10_13 : VS L10_13.eq_1 := rfl
def L10_14 : List AStep := [⟨.mov (.t 31), (some 8), none, []⟩]
theorem v10_14 : VS L10_14.eq_1 := rfl
def L10_15 : List AStep := ⟨.alloc 29 [(.sl none 0 (some 0)), (.sl none 0 (some 0))], (some 7), none, []⟩ :: ⟨.store 2 (.t 7) (.t 30), none, none, []⟩ :: L10_14
theorem v10_15 : VS L10_15.eq_1 := rfl
def L10_16 : List AStep := ⟨.extract (.t 26) 0, (some 30), none, []⟩ :: ⟨.extract (.t 26) 1, (some 31), none, []⟩ :: L10_15
theorem v10_16 : VS L10_16.eq_1 := rfl
def L10_17 : List AStep := ⟨.call 44 [(.t 27), (.t 28)], (some 29), none, []⟩ :: ⟨.mov (.t 29), (some 26), none, []⟩ :: L10_16
theorem v10_17 : VS L10_17.eq_1 := rfl
def L10_18 : List AStep := ⟨.load 1 true (.t 3), (some 27), none, []⟩ :: ⟨.load 2 true (.t 4), (some 28), none, []⟩ :: L10_17
theorem v10_18 : VS L10_18.eq_1 := rfl
def L10_19 : List AStep := [⟨.pick (.t 41) (.c (.bool true)) (.t 43), (some 44), none, []⟩]
theorem v10_19 : VS L10_19.eq_1 := rfl
def L10_20 : List AStep := ⟨.mov (.t 6), (some 42), (some (41, false)), []⟩ :: ⟨.not (.t 42), (some 43), (some (41, false)), []⟩ :: L10_19
theorem v10_20 : VS L10_20.eq_1 := rfl
def L10_21 : List AStep := ⟨.pick (.t 36) (.c (.bool true)) (.t 39), (some 40), none, []⟩ :: ⟨.mov (.t 40), (some 41), none, []⟩ :: L10_20
theorem v10_21 : VS L10_21.eq_1 := rfl
def L10_22 : List AStep := ⟨.mov (.t 8), (some 38), (some (36, false)), []⟩ :: ⟨.eqb true (.t 37) (.t 38), (some 39), (some (36, false)), []⟩ :: L10_21
theorem v10_22 : VS L10_22.eq_1 := rfl
def L10_23 : List AStep := ⟨.mov (.t 35), (some 36), none, []⟩ :: ⟨.mov (.t 6), (some 37), (some (36, false)), []⟩ :: L10_22
theorem v10_23 : VS L10_23.eq_1 := rfl
def L10_24 : List AStep := ⟨.call 45 [(.t 32), (.t 33)], (some 34), none, []⟩ :: ⟨.not (.t 34), (some 35), none, []⟩ :: L10_23
theorem v10_24 : VS L10_24.eq_1 := rfl
def L10_25 : List AStep := ⟨.load 2 true (.t 5), (some 32), none, []⟩ :: ⟨.load 2 true (.t 7), (some 33), none, []⟩ :: L10_24
theorem v10_25 : VS L10_25.eq_1 := rfl
def L10_26 : List AStep := [⟨.mov (.t 52), (some 2), none, []⟩]
theorem v10_26 : VS L10_26.eq_1 := rfl
def L10_27 : List AStep := ⟨.eqb false (.t 49) (.t 50), (some 51), (some (48, true)), []⟩ :: ⟨.pick (.t 48) (.t 51) (.c (.bool false)), (some 52), none, []⟩ :: L10_26
theorem v10_27 : VS L10_27.eq_1 := rfl
def L10_28 : List AStep := ⟨.mov (.t 6), (some 49), (some (48, true)), []⟩ :: ⟨.mov (.t 8), (some 50), (some (48, true)), []⟩ :: L10_27
theorem v10_28 : VS L10_28.eq_1 := rfl
def L10_29 : List AStep := ⟨.call 45 [(.t 45), (.t 46)], (some 47), none, []⟩ :: ⟨.mov (.t 47), (some 48), none, []⟩ :: L10_28
theorem v10_29 : VS L10_29.eq_1 := rfl
def L10_30 : List AStep := ⟨.load 2 true (.t 5), (some 45), none, []⟩ :: ⟨.load 2 true (.t 7), (some 46), none, []⟩ :: L10_29
theorem v10_30 : VS L10_30.eq_1 := rfl
def L10_31 : List AStep := [⟨.bin .sub (.t 55) (.t 58), (some 59), none, []⟩, ⟨.mov (.t 59), (some 9), none, []⟩]
theorem v10_31 : VS L10_31.eq_1 := rfl
def L10_32 : List AStep := ⟨.load 1 false (.t 56), (some 57), none, []⟩ :: ⟨.len (.t 57), (some 58), none, []⟩ :: L10_31
theorem v10_32 : VS L10_32.eq_1 := rfl
def L10_33 : List AStep := ⟨.len (.t 54), (some 55), none, []⟩ :: ⟨.faddr 0 (.t 5), (some 56), none, []⟩ :: L10_32
theorem v10_33 : VS L10_33.eq_1 := rfl
def L10_34 : List AStep := ⟨.faddr 0 (.t 4), (some 53), none, []⟩ :: ⟨.load 1 false (.t 53), (some 54), none, []⟩ :: L10_33
theorem v10_34 : VS L10_34.eq_1 := rfl
def L10_35 : List AStep := [⟨.mov (.c (.int .i64 0)), (some 10), none, []⟩]
theorem v10_35 : VS L10_35.eq_1 := rfl
def L10_36 : List AStep := [⟨.bin .lss (.t 60) (.t 63), (some 64), none, []⟩]
theorem v10_36 : VS L10_36.eq_1 := rfl
def L10_37 : List AStep := ⟨.load 1 false (.t 61), (some 62), none, []⟩ :: ⟨.len (.t 62), (some 63), none, []⟩ :: L10_36
theorem v10_37 : VS L10_37.eq_1 := rfl
def L10_38 : List AStep := ⟨.mov (.t 10), (some 60), none, []⟩ :: ⟨.faddr 1 (.t 5), (some 61), none, []⟩ :: L10_37
theorem v10_38 : VS L10_38.eq_1 := rfl
def L10_39 : List AStep := [⟨.mov (.t 74), (some 11), none, []⟩]
theorem v10_39 : VS L10_39.eq_1 := rfl
def L10_40 : List AStep := ⟨.load 1 false (.t 72), (some 73), none, []⟩ :: ⟨.call 35 [(.t 67), (.t 73)], (some 74), none, []⟩ :: L10_39
theorem v10_40 : VS L10_40.eq_1 := rfl
def L10_41 : List AStep := ⟨.iaddr 2 (.t 69) (.t 70), (some 71), none, []⟩ :: ⟨.faddr 0 (.t 71), (some 72), none, []⟩ :: L10_40
theorem v10_41 : VS L10_41.eq_1 := rfl
def L10_42 : List AStep := ⟨.load 1 false (.t 68), (some 69), none, []⟩ :: ⟨.mov (.t 10), (some 70), none, []⟩ :: L10_41
theorem v10_42 : VS L10_42.eq_1 := rfl
def L10_43 : List AStep := ⟨.load 1 true (.t 3), (some 67), none, []⟩ :: ⟨.faddr 1 (.t 5), (some 68), none, []⟩ :: L10_42
theorem v10_43 : VS L10_43.eq_1 := rfl
def L10_44 : List AStep := [⟨.pick (.t 95) (.c (.bool true)) (.t 104), (some 105), none, []⟩]
theorem v10_44 : VS L10_44.eq_1 := rfl
def L10_45 : List AStep := ⟨.call 17 [(.t 96), (.t 102)], (some 103), (some (95, false)), []⟩ :: ⟨.not (.t 103), (some 104), (some (95, false)), []⟩ :: L10_44
theorem v10_45 : VS L10_45.eq_1 := rfl
def L10_46 : List AStep := ⟨.faddr 0 (.t 100), (some 101), (some (95, false)), []⟩ :: ⟨.load 1 false (.t 101), (some 102), (some (95, false)), []⟩ :: L10_45
theorem v10_46 : VS L10_46.eq_1 := rfl
def L10_47 : List AStep := ⟨.mov (.t 10), (some 99), (some (95, false)), []⟩ :: ⟨.iaddr 2 (.t 98) (.t 99), (some 100), (some (95, false)), []⟩ :: L10_46
theorem v10_47 : VS L10_47.eq_1 := rfl
def L10_48 : List AStep := ⟨.faddr 1 (.t 5), (some 97), (some (95, false)), []⟩ :: ⟨.load 1 false (.t 97), (some 98), (some (95, false)), []⟩ :: L10_47
theorem v10_48 : VS L10_48.eq_1 := rfl
def L10_49 : List AStep := ⟨.mov (.t 94), (some 95), none, []⟩ :: ⟨.load 2 true (.t 4), (some 96), (some (95, false)), []⟩ :: L10_48
theorem v10_49 : VS L10_49.eq_1 := rfl
def L10_50 : List AStep := ⟨.pick (.t 85) (.c (.bool true)) (.t 92), (some 93), (some (77, true)), []⟩ :: ⟨.pick (.t 77) (.t 93) (.c (.bool false)), (some 94), none, []⟩ :: L10_49
theorem v10_50 : VS L10_50.eq_1 := rfl
def L10_51 : List AStep := ⟨.load 1 false (.t 90), (some 91), (some (85, false)), []⟩ :: ⟨.bin .eql (.t 91) (.c (.int .i64 3)), (some 92), (some (85, false)), []⟩ :: L10_50
theorem v10_51 : VS L10_51.eq_1 := rfl
def L10_52 : List AStep := ⟨.iaddr 4 (.t 87) (.t 88), (some 89), (some (85, false)), []⟩ :: ⟨.faddr 1 (.t 89), (some 90), (some (85, false)), []⟩ :: L10_51
theorem v10_52 : VS L10_52.eq_1 := rfl
def L10_53 : List AStep := ⟨.load 1 false (.t 86), (some 87), (some (85, false)), []⟩ :: ⟨.mov (.t 11), (some 88), (some (85, false)), []⟩ :: L10_52
theorem v10_53 : VS L10_53.eq_1 := rfl
def L10_54 : List AStep := ⟨.mov (.t 84), (some 85), (some (77, true)), []⟩ :: ⟨.faddr 0 (.t 3), (some 86), (some (85, false)), []⟩ :: L10_53
theorem v10_54 : VS L10_54.eq_1 := rfl
def L10_55 : List AStep := ⟨.load 1 false (.t 82), (some 83), (some (77, true)), []⟩ :: ⟨.bin .eql (.t 83) (.c (.int .i64 1)), (some 84), (some (77, true)), []⟩ :: L10_54
theorem v10_55 : VS L10_55.eq_1 := rfl
def L10_56 : List AStep := ⟨.iaddr 4 (.t 79) (.t 80), (some 81), (some (77, true)), []⟩ :: ⟨.faddr 1 (.t 81), (some 82), (some (77, true)), []⟩ :: L10_55
theorem v10_56 : VS L10_56.eq_1 := rfl
def L10_57 : List AStep := ⟨.load 1 false (.t 78), (some 79), (some (77, true)), []⟩ :: ⟨.mov (.t 11), (some 80), (some (77, true)), []⟩ :: L10_56
theorem v10_57 : VS L10_57.eq_1 := rfl
def L10_58 : List AStep := ⟨.mov (.t 76), (some 77), none, []⟩ :: ⟨.faddr 0 (.t 3), (some 78), (some (77, true)), []⟩ :: L10_57
theorem v10_58 : VS L10_58.eq_1 := rfl
def L10_59 : List AStep := ⟨.mov (.t 11), (some 75), none, []⟩ :: ⟨.bin .geq (.t 75) (.c (.int .i64 0)), (some 76), none, []⟩ :: L10_58
theorem v10_59 : VS L10_59.eq_1 := rfl
def L10_60 : List AStep := [⟨.mov (.c (.bool false)), (some 2), none, []⟩]
theorem v10_60 : VS L10_60.eq_1 := rfl
def L10_61 : List AStep := [⟨.mov (.t 66), (some 10), none, []⟩]
theorem v10_61 : VS L10_61.eq_1 := rfl
def L10_62 : List AStep := ⟨.mov (.t 10), (some 65), none, []⟩ :: ⟨.bin .add (.t 65) (.c (.int .i64 1)), (some 66), none, []⟩ :: L10_61
theorem v10_62 : VS L10_62.eq_1 := rfl
def L10_63 : List AStep := [⟨.mov (.t 121), (some 2), none, []⟩]
theorem v10_63 : VS L10_63.eq_1 := rfl
def L10_64 : List AStep := ⟨.call 18 [(.t 118), (.t 119)], (some 120), (some (117, true)), []⟩ :: ⟨.pick (.t 117) (.t 120) (.c (.bool false)), (some 121), none, []⟩ :: L10_63
theorem v10_64 : VS L10_64.eq_1 := rfl
def L10_65 : List AStep := ⟨.load 1 true (.t 3), (some 118), (some (117, true)), []⟩ :: ⟨.load 2 true (.t 4), (some 119), (some (117, true)), []⟩ :: L10_64
theorem v10_65 : VS L10_65.eq_1 := rfl
def L10_66 : List AStep := ⟨.pick (.t 108) (.t 115) (.c (.bool false)), (some 116), none, []⟩ :: ⟨.mov (.t 116), (some 117), none, []⟩ :: L10_65
theorem v10_66 : VS L10_66.eq_1 := rfl
def L10_67 : List AStep := ⟨.load 1 false (.t 113), (some 114), (some (108, true)), []⟩ :: ⟨.call 46 [(.t 112), (.t 114)], (some 115), (some (108, true)), []⟩ :: L10_66
theorem v10_67 : VS L10_67.eq_1 := rfl
def L10_68 : List AStep := ⟨.slice 3 1 (.t 110) (some (.t 111)) none none, (some 112), (some (108, true)), []⟩ :: ⟨.faddr 0 (.t 5), (some 113), (some (108, true)), []⟩ :: L10_67
theorem v10_68 : VS L10_68.eq_1 := rfl
def L10_69 : List AStep := ⟨.load 1 false (.t 109), (some 110), (some (108, true)), []⟩ :: ⟨.mov (.t 9), (some 111), (some (108, true)), []⟩ :: L10_68
theorem v10_69 : VS L10_69.eq_1 := rfl
def L10_70 : List AStep := ⟨.mov (.t 107), (some 108), none, []⟩ :: ⟨.faddr 0 (.t 4), (some 109), (some (108, true)), []⟩ :: L10_69
theorem v10_70 : VS L10_70.eq_1 := rfl
def L10_71 : List AStep := ⟨.mov (.t 9), (some 106), none, []⟩ :: ⟨.bin .geq (.t 106) (.c (.int .i64 0)), (some 107), none, []⟩ :: L10_70
theorem v10_71 : VS L10_71.eq_1 := rfl
def C10_0 : ACode := .seq (.reg L10_3) .ret
theorem u10_0 : VC C10_0.eq_1 := rfl
def C10_1 : ACode := .cond (.t 14) C10_0 .skip
theorem u10_1 : VC C10_1.eq_1 := rfl
def C10_2 : ACode := .seq (.reg L10_2) C10_1
theorem u10_2 : VC C10_2.eq_1 := rfl
def C10_3 : ACode := .seq (.reg L10_30) .ret
theorem u10_3 : VC C10_3.eq_1 := rfl
def C10_4 : ACode := .cond (.t 44) C10_3 .skip
theorem u10_4 : VC C10_4.eq_1 := rfl
def C10_5 : ACode := .seq (.reg L10_25) C10_4
theorem u10_5 : VC C10_5.eq_1 := rfl
def C10_6 : ACode := .cond (.t 64) .skip (.exit 0)
theorem u10_6 : VC C10_6.eq_1 := rfl
def C10_7 : ACode := .seq (.reg L10_38) C10_6
theorem u10_7 : VC C10_7.eq_1 := rfl
def C10_8 : ACode := .seq (.reg L10_60) .ret
theorem u10_8 : VC C10_8.eq_1 := rfl
def C10_9 : ACode := .cond (.t 105) C10_8 .skip
theorem u10_9 : VC C10_9.eq_1 := rfl
def C10_10 : ACode := .seq (.reg L10_59) C10_9
theorem u10_10 : VC C10_10.eq_1 := rfl
def C10_11 : ACode := .seq (.reg L10_43) C10_10
theorem u10_11 : VC C10_11.eq_1 := rfl
def C10_12 : ACode := .block 1 C10_11
theorem u10_12 : VC C10_12.eq_1 := rfl
def C10_13 : ACode := .seq C10_12 (.reg L10_62)
theorem u10_13 : VC C10_13.eq_1 := rfl
def C10_14 : ACode := .seq C10_7 C10_13
theorem u10_14 : VC C10_14.eq_1 := rfl
def C10_15 : ACode := .block 0 (.loop C10_14)
theorem u10_15 : VC C10_15.eq_1 := rfl
def C10_16 : ACode := .seq (.reg L10_35) C10_15
theorem u10_16 : VC C10_16.eq_1 := rfl
def C10_17 : ACode := .seq (.reg L10_71) .ret
theorem u10_17 : VC C10_17.eq_1 := rfl
def C10_18 : ACode := .seq C10_16 C10_17
theorem u10_18 : VC C10_18.eq_1 := rfl
def C10_19 : ACode := .seq (.reg L10_34) C10_18
theorem u10_19 : VC C10_19.eq_1 := rfl
def C10_20 : ACode := .seq C10_5 C10_19
theorem u10_20 : VC C10_20.eq_1 := rfl
def C10_21 : ACode := .seq (.reg L10_18) C10_20
theorem u10_21 : VC C10_21.eq_1 := rfl
def C10_22 : ACode := .seq (.reg L10_13) C10_21
theorem u10_22 : VC C10_22.eq_1 := rfl
def C10_23 : ACode := .seq (.reg L10_8) C10_22
theorem u10_23 : VC C10_23.eq_1 := rfl
def C10_24 : ACode := .seq C10_2 C10_23
theorem u10_24 : VC C10_24.eq_1 := rfl
def C10_25 : ACode := .seq (.reg L10_0) C10_24
theorem u10_25 : VC C10_25.eq_1 := rfl
def F10 : AFunc := ⟨122, [.tmp 2], C10_25⟩
theorem cF10 : compB Try.prog 10 = some F10 := by kernel_rfl
attribute [local go_sem ↓] u10_0 u10_1 u10_2 u10_3 u10_4 u10_5 u10_6 u10_7 u10_8 u10_9 u10_10 u10_11 u10_12 u10_13 u10_14 u10_15 u10_16 u10_17 u10_18 u10_19 u10_20 u10_21 u10_22 u10_23 u10_24 u10_25 v10_0 v10_1 v10_2 v10_3 v10_4 v10_5 v10_6 v10_7 v10_8 v10_9 v10_10 v10_11 v10_12 v10_13 v10_14 v10_15 v10_16 v10_17 v10_18 v10_19 v10_20 v10_21 v10_22 v10_23 v10_24 v10_25 v10_26 v10_27 v10_28 v10_29 v10_30 v10_31 v10_32 v10_33 v10_34 v10_35 v10_36 v10_37 v10_38 v10_39 v10_40 v10_41 v10_42 v10_43 v10_44 v10_45 v10_46 v10_47 v10_48 v10_49 v10_50 v10_51 v10_52 v10_53 v10_54 v10_55 v10_56 v10_57 v10_58 v10_59 v10_60 v10_61 v10_62 v10_63 v10_64 v10_65 v10_66 v10_67 v10_68 v10_69 v10_70 v10_71
theorem law10 (h : H) (avs : List AV) (hok : okVs Try.prog h 6 [ 22 ] avs) : callK (bm Try.prog 10 avs h) fun r _ => r = ib true := by
  obtain ⟨v0, avs, rfl, hv0, hok⟩ := okVs_cons hok
  obtain rfl := okVs_nil hok
  obtain ⟨v, code, rfl, s0, hc, k0⟩ := dBytes hv0
  refine bm_of cF10 ?_
  cases b0 : decide ((code.length : Int) > 1048576) with
  | true => simp +contextual (maxSteps := 2000000) only [go_sem, Nat.reduceEqDiff, reduceCtorEq, Nat.reduceAdd, Nat.reduceLeDiff, F10, s0.len, b0]
  | false =>
  simp +contextual (maxSteps := 2000000) only [go_sem, Nat.reduceEqDiff, reduceCtorEq, Nat.reduceAdd, Nat.reduceLeDiff, F10, s0.len, b0]
  refine wp_call (c_drawPassedFlat code v h s0 hc) ?_
  rintro q h1 ⟨g1, x, u, w, l, f, rfl, zq, zf, tl, mf⟩
  have sg : SlG h1 x l := ⟨zq.sl lenQ⟩
  have sf := zf.sl
  have ml := tl.mini
  simp +contextual (maxSteps := 2000000) only [go_sem, Nat.reduceEqDiff, reduceCtorEq, Nat.reduceAdd, Nat.reduceLeDiff]
  refine wp_call (k_iPassedFlat l f x u w h1 sg sf ml mf) ?_
  rintro r h2 ⟨g2, c, d, rfl, y⟩
  simp +contextual (maxSteps := 2000000) only [go_sem, Nat.reduceEqDiff, reduceCtorEq, Nat.reduceAdd, Nat.reduceLeDiff]
  refine wp_call (k_sPassedFlat l f x u w h2 (sg.grow g2) (sf.grow g2) ml mf) ?_
  rintro r h3 ⟨g3, c2, d2, rfl, y2⟩
  have sg := sg.grow (g2.trans g3)
  have sf := sf.grow (g2.trans g3)
  have so := y.sl.grow g3
  have mp : miniF (passF l f) := .pass
  have eq : bm Try.prog 45 [.agg [c, d], .agg [c2, d2]] h3 = some (ib true, h3) := by
    have := c_equalFlat (passF l f) (passF l f) c d c2 d2 h3 so.pl so.nl y2.sl.pl y2.sl.nl (Nat.le_trans mp.pl (by decide)) (Nat.le_trans mp.nl (by decide))
    rwa [decide_eq_true rfl] at this
  have ebb : ∀ b : Bool, (b == b) = true := fun b => by cases b <;> rfl
  have enb : ∀ b : Bool, (!(b == b)) = false := fun b => by cases b <;> rfl
  cases b1 : passOk l f with
  | false =>
    simp +contextual (maxSteps := 2000000) only [go_sem, Nat.reduceEqDiff, reduceCtorEq, Nat.reduceAdd, Nat.reduceLeDiff, eq, ebb, enb]
    exact gcK_of rfl (fun _ _ => rfl)
  | true =>
  have ep := pass_is b1
  have nm := pass_name b1
  have hn1 := mp.nl
  obtain ⟨ok1, ok2⟩ := pass_fits b1
  have acc : acceptsF l f = true := by unfold passOk at b1; rw [Bool.and_eq_true] at b1; exact b1.1
  have hle : (passF l f).pl.length ≤ f.pl.length := by rw [ep]; simp
  have hdrop : f.pl.drop (f.pl.length - (passF l f).pl.length) = (passF l f).pl := by
    rw [ep]
    simp only [List.length_drop]
    rcases Nat.le_total (places l) f.pl.length with c | c
    · rw [show f.pl.length - (f.pl.length - places l) = places l by omega]
    · rw [List.drop_eq_nil_of_le (by omega), List.drop_eq_nil_of_le c]
  have hsub : IntKind.i64.wrap ((f.pl.length : Int) - ((passF l f).pl.length : Int)) = ((f.pl.length - (passF l f).pl.length : Nat) : Int) := by
    have := mf.pl
    rw [i64_wrap (by omega) (by omega)]
    omega
  have hge : decide (((f.pl.length - (passF l f).pl.length : Nat) : Int) ≥ 0) = true := decide_eq_true (by omega)
  obtain ⟨w', ew, sw, _⟩ := sf.pl.dropB (i := f.pl.length - (passF l f).pl.length) (Nat.sub_le _ _) (kd := .i64)
  obtain ⟨w', rfl⟩ := sw.isOne
  rw [hdrop] at sw
  have ei : bm Try.prog 46 [.one w', .one c] h3 = some (ib true, h3) := by
    have := c_equalInts (passF l f).pl (passF l f).pl _ _ h3 sw so.pl (Nat.le_trans mp.pl (by decide))
    rwa [decide_eq_true rfl] at this
  have ea := k_iAccepts l f x u w h3 sg sf ml mf
  rw [acc] at ea
  simp +contextual (maxSteps := 2000000) only [go_sem, Nat.reduceEqDiff, reduceCtorEq, Nat.reduceAdd, Nat.reduceLeDiff, eq, ebb, enb, so.pl.len, sf.pl.len, hsub]
  refine wpC_loop (fun i T L h' => h' = h3 ∧ T 3 = .lp 3 0 ∧ (L 3).2 = [x] ∧ T 4 = .lp 4 0 ∧ (L 4).2 = [u, w] ∧ T 5 = .lp 5 0 ∧ (L 5).2 = [c, d] ∧ T 9 = .v (.one (.int .i64 ((f.pl.length - (passF l f).pl.length : Nat) : Int))) ∧ T 10 = .v (.one (.int .i64 i))) (passF l f).nl.length ?_ ?_ (Nat.zero_le _) ?_
  · rintro i T L h' hi ⟨rfl, t3, l3, t4, l4, t5, l5, t9, t10⟩
    obtain ⟨n1, n2⟩ := nm _ (List.getElem_mem hi)
    have en := c_namedL f u w (passF l f).nl[i].name h' sf (Nat.le_trans mf.nl (by decide))
    rw [n1] at en
    have ef := c_FindParam l x (passF l f).nl[i].name h' sg ml ok1
    rcases idx_cases (fun p : Param => decide (p.name = (passF l f).nl[i].name)) l with e | ⟨j, hj, e, _⟩
    · have e : paramAt l (passF l f).nl[i].name = -1 := e
      rw [e] at ef
      simp +contextual (maxSteps := 2000000) only [go_sem, Nat.reduceEqDiff, reduceCtorEq, Nat.reduceAdd, Nat.reduceLeDiff, t3, l3, t4, l4, t5, l5, t9, t10, so.nl.len, so.nl.iaddr hi, so.nl.fieldO hi, lt_true hi, ef, en, decide_eq_false (show ¬ ((-1 : Int) ≥ 0) by omega)]
      rw [wrap_next hi (by omega)]
    · have e : paramAt l (passF l f).nl[i].name = j := e
      rw [e] at ef
      have k := n2 j hj e
      simp only [byName, Bool.or_eq_false_iff, decide_eq_false_iff_not] at k
      simp +contextual (maxSteps := 2000000) only [go_sem, Nat.reduceEqDiff, reduceCtorEq, Nat.reduceAdd, Nat.reduceLeDiff, t3, l3, t4, l4, t5, l5, t9, t10, so.nl.len, so.nl.iaddr hi, so.nl.fieldO hi, lt_true hi, ef, en, decide_eq_true (show ((j : Int) ≥ 0) by omega), sg.out.iaddr hj, sg.out.fieldO hj, decide_eq_false k.1, decide_eq_false k.2]
      rw [wrap_next hi (by omega)]
  · rintro T L h' ⟨rfl, t3, l3, t4, l4, t5, l5, t9, t10⟩
    simp +contextual (maxSteps := 2000000) only [go_sem, Nat.reduceEqDiff, reduceCtorEq, Nat.reduceAdd, Nat.reduceLeDiff, t3, l3, t4, l4, t5, l5, t9, t10, so.nl.len, lt_false, hge, ew, ei, ea]
    try exact gcK_of rfl (fun _ _ => rfl)
  · simp +contextual (maxSteps := 2000000) only [go_sem, Nat.reduceEqDiff, reduceCtorEq, Nat.reduceAdd, Nat.reduceLeDiff]
    rfl
end Go.Proofs.Ytekkimfdcbgcoab.Am
