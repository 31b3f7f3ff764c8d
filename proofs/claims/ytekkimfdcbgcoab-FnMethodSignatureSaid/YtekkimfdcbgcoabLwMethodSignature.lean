/- The law FnMethodSignature. -/
import Derived.Test.YtekkimfdcbgcoabMS
import Derived.Test.YtekkimfdcbgcoabPP
namespace Go.Proofs.Ytekkimfdcbgcoab.Am
open Go
attribute [local go_sem] loadL_agg
set_option maxRecDepth 100000
set_option maxHeartbeats 4000000
set_option linter.unusedSimpArgs false
set_option linter.unusedVariables false
attribute [local go_sem ↓] bv_t bv_c ev_t ev_c put_same put_ne put_none kill_at pro_at lb_same lb_ne start_zero start_succ wpC_seq wpC_reg wpC_cond wpC_block wpC_skip wpC_exit wpC_ret thenQ_normal thenQ_exit thenQ_ret inBlk_normal inBlk_exit inBlk_ret wpS_nil wpS_step wpS_again wpS_guard wpO_mov wpO_load wpO_faddr wpO_nilCheck wpO_pick wpO_build wpO_bin wpO_eqb wpO_eqst wpO_eqnil wpO_not wpO_conv wpO_bytesStr wpO_iaddr wpO_idxStr wpO_field wpO_extract wpO_len wpO_lenStr wpO_cap wpO_min wpO_slice wpO_sliceStr wpO_alloc wpO_box wpO_store wpO_call wpO_callv wpO_mkfn wpO_buildSlice wpO_mkslice wpO_append wpO_appz proA_nil proA_cons tmpX_nil tmpX_tmp tmpX_cell doneB_normal doneB_ret agK_cons agK_nil agK_guard agG_tt agG_ff agG_tf agG_ft agG_undef pureB_load results_one results_two results_nil resBs_cons resBs_nil resB_tmp resB_cell
attribute [local go_sem] kill_v kill_lp_ne kill_lp_same pro_v pro_lp_same pro_lp_ne av_v av_lp optB_some optX_some valX_eq ldX_lp ldX_v faX_lp faX_v ncX_lp ncX_ptr ncX_fn boxK_one boxK_agg stL_some stK_lp_one stK_lp_agg stK_v_one stK_v_agg proM_v proM_lp callG_mk callVG_mk callvK_fn fnG_mk ptrsA_nil ptrsA_cons callH_some whenA_true whenA_false guardH_tt guardH_ff guardH_tf guardH_ft guardH_undef agV_one agV_agg lenO_sl lenStrO_str notO_bool pickO_bool convO_int eqbO_bool eqnilO_sl extractO_tup capO_sl minO_int loadL_one loadL_all storeL_eq fillA_nil fillA_one fillA_agg nat_ge neg_ge nat_lt neg_lt buildO bin_add bin_sub bin_mul bin_eql bin_neq bin_lss bin_leq bin_gtr bin_geq str_eql str_neq str_lss str_leq str_gtr str_geq retK_some endK_mk gcK_same gcK_int gcK_bool tupO_one tupO_agg rdy_self ib ii Option.map_none Option.map_some Option.some.injEq exists_eq_left' exists_eq_left ne_eq not_false_eq_true if_true if_false List.map_cons List.map_nil List.getElem?_cons_zero List.getElem?_cons_succ List.length_cons List.length_nil List.take_succ_cons List.take_zero List.take_nil List.drop_succ_cons List.drop_zero List.drop_nil List.cons_append List.nil_append List.append_nil List.set_cons_zero List.set_cons_succ Nat.zero_add forall_const true_and and_true and_self Bool.false_eq_true false_implies true_implies implies_true Bool.not_true Bool.not_false Bool.not_eq_true' Bool.not_eq_false' beq_self_eq_true Bool.bne_true Bool.bne_false
attribute [local go_sem] lenI lenS lenP lenQ lenB lenL lenT encI_0 encS_0 encP_0 encP_1 encQ_0 encQ_1 encQ_2 encQ_3 encB_0 encB_1 encL_0 encL_1 encT_0 encT_1
attribute [local go_sem low] whenA_bool guardH_bool
/-! laws.named -/
def L17_0 : List AStep := [⟨.box 29 (.t 0), (some 2), none, []⟩, ⟨.mov (.c (.bool false)), (some 4), none, []⟩]
theorem v17_0 : VS L17_0.eq_1 := rfl
def L17_1 : List AStep := [⟨.mov (.c (.int .i64 0)), (some 5), none, []⟩]
theorem v17_1 : VS L17_1.eq_1 := rfl
def L17_2 : List AStep := [⟨.bin .lss (.t 6) (.t 9), (some 10), none, []⟩]
theorem v17_2 : VS L17_2.eq_1 := rfl
def L17_3 : List AStep := ⟨.load 1 false (.t 7), (some 8), none, []⟩ :: ⟨.len (.t 8), (some 9), none, []⟩ :: L17_2
theorem v17_3 : VS L17_3.eq_1 := rfl
def L17_4 : List AStep := ⟨.mov (.t 5), (some 6), none, []⟩ :: ⟨.faddr 1 (.t 2), (some 7), none, []⟩ :: L17_3
theorem v17_4 : VS L17_4.eq_1 := rfl
def L17_5 : List AStep := [⟨.mov (.t 1), (some 19), none, []⟩, ⟨.bin .eql (.t 18) (.t 19), (some 20), none, []⟩]
theorem v17_5 : VS L17_5.eq_1 := rfl
def L17_6 : List AStep := ⟨.faddr 0 (.t 16), (some 17), none, []⟩ :: ⟨.load 1 false (.t 17), (some 18), none, []⟩ :: L17_5
theorem v17_6 : VS L17_6.eq_1 := rfl
def L17_7 : List AStep := ⟨.mov (.t 5), (some 15), none, []⟩ :: ⟨.iaddr 2 (.t 14) (.t 15), (some 16), none, []⟩ :: L17_6
theorem v17_7 : VS L17_7.eq_1 := rfl
def L17_8 : List AStep := ⟨.faddr 1 (.t 2), (some 13), none, []⟩ :: ⟨.load 1 false (.t 13), (some 14), none, []⟩ :: L17_7
theorem v17_8 : VS L17_8.eq_1 := rfl
def L17_9 : List AStep := [⟨.mov (.c (.bool true)), (some 4), none, []⟩]
theorem v17_9 : VS L17_9.eq_1 := rfl
def L17_10 : List AStep := [⟨.mov (.t 12), (some 5), none, []⟩]
theorem v17_10 : VS L17_10.eq_1 := rfl
def L17_11 : List AStep := ⟨.mov (.t 5), (some 11), none, []⟩ :: ⟨.bin .add (.t 11) (.c (.int .i64 1)), (some 12), none, []⟩ :: L17_10
theorem v17_11 : VS L17_11.eq_1 := rfl
def L17_12 : List AStep := [⟨.mov (.c (.bool false)), (some 4), none, []⟩]
theorem v17_12 : VS L17_12.eq_1 := rfl
def C17_0 : ACode := .cond (.t 10) .skip (.exit 0)
theorem u17_0 : VC C17_0.eq_1 := rfl
def C17_1 : ACode := .seq (.reg L17_4) C17_0
theorem u17_1 : VC C17_1.eq_1 := rfl
def C17_2 : ACode := .seq (.reg L17_9) .ret
theorem u17_2 : VC C17_2.eq_1 := rfl
def C17_3 : ACode := .cond (.t 20) C17_2 .skip
theorem u17_3 : VC C17_3.eq_1 := rfl
def C17_4 : ACode := .seq (.reg L17_8) C17_3
theorem u17_4 : VC C17_4.eq_1 := rfl
def C17_5 : ACode := .block 1 C17_4
theorem u17_5 : VC C17_5.eq_1 := rfl
def C17_6 : ACode := .seq C17_5 (.reg L17_11)
theorem u17_6 : VC C17_6.eq_1 := rfl
def C17_7 : ACode := .seq C17_1 C17_6
theorem u17_7 : VC C17_7.eq_1 := rfl
def C17_8 : ACode := .block 0 (.loop C17_7)
theorem u17_8 : VC C17_8.eq_1 := rfl
def C17_9 : ACode := .seq (.reg L17_1) C17_8
theorem u17_9 : VC C17_9.eq_1 := rfl
def C17_10 : ACode := .seq (.reg L17_12) .ret
theorem u17_10 : VC C17_10.eq_1 := rfl
def C17_11 : ACode := .seq C17_9 C17_10
theorem u17_11 : VC C17_11.eq_1 := rfl
def C17_12 : ACode := .seq (.reg L17_0) C17_11
theorem u17_12 : VC C17_12.eq_1 := rfl
def F17 : AFunc := ⟨21, [.tmp 4], C17_12⟩
theorem cF17 : compB Try.prog 17 = some F17 := by kernel_rfl
attribute [local go_sem ↓] u17_0 u17_1 u17_2 u17_3 u17_4 u17_5 u17_6 u17_7 u17_8 u17_9 u17_10 u17_11 u17_12 v17_0 v17_1 v17_2 v17_3 v17_4 v17_5 v17_6 v17_7 v17_8 v17_9 v17_10 v17_11 v17_12
theorem c_namedL (f : Flat) (p n : CV) (s : ByteArray) (h : H) (hf : SlF h p n f) (hn : f.nl.length ≤ big) : bm Try.prog 17 [.agg [p, n], .one (.str s)] h = some (ib (hasN f.nl s), h) := by
  refine bm_eq cF17 ?_
  have hl := hf.nl
  simp +contextual (maxSteps := 2000000) only [go_sem, Nat.reduceEqDiff, reduceCtorEq, Nat.reduceAdd, Nat.reduceLeDiff, F17]
  refine wpC_loop (fun i T L h' => h' = h ∧ T 1 = .v (.one (.str s)) ∧ T 2 = .lp 2 0 ∧ (L 2).2 = [p, n] ∧ T 5 = .v (.one (.int .i64 i)) ∧ Pre (fun p : Pair => decide (p.name = s)) false f.nl i) f.nl.length ?_ ?_ (Nat.zero_le _) ?_
  · rintro i T L h' hi ⟨rfl, t1, t2, l2, t5, hp⟩
    cases b : decide (f.nl[i].name = s) with
    | true =>
      have e : hasN f.nl s = true := List.any_eq_true.2 ⟨_, List.getElem_mem hi, b⟩
      simp +contextual (maxSteps := 2000000) only [go_sem, Nat.reduceEqDiff, reduceCtorEq, Nat.reduceAdd, Nat.reduceLeDiff, t1, t2, l2, t5, hl.len, hl.iaddr hi, hl.fieldO hi, lt_true hi, b, e]
    | false =>
      simp +contextual (maxSteps := 2000000) only [go_sem, Nat.reduceEqDiff, reduceCtorEq, Nat.reduceAdd, Nat.reduceLeDiff, t1, t2, l2, t5, hl.len, hl.iaddr hi, hl.fieldO hi, lt_true hi, b]
      exact ⟨by rw [wrap_next hi (big_lt hn)], hp.next hi b⟩
  · rintro T L h' ⟨rfl, t1, t2, l2, t5, hp⟩
    have e : hasN f.nl s = false := List.any_eq_false.2 fun x hx => by
      have := hp.out x (by rw [List.take_length]; exact hx)
      simpa using this
    simp +contextual (maxSteps := 2000000) only [go_sem, Nat.reduceEqDiff, reduceCtorEq, Nat.reduceAdd, Nat.reduceLeDiff, t1, t2, l2, t5, hl.len, lt_false, e]
  · simp +contextual (maxSteps := 2000000) only [go_sem, Nat.reduceEqDiff, reduceCtorEq, Nat.reduceAdd, Nat.reduceLeDiff]
    exact ⟨rfl, Pre.zero⟩
/-! laws.FnMethodSignature -/
def L3_0 : List AStep := [⟨.mov (.c (.bool false)), (some 2), none, []⟩]
theorem v3_0 : VS L3_0.eq_1 := rfl
def L3_1 : List AStep := [⟨.bin .gtr (.t 12) (.c (.int .i64 1048576)), (some 13), none, []⟩]
theorem v3_1 : VS L3_1.eq_1 := rfl
def L3_2 : List AStep := ⟨.mov (.t 0), (some 11), none, []⟩ :: ⟨.len (.t 11), (some 12), none, []⟩ :: L3_1
theorem v3_2 : VS L3_2.eq_1 := rfl
def L3_3 : List AStep := [⟨.mov (.c (.bool true)), (some 2), none, []⟩]
theorem v3_3 : VS L3_3.eq_1 := rfl
def L3_4 : List AStep := [⟨.store 2 (.t 4) (.t 18), none, none, []⟩]
theorem v3_4 : VS L3_4.eq_1 := rfl
def L3_5 : List AStep := ⟨.alloc 29 [(.sl none 0 (some 0)), (.sl none 0 (some 0))], (some 4), none, []⟩ :: ⟨.store 1 (.t 3) (.t 17), none, none, []⟩ :: L3_4
theorem v3_5 : VS L3_5.eq_1 := rfl
def L3_6 : List AStep := ⟨.extract (.t 14) 1, (some 18), none, []⟩ :: ⟨.alloc 25 [(.sl none 0 (some 0))], (some 3), none, []⟩ :: L3_5
theorem v3_6 : VS L3_6.eq_1 := rfl
def L3_7 : List AStep := ⟨.mov (.t 16), (some 14), none, []⟩ :: ⟨.extract (.t 14) 0, (some 17), none, []⟩ :: L3_6
theorem v3_7 : VS L3_7.eq_1 := rfl
def L3_8 : List AStep := ⟨.mov (.t 0), (some 15), none, []⟩ :: ⟨.call 12 [(.t 15)], (some 16), none, []⟩ :: L3_7
theorem v3_8 : VS L3_8.eq_1 := rfl
def L3_9 : List AStep := [⟨.store 1 (.t 5) (.t 22), none, none, []⟩, ⟨.mov (.t 23), (some 6), none, []⟩]
theorem v3_9 : VS L3_9.eq_1 := rfl
def L3_10 : List AStep := ⟨.extract (.t 19) 1, (some 23), none, []⟩ :: ⟨.alloc 25 [(.sl none 0 (some 0))], (some 5), none, []⟩ :: L3_9
theorem v3_10 : VS L3_10.eq_1 := rfl
def L3_11 : List AStep := ⟨.mov (.t 21), (some 19), none, []⟩ :: ⟨.extract (.t 19) 0, (some 22), none, []⟩ :: L3_10
theorem v3_11 : VS L3_11.eq_1 := rfl
def L3_12 : List AStep := ⟨.load 1 true (.t 3), (some 20), none, []⟩ :: ⟨.call 13 [(.t 20)], (some 21), none, []⟩ :: L3_11
theorem v3_12 : VS L3_12.eq_1 := rfl
def L3_13 : List AStep := [⟨.store 1 (.t 7) (.t 27), none, none, []⟩, ⟨.mov (.t 28), (some 8), none, []⟩]
theorem v3_13 : VS L3_13.eq_1 := rfl
def L3_14 : List AStep := ⟨.extract (.t 24) 1, (some 28), none, []⟩ :: ⟨.alloc 25 [(.sl none 0 (some 0))], (some 7), none, []⟩ :: L3_13
theorem v3_14 : VS L3_14.eq_1 := rfl
def L3_15 : List AStep := ⟨.mov (.t 26), (some 24), none, []⟩ :: ⟨.extract (.t 24) 0, (some 27), none, []⟩ :: L3_14
theorem v3_15 : VS L3_15.eq_1 := rfl
def L3_16 : List AStep := ⟨.load 1 true (.t 3), (some 25), none, []⟩ :: ⟨.call 14 [(.t 25)], (some 26), none, []⟩ :: L3_15
theorem v3_16 : VS L3_16.eq_1 := rfl
def L3_17 : List AStep := [⟨.pick (.t 38) (.c (.bool true)) (.t 40), (some 41), none, []⟩]
theorem v3_17 : VS L3_17.eq_1 := rfl
def L3_18 : List AStep := ⟨.mov (.t 6), (some 39), (some (38, false)), []⟩ :: ⟨.not (.t 39), (some 40), (some (38, false)), []⟩ :: L3_17
theorem v3_18 : VS L3_18.eq_1 := rfl
def L3_19 : List AStep := ⟨.pick (.t 33) (.c (.bool true)) (.t 36), (some 37), none, []⟩ :: ⟨.mov (.t 37), (some 38), none, []⟩ :: L3_18
theorem v3_19 : VS L3_19.eq_1 := rfl
def L3_20 : List AStep := ⟨.mov (.t 8), (some 35), (some (33, false)), []⟩ :: ⟨.eqb true (.t 34) (.t 35), (some 36), (some (33, false)), []⟩ :: L3_19
theorem v3_20 : VS L3_20.eq_1 := rfl
def L3_21 : List AStep := ⟨.mov (.t 32), (some 33), none, []⟩ :: ⟨.mov (.t 6), (some 34), (some (33, false)), []⟩ :: L3_20
theorem v3_21 : VS L3_21.eq_1 := rfl
def L3_22 : List AStep := ⟨.call 15 [(.t 29), (.t 30)], (some 31), none, []⟩ :: ⟨.not (.t 31), (some 32), none, []⟩ :: L3_21
theorem v3_22 : VS L3_22.eq_1 := rfl
def L3_23 : List AStep := ⟨.load 1 true (.t 5), (some 29), none, []⟩ :: ⟨.load 1 true (.t 7), (some 30), none, []⟩ :: L3_22
theorem v3_23 : VS L3_23.eq_1 := rfl
def L3_24 : List AStep := [⟨.mov (.t 49), (some 2), none, []⟩]
theorem v3_24 : VS L3_24.eq_1 := rfl
def L3_25 : List AStep := ⟨.eqb false (.t 46) (.t 47), (some 48), (some (45, true)), []⟩ :: ⟨.pick (.t 45) (.t 48) (.c (.bool false)), (some 49), none, []⟩ :: L3_24
theorem v3_25 : VS L3_25.eq_1 := rfl
def L3_26 : List AStep := ⟨.mov (.t 6), (some 46), (some (45, true)), []⟩ :: ⟨.mov (.t 8), (some 47), (some (45, true)), []⟩ :: L3_25
theorem v3_26 : VS L3_26.eq_1 := rfl
def L3_27 : List AStep := ⟨.call 15 [(.t 42), (.t 43)], (some 44), none, []⟩ :: ⟨.mov (.t 44), (some 45), none, []⟩ :: L3_26
theorem v3_27 : VS L3_27.eq_1 := rfl
def L3_28 : List AStep := ⟨.load 1 true (.t 5), (some 42), none, []⟩ :: ⟨.load 1 true (.t 7), (some 43), none, []⟩ :: L3_27
theorem v3_28 : VS L3_28.eq_1 := rfl
def L3_29 : List AStep := [⟨.store 2 (.t 9) (.t 53), none, none, []⟩, ⟨.mov (.t 54), (some 10), none, []⟩]
theorem v3_29 : VS L3_29.eq_1 := rfl
def L3_30 : List AStep := ⟨.extract (.t 50) 1, (some 54), none, []⟩ :: ⟨.alloc 29 [(.sl none 0 (some 0)), (.sl none 0 (some 0))], (some 9), none, []⟩ :: L3_29
theorem v3_30 : VS L3_30.eq_1 := rfl
def L3_31 : List AStep := ⟨.mov (.t 52), (some 50), none, []⟩ :: ⟨.extract (.t 50) 0, (some 53), none, []⟩ :: L3_30
theorem v3_31 : VS L3_31.eq_1 := rfl
def L3_32 : List AStep := ⟨.load 2 true (.t 4), (some 51), none, []⟩ :: ⟨.call 16 [(.c (.int .i64 7)), (.t 51)], (some 52), none, []⟩ :: L3_31
theorem v3_32 : VS L3_32.eq_1 := rfl
def L3_33 : List AStep := [⟨.pick (.t 57) (.c (.bool true)) (.t 64), (some 65), none, []⟩]
theorem v3_33 : VS L3_33.eq_1 := rfl
def L3_34 : List AStep := ⟨.load 1 false (.t 62), (some 63), (some (57, false)), []⟩ :: ⟨.call 17 [(.t 58), (.t 63)], (some 64), (some (57, false)), []⟩ :: L3_33
theorem v3_34 : VS L3_34.eq_1 := rfl
def L3_35 : List AStep := ⟨.iaddr 4 (.t 60) (.c (.int .i64 0)), (some 61), (some (57, false)), []⟩ :: ⟨.faddr 0 (.t 61), (some 62), (some (57, false)), []⟩ :: L3_34
theorem v3_35 : VS L3_35.eq_1 := rfl
def L3_36 : List AStep := ⟨.faddr 0 (.t 3), (some 59), (some (57, false)), []⟩ :: ⟨.load 1 false (.t 59), (some 60), (some (57, false)), []⟩ :: L3_35
theorem v3_36 : VS L3_36.eq_1 := rfl
def L3_37 : List AStep := ⟨.mov (.t 56), (some 57), none, []⟩ :: ⟨.load 2 true (.t 4), (some 58), (some (57, false)), []⟩ :: L3_36
theorem v3_37 : VS L3_37.eq_1 := rfl
def L3_38 : List AStep := ⟨.mov (.t 10), (some 55), none, []⟩ :: ⟨.not (.t 55), (some 56), none, []⟩ :: L3_37
theorem v3_38 : VS L3_38.eq_1 := rfl
def L3_39 : List AStep := [⟨.mov (.c (.bool true)), (some 2), none, []⟩]
theorem v3_39 : VS L3_39.eq_1 := rfl
def L3_40 : List AStep := [⟨.eqb false (.t 68) (.t 71), (some 72), none, []⟩, ⟨.mov (.t 72), (some 2), none, []⟩]
theorem v3_40 : VS L3_40.eq_1 := rfl
def L3_41 : List AStep := ⟨.call 18 [(.t 66), (.t 67)], (some 68), none, [(.load 1 true (.t 3), (some 69), none), (.load 2 true (.t 9), (some 70), none)]⟩ :: ⟨.call 18 [(.t 69), (.t 70)], (some 71), none, []⟩ :: L3_40
theorem v3_41 : VS L3_41.eq_1 := rfl
def L3_42 : List AStep := ⟨.load 1 true (.t 3), (some 69), none, []⟩ :: ⟨.load 2 true (.t 9), (some 70), none, []⟩ :: L3_41
theorem v3_42 : VS L3_42.eq_1 := rfl
def L3_43 : List AStep := ⟨.load 1 true (.t 5), (some 66), none, []⟩ :: ⟨.load 2 true (.t 4), (some 67), none, []⟩ :: L3_42
theorem v3_43 : VS L3_43.eq_1 := rfl
def C3_0 : ACode := .seq (.reg L3_3) .ret
theorem u3_0 : VC C3_0.eq_1 := rfl
def C3_1 : ACode := .cond (.t 13) C3_0 .skip
theorem u3_1 : VC C3_1.eq_1 := rfl
def C3_2 : ACode := .seq (.reg L3_2) C3_1
theorem u3_2 : VC C3_2.eq_1 := rfl
def C3_3 : ACode := .seq (.reg L3_28) .ret
theorem u3_3 : VC C3_3.eq_1 := rfl
def C3_4 : ACode := .cond (.t 41) C3_3 .skip
theorem u3_4 : VC C3_4.eq_1 := rfl
def C3_5 : ACode := .seq (.reg L3_23) C3_4
theorem u3_5 : VC C3_5.eq_1 := rfl
def C3_6 : ACode := .seq (.reg L3_39) .ret
theorem u3_6 : VC C3_6.eq_1 := rfl
def C3_7 : ACode := .cond (.t 65) C3_6 .skip
theorem u3_7 : VC C3_7.eq_1 := rfl
def C3_8 : ACode := .seq (.reg L3_38) C3_7
theorem u3_8 : VC C3_8.eq_1 := rfl
def C3_9 : ACode := .seq (.reg L3_43) .ret
theorem u3_9 : VC C3_9.eq_1 := rfl
def C3_10 : ACode := .seq C3_8 C3_9
theorem u3_10 : VC C3_10.eq_1 := rfl
def C3_11 : ACode := .seq (.reg L3_32) C3_10
theorem u3_11 : VC C3_11.eq_1 := rfl
def C3_12 : ACode := .seq C3_5 C3_11
theorem u3_12 : VC C3_12.eq_1 := rfl
def C3_13 : ACode := .seq (.reg L3_16) C3_12
theorem u3_13 : VC C3_13.eq_1 := rfl
def C3_14 : ACode := .seq (.reg L3_12) C3_13
theorem u3_14 : VC C3_14.eq_1 := rfl
def C3_15 : ACode := .seq (.reg L3_8) C3_14
theorem u3_15 : VC C3_15.eq_1 := rfl
def C3_16 : ACode := .seq C3_2 C3_15
theorem u3_16 : VC C3_16.eq_1 := rfl
def C3_17 : ACode := .seq (.reg L3_0) C3_16
theorem u3_17 : VC C3_17.eq_1 := rfl
def F3 : AFunc := ⟨73, [.tmp 2], C3_17⟩
theorem cF3 : compB Try.prog 3 = some F3 := by kernel_rfl
attribute [local go_sem ↓] u3_0 u3_1 u3_2 u3_3 u3_4 u3_5 u3_6 u3_7 u3_8 u3_9 u3_10 u3_11 u3_12 u3_13 u3_14 u3_15 u3_16 u3_17 v3_0 v3_1 v3_2 v3_3 v3_4 v3_5 v3_6 v3_7 v3_8 v3_9 v3_10 v3_11 v3_12 v3_13 v3_14 v3_15 v3_16 v3_17 v3_18 v3_19 v3_20 v3_21 v3_22 v3_23 v3_24 v3_25 v3_26 v3_27 v3_28 v3_29 v3_30 v3_31 v3_32 v3_33 v3_34 v3_35 v3_36 v3_37 v3_38 v3_39 v3_40 v3_41 v3_42 v3_43
theorem law3 (h : H) (avs : List AV) (hok : okVs Try.prog h 6 [ 22 ] avs) : callK (bm Try.prog 3 avs h) fun r _ => r = ib true := by
  obtain ⟨v0, avs, rfl, hv0, hok⟩ := okVs_cons hok
  obtain rfl := okVs_nil hok
  obtain ⟨v, code, rfl, s0, hc, k0⟩ := dBytes hv0
  refine bm_of cF3 ?_
  cases b0 : decide ((code.length : Int) > 1048576) with
  | true => simp +contextual (maxSteps := 2000000) only [go_sem, Nat.reduceEqDiff, reduceCtorEq, Nat.reduceAdd, Nat.reduceLeDiff, F3, s0.len, b0]
  | false =>
  simp +contextual (maxSteps := 2000000) only [go_sem, Nat.reduceEqDiff, reduceCtorEq, Nat.reduceAdd, Nat.reduceLeDiff, F3, s0.len, b0]
  refine wp_call (c_drawAccepts code v h s0 hc) ?_
  rintro q h1 ⟨g1, x, u, w, l, f, rfl, zq, zf, tl, mf⟩
  have sg : SlG h1 x l := ⟨zq.sl lenQ⟩
  have sf := zf.sl
  have ml := tl.mini
  simp +contextual (maxSteps := 2000000) only [go_sem, Nat.reduceEqDiff, reduceCtorEq, Nat.reduceAdd, Nat.reduceLeDiff]
  refine wp_call (k_iMethodSignature l x h1 sg ml) ?_
  rintro r h2 ⟨g2, c, rfl, y⟩
  simp +contextual (maxSteps := 2000000) only [go_sem, Nat.reduceEqDiff, reduceCtorEq, Nat.reduceAdd, Nat.reduceLeDiff]
  refine wp_call (k_sMethodSignature l x h2 (sg.grow g2) ml) ?_
  rintro r h3 ⟨g3, c2, rfl, y2⟩
  have sg := sg.grow (g2.trans g3)
  have sf := sf.grow (g2.trans g3)
  have so : SlG h3 c (methF l) := ⟨(y.sl lenQ).grow g3⟩
  have mw : miniG (methF l) := ml.meth
  have eq : bm Try.prog 15 [.agg [c], .agg [c2]] h3 = some (ib true, h3) := by
    have := c_equalSignature (methF l) (methF l) c c2 h3 so.out (y2.sl lenQ) (Nat.le_trans mw.len (by decide))
    rwa [decide_eq_true rfl] at this
  have ebb : ∀ b : Bool, (b == b) = true := fun b => by cases b <;> rfl
  have enb : ∀ b : Bool, (!(b == b)) = false := fun b => by cases b <;> rfl
  cases b1 : methOk l with
  | false =>
    simp +contextual (maxSteps := 2000000) only [go_sem, Nat.reduceEqDiff, reduceCtorEq, Nat.reduceAdd, Nat.reduceLeDiff, eq, ebb, enb]
    exact gcK_of rfl (fun _ _ => rfl)
  | true =>
  obtain ⟨a, t, rfl, ok, ha, em⟩ := meth_parts b1
  rw [em] at so mw
  simp +contextual (maxSteps := 2000000) only [go_sem, Nat.reduceEqDiff, reduceCtorEq, Nat.reduceAdd, Nat.reduceLeDiff, eq, ebb, enb]
  refine wp_call (k_iMethodFlat 7 f u w h3 sf mf) ?_
  rintro r h4 ⟨g4, p', n', rfl, z⟩
  have sg4 := sg.grow g4
  have sf4 := sf.grow g4
  have so4 := so.grow g4
  cases b2 : okFlat f && okFlat ⟨7 :: f.pl, f.nl⟩ with
  | false =>
    simp +contextual (maxSteps := 2000000) only [go_sem, Nat.reduceEqDiff, reduceCtorEq, Nat.reduceAdd, Nat.reduceLeDiff]
    try exact gcK_of rfl (fun _ _ => rfl)
  | true =>
  rw [b2, if_pos rfl] at z
  rw [Bool.and_eq_true] at b2
  have hi : 0 < (a :: t).length := Nat.succ_pos _
  have ei : iaddrO 4 (.one x) (.one (.int .i64 0)) = some (.one (.ptr (some (elem 4 (.one x) 0)))) := sg4.out.iaddr hi
  have ew := sg4.out.fieldO (off := 0) hi (by omega)
  have en := c_namedL f u w a.name h4 sf4 (Nat.le_trans mf.nl (by decide))
  simp only [List.getElem_cons_zero] at ew
  cases b3 : hasN f.nl a.name with
  | true =>
    rw [b3] at en
    simp +contextual (maxSteps := 2000000) only [go_sem, Nat.reduceEqDiff, reduceCtorEq, Nat.reduceAdd, Nat.reduceLeDiff, ei, ew, en]
    try exact gcK_of rfl (fun _ _ => rfl)
  | false =>
    rw [b3] at en
    have hn : ∀ p ∈ f.nl, ¬ p.name = a.name := fun p hp e => by
      have := List.any_eq_false.1 b3 p hp
      simp [e] at this
    have e1 := k_iAccepts t f c u w h4 so4 sf4 mw mf
    have mg : miniF ⟨7 :: f.pl, f.nl⟩ := .of b2.2
    have e2 := k_iAccepts (a :: t) ⟨7 :: f.pl, f.nl⟩ x p' n' h4 sg4 z.sl ml mg
    rw [← method_accepts ok ha b2.1 b2.2 hn] at e2
    simp +contextual (maxSteps := 2000000) only [go_sem, Nat.reduceEqDiff, reduceCtorEq, Nat.reduceAdd, Nat.reduceLeDiff, ei, ew, en, e1, e2, ebb]
    try exact gcK_of rfl (fun _ _ => rfl)
end Go.Proofs.Ytekkimfdcbgcoab.Am
