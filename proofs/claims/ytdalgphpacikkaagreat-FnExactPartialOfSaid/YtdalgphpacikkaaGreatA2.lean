/- Contracts of the reference: signatures. -/
import Derived.Test.YtdalgphpacikkaaGreatA1
namespace Go.Proofs.YtdalgphpacikkaaGreat.Am
open Go
set_option maxRecDepth 100000
set_option maxHeartbeats 4000000
set_option linter.unusedSimpArgs false
set_option linter.unusedVariables false
attribute [local go_sem ↓] bv_t bv_c ev_t ev_c put_same put_ne put_none kill_at pro_at lb_same lb_ne start_zero start_succ wpC_seq wpC_reg wpC_cond wpC_block wpC_skip wpC_exit wpC_ret thenQ_normal thenQ_exit thenQ_ret inBlk_normal inBlk_exit inBlk_ret wpS_nil wpS_step wpS_again wpS_guard wpO_mov wpO_load wpO_faddr wpO_nilCheck wpO_pick wpO_build wpO_bin wpO_eqb wpO_eqst wpO_eqnil wpO_not wpO_conv wpO_bytesStr wpO_iaddr wpO_idxStr wpO_field wpO_extract wpO_len wpO_lenStr wpO_cap wpO_min wpO_slice wpO_sliceStr wpO_alloc wpO_box wpO_store wpO_call wpO_callv wpO_mkfn wpO_buildSlice wpO_mkslice wpO_append wpO_appz proA_nil proA_cons tmpX_nil tmpX_tmp tmpX_cell doneB_normal doneB_ret agK_cons agK_nil agK_guard agG_tt agG_ff agG_tf agG_ft agG_undef pureB_load results_one results_two results_nil resBs_cons resBs_nil resB_tmp resB_cell
attribute [local go_sem] kill_v kill_lp_ne kill_lp_same pro_v pro_lp_same pro_lp_ne av_v av_lp optB_some optX_some valX_eq ldX_lp ldX_v faX_lp faX_v ncX_lp ncX_ptr ncX_fn boxK_one boxK_agg stL_some stK_lp_one stK_lp_agg stK_v_one stK_v_agg proM_v proM_lp callG_mk callVG_mk callvK_fn fnG_mk ptrsA_nil ptrsA_cons callH_some whenA_true whenA_false guardH_tt guardH_ff guardH_tf guardH_ft guardH_undef agV_one agV_agg lenO_sl lenStrO_str notO_bool pickO_bool convO_int eqbO_bool eqnilO_sl extractO_tup capO_sl minO_int loadL_one loadL_all storeL_eq fillA_nil fillA_one fillA_agg nat_ge neg_ge nat_lt neg_lt buildO bin_add bin_sub bin_mul bin_eql bin_neq bin_lss bin_leq bin_gtr bin_geq str_eql str_neq str_lss str_leq str_gtr str_geq retK_some endK_mk gcK_same gcK_int gcK_bool tupO_one tupO_agg rdy_self ib ii Option.map_none Option.map_some Option.some.injEq exists_eq_left' exists_eq_left ne_eq not_false_eq_true if_true if_false List.map_cons List.map_nil List.getElem?_cons_zero List.getElem?_cons_succ List.length_cons List.length_nil List.take_succ_cons List.take_zero List.take_nil List.drop_succ_cons List.drop_zero List.drop_nil List.cons_append List.nil_append List.append_nil List.set_cons_zero List.set_cons_succ Nat.zero_add forall_const true_and and_true and_self Bool.false_eq_true false_implies true_implies implies_true Bool.not_true Bool.not_false Bool.not_eq_true' Bool.not_eq_false' beq_self_eq_true Bool.bne_true Bool.bne_false
attribute [local go_sem] lenI lenS lenP lenQ lenB lenL lenT encI_0 encS_0 encP_0 encP_1 encQ_0 encQ_1 encQ_2 encQ_3 encB_0 encB_1 encL_0 encL_1 encT_0 encT_1
attribute [local go_sem low] whenA_bool guardH_bool
/-! spec.validParam -/
def L83_0 : List AStep := [⟨.box 79 (.t 0), (some 1), none, []⟩, ⟨.mov (.c (.bool false)), (some 2), none, []⟩]
theorem v83_0 : VS L83_0.eq_1 := rfl
def L83_1 : List AStep := [⟨.pick (.t 25) (.t 32) (.c (.bool false)), (some 33), none, []⟩, ⟨.mov (.t 33), (some 2), none, []⟩]
theorem v83_1 : VS L83_1.eq_1 := rfl
def L83_2 : List AStep := ⟨.not (.t 30), (some 31), (some (28, false)), []⟩ :: ⟨.pick (.t 28) (.c (.bool true)) (.t 31), (some 32), (some (25, true)), []⟩ :: L83_1
theorem v83_2 : VS L83_2.eq_1 := rfl
def L83_3 : List AStep := ⟨.faddr 2 (.t 1), (some 29), (some (28, false)), []⟩ :: ⟨.load 1 false (.t 29), (some 30), (some (28, false)), []⟩ :: L83_2
theorem v83_3 : VS L83_3.eq_1 := rfl
def L83_4 : List AStep := ⟨.call 84 [(.t 26)], (some 27), (some (25, true)), []⟩ :: ⟨.mov (.t 27), (some 28), (some (25, true)), []⟩ :: L83_3
theorem v83_4 : VS L83_4.eq_1 := rfl
def L83_5 : List AStep := ⟨.mov (.t 24), (some 25), none, []⟩ :: ⟨.load 4 true (.t 1), (some 26), (some (25, true)), []⟩ :: L83_4
theorem v83_5 : VS L83_5.eq_1 := rfl
def L83_6 : List AStep := ⟨.pick (.t 19) (.c (.bool true)) (.t 22), (some 23), (some (16, true)), []⟩ :: ⟨.pick (.t 16) (.t 23) (.c (.bool false)), (some 24), none, []⟩ :: L83_5
theorem v83_6 : VS L83_6.eq_1 := rfl
def L83_7 : List AStep := ⟨.load 1 false (.t 20), (some 21), (some (19, false)), []⟩ :: ⟨.bin .eql (.t 21) (.c (.int .i64 0)), (some 22), (some (19, false)), []⟩ :: L83_6
theorem v83_7 : VS L83_7.eq_1 := rfl
def L83_8 : List AStep := ⟨.mov (.t 18), (some 19), (some (16, true)), []⟩ :: ⟨.faddr 3 (.t 1), (some 20), (some (19, false)), []⟩ :: L83_7
theorem v83_8 : VS L83_8.eq_1 := rfl
def L83_9 : List AStep := ⟨.faddr 2 (.t 1), (some 17), (some (16, true)), []⟩ :: ⟨.load 1 false (.t 17), (some 18), (some (16, true)), []⟩ :: L83_8
theorem v83_9 : VS L83_9.eq_1 := rfl
def L83_10 : List AStep := ⟨.pick (.t 11) (.t 14) (.c (.bool false)), (some 15), none, []⟩ :: ⟨.mov (.t 15), (some 16), none, []⟩ :: L83_9
theorem v83_10 : VS L83_10.eq_1 := rfl
def L83_11 : List AStep := ⟨.load 1 false (.t 12), (some 13), (some (11, true)), []⟩ :: ⟨.call 85 [(.t 13)], (some 14), (some (11, true)), []⟩ :: L83_10
theorem v83_11 : VS L83_11.eq_1 := rfl
def L83_12 : List AStep := ⟨.mov (.t 10), (some 11), none, []⟩ :: ⟨.faddr 3 (.t 1), (some 12), (some (11, true)), []⟩ :: L83_11
theorem v83_12 : VS L83_12.eq_1 := rfl
def L83_13 : List AStep := ⟨.call 97 [(.t 8), (.c (.int .i64 0)), (.c (.int .i64 4))], (some 9), (some (6, true)), []⟩ :: ⟨.pick (.t 6) (.t 9) (.c (.bool false)), (some 10), none, []⟩ :: L83_12
theorem v83_13 : VS L83_13.eq_1 := rfl
def L83_14 : List AStep := ⟨.faddr 1 (.t 1), (some 7), (some (6, true)), []⟩ :: ⟨.load 1 false (.t 7), (some 8), (some (6, true)), []⟩ :: L83_13
theorem v83_14 : VS L83_14.eq_1 := rfl
def L83_15 : List AStep := ⟨.call 86 [(.t 4)], (some 5), none, []⟩ :: ⟨.mov (.t 5), (some 6), none, []⟩ :: L83_14
theorem v83_15 : VS L83_15.eq_1 := rfl
def L83_16 : List AStep := ⟨.faddr 0 (.t 1), (some 3), none, []⟩ :: ⟨.load 1 false (.t 3), (some 4), none, []⟩ :: L83_15
theorem v83_16 : VS L83_16.eq_1 := rfl
def C83_0 : ACode := .seq (.reg L83_16) .ret
theorem u83_0 : VC C83_0.eq_1 := rfl
def C83_1 : ACode := .seq (.reg L83_0) C83_0
theorem u83_1 : VC C83_1.eq_1 := rfl
def F83 : AFunc := ⟨34, [.tmp 2], C83_1⟩
theorem cF83 : compB Tryz.prog 83 = some F83 := by kernel_rfl
attribute [local go_sem ↓] u83_0 u83_1 v83_0 v83_1 v83_2 v83_3 v83_4 v83_5 v83_6 v83_7 v83_8 v83_9 v83_10 v83_11 v83_12 v83_13 v83_14 v83_15 v83_16
theorem c_validParam (p : Param) (h : H) (hn : p.name.size < 2 ^ 62) : bm Tryz.prog 83 [.agg (encQ p)] h = some (ib (okParam p), h) := by
  refine bm_eq cF83 ?_
  simp +contextual (maxSteps := 2000000) only [go_sem, Nat.reduceEqDiff, reduceCtorEq, Nat.reduceAdd, Nat.reduceLeDiff, F83, c_validName _ _ hn, c_inRange, c_validNumber, c_isSingle, okParam]
  (repeat' (first | refine And.intro ?_ ?_ | intro _)) <;> first | simp_all
/-! spec.findParam -/
def L74_0 : List AStep := [⟨.mov (.c (.int .i64 0)), (some 4), none, []⟩]
theorem v74_0 : VS L74_0.eq_1 := rfl
def L74_1 : List AStep := [⟨.mov (.c (.int .i64 0)), (some 5), none, []⟩]
theorem v74_1 : VS L74_1.eq_1 := rfl
def L74_2 : List AStep := [⟨.len (.t 7), (some 8), none, []⟩, ⟨.bin .lss (.t 6) (.t 8), (some 9), none, []⟩]
theorem v74_2 : VS L74_2.eq_1 := rfl
def L74_3 : List AStep := ⟨.mov (.t 5), (some 6), none, []⟩ :: ⟨.mov (.t 0), (some 7), none, []⟩ :: L74_2
theorem v74_3 : VS L74_3.eq_1 := rfl
def L74_4 : List AStep := [⟨.bin .eql (.t 16) (.t 17), (some 18), none, []⟩]
theorem v74_4 : VS L74_4.eq_1 := rfl
def L74_5 : List AStep := ⟨.load 1 false (.t 15), (some 16), none, []⟩ :: ⟨.mov (.t 1), (some 17), none, []⟩ :: L74_4
theorem v74_5 : VS L74_5.eq_1 := rfl
def L74_6 : List AStep := ⟨.iaddr 4 (.t 12) (.t 13), (some 14), none, []⟩ :: ⟨.faddr 0 (.t 14), (some 15), none, []⟩ :: L74_5
theorem v74_6 : VS L74_6.eq_1 := rfl
def L74_7 : List AStep := ⟨.mov (.t 0), (some 12), none, []⟩ :: ⟨.mov (.t 5), (some 13), none, []⟩ :: L74_6
theorem v74_7 : VS L74_7.eq_1 := rfl
def L74_8 : List AStep := [⟨.mov (.t 5), (some 19), none, []⟩, ⟨.mov (.t 19), (some 4), none, []⟩]
theorem v74_8 : VS L74_8.eq_1 := rfl
def L74_9 : List AStep := [⟨.mov (.t 11), (some 5), none, []⟩]
theorem v74_9 : VS L74_9.eq_1 := rfl
def L74_10 : List AStep := ⟨.mov (.t 5), (some 10), none, []⟩ :: ⟨.bin .add (.t 10) (.c (.int .i64 1)), (some 11), none, []⟩ :: L74_9
theorem v74_10 : VS L74_10.eq_1 := rfl
def L74_11 : List AStep := [⟨.mov (.c (.int .i64 (-1))), (some 4), none, []⟩]
theorem v74_11 : VS L74_11.eq_1 := rfl
def C74_0 : ACode := .cond (.t 9) .skip (.exit 0)
theorem u74_0 : VC C74_0.eq_1 := rfl
def C74_1 : ACode := .seq (.reg L74_3) C74_0
theorem u74_1 : VC C74_1.eq_1 := rfl
def C74_2 : ACode := .seq (.reg L74_8) .ret
theorem u74_2 : VC C74_2.eq_1 := rfl
def C74_3 : ACode := .cond (.t 18) C74_2 .skip
theorem u74_3 : VC C74_3.eq_1 := rfl
def C74_4 : ACode := .seq (.reg L74_7) C74_3
theorem u74_4 : VC C74_4.eq_1 := rfl
def C74_5 : ACode := .block 1 C74_4
theorem u74_5 : VC C74_5.eq_1 := rfl
def C74_6 : ACode := .seq C74_5 (.reg L74_10)
theorem u74_6 : VC C74_6.eq_1 := rfl
def C74_7 : ACode := .seq C74_1 C74_6
theorem u74_7 : VC C74_7.eq_1 := rfl
def C74_8 : ACode := .block 0 (.loop C74_7)
theorem u74_8 : VC C74_8.eq_1 := rfl
def C74_9 : ACode := .seq (.reg L74_1) C74_8
theorem u74_9 : VC C74_9.eq_1 := rfl
def C74_10 : ACode := .seq (.reg L74_11) .ret
theorem u74_10 : VC C74_10.eq_1 := rfl
def C74_11 : ACode := .seq C74_9 C74_10
theorem u74_11 : VC C74_11.eq_1 := rfl
def C74_12 : ACode := .seq (.reg L74_0) C74_11
theorem u74_12 : VC C74_12.eq_1 := rfl
def F74 : AFunc := ⟨20, [.tmp 4], C74_12⟩
theorem cF74 : compB Tryz.prog 74 = some F74 := by kernel_rfl
attribute [local go_sem ↓] u74_0 u74_1 u74_2 u74_3 u74_4 u74_5 u74_6 u74_7 u74_8 u74_9 u74_10 u74_11 u74_12 v74_0 v74_1 v74_2 v74_3 v74_4 v74_5 v74_6 v74_7 v74_8 v74_9 v74_10 v74_11
theorem c_findParam (l : List Param) (v : AV) (s : ByteArray) (h : H) (hl : SlQ h v l) (hn : smQ l) : bm Tryz.prog 74 [v, .one (.str s)] h = some (ii (paramAt l s), h) := by
  refine bm_eq cF74 ?_
  simp +contextual (maxSteps := 2000000) only [go_sem, Nat.reduceEqDiff, reduceCtorEq, Nat.reduceAdd, Nat.reduceLeDiff, F74]
  refine wpC_loop (fun i T L h' => h' = h ∧ T 0 = .v v ∧ T 1 = .v (.one (.str s)) ∧ T 5 = .v (.one (.int .i64 i)) ∧ Pre (fun p => decide (p.name = s)) false l i) l.length ?_ ?_ (Nat.zero_le _) ?_
  · rintro i T L h' hi ⟨rfl, h0, h1, h3, hp⟩
    simp +contextual (maxSteps := 2000000) only [go_sem, Nat.reduceEqDiff, reduceCtorEq, Nat.reduceAdd, Nat.reduceLeDiff, h0, h1, h3, hl.len, hl.iaddr hi, hl.fieldO hi, lt_true hi]
    (repeat' (first | refine And.intro ?_ ?_ | intro _)) <;> first | rfl | rw [wrap_next hi hn.len] | exact hp.next hi ‹_› | rw [paramAt, idx_hit hi hp ‹_›]
  · rintro T L h' ⟨rfl, h0, h1, h3, hp⟩
    simp +contextual (maxSteps := 2000000) only [go_sem, Nat.reduceEqDiff, reduceCtorEq, Nat.reduceAdd, Nat.reduceLeDiff, h0, h1, h3, hl.len, lt_false, paramAt, idx_none hp]
  · simp +contextual (maxSteps := 2000000) only [go_sem, Nat.reduceEqDiff, reduceCtorEq, Nat.reduceAdd, Nat.reduceLeDiff]
    (repeat' (first | refine And.intro ?_ ?_ | intro _)) <;> first | rfl | exact Pre.zero
/-! spec.kindAt -/
def L57_0 : List AStep := [⟨.mov (.c (.int .i64 0)), (some 4), none, []⟩]
theorem v57_0 : VS L57_0.eq_1 := rfl
def L57_1 : List AStep := [⟨.mov (.c (.int .i64 0)), (some 5), none, []⟩]
theorem v57_1 : VS L57_1.eq_1 := rfl
def L57_2 : List AStep := [⟨.len (.t 7), (some 8), none, []⟩, ⟨.bin .lss (.t 6) (.t 8), (some 9), none, []⟩]
theorem v57_2 : VS L57_2.eq_1 := rfl
def L57_3 : List AStep := ⟨.mov (.t 5), (some 6), none, []⟩ :: ⟨.mov (.t 0), (some 7), none, []⟩ :: L57_2
theorem v57_3 : VS L57_3.eq_1 := rfl
def L57_4 : List AStep := [⟨.bin .eql (.t 16) (.t 17), (some 18), none, []⟩]
theorem v57_4 : VS L57_4.eq_1 := rfl
def L57_5 : List AStep := ⟨.load 1 false (.t 15), (some 16), none, []⟩ :: ⟨.mov (.t 1), (some 17), none, []⟩ :: L57_4
theorem v57_5 : VS L57_5.eq_1 := rfl
def L57_6 : List AStep := ⟨.iaddr 4 (.t 12) (.t 13), (some 14), none, []⟩ :: ⟨.faddr 1 (.t 14), (some 15), none, []⟩ :: L57_5
theorem v57_6 : VS L57_6.eq_1 := rfl
def L57_7 : List AStep := ⟨.mov (.t 0), (some 12), none, []⟩ :: ⟨.mov (.t 5), (some 13), none, []⟩ :: L57_6
theorem v57_7 : VS L57_7.eq_1 := rfl
def L57_8 : List AStep := [⟨.mov (.t 5), (some 19), none, []⟩, ⟨.mov (.t 19), (some 4), none, []⟩]
theorem v57_8 : VS L57_8.eq_1 := rfl
def L57_9 : List AStep := [⟨.mov (.t 11), (some 5), none, []⟩]
theorem v57_9 : VS L57_9.eq_1 := rfl
def L57_10 : List AStep := ⟨.mov (.t 5), (some 10), none, []⟩ :: ⟨.bin .add (.t 10) (.c (.int .i64 1)), (some 11), none, []⟩ :: L57_9
theorem v57_10 : VS L57_10.eq_1 := rfl
def L57_11 : List AStep := [⟨.mov (.c (.int .i64 (-1))), (some 4), none, []⟩]
theorem v57_11 : VS L57_11.eq_1 := rfl
def C57_0 : ACode := .cond (.t 9) .skip (.exit 0)
theorem u57_0 : VC C57_0.eq_1 := rfl
def C57_1 : ACode := .seq (.reg L57_3) C57_0
theorem u57_1 : VC C57_1.eq_1 := rfl
def C57_2 : ACode := .seq (.reg L57_8) .ret
theorem u57_2 : VC C57_2.eq_1 := rfl
def C57_3 : ACode := .cond (.t 18) C57_2 .skip
theorem u57_3 : VC C57_3.eq_1 := rfl
def C57_4 : ACode := .seq (.reg L57_7) C57_3
theorem u57_4 : VC C57_4.eq_1 := rfl
def C57_5 : ACode := .block 1 C57_4
theorem u57_5 : VC C57_5.eq_1 := rfl
def C57_6 : ACode := .seq C57_5 (.reg L57_10)
theorem u57_6 : VC C57_6.eq_1 := rfl
def C57_7 : ACode := .seq C57_1 C57_6
theorem u57_7 : VC C57_7.eq_1 := rfl
def C57_8 : ACode := .block 0 (.loop C57_7)
theorem u57_8 : VC C57_8.eq_1 := rfl
def C57_9 : ACode := .seq (.reg L57_1) C57_8
theorem u57_9 : VC C57_9.eq_1 := rfl
def C57_10 : ACode := .seq (.reg L57_11) .ret
theorem u57_10 : VC C57_10.eq_1 := rfl
def C57_11 : ACode := .seq C57_9 C57_10
theorem u57_11 : VC C57_11.eq_1 := rfl
def C57_12 : ACode := .seq (.reg L57_0) C57_11
theorem u57_12 : VC C57_12.eq_1 := rfl
def F57 : AFunc := ⟨20, [.tmp 4], C57_12⟩
theorem cF57 : compB Tryz.prog 57 = some F57 := by kernel_rfl
attribute [local go_sem ↓] u57_0 u57_1 u57_2 u57_3 u57_4 u57_5 u57_6 u57_7 u57_8 u57_9 u57_10 u57_11 u57_12 v57_0 v57_1 v57_2 v57_3 v57_4 v57_5 v57_6 v57_7 v57_8 v57_9 v57_10 v57_11
theorem c_kindAt (l : List Param) (v : AV) (k : Int) (h : H) (hl : SlQ h v l) (hn : smQ l) : bm Tryz.prog 57 [v, .one (.int .i64 k)] h = some (ii (kindAt l k), h) := by
  refine bm_eq cF57 ?_
  simp +contextual (maxSteps := 2000000) only [go_sem, Nat.reduceEqDiff, reduceCtorEq, Nat.reduceAdd, Nat.reduceLeDiff, F57]
  refine wpC_loop (fun i T L h' => h' = h ∧ T 0 = .v v ∧ T 1 = .v (.one (.int .i64 k)) ∧ T 5 = .v (.one (.int .i64 i)) ∧ Pre (fun p => decide (p.kind = k)) false l i) l.length ?_ ?_ (Nat.zero_le _) ?_
  · rintro i T L h' hi ⟨rfl, h0, h1, h3, hp⟩
    simp +contextual (maxSteps := 2000000) only [go_sem, Nat.reduceEqDiff, reduceCtorEq, Nat.reduceAdd, Nat.reduceLeDiff, h0, h1, h3, hl.len, hl.iaddr hi, hl.fieldO hi, lt_true hi]
    (repeat' (first | refine And.intro ?_ ?_ | intro _)) <;> first | rfl | rw [wrap_next hi hn.len] | exact hp.next hi ‹_› | rw [kindAt, idx_hit hi hp ‹_›]
  · rintro T L h' ⟨rfl, h0, h1, h3, hp⟩
    simp +contextual (maxSteps := 2000000) only [go_sem, Nat.reduceEqDiff, reduceCtorEq, Nat.reduceAdd, Nat.reduceLeDiff, h0, h1, h3, hl.len, lt_false, kindAt, idx_none hp]
  · simp +contextual (maxSteps := 2000000) only [go_sem, Nat.reduceEqDiff, reduceCtorEq, Nat.reduceAdd, Nat.reduceLeDiff]
    (repeat' (first | refine And.intro ?_ ?_ | intro _)) <;> first | rfl | exact Pre.zero
/-! spec.placeCount -/
def L56_0 : List AStep := [⟨.box 33 (.t 0), (some 1), none, []⟩, ⟨.mov (.c (.int .i64 0)), (some 2), none, []⟩]
theorem v56_0 : VS L56_0.eq_1 := rfl
def L56_1 : List AStep := [⟨.mov (.c (.int .i64 0)), (some 3), none, []⟩]
theorem v56_1 : VS L56_1.eq_1 := rfl
def L56_2 : List AStep := [⟨.mov (.c (.int .i64 0)), (some 4), none, []⟩]
theorem v56_2 : VS L56_2.eq_1 := rfl
def L56_3 : List AStep := [⟨.bin .lss (.t 5) (.t 8), (some 9), none, []⟩]
theorem v56_3 : VS L56_3.eq_1 := rfl
def L56_4 : List AStep := ⟨.load 1 false (.t 6), (some 7), none, []⟩ :: ⟨.len (.t 7), (some 8), none, []⟩ :: L56_3
theorem v56_4 : VS L56_4.eq_1 := rfl
def L56_5 : List AStep := ⟨.mov (.t 4), (some 5), none, []⟩ :: ⟨.faddr 0 (.t 1), (some 6), none, []⟩ :: L56_4
theorem v56_5 : VS L56_5.eq_1 := rfl
def L56_6 : List AStep := [⟨.load 4 true (.t 15), (some 16), none, []⟩, ⟨.call 73 [(.t 16)], (some 17), none, []⟩]
theorem v56_6 : VS L56_6.eq_1 := rfl
def L56_7 : List AStep := ⟨.mov (.t 4), (some 14), none, []⟩ :: ⟨.iaddr 4 (.t 13) (.t 14), (some 15), none, []⟩ :: L56_6
theorem v56_7 : VS L56_7.eq_1 := rfl
def L56_8 : List AStep := ⟨.faddr 0 (.t 1), (some 12), none, []⟩ :: ⟨.load 1 false (.t 12), (some 13), none, []⟩ :: L56_7
theorem v56_8 : VS L56_8.eq_1 := rfl
def L56_9 : List AStep := [⟨.mov (.t 19), (some 3), none, []⟩]
theorem v56_9 : VS L56_9.eq_1 := rfl
def L56_10 : List AStep := ⟨.mov (.t 3), (some 18), none, []⟩ :: ⟨.bin .add (.t 18) (.c (.int .i64 1)), (some 19), none, []⟩ :: L56_9
theorem v56_10 : VS L56_10.eq_1 := rfl
def L56_11 : List AStep := [⟨.mov (.t 11), (some 4), none, []⟩]
theorem v56_11 : VS L56_11.eq_1 := rfl
def L56_12 : List AStep := ⟨.mov (.t 4), (some 10), none, []⟩ :: ⟨.bin .add (.t 10) (.c (.int .i64 1)), (some 11), none, []⟩ :: L56_11
theorem v56_12 : VS L56_12.eq_1 := rfl
def L56_13 : List AStep := [⟨.mov (.t 3), (some 20), none, []⟩, ⟨.mov (.t 20), (some 2), none, []⟩]
theorem v56_13 : VS L56_13.eq_1 := rfl
def C56_0 : ACode := .cond (.t 9) .skip (.exit 0)
theorem u56_0 : VC C56_0.eq_1 := rfl
def C56_1 : ACode := .seq (.reg L56_5) C56_0
theorem u56_1 : VC C56_1.eq_1 := rfl
def C56_2 : ACode := .cond (.t 17) (.reg L56_10) .skip
theorem u56_2 : VC C56_2.eq_1 := rfl
def C56_3 : ACode := .seq (.reg L56_8) C56_2
theorem u56_3 : VC C56_3.eq_1 := rfl
def C56_4 : ACode := .block 1 C56_3
theorem u56_4 : VC C56_4.eq_1 := rfl
def C56_5 : ACode := .seq C56_4 (.reg L56_12)
theorem u56_5 : VC C56_5.eq_1 := rfl
def C56_6 : ACode := .seq C56_1 C56_5
theorem u56_6 : VC C56_6.eq_1 := rfl
def C56_7 : ACode := .block 0 (.loop C56_6)
theorem u56_7 : VC C56_7.eq_1 := rfl
def C56_8 : ACode := .seq (.reg L56_2) C56_7
theorem u56_8 : VC C56_8.eq_1 := rfl
def C56_9 : ACode := .seq (.reg L56_13) .ret
theorem u56_9 : VC C56_9.eq_1 := rfl
def C56_10 : ACode := .seq C56_8 C56_9
theorem u56_10 : VC C56_10.eq_1 := rfl
def C56_11 : ACode := .seq (.reg L56_1) C56_10
theorem u56_11 : VC C56_11.eq_1 := rfl
def C56_12 : ACode := .seq (.reg L56_0) C56_11
theorem u56_12 : VC C56_12.eq_1 := rfl
def F56 : AFunc := ⟨21, [.tmp 2], C56_12⟩
theorem cF56 : compB Tryz.prog 56 = some F56 := by kernel_rfl
attribute [local go_sem ↓] u56_0 u56_1 u56_2 u56_3 u56_4 u56_5 u56_6 u56_7 u56_8 u56_9 u56_10 u56_11 u56_12 v56_0 v56_1 v56_2 v56_3 v56_4 v56_5 v56_6 v56_7 v56_8 v56_9 v56_10 v56_11 v56_12 v56_13
theorem c_placeCount (l : List Param) (pv : CV) (h : H) (hl : SlQ h (.one pv) l) (hn : smQ l) : bm Tryz.prog 56 [.agg [pv]] h = some (ii (l.countP byPlace), h) := by
  refine bm_eq cF56 ?_
  simp +contextual (maxSteps := 2000000) only [go_sem, Nat.reduceEqDiff, reduceCtorEq, Nat.reduceAdd, Nat.reduceLeDiff, F56]
  refine wpC_loop (fun i T L h' => h' = h ∧ T 1 = .lp 1 0 ∧ (L 1).2 = [pv] ∧ T 3 = .v (.one (.int .i64 (cnt byPlace l i))) ∧ T 4 = .v (.one (.int .i64 i))) l.length ?_ ?_ (Nat.zero_le _) ?_
  · rintro i T L h' hi ⟨rfl, t1, l1, t3, t4⟩
    have b1 := cnt_le (p := byPlace) (l := l) (i := i)
    have b2 := hn.len
    simp +contextual (maxSteps := 2000000) only [go_sem, Nat.reduceEqDiff, reduceCtorEq, Nat.reduceAdd, Nat.reduceLeDiff, t1, l1, t3, t4, hl.len, hl.iaddr hi, hl.whole hi, c_byPlace, lt_true hi, cnt_next hi]
    (repeat' (first | refine And.intro ?_ ?_ | intro _)) <;> first | rfl | rw [wrap_next hi hn.len] | (rw [i64_wrap (by omega) (by omega)]; simp_all) | simp_all
  · rintro T L h' ⟨rfl, t1, l1, t3, t4⟩
    simp +contextual (maxSteps := 2000000) only [go_sem, Nat.reduceEqDiff, reduceCtorEq, Nat.reduceAdd, Nat.reduceLeDiff, t1, l1, t3, t4, hl.len, lt_false, cnt_all]
  · simp +contextual (maxSteps := 2000000) only [go_sem, Nat.reduceEqDiff, reduceCtorEq, Nat.reduceAdd, Nat.reduceLeDiff, cnt_zero]
    (repeat' (first | refine And.intro ?_ ?_ | intro _)) <;> first | rfl
/-! spec.takesName -/
def L58_0 : List AStep := [⟨.box 33 (.t 0), (some 2), none, []⟩, ⟨.mov (.c (.int .i64 0)), (some 4), none, []⟩]
theorem v58_0 : VS L58_0.eq_1 := rfl
def L58_1 : List AStep := [⟨.mov (.t 9), (some 5), none, []⟩]
theorem v58_1 : VS L58_1.eq_1 := rfl
def L58_2 : List AStep := ⟨.mov (.t 1), (some 8), none, []⟩ :: ⟨.call 74 [(.t 7), (.t 8)], (some 9), none, []⟩ :: L58_1
theorem v58_2 : VS L58_2.eq_1 := rfl
def L58_3 : List AStep := ⟨.faddr 0 (.t 2), (some 6), none, []⟩ :: ⟨.load 1 false (.t 6), (some 7), none, []⟩ :: L58_2
theorem v58_3 : VS L58_3.eq_1 := rfl
def L58_4 : List AStep := [⟨.call 75 [(.t 17)], (some 18), (some (12, true)), []⟩, ⟨.pick (.t 12) (.t 18) (.c (.bool false)), (some 19), none, []⟩]
theorem v58_4 : VS L58_4.eq_1 := rfl
def L58_5 : List AStep := ⟨.iaddr 4 (.t 14) (.t 15), (some 16), (some (12, true)), []⟩ :: ⟨.load 4 true (.t 16), (some 17), (some (12, true)), []⟩ :: L58_4
theorem v58_5 : VS L58_5.eq_1 := rfl
def L58_6 : List AStep := ⟨.load 1 false (.t 13), (some 14), (some (12, true)), []⟩ :: ⟨.mov (.t 5), (some 15), (some (12, true)), []⟩ :: L58_5
theorem v58_6 : VS L58_6.eq_1 := rfl
def L58_7 : List AStep := ⟨.mov (.t 11), (some 12), none, []⟩ :: ⟨.faddr 0 (.t 2), (some 13), (some (12, true)), []⟩ :: L58_6
theorem v58_7 : VS L58_7.eq_1 := rfl
def L58_8 : List AStep := ⟨.mov (.t 5), (some 10), none, []⟩ :: ⟨.bin .geq (.t 10) (.c (.int .i64 0)), (some 11), none, []⟩ :: L58_7
theorem v58_8 : VS L58_8.eq_1 := rfl
def L58_9 : List AStep := [⟨.mov (.t 5), (some 20), none, []⟩, ⟨.mov (.t 20), (some 4), none, []⟩]
theorem v58_9 : VS L58_9.eq_1 := rfl
def L58_10 : List AStep := [⟨.call 57 [(.t 22), (.c (.int .i64 4))], (some 23), none, []⟩, ⟨.mov (.t 23), (some 4), none, []⟩]
theorem v58_10 : VS L58_10.eq_1 := rfl
def L58_11 : List AStep := ⟨.faddr 0 (.t 2), (some 21), none, []⟩ :: ⟨.load 1 false (.t 21), (some 22), none, []⟩ :: L58_10
theorem v58_11 : VS L58_11.eq_1 := rfl
def C58_0 : ACode := .seq (.reg L58_9) .ret
theorem u58_0 : VC C58_0.eq_1 := rfl
def C58_1 : ACode := .cond (.t 19) C58_0 .skip
theorem u58_1 : VC C58_1.eq_1 := rfl
def C58_2 : ACode := .seq (.reg L58_8) C58_1
theorem u58_2 : VC C58_2.eq_1 := rfl
def C58_3 : ACode := .seq (.reg L58_11) .ret
theorem u58_3 : VC C58_3.eq_1 := rfl
def C58_4 : ACode := .seq C58_2 C58_3
theorem u58_4 : VC C58_4.eq_1 := rfl
def C58_5 : ACode := .seq (.reg L58_3) C58_4
theorem u58_5 : VC C58_5.eq_1 := rfl
def C58_6 : ACode := .seq (.reg L58_0) C58_5
theorem u58_6 : VC C58_6.eq_1 := rfl
def F58 : AFunc := ⟨24, [.tmp 4], C58_6⟩
theorem cF58 : compB Tryz.prog 58 = some F58 := by kernel_rfl
attribute [local go_sem ↓] u58_0 u58_1 u58_2 u58_3 u58_4 u58_5 u58_6 v58_0 v58_1 v58_2 v58_3 v58_4 v58_5 v58_6 v58_7 v58_8 v58_9 v58_10 v58_11
theorem c_takesName (l : List Param) (pv : CV) (s : ByteArray) (h : H) (hl : SlQ h (.one pv) l) (hn : smQ l) : bm Tryz.prog 58 [.agg [pv], .one (.str s)] h = some (ii (takes l s), h) := by
  refine bm_eq cF58 ?_
  rcases idx_cases (fun p : Param => decide (p.name = s)) l with e | ⟨j, hj, e, _⟩ <;> (replace e := (show paramAt l s = _ from e))
  · simp +contextual (maxSteps := 2000000) only [go_sem, Nat.reduceEqDiff, reduceCtorEq, Nat.reduceAdd, Nat.reduceLeDiff, F58, c_findParam _ _ _ _ hl hn, e, c_kindAt _ _ _ _ hl hn, takes_none e]
  · simp +contextual (maxSteps := 2000000) only [go_sem, Nat.reduceEqDiff, reduceCtorEq, Nat.reduceAdd, Nat.reduceLeDiff, F58, c_findParam _ _ _ _ hl hn, e, c_kindAt _ _ _ _ hl hn, takes_some hj e, hl.iaddr hj, hl.whole hj, c_byName]
/-! spec.validParams -/
def L69_0 : List AStep := [⟨.mov (.c (.bool false)), (some 2), none, []⟩]
theorem v69_0 : VS L69_0.eq_1 := rfl
def L69_1 : List AStep := [⟨.mov (.c (.int .i64 0)), (some 3), none, []⟩]
theorem v69_1 : VS L69_1.eq_1 := rfl
def L69_2 : List AStep := [⟨.len (.t 7), (some 8), none, []⟩, ⟨.bin .lss (.t 6) (.t 8), (some 9), none, []⟩]
theorem v69_2 : VS L69_2.eq_1 := rfl
def L69_3 : List AStep := ⟨.mov (.t 3), (some 6), none, []⟩ :: ⟨.mov (.t 0), (some 7), none, []⟩ :: L69_2
theorem v69_3 : VS L69_3.eq_1 := rfl
def L69_4 : List AStep := [⟨.alloc 79 [(.str (strOfNums [])), (.int .i64 0), (.bool false), (.int .i64 0)], (some 4), none, []⟩, ⟨.store 4 (.t 4) (.t 15), none, none, []⟩]
theorem v69_4 : VS L69_4.eq_1 := rfl
def L69_5 : List AStep := ⟨.iaddr 4 (.t 12) (.t 13), (some 14), none, []⟩ :: ⟨.load 4 true (.t 14), (some 15), none, []⟩ :: L69_4
theorem v69_5 : VS L69_5.eq_1 := rfl
def L69_6 : List AStep := ⟨.mov (.t 0), (some 12), none, []⟩ :: ⟨.mov (.t 3), (some 13), none, []⟩ :: L69_5
theorem v69_6 : VS L69_6.eq_1 := rfl
def L69_7 : List AStep := [⟨.bin .geq (.t 25) (.c (.int .i64 0)), (some 26), (some (19, false)), []⟩, ⟨.pick (.t 19) (.c (.bool true)) (.t 26), (some 27), none, []⟩]
theorem v69_7 : VS L69_7.eq_1 := rfl
def L69_8 : List AStep := ⟨.load 1 false (.t 23), (some 24), (some (19, false)), []⟩ :: ⟨.call 74 [(.t 22), (.t 24)], (some 25), (some (19, false)), []⟩ :: L69_7
theorem v69_8 : VS L69_8.eq_1 := rfl
def L69_9 : List AStep := ⟨.slice 79 4 (.t 20) none (some (.t 21)) none, (some 22), (some (19, false)), []⟩ :: ⟨.faddr 0 (.t 4), (some 23), (some (19, false)), []⟩ :: L69_8
theorem v69_9 : VS L69_9.eq_1 := rfl
def L69_10 : List AStep := ⟨.mov (.t 0), (some 20), (some (19, false)), []⟩ :: ⟨.mov (.t 3), (some 21), (some (19, false)), []⟩ :: L69_9
theorem v69_10 : VS L69_10.eq_1 := rfl
def L69_11 : List AStep := ⟨.not (.t 17), (some 18), none, []⟩ :: ⟨.mov (.t 18), (some 19), none, []⟩ :: L69_10
theorem v69_11 : VS L69_11.eq_1 := rfl
def L69_12 : List AStep := ⟨.load 4 true (.t 4), (some 16), none, []⟩ :: ⟨.call 83 [(.t 16)], (some 17), none, []⟩ :: L69_11
theorem v69_12 : VS L69_12.eq_1 := rfl
def L69_13 : List AStep := [⟨.mov (.c (.bool false)), (some 2), none, []⟩]
theorem v69_13 : VS L69_13.eq_1 := rfl
def L69_14 : List AStep := [⟨.mov (.t 3), (some 28), none, []⟩, ⟨.bin .eql (.t 28) (.c (.int .i64 0)), (some 29), none, []⟩]
theorem v69_14 : VS L69_14.eq_1 := rfl
def L69_15 : List AStep := [⟨.store 4 (.t 5) (.t 34), none, none, []⟩]
theorem v69_15 : VS L69_15.eq_1 := rfl
def L69_16 : List AStep := ⟨.load 4 true (.t 33), (some 34), none, []⟩ :: ⟨.alloc 79 [(.str (strOfNums [])), (.int .i64 0), (.bool false), (.int .i64 0)], (some 5), none, []⟩ :: L69_15
theorem v69_16 : VS L69_16.eq_1 := rfl
def L69_17 : List AStep := ⟨.bin .sub (.t 31) (.c (.int .i64 1)), (some 32), none, []⟩ :: ⟨.iaddr 4 (.t 30) (.t 32), (some 33), none, []⟩ :: L69_16
theorem v69_17 : VS L69_17.eq_1 := rfl
def L69_18 : List AStep := ⟨.mov (.t 0), (some 30), none, []⟩ :: ⟨.mov (.t 3), (some 31), none, []⟩ :: L69_17
theorem v69_18 : VS L69_18.eq_1 := rfl
def L69_19 : List AStep := [⟨.pick (.t 59) (.t 62) (.c (.bool false)), (some 63), (some (52, false)), []⟩, ⟨.pick (.t 52) (.c (.bool true)) (.t 63), (some 64), none, []⟩]
theorem v69_19 : VS L69_19.eq_1 := rfl
def L69_20 : List AStep := ⟨.load 1 false (.t 60), (some 61), (some (59, true)), []⟩ :: ⟨.not (.t 61), (some 62), (some (59, true)), []⟩ :: L69_19
theorem v69_20 : VS L69_20.eq_1 := rfl
def L69_21 : List AStep := ⟨.mov (.t 58), (some 59), (some (52, false)), []⟩ :: ⟨.faddr 2 (.t 4), (some 60), (some (59, true)), []⟩ :: L69_20
theorem v69_21 : VS L69_21.eq_1 := rfl
def L69_22 : List AStep := ⟨.load 1 false (.t 56), (some 57), (some (55, true)), []⟩ :: ⟨.pick (.t 55) (.t 57) (.c (.bool false)), (some 58), (some (52, false)), []⟩ :: L69_21
theorem v69_22 : VS L69_22.eq_1 := rfl
def L69_23 : List AStep := ⟨.mov (.t 54), (some 55), (some (52, false)), []⟩ :: ⟨.faddr 2 (.t 5), (some 56), (some (55, true)), []⟩ :: L69_22
theorem v69_23 : VS L69_23.eq_1 := rfl
def L69_24 : List AStep := ⟨.load 4 true (.t 4), (some 53), (some (52, false)), []⟩ :: ⟨.call 73 [(.t 53)], (some 54), (some (52, false)), []⟩ :: L69_23
theorem v69_24 : VS L69_24.eq_1 := rfl
def L69_25 : List AStep := ⟨.pick (.t 40) (.c (.bool true)) (.t 50), (some 51), none, []⟩ :: ⟨.mov (.t 51), (some 52), none, []⟩ :: L69_24
theorem v69_25 : VS L69_25.eq_1 := rfl
def L69_26 : List AStep := ⟨.not (.t 48), (some 49), (some (46, true)), []⟩ :: ⟨.pick (.t 46) (.t 49) (.c (.bool false)), (some 50), (some (40, false)), []⟩ :: L69_25
theorem v69_26 : VS L69_26.eq_1 := rfl
def L69_27 : List AStep := ⟨.load 4 true (.t 4), (some 47), (some (46, true)), []⟩ :: ⟨.call 84 [(.t 47)], (some 48), (some (46, true)), []⟩ :: L69_26
theorem v69_27 : VS L69_27.eq_1 := rfl
def L69_28 : List AStep := ⟨.bin .eql (.t 42) (.t 44), (some 45), (some (40, false)), []⟩ :: ⟨.mov (.t 45), (some 46), (some (40, false)), []⟩ :: L69_27
theorem v69_28 : VS L69_28.eq_1 := rfl
def L69_29 : List AStep := ⟨.faddr 1 (.t 5), (some 43), (some (40, false)), []⟩ :: ⟨.load 1 false (.t 43), (some 44), (some (40, false)), []⟩ :: L69_28
theorem v69_29 : VS L69_29.eq_1 := rfl
def L69_30 : List AStep := ⟨.faddr 1 (.t 4), (some 41), (some (40, false)), []⟩ :: ⟨.load 1 false (.t 41), (some 42), (some (40, false)), []⟩ :: L69_29
theorem v69_30 : VS L69_30.eq_1 := rfl
def L69_31 : List AStep := ⟨.bin .lss (.t 36) (.t 38), (some 39), none, []⟩ :: ⟨.mov (.t 39), (some 40), none, []⟩ :: L69_30
theorem v69_31 : VS L69_31.eq_1 := rfl
def L69_32 : List AStep := ⟨.faddr 1 (.t 5), (some 37), none, []⟩ :: ⟨.load 1 false (.t 37), (some 38), none, []⟩ :: L69_31
theorem v69_32 : VS L69_32.eq_1 := rfl
def L69_33 : List AStep := ⟨.faddr 1 (.t 4), (some 35), none, []⟩ :: ⟨.load 1 false (.t 35), (some 36), none, []⟩ :: L69_32
theorem v69_33 : VS L69_33.eq_1 := rfl
def L69_34 : List AStep := [⟨.mov (.c (.bool false)), (some 2), none, []⟩]
theorem v69_34 : VS L69_34.eq_1 := rfl
def L69_35 : List AStep := [⟨.mov (.t 11), (some 3), none, []⟩]
theorem v69_35 : VS L69_35.eq_1 := rfl
def L69_36 : List AStep := ⟨.mov (.t 3), (some 10), none, []⟩ :: ⟨.bin .add (.t 10) (.c (.int .i64 1)), (some 11), none, []⟩ :: L69_35
theorem v69_36 : VS L69_36.eq_1 := rfl
def L69_37 : List AStep := [⟨.bin .leq (.t 66) (.c (.int .i64 8)), (some 67), none, []⟩, ⟨.mov (.t 67), (some 2), none, []⟩]
theorem v69_37 : VS L69_37.eq_1 := rfl
def L69_38 : List AStep := ⟨.mov (.t 0), (some 65), none, []⟩ :: ⟨.len (.t 65), (some 66), none, []⟩ :: L69_37
theorem v69_38 : VS L69_38.eq_1 := rfl
def C69_0 : ACode := .cond (.t 9) .skip (.exit 0)
theorem u69_0 : VC C69_0.eq_1 := rfl
def C69_1 : ACode := .seq (.reg L69_3) C69_0
theorem u69_1 : VC C69_1.eq_1 := rfl
def C69_2 : ACode := .seq (.reg L69_13) .ret
theorem u69_2 : VC C69_2.eq_1 := rfl
def C69_3 : ACode := .cond (.t 27) C69_2 .skip
theorem u69_3 : VC C69_3.eq_1 := rfl
def C69_4 : ACode := .seq (.reg L69_12) C69_3
theorem u69_4 : VC C69_4.eq_1 := rfl
def C69_5 : ACode := .cond (.t 29) (.exit 1) .skip
theorem u69_5 : VC C69_5.eq_1 := rfl
def C69_6 : ACode := .seq (.reg L69_14) C69_5
theorem u69_6 : VC C69_6.eq_1 := rfl
def C69_7 : ACode := .seq (.reg L69_34) .ret
theorem u69_7 : VC C69_7.eq_1 := rfl
def C69_8 : ACode := .cond (.t 64) C69_7 .skip
theorem u69_8 : VC C69_8.eq_1 := rfl
def C69_9 : ACode := .seq (.reg L69_33) C69_8
theorem u69_9 : VC C69_9.eq_1 := rfl
def C69_10 : ACode := .seq (.reg L69_18) C69_9
theorem u69_10 : VC C69_10.eq_1 := rfl
def C69_11 : ACode := .seq C69_6 C69_10
theorem u69_11 : VC C69_11.eq_1 := rfl
def C69_12 : ACode := .seq C69_4 C69_11
theorem u69_12 : VC C69_12.eq_1 := rfl
def C69_13 : ACode := .seq (.reg L69_6) C69_12
theorem u69_13 : VC C69_13.eq_1 := rfl
def C69_14 : ACode := .block 1 C69_13
theorem u69_14 : VC C69_14.eq_1 := rfl
def C69_15 : ACode := .seq C69_14 (.reg L69_36)
theorem u69_15 : VC C69_15.eq_1 := rfl
def C69_16 : ACode := .seq C69_1 C69_15
theorem u69_16 : VC C69_16.eq_1 := rfl
def C69_17 : ACode := .block 0 (.loop C69_16)
theorem u69_17 : VC C69_17.eq_1 := rfl
def C69_18 : ACode := .seq (.reg L69_1) C69_17
theorem u69_18 : VC C69_18.eq_1 := rfl
def C69_19 : ACode := .seq (.reg L69_38) .ret
theorem u69_19 : VC C69_19.eq_1 := rfl
def C69_20 : ACode := .seq C69_18 C69_19
theorem u69_20 : VC C69_20.eq_1 := rfl
def C69_21 : ACode := .seq (.reg L69_0) C69_20
theorem u69_21 : VC C69_21.eq_1 := rfl
def F69 : AFunc := ⟨68, [.tmp 2], C69_21⟩
theorem cF69 : compB Tryz.prog 69 = some F69 := by kernel_rfl
attribute [local go_sem ↓] u69_0 u69_1 u69_2 u69_3 u69_4 u69_5 u69_6 u69_7 u69_8 u69_9 u69_10 u69_11 u69_12 u69_13 u69_14 u69_15 u69_16 u69_17 u69_18 u69_19 u69_20 u69_21 v69_0 v69_1 v69_2 v69_3 v69_4 v69_5 v69_6 v69_7 v69_8 v69_9 v69_10 v69_11 v69_12 v69_13 v69_14 v69_15 v69_16 v69_17 v69_18 v69_19 v69_20 v69_21 v69_22 v69_23 v69_24 v69_25 v69_26 v69_27 v69_28 v69_29 v69_30 v69_31 v69_32 v69_33 v69_34 v69_35 v69_36 v69_37 v69_38
theorem c_validParams (l : List Param) (v : AV) (h : H) (hl : SlQ h v l) (hn : smQ l) : bm Tryz.prog 69 [v] h = some (ib (okSig l), h) := by
  refine bm_eq cF69 ?_
  simp +contextual (maxSteps := 2000000) only [go_sem, Nat.reduceEqDiff, reduceCtorEq, Nat.reduceAdd, Nat.reduceLeDiff, F69]
  refine wpC_loop (fun i T L h' => h' = h ∧ T 0 = .v v ∧ T 3 = .v (.one (.int .i64 i)) ∧ Upto (stepAt l) i) l.length ?_ ?_ (Nat.zero_le _) ?_
  · rintro i T L h' hi ⟨rfl, t0, t3, hu⟩
    obtain ⟨v', e1, s1⟩ := hl.takeO (i := i) (by omega) (kd := .i64)
    have e2 : decide (paramAt (l.take i) l[i].name ≥ 0) = !(newAt Param.name l i) := newAt_ge hi
    cases i with
    | zero =>
      have e3 := stepAt_zero hi
      simp only [List.take_zero] at e1 e2 s1
      have e4 : decide (((0 : Nat) : Int) = 0) = true := rfl
      simp +contextual (maxSteps := 2000000) only [go_sem, Nat.reduceEqDiff, reduceCtorEq, Nat.reduceAdd, Nat.reduceLeDiff, e4, List.take_zero, t0, t3, hl.len, hl.iaddr hi, hl.whole hi, lt_true hi, e1, e2, c_findParam _ _ _ _ s1 (hn.take 0), c_validParam _ _ (hn.at hi)]
      (repeat' (first | refine And.intro ?_ ?_ | intro _)) <;> first | rfl | rw [wrap_next hi hn.len] | exact hu.next (by rw [e3]; simp_all) | (rw [okSig_not hi (by rw [e3]; simp_all)]) | simp_all
    | succ j =>
      have e3 := stepAt_succ hi
      have hj : j < l.length := by omega
      have e4 : decide (((j + 1 : Nat) : Int) = 0) = false := decide_eq_false (by omega)
      simp +contextual (maxSteps := 2000000) only [go_sem, Nat.reduceEqDiff, reduceCtorEq, Nat.reduceAdd, Nat.reduceLeDiff, e4, t0, t3, hl.len, hl.iaddr hi, hl.whole hi, lt_true hi, e1, e2, c_findParam _ _ _ _ s1 (hn.take _), c_validParam _ _ (hn.at hi), wrap_pred (show j < 2 ^ 62 from Nat.lt_trans (Nat.lt_succ_self j) (Nat.lt_trans hi hn.len)), hl.iaddr hj, hl.whole hj, c_isSingle, c_byPlace]
      (repeat' (first | refine And.intro ?_ ?_ | intro _)) <;> first | rfl | rw [wrap_next hi hn.len] | exact hu.next (by rw [e3]; simp_all [follows]) | (rw [okSig_not hi (by rw [e3]; simp_all [follows])]) | simp_all
  · rintro T L h' ⟨rfl, t0, t3, hu⟩
    simp +contextual (maxSteps := 2000000) only [go_sem, Nat.reduceEqDiff, reduceCtorEq, Nat.reduceAdd, Nat.reduceLeDiff, t0, t3, hl.len, lt_false, okSig_of hu]
  · simp +contextual (maxSteps := 2000000) only [go_sem, Nat.reduceEqDiff, reduceCtorEq, Nat.reduceAdd, Nat.reduceLeDiff]
    (repeat' (first | refine And.intro ?_ ?_ | intro _)) <;> first | rfl | exact Upto.zero
/-! spec.validSignature -/
def L53_0 : List AStep := [⟨.box 33 (.t 0), (some 1), none, []⟩, ⟨.mov (.c (.bool false)), (some 2), none, []⟩]
theorem v53_0 : VS L53_0.eq_1 := rfl
def L53_1 : List AStep := [⟨.call 69 [(.t 4)], (some 5), none, []⟩, ⟨.mov (.t 5), (some 2), none, []⟩]
theorem v53_1 : VS L53_1.eq_1 := rfl
def L53_2 : List AStep := ⟨.faddr 0 (.t 1), (some 3), none, []⟩ :: ⟨.load 1 false (.t 3), (some 4), none, []⟩ :: L53_1
theorem v53_2 : VS L53_2.eq_1 := rfl
def C53_0 : ACode := .seq (.reg L53_2) .ret
theorem u53_0 : VC C53_0.eq_1 := rfl
def C53_1 : ACode := .seq (.reg L53_0) C53_0
theorem u53_1 : VC C53_1.eq_1 := rfl
def F53 : AFunc := ⟨6, [.tmp 2], C53_1⟩
theorem cF53 : compB Tryz.prog 53 = some F53 := by kernel_rfl
attribute [local go_sem ↓] u53_0 u53_1 v53_0 v53_1 v53_2
theorem c_validSignature (l : List Param) (pv : CV) (h : H) (hl : SlQ h (.one pv) l) (hn : smQ l) : bm Tryz.prog 53 [.agg [pv]] h = some (ib (okSig l), h) := by
  refine bm_eq cF53 ?_
  simp +contextual (maxSteps := 2000000) only [go_sem, Nat.reduceEqDiff, reduceCtorEq, Nat.reduceAdd, Nat.reduceLeDiff, F53, c_validParams _ _ _ hl hn]
/-! spec.goodCall -/
def L39_0 : List AStep := [⟨.mov (.c (.bool false)), (some 4), none, []⟩]
theorem v39_0 : VS L39_0.eq_1 := rfl
def L39_1 : List AStep := ⟨.box 33 (.t 0), (some 2), none, []⟩ :: ⟨.box 36 (.t 1), (some 3), none, []⟩ :: L39_0
theorem v39_1 : VS L39_1.eq_1 := rfl
def L39_2 : List AStep := [⟨.mov (.t 10), (some 4), none, []⟩]
theorem v39_2 : VS L39_2.eq_1 := rfl
def L39_3 : List AStep := ⟨.call 54 [(.t 8)], (some 9), (some (7, true)), []⟩ :: ⟨.pick (.t 7) (.t 9) (.c (.bool false)), (some 10), none, []⟩ :: L39_2
theorem v39_3 : VS L39_3.eq_1 := rfl
def L39_4 : List AStep := ⟨.mov (.t 6), (some 7), none, []⟩ :: ⟨.load 2 true (.t 3), (some 8), (some (7, true)), []⟩ :: L39_3
theorem v39_4 : VS L39_4.eq_1 := rfl
def L39_5 : List AStep := ⟨.load 1 true (.t 2), (some 5), none, []⟩ :: ⟨.call 53 [(.t 5)], (some 6), none, []⟩ :: L39_4
theorem v39_5 : VS L39_5.eq_1 := rfl
def C39_0 : ACode := .seq (.reg L39_5) .ret
theorem u39_0 : VC C39_0.eq_1 := rfl
def C39_1 : ACode := .seq (.reg L39_1) C39_0
theorem u39_1 : VC C39_1.eq_1 := rfl
def F39 : AFunc := ⟨11, [.tmp 4], C39_1⟩
theorem cF39 : compB Tryz.prog 39 = some F39 := by kernel_rfl
attribute [local go_sem ↓] u39_0 u39_1 v39_0 v39_1 v39_2 v39_3 v39_4 v39_5
theorem c_goodCall (l : List Param) (f : Flat) (qv pv nv : CV) (h : H) (hl : SlQ h (.one qv) l) (hn : smQ l) (hp : SlI h (.one pv) f.pl) (hq : SlP h (.one nv) f.nl) (hf : smF f) : bm Tryz.prog 39 [.agg [qv], .agg [pv, nv]] h = some (ib (okSig l && okFlat f), h) := by
  refine bm_eq cF39 ?_
  simp +contextual (maxSteps := 2000000) only [go_sem, Nat.reduceEqDiff, reduceCtorEq, Nat.reduceAdd, Nat.reduceLeDiff, F39, c_validSignature _ _ _ hl hn, c_validFlat _ _ _ _ hp hq hf]
  (repeat' (first | refine And.intro ?_ ?_ | intro _)) <;> first | simp_all
end Go.Proofs.YtdalgphpacikkaaGreat.Am
