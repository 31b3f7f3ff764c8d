/- Contracts of the reference: signatures. -/
import Derived.Test.YtekkimfdcbgcoacA1
namespace Go.Proofs.Ytekkimfdcbgcoac.Am
open Go
set_option maxRecDepth 100000
set_option maxHeartbeats 4000000
set_option linter.unusedSimpArgs false
set_option linter.unusedVariables false
attribute [local go_sem ↓] bv_t bv_c ev_t ev_c put_same put_ne put_none kill_at pro_at lb_same lb_ne start_zero start_succ wpC_seq wpC_reg wpC_cond wpC_block wpC_skip wpC_exit wpC_ret thenQ_normal thenQ_exit thenQ_ret inBlk_normal inBlk_exit inBlk_ret wpS_nil wpS_step wpS_again wpS_guard wpO_mov wpO_load wpO_faddr wpO_nilCheck wpO_pick wpO_build wpO_bin wpO_eqb wpO_eqst wpO_eqnil wpO_not wpO_conv wpO_bytesStr wpO_iaddr wpO_idxStr wpO_field wpO_extract wpO_len wpO_lenStr wpO_cap wpO_min wpO_slice wpO_sliceStr wpO_alloc wpO_box wpO_store wpO_call wpO_callv wpO_mkfn wpO_buildSlice wpO_mkslice wpO_append wpO_appz proA_nil proA_cons tmpX_nil tmpX_tmp tmpX_cell doneB_normal doneB_ret agK_cons agK_nil agK_guard agG_tt agG_ff agG_tf agG_ft agG_undef pureB_load results_one results_two results_nil resBs_cons resBs_nil resB_tmp resB_cell
attribute [local go_sem] kill_v kill_lp_ne kill_lp_same pro_v pro_lp_same pro_lp_ne av_v av_lp optB_some optX_some valX_eq ldX_lp ldX_v faX_lp faX_v ncX_lp ncX_ptr ncX_fn boxK_one boxK_agg stL_some stK_lp_one stK_lp_agg stK_v_one stK_v_agg proM_v proM_lp callG_mk callVG_mk callvK_fn fnG_mk ptrsA_nil ptrsA_cons callH_some whenA_true whenA_false guardH_tt guardH_ff guardH_tf guardH_ft guardH_undef agV_one agV_agg lenO_sl lenStrO_str notO_bool pickO_bool convO_int eqbO_bool eqnilO_sl extractO_tup capO_sl minO_int loadL_one loadL_all storeL_eq fillA_nil fillA_one fillA_agg nat_ge neg_ge nat_lt neg_lt buildO bin_add bin_sub bin_mul bin_eql bin_neq bin_lss bin_leq bin_gtr bin_geq str_eql str_neq str_lss str_leq str_gtr str_geq retK_some endK_mk gcK_same gcK_int gcK_bool tupO_one tupO_agg rdy_self ib ii Option.map_none Option.map_some Option.some.injEq exists_eq_left' exists_eq_left ne_eq not_false_eq_true if_true if_false List.map_cons List.map_nil List.getElem?_cons_zero List.getElem?_cons_succ List.length_cons List.length_nil List.take_succ_cons List.take_zero List.take_nil List.drop_succ_cons List.drop_zero List.drop_nil List.cons_append List.nil_append List.append_nil List.set_cons_zero List.set_cons_succ Nat.zero_add forall_const true_and and_true and_self Bool.false_eq_true false_implies true_implies implies_true Bool.not_true Bool.not_false Bool.not_eq_true' Bool.not_eq_false' beq_self_eq_true Bool.bne_true Bool.bne_false
attribute [local go_sem] lenI lenS lenP lenQ lenB lenL lenT encI_0 encS_0 encP_0 encP_1 encQ_0 encQ_1 encQ_2 encQ_3 encB_0 encB_1 encL_0 encL_1 encT_0 encT_1
attribute [local go_sem low] whenA_bool guardH_bool
/-! spec.validParam -/
def L142_0 : List AStep := [⟨.box 44 (.t 0), (some 1), none, []⟩, ⟨.mov (.c (.bool false)), (some 2), none, []⟩]
theorem v142_0 : VS L142_0.eq_1 := rfl
def L142_1 : List AStep := [⟨.pick (.t 25) (.t 32) (.c (.bool false)), (some 33), none, []⟩, ⟨.mov (.t 33), (some 2), none, []⟩]
theorem v142_1 : VS L142_1.eq_1 := rfl
def L142_2 : List AStep := ⟨.not (.t 30), (some 31), (some (28, false)), []⟩ :: ⟨.pick (.t 28) (.c (.bool true)) (.t 31), (some 32), (some (25, true)), []⟩ :: L142_1
theorem v142_2 : VS L142_2.eq_1 := rfl
def L142_3 : List AStep := ⟨.faddr 2 (.t 1), (some 29), (some (28, false)), []⟩ :: ⟨.load 1 false (.t 29), (some 30), (some (28, false)), []⟩ :: L142_2
theorem v142_3 : VS L142_3.eq_1 := rfl
def L142_4 : List AStep := ⟨.call 53 [(.t 26)], (some 27), (some (25, true)), []⟩ :: ⟨.mov (.t 27), (some 28), (some (25, true)), []⟩ :: L142_3
theorem v142_4 : VS L142_4.eq_1 := rfl
def L142_5 : List AStep := ⟨.mov (.t 24), (some 25), none, []⟩ :: ⟨.load 4 true (.t 1), (some 26), (some (25, true)), []⟩ :: L142_4
theorem v142_5 : VS L142_5.eq_1 := rfl
def L142_6 : List AStep := ⟨.pick (.t 19) (.c (.bool true)) (.t 22), (some 23), (some (16, true)), []⟩ :: ⟨.pick (.t 16) (.t 23) (.c (.bool false)), (some 24), none, []⟩ :: L142_5
theorem v142_6 : VS L142_6.eq_1 := rfl
def L142_7 : List AStep := ⟨.load 1 false (.t 20), (some 21), (some (19, false)), []⟩ :: ⟨.bin .eql (.t 21) (.c (.int .i64 0)), (some 22), (some (19, false)), []⟩ :: L142_6
theorem v142_7 : VS L142_7.eq_1 := rfl
def L142_8 : List AStep := ⟨.mov (.t 18), (some 19), (some (16, true)), []⟩ :: ⟨.faddr 3 (.t 1), (some 20), (some (19, false)), []⟩ :: L142_7
theorem v142_8 : VS L142_8.eq_1 := rfl
def L142_9 : List AStep := ⟨.faddr 2 (.t 1), (some 17), (some (16, true)), []⟩ :: ⟨.load 1 false (.t 17), (some 18), (some (16, true)), []⟩ :: L142_8
theorem v142_9 : VS L142_9.eq_1 := rfl
def L142_10 : List AStep := ⟨.pick (.t 11) (.t 14) (.c (.bool false)), (some 15), none, []⟩ :: ⟨.mov (.t 15), (some 16), none, []⟩ :: L142_9
theorem v142_10 : VS L142_10.eq_1 := rfl
def L142_11 : List AStep := ⟨.load 1 false (.t 12), (some 13), (some (11, true)), []⟩ :: ⟨.call 145 [(.t 13)], (some 14), (some (11, true)), []⟩ :: L142_10
theorem v142_11 : VS L142_11.eq_1 := rfl
def L142_12 : List AStep := ⟨.mov (.t 10), (some 11), none, []⟩ :: ⟨.faddr 3 (.t 1), (some 12), (some (11, true)), []⟩ :: L142_11
theorem v142_12 : VS L142_12.eq_1 := rfl
def L142_13 : List AStep := ⟨.call 150 [(.t 8), (.c (.int .i64 0)), (.c (.int .i64 4))], (some 9), (some (6, true)), []⟩ :: ⟨.pick (.t 6) (.t 9) (.c (.bool false)), (some 10), none, []⟩ :: L142_12
theorem v142_13 : VS L142_13.eq_1 := rfl
def L142_14 : List AStep := ⟨.faddr 1 (.t 1), (some 7), (some (6, true)), []⟩ :: ⟨.load 1 false (.t 7), (some 8), (some (6, true)), []⟩ :: L142_13
theorem v142_14 : VS L142_14.eq_1 := rfl
def L142_15 : List AStep := ⟨.call 146 [(.t 4)], (some 5), none, []⟩ :: ⟨.mov (.t 5), (some 6), none, []⟩ :: L142_14
theorem v142_15 : VS L142_15.eq_1 := rfl
def L142_16 : List AStep := ⟨.faddr 0 (.t 1), (some 3), none, []⟩ :: ⟨.load 1 false (.t 3), (some 4), none, []⟩ :: L142_15
theorem v142_16 : VS L142_16.eq_1 := rfl
def C142_0 : ACode := .seq (.reg L142_16) .ret
theorem u142_0 : VC C142_0.eq_1 := rfl
def C142_1 : ACode := .seq (.reg L142_0) C142_0
theorem u142_1 : VC C142_1.eq_1 := rfl
def F142 : AFunc := ⟨34, [.tmp 2], C142_1⟩
theorem cF142 : compB Try.prog 142 = some F142 := by kernel_rfl
attribute [local go_sem ↓] u142_0 u142_1 v142_0 v142_1 v142_2 v142_3 v142_4 v142_5 v142_6 v142_7 v142_8 v142_9 v142_10 v142_11 v142_12 v142_13 v142_14 v142_15 v142_16
theorem c_validParam (p : Param) (h : H) (hn : p.name.size < 2 ^ 62) : bm Try.prog 142 [.agg (encQ p)] h = some (ib (okParam p), h) := by
  refine bm_eq cF142 ?_
  simp +contextual (maxSteps := 2000000) only [go_sem, Nat.reduceEqDiff, reduceCtorEq, Nat.reduceAdd, Nat.reduceLeDiff, F142, c_validName _ _ hn, c_inRange, c_validNumber, c_isSingle, okParam]
  (repeat' (first | refine And.intro ?_ ?_ | intro _)) <;> first | simp_all
/-! spec.findParam -/
def L137_0 : List AStep := [⟨.mov (.c (.int .i64 0)), (some 4), none, []⟩]
theorem v137_0 : VS L137_0.eq_1 := rfl
def L137_1 : List AStep := [⟨.mov (.c (.int .i64 0)), (some 5), none, []⟩]
theorem v137_1 : VS L137_1.eq_1 := rfl
def L137_2 : List AStep := [⟨.len (.t 7), (some 8), none, []⟩, ⟨.bin .lss (.t 6) (.t 8), (some 9), none, []⟩]
theorem v137_2 : VS L137_2.eq_1 := rfl
def L137_3 : List AStep := ⟨.mov (.t 5), (some 6), none, []⟩ :: ⟨.mov (.t 0), (some 7), none, []⟩ :: L137_2
theorem v137_3 : VS L137_3.eq_1 := rfl
def L137_4 : List AStep := [⟨.bin .eql (.t 16) (.t 17), (some 18), none, []⟩]
theorem v137_4 : VS L137_4.eq_1 := rfl
def L137_5 : List AStep := ⟨.load 1 false (.t 15), (some 16), none, []⟩ :: ⟨.mov (.t 1), (some 17), none, []⟩ :: L137_4
theorem v137_5 : VS L137_5.eq_1 := rfl
def L137_6 : List AStep := ⟨.iaddr 4 (.t 12) (.t 13), (some 14), none, []⟩ :: ⟨.faddr 0 (.t 14), (some 15), none, []⟩ :: L137_5
theorem v137_6 : VS L137_6.eq_1 := rfl
def L137_7 : List AStep := ⟨.mov (.t 0), (some 12), none, []⟩ :: ⟨.mov (.t 5), (some 13), none, []⟩ :: L137_6
theorem v137_7 : VS L137_7.eq_1 := rfl
def L137_8 : List AStep := [⟨.mov (.t 5), (some 19), none, []⟩, ⟨.mov (.t 19), (some 4), none, []⟩]
theorem v137_8 : VS L137_8.eq_1 := rfl
def L137_9 : List AStep := [⟨.mov (.t 11), (some 5), none, []⟩]
theorem v137_9 : VS L137_9.eq_1 := rfl
def L137_10 : List AStep := ⟨.mov (.t 5), (some 10), none, []⟩ :: ⟨.bin .add (.t 10) (.c (.int .i64 1)), (some 11), none, []⟩ :: L137_9
theorem v137_10 : VS L137_10.eq_1 := rfl
def L137_11 : List AStep := [⟨.mov (.c (.int .i64 (-1))), (some 4), none, []⟩]
theorem v137_11 : VS L137_11.eq_1 := rfl
def C137_0 : ACode := .cond (.t 9) .skip (.exit 0)
theorem u137_0 : VC C137_0.eq_1 := rfl
def C137_1 : ACode := .seq (.reg L137_3) C137_0
theorem u137_1 : VC C137_1.eq_1 := rfl
def C137_2 : ACode := .seq (.reg L137_8) .ret
theorem u137_2 : VC C137_2.eq_1 := rfl
def C137_3 : ACode := .cond (.t 18) C137_2 .skip
theorem u137_3 : VC C137_3.eq_1 := rfl
def C137_4 : ACode := .seq (.reg L137_7) C137_3
theorem u137_4 : VC C137_4.eq_1 := rfl
def C137_5 : ACode := .block 1 C137_4
theorem u137_5 : VC C137_5.eq_1 := rfl
def C137_6 : ACode := .seq C137_5 (.reg L137_10)
theorem u137_6 : VC C137_6.eq_1 := rfl
def C137_7 : ACode := .seq C137_1 C137_6
theorem u137_7 : VC C137_7.eq_1 := rfl
def C137_8 : ACode := .block 0 (.loop C137_7)
theorem u137_8 : VC C137_8.eq_1 := rfl
def C137_9 : ACode := .seq (.reg L137_1) C137_8
theorem u137_9 : VC C137_9.eq_1 := rfl
def C137_10 : ACode := .seq (.reg L137_11) .ret
theorem u137_10 : VC C137_10.eq_1 := rfl
def C137_11 : ACode := .seq C137_9 C137_10
theorem u137_11 : VC C137_11.eq_1 := rfl
def C137_12 : ACode := .seq (.reg L137_0) C137_11
theorem u137_12 : VC C137_12.eq_1 := rfl
def F137 : AFunc := ⟨20, [.tmp 4], C137_12⟩
theorem cF137 : compB Try.prog 137 = some F137 := by kernel_rfl
attribute [local go_sem ↓] u137_0 u137_1 u137_2 u137_3 u137_4 u137_5 u137_6 u137_7 u137_8 u137_9 u137_10 u137_11 u137_12 v137_0 v137_1 v137_2 v137_3 v137_4 v137_5 v137_6 v137_7 v137_8 v137_9 v137_10 v137_11
theorem c_findParam (l : List Param) (v : AV) (s : ByteArray) (h : H) (hl : SlQ h v l) (hn : smQ l) : bm Try.prog 137 [v, .one (.str s)] h = some (ii (paramAt l s), h) := by
  refine bm_eq cF137 ?_
  simp +contextual (maxSteps := 2000000) only [go_sem, Nat.reduceEqDiff, reduceCtorEq, Nat.reduceAdd, Nat.reduceLeDiff, F137]
  refine wpC_loop (fun i T L h' => h' = h ∧ T 0 = .v v ∧ T 1 = .v (.one (.str s)) ∧ T 5 = .v (.one (.int .i64 i)) ∧ Pre (fun p => decide (p.name = s)) false l i) l.length ?_ ?_ (Nat.zero_le _) ?_
  · rintro i T L h' hi ⟨rfl, h0, h1, h3, hp⟩
    simp +contextual (maxSteps := 2000000) only [go_sem, Nat.reduceEqDiff, reduceCtorEq, Nat.reduceAdd, Nat.reduceLeDiff, h0, h1, h3, hl.len, hl.iaddr hi, hl.fieldO hi, lt_true hi]
    (repeat' (first | refine And.intro ?_ ?_ | intro _)) <;> first | rfl | rw [wrap_next hi hn.len] | exact hp.next hi ‹_› | rw [paramAt, idx_hit hi hp ‹_›]
  · rintro T L h' ⟨rfl, h0, h1, h3, hp⟩
    simp +contextual (maxSteps := 2000000) only [go_sem, Nat.reduceEqDiff, reduceCtorEq, Nat.reduceAdd, Nat.reduceLeDiff, h0, h1, h3, hl.len, lt_false, paramAt, idx_none hp]
  · simp +contextual (maxSteps := 2000000) only [go_sem, Nat.reduceEqDiff, reduceCtorEq, Nat.reduceAdd, Nat.reduceLeDiff]
    (repeat' (first | refine And.intro ?_ ?_ | intro _)) <;> first | rfl | exact Pre.zero
/-! spec.kindAt -/
def L99_0 : List AStep := [⟨.mov (.c (.int .i64 0)), (some 4), none, []⟩]
theorem v99_0 : VS L99_0.eq_1 := rfl
def L99_1 : List AStep := [⟨.mov (.c (.int .i64 0)), (some 5), none, []⟩]
theorem v99_1 : VS L99_1.eq_1 := rfl
def L99_2 : List AStep := [⟨.len (.t 7), (some 8), none, []⟩, ⟨.bin .lss (.t 6) (.t 8), (some 9), none, []⟩]
theorem v99_2 : VS L99_2.eq_1 := rfl
def L99_3 : List AStep := ⟨.mov (.t 5), (some 6), none, []⟩ :: ⟨.mov (.t 0), (some 7), none, []⟩ :: L99_2
theorem v99_3 : VS L99_3.eq_1 := rfl
def L99_4 : List AStep := [⟨.bin .eql (.t 16) (.t 17), (some 18), none, []⟩]
theorem v99_4 : VS L99_4.eq_1 := rfl
def L99_5 : List AStep := ⟨.load 1 false (.t 15), (some 16), none, []⟩ :: ⟨.mov (.t 1), (some 17), none, []⟩ :: L99_4
theorem v99_5 : VS L99_5.eq_1 := rfl
def L99_6 : List AStep := ⟨.iaddr 4 (.t 12) (.t 13), (some 14), none, []⟩ :: ⟨.faddr 1 (.t 14), (some 15), none, []⟩ :: L99_5
theorem v99_6 : VS L99_6.eq_1 := rfl
def L99_7 : List AStep := ⟨.mov (.t 0), (some 12), none, []⟩ :: ⟨.mov (.t 5), (some 13), none, []⟩ :: L99_6
theorem v99_7 : VS L99_7.eq_1 := rfl
def L99_8 : List AStep := [⟨.mov (.t 5), (some 19), none, []⟩, ⟨.mov (.t 19), (some 4), none, []⟩]
theorem v99_8 : VS L99_8.eq_1 := rfl
def L99_9 : List AStep := [⟨.mov (.t 11), (some 5), none, []⟩]
theorem v99_9 : VS L99_9.eq_1 := rfl
def L99_10 : List AStep := ⟨.mov (.t 5), (some 10), none, []⟩ :: ⟨.bin .add (.t 10) (.c (.int .i64 1)), (some 11), none, []⟩ :: L99_9
theorem v99_10 : VS L99_10.eq_1 := rfl
def L99_11 : List AStep := [⟨.mov (.c (.int .i64 (-1))), (some 4), none, []⟩]
theorem v99_11 : VS L99_11.eq_1 := rfl
def C99_0 : ACode := .cond (.t 9) .skip (.exit 0)
theorem u99_0 : VC C99_0.eq_1 := rfl
def C99_1 : ACode := .seq (.reg L99_3) C99_0
theorem u99_1 : VC C99_1.eq_1 := rfl
def C99_2 : ACode := .seq (.reg L99_8) .ret
theorem u99_2 : VC C99_2.eq_1 := rfl
def C99_3 : ACode := .cond (.t 18) C99_2 .skip
theorem u99_3 : VC C99_3.eq_1 := rfl
def C99_4 : ACode := .seq (.reg L99_7) C99_3
theorem u99_4 : VC C99_4.eq_1 := rfl
def C99_5 : ACode := .block 1 C99_4
theorem u99_5 : VC C99_5.eq_1 := rfl
def C99_6 : ACode := .seq C99_5 (.reg L99_10)
theorem u99_6 : VC C99_6.eq_1 := rfl
def C99_7 : ACode := .seq C99_1 C99_6
theorem u99_7 : VC C99_7.eq_1 := rfl
def C99_8 : ACode := .block 0 (.loop C99_7)
theorem u99_8 : VC C99_8.eq_1 := rfl
def C99_9 : ACode := .seq (.reg L99_1) C99_8
theorem u99_9 : VC C99_9.eq_1 := rfl
def C99_10 : ACode := .seq (.reg L99_11) .ret
theorem u99_10 : VC C99_10.eq_1 := rfl
def C99_11 : ACode := .seq C99_9 C99_10
theorem u99_11 : VC C99_11.eq_1 := rfl
def C99_12 : ACode := .seq (.reg L99_0) C99_11
theorem u99_12 : VC C99_12.eq_1 := rfl
def F99 : AFunc := ⟨20, [.tmp 4], C99_12⟩
theorem cF99 : compB Try.prog 99 = some F99 := by kernel_rfl
attribute [local go_sem ↓] u99_0 u99_1 u99_2 u99_3 u99_4 u99_5 u99_6 u99_7 u99_8 u99_9 u99_10 u99_11 u99_12 v99_0 v99_1 v99_2 v99_3 v99_4 v99_5 v99_6 v99_7 v99_8 v99_9 v99_10 v99_11
theorem c_kindAt (l : List Param) (v : AV) (k : Int) (h : H) (hl : SlQ h v l) (hn : smQ l) : bm Try.prog 99 [v, .one (.int .i64 k)] h = some (ii (kindAt l k), h) := by
  refine bm_eq cF99 ?_
  simp +contextual (maxSteps := 2000000) only [go_sem, Nat.reduceEqDiff, reduceCtorEq, Nat.reduceAdd, Nat.reduceLeDiff, F99]
  refine wpC_loop (fun i T L h' => h' = h ∧ T 0 = .v v ∧ T 1 = .v (.one (.int .i64 k)) ∧ T 5 = .v (.one (.int .i64 i)) ∧ Pre (fun p => decide (p.kind = k)) false l i) l.length ?_ ?_ (Nat.zero_le _) ?_
  · rintro i T L h' hi ⟨rfl, h0, h1, h3, hp⟩
    simp +contextual (maxSteps := 2000000) only [go_sem, Nat.reduceEqDiff, reduceCtorEq, Nat.reduceAdd, Nat.reduceLeDiff, h0, h1, h3, hl.len, hl.iaddr hi, hl.fieldO hi, lt_true hi]
    (repeat' (first | refine And.intro ?_ ?_ | intro _)) <;> first | rfl | rw [wrap_next hi hn.len] | exact hp.next hi ‹_› | rw [kindAt, idx_hit hi hp ‹_›]
  · rintro T L h' ⟨rfl, h0, h1, h3, hp⟩
    simp +contextual (maxSteps := 2000000) only [go_sem, Nat.reduceEqDiff, reduceCtorEq, Nat.reduceAdd, Nat.reduceLeDiff, h0, h1, h3, hl.len, lt_false, kindAt, idx_none hp]
  · simp +contextual (maxSteps := 2000000) only [go_sem, Nat.reduceEqDiff, reduceCtorEq, Nat.reduceAdd, Nat.reduceLeDiff]
    (repeat' (first | refine And.intro ?_ ?_ | intro _)) <;> first | rfl | exact Pre.zero
/-! spec.placeCount -/
def L98_0 : List AStep := [⟨.box 25 (.t 0), (some 1), none, []⟩, ⟨.mov (.c (.int .i64 0)), (some 2), none, []⟩]
theorem v98_0 : VS L98_0.eq_1 := rfl
def L98_1 : List AStep := [⟨.mov (.c (.int .i64 0)), (some 3), none, []⟩]
theorem v98_1 : VS L98_1.eq_1 := rfl
def L98_2 : List AStep := [⟨.mov (.c (.int .i64 0)), (some 4), none, []⟩]
theorem v98_2 : VS L98_2.eq_1 := rfl
def L98_3 : List AStep := [⟨.bin .lss (.t 5) (.t 8), (some 9), none, []⟩]
theorem v98_3 : VS L98_3.eq_1 := rfl
def L98_4 : List AStep := ⟨.load 1 false (.t 6), (some 7), none, []⟩ :: ⟨.len (.t 7), (some 8), none, []⟩ :: L98_3
theorem v98_4 : VS L98_4.eq_1 := rfl
def L98_5 : List AStep := ⟨.mov (.t 4), (some 5), none, []⟩ :: ⟨.faddr 0 (.t 1), (some 6), none, []⟩ :: L98_4
theorem v98_5 : VS L98_5.eq_1 := rfl
def L98_6 : List AStep := [⟨.load 4 true (.t 15), (some 16), none, []⟩, ⟨.call 101 [(.t 16)], (some 17), none, []⟩]
theorem v98_6 : VS L98_6.eq_1 := rfl
def L98_7 : List AStep := ⟨.mov (.t 4), (some 14), none, []⟩ :: ⟨.iaddr 4 (.t 13) (.t 14), (some 15), none, []⟩ :: L98_6
theorem v98_7 : VS L98_7.eq_1 := rfl
def L98_8 : List AStep := ⟨.faddr 0 (.t 1), (some 12), none, []⟩ :: ⟨.load 1 false (.t 12), (some 13), none, []⟩ :: L98_7
theorem v98_8 : VS L98_8.eq_1 := rfl
def L98_9 : List AStep := [⟨.mov (.t 19), (some 3), none, []⟩]
theorem v98_9 : VS L98_9.eq_1 := rfl
def L98_10 : List AStep := ⟨.mov (.t 3), (some 18), none, []⟩ :: ⟨.bin .add (.t 18) (.c (.int .i64 1)), (some 19), none, []⟩ :: L98_9
theorem v98_10 : VS L98_10.eq_1 := rfl
def L98_11 : List AStep := [⟨.mov (.t 11), (some 4), none, []⟩]
theorem v98_11 : VS L98_11.eq_1 := rfl
def L98_12 : List AStep := ⟨.mov (.t 4), (some 10), none, []⟩ :: ⟨.bin .add (.t 10) (.c (.int .i64 1)), (some 11), none, []⟩ :: L98_11
theorem v98_12 : VS L98_12.eq_1 := rfl
def L98_13 : List AStep := [⟨.mov (.t 3), (some 20), none, []⟩, ⟨.mov (.t 20), (some 2), none, []⟩]
theorem v98_13 : VS L98_13.eq_1 := rfl
def C98_0 : ACode := .cond (.t 9) .skip (.exit 0)
theorem u98_0 : VC C98_0.eq_1 := rfl
def C98_1 : ACode := .seq (.reg L98_5) C98_0
theorem u98_1 : VC C98_1.eq_1 := rfl
def C98_2 : ACode := .cond (.t 17) (.reg L98_10) .skip
theorem u98_2 : VC C98_2.eq_1 := rfl
def C98_3 : ACode := .seq (.reg L98_8) C98_2
theorem u98_3 : VC C98_3.eq_1 := rfl
def C98_4 : ACode := .block 1 C98_3
theorem u98_4 : VC C98_4.eq_1 := rfl
def C98_5 : ACode := .seq C98_4 (.reg L98_12)
theorem u98_5 : VC C98_5.eq_1 := rfl
def C98_6 : ACode := .seq C98_1 C98_5
theorem u98_6 : VC C98_6.eq_1 := rfl
def C98_7 : ACode := .block 0 (.loop C98_6)
theorem u98_7 : VC C98_7.eq_1 := rfl
def C98_8 : ACode := .seq (.reg L98_2) C98_7
theorem u98_8 : VC C98_8.eq_1 := rfl
def C98_9 : ACode := .seq (.reg L98_13) .ret
theorem u98_9 : VC C98_9.eq_1 := rfl
def C98_10 : ACode := .seq C98_8 C98_9
theorem u98_10 : VC C98_10.eq_1 := rfl
def C98_11 : ACode := .seq (.reg L98_1) C98_10
theorem u98_11 : VC C98_11.eq_1 := rfl
def C98_12 : ACode := .seq (.reg L98_0) C98_11
theorem u98_12 : VC C98_12.eq_1 := rfl
def F98 : AFunc := ⟨21, [.tmp 2], C98_12⟩
theorem cF98 : compB Try.prog 98 = some F98 := by kernel_rfl
attribute [local go_sem ↓] u98_0 u98_1 u98_2 u98_3 u98_4 u98_5 u98_6 u98_7 u98_8 u98_9 u98_10 u98_11 u98_12 v98_0 v98_1 v98_2 v98_3 v98_4 v98_5 v98_6 v98_7 v98_8 v98_9 v98_10 v98_11 v98_12 v98_13
theorem c_placeCount (l : List Param) (pv : CV) (h : H) (hl : SlQ h (.one pv) l) (hn : smQ l) : bm Try.prog 98 [.agg [pv]] h = some (ii (l.countP byPlace), h) := by
  refine bm_eq cF98 ?_
  simp +contextual (maxSteps := 2000000) only [go_sem, Nat.reduceEqDiff, reduceCtorEq, Nat.reduceAdd, Nat.reduceLeDiff, F98]
  refine wpC_loop (fun i T L h' => h' = h ∧ T 1 = .lp 1 0 ∧ (L 1).2 = [pv] ∧ T 3 = .v (.one (.int .i64 (cnt byPlace l i))) ∧ T 4 = .v (.one (.int .i64 i))) l.length ?_ ?_ (Nat.zero_le _) ?_
  · rintro i T L h' hi ⟨rfl, t1, l1, t3, t4⟩
    have b1 := cnt_le (p := byPlace) (l := l) (i := i)
    have b2 := hn.len
    simp +contextual (maxSteps := 2000000) only [go_sem, Nat.reduceEqDiff, reduceCtorEq, Nat.reduceAdd, Nat.reduceLeDiff, t1, l1, t3, t4, hl.len, hl.iaddr hi, hl.whole hi, c_byPlace, lt_true hi, cnt_next hi]
    (repeat' (first | refine And.intro ?_ ?_ | intro _)) <;> first | rfl | rw [wrap_next hi hn.len] | (rw [i64_wrap (by omega) (by omega)]; simp_all) | simp_all
  · rintro T L h' ⟨rfl, t1, l1, t3, t4⟩
    simp +contextual (maxSteps := 2000000) only [go_sem, Nat.reduceEqDiff, reduceCtorEq, Nat.reduceAdd, Nat.reduceLeDiff, t1, l1, t3, t4, hl.len, lt_false, cnt_all]
  · simp +contextual (maxSteps := 2000000) only [go_sem, Nat.reduceEqDiff, reduceCtorEq, Nat.reduceAdd, Nat.reduceLeDiff, cnt_zero]
    (repeat' (first | refine And.intro ?_ ?_ | intro _)) <;> first | rfl
/-! spec.takesName -/
def L100_0 : List AStep := [⟨.box 25 (.t 0), (some 2), none, []⟩, ⟨.mov (.c (.int .i64 0)), (some 4), none, []⟩]
theorem v100_0 : VS L100_0.eq_1 := rfl
def L100_1 : List AStep := [⟨.mov (.t 9), (some 5), none, []⟩]
theorem v100_1 : VS L100_1.eq_1 := rfl
def L100_2 : List AStep := ⟨.mov (.t 1), (some 8), none, []⟩ :: ⟨.call 137 [(.t 7), (.t 8)], (some 9), none, []⟩ :: L100_1
theorem v100_2 : VS L100_2.eq_1 := rfl
def L100_3 : List AStep := ⟨.faddr 0 (.t 2), (some 6), none, []⟩ :: ⟨.load 1 false (.t 6), (some 7), none, []⟩ :: L100_2
theorem v100_3 : VS L100_3.eq_1 := rfl
def L100_4 : List AStep := [⟨.call 102 [(.t 17)], (some 18), (some (12, true)), []⟩, ⟨.pick (.t 12) (.t 18) (.c (.bool false)), (some 19), none, []⟩]
theorem v100_4 : VS L100_4.eq_1 := rfl
def L100_5 : List AStep := ⟨.iaddr 4 (.t 14) (.t 15), (some 16), (some (12, true)), []⟩ :: ⟨.load 4 true (.t 16), (some 17), (some (12, true)), []⟩ :: L100_4
theorem v100_5 : VS L100_5.eq_1 := rfl
def L100_6 : List AStep := ⟨.load 1 false (.t 13), (some 14), (some (12, true)), []⟩ :: ⟨.mov (.t 5), (some 15), (some (12, true)), []⟩ :: L100_5
theorem v100_6 : VS L100_6.eq_1 := rfl
def L100_7 : List AStep := ⟨.mov (.t 11), (some 12), none, []⟩ :: ⟨.faddr 0 (.t 2), (some 13), (some (12, true)), []⟩ :: L100_6
theorem v100_7 : VS L100_7.eq_1 := rfl
def L100_8 : List AStep := ⟨.mov (.t 5), (some 10), none, []⟩ :: ⟨.bin .geq (.t 10) (.c (.int .i64 0)), (some 11), none, []⟩ :: L100_7
theorem v100_8 : VS L100_8.eq_1 := rfl
def L100_9 : List AStep := [⟨.mov (.t 5), (some 20), none, []⟩, ⟨.mov (.t 20), (some 4), none, []⟩]
theorem v100_9 : VS L100_9.eq_1 := rfl
def L100_10 : List AStep := [⟨.call 99 [(.t 22), (.c (.int .i64 4))], (some 23), none, []⟩, ⟨.mov (.t 23), (some 4), none, []⟩]
theorem v100_10 : VS L100_10.eq_1 := rfl
def L100_11 : List AStep := ⟨.faddr 0 (.t 2), (some 21), none, []⟩ :: ⟨.load 1 false (.t 21), (some 22), none, []⟩ :: L100_10
theorem v100_11 : VS L100_11.eq_1 := rfl
def C100_0 : ACode := .seq (.reg L100_9) .ret
theorem u100_0 : VC C100_0.eq_1 := rfl
def C100_1 : ACode := .cond (.t 19) C100_0 .skip
theorem u100_1 : VC C100_1.eq_1 := rfl
def C100_2 : ACode := .seq (.reg L100_8) C100_1
theorem u100_2 : VC C100_2.eq_1 := rfl
def C100_3 : ACode := .seq (.reg L100_11) .ret
theorem u100_3 : VC C100_3.eq_1 := rfl
def C100_4 : ACode := .seq C100_2 C100_3
theorem u100_4 : VC C100_4.eq_1 := rfl
def C100_5 : ACode := .seq (.reg L100_3) C100_4
theorem u100_5 : VC C100_5.eq_1 := rfl
def C100_6 : ACode := .seq (.reg L100_0) C100_5
theorem u100_6 : VC C100_6.eq_1 := rfl
def F100 : AFunc := ⟨24, [.tmp 4], C100_6⟩
theorem cF100 : compB Try.prog 100 = some F100 := by kernel_rfl
attribute [local go_sem ↓] u100_0 u100_1 u100_2 u100_3 u100_4 u100_5 u100_6 v100_0 v100_1 v100_2 v100_3 v100_4 v100_5 v100_6 v100_7 v100_8 v100_9 v100_10 v100_11
theorem c_takesName (l : List Param) (pv : CV) (s : ByteArray) (h : H) (hl : SlQ h (.one pv) l) (hn : smQ l) : bm Try.prog 100 [.agg [pv], .one (.str s)] h = some (ii (takes l s), h) := by
  refine bm_eq cF100 ?_
  rcases idx_cases (fun p : Param => decide (p.name = s)) l with e | ⟨j, hj, e, _⟩ <;> (replace e := (show paramAt l s = _ from e))
  · simp +contextual (maxSteps := 2000000) only [go_sem, Nat.reduceEqDiff, reduceCtorEq, Nat.reduceAdd, Nat.reduceLeDiff, F100, c_findParam _ _ _ _ hl hn, e, c_kindAt _ _ _ _ hl hn, takes_none e]
  · simp +contextual (maxSteps := 2000000) only [go_sem, Nat.reduceEqDiff, reduceCtorEq, Nat.reduceAdd, Nat.reduceLeDiff, F100, c_findParam _ _ _ _ hl hn, e, c_kindAt _ _ _ _ hl hn, takes_some hj e, hl.iaddr hj, hl.whole hj, c_byName]
/-! spec.validParams -/
def L114_0 : List AStep := [⟨.mov (.c (.bool false)), (some 2), none, []⟩]
theorem v114_0 : VS L114_0.eq_1 := rfl
def L114_1 : List AStep := [⟨.mov (.c (.int .i64 0)), (some 3), none, []⟩]
theorem v114_1 : VS L114_1.eq_1 := rfl
def L114_2 : List AStep := [⟨.len (.t 7), (some 8), none, []⟩, ⟨.bin .lss (.t 6) (.t 8), (some 9), none, []⟩]
theorem v114_2 : VS L114_2.eq_1 := rfl
def L114_3 : List AStep := ⟨.mov (.t 3), (some 6), none, []⟩ :: ⟨.mov (.t 0), (some 7), none, []⟩ :: L114_2
theorem v114_3 : VS L114_3.eq_1 := rfl
def L114_4 : List AStep := [⟨.alloc 44 [(.str (strOfNums [])), (.int .i64 0), (.bool false), (.int .i64 0)], (some 4), none, []⟩, ⟨.store 4 (.t 4) (.t 15), none, none, []⟩]
theorem v114_4 : VS L114_4.eq_1 := rfl
def L114_5 : List AStep := ⟨.iaddr 4 (.t 12) (.t 13), (some 14), none, []⟩ :: ⟨.load 4 true (.t 14), (some 15), none, []⟩ :: L114_4
theorem v114_5 : VS L114_5.eq_1 := rfl
def L114_6 : List AStep := ⟨.mov (.t 0), (some 12), none, []⟩ :: ⟨.mov (.t 3), (some 13), none, []⟩ :: L114_5
theorem v114_6 : VS L114_6.eq_1 := rfl
def L114_7 : List AStep := [⟨.bin .geq (.t 25) (.c (.int .i64 0)), (some 26), (some (19, false)), []⟩, ⟨.pick (.t 19) (.c (.bool true)) (.t 26), (some 27), none, []⟩]
theorem v114_7 : VS L114_7.eq_1 := rfl
def L114_8 : List AStep := ⟨.load 1 false (.t 23), (some 24), (some (19, false)), []⟩ :: ⟨.call 137 [(.t 22), (.t 24)], (some 25), (some (19, false)), []⟩ :: L114_7
theorem v114_8 : VS L114_8.eq_1 := rfl
def L114_9 : List AStep := ⟨.slice 44 4 (.t 20) none (some (.t 21)) none, (some 22), (some (19, false)), []⟩ :: ⟨.faddr 0 (.t 4), (some 23), (some (19, false)), []⟩ :: L114_8
theorem v114_9 : VS L114_9.eq_1 := rfl
def L114_10 : List AStep := ⟨.mov (.t 0), (some 20), (some (19, false)), []⟩ :: ⟨.mov (.t 3), (some 21), (some (19, false)), []⟩ :: L114_9
theorem v114_10 : VS L114_10.eq_1 := rfl
def L114_11 : List AStep := ⟨.not (.t 17), (some 18), none, []⟩ :: ⟨.mov (.t 18), (some 19), none, []⟩ :: L114_10
theorem v114_11 : VS L114_11.eq_1 := rfl
def L114_12 : List AStep := ⟨.load 4 true (.t 4), (some 16), none, []⟩ :: ⟨.call 142 [(.t 16)], (some 17), none, []⟩ :: L114_11
theorem v114_12 : VS L114_12.eq_1 := rfl
def L114_13 : List AStep := [⟨.mov (.c (.bool false)), (some 2), none, []⟩]
theorem v114_13 : VS L114_13.eq_1 := rfl
def L114_14 : List AStep := [⟨.mov (.t 3), (some 28), none, []⟩, ⟨.bin .eql (.t 28) (.c (.int .i64 0)), (some 29), none, []⟩]
theorem v114_14 : VS L114_14.eq_1 := rfl
def L114_15 : List AStep := [⟨.store 4 (.t 5) (.t 34), none, none, []⟩]
theorem v114_15 : VS L114_15.eq_1 := rfl
def L114_16 : List AStep := ⟨.load 4 true (.t 33), (some 34), none, []⟩ :: ⟨.alloc 44 [(.str (strOfNums [])), (.int .i64 0), (.bool false), (.int .i64 0)], (some 5), none, []⟩ :: L114_15
theorem v114_16 : VS L114_16.eq_1 := rfl
def L114_17 : List AStep := ⟨.bin .sub (.t 31) (.c (.int .i64 1)), (some 32), none, []⟩ :: ⟨.iaddr 4 (.t 30) (.t 32), (some 33), none, []⟩ :: L114_16
theorem v114_17 : VS L114_17.eq_1 := rfl
def L114_18 : List AStep := ⟨.mov (.t 0), (some 30), none, []⟩ :: ⟨.mov (.t 3), (some 31), none, []⟩ :: L114_17
theorem v114_18 : VS L114_18.eq_1 := rfl
def L114_19 : List AStep := [⟨.pick (.t 59) (.t 62) (.c (.bool false)), (some 63), (some (52, false)), []⟩, ⟨.pick (.t 52) (.c (.bool true)) (.t 63), (some 64), none, []⟩]
theorem v114_19 : VS L114_19.eq_1 := rfl
def L114_20 : List AStep := ⟨.load 1 false (.t 60), (some 61), (some (59, true)), []⟩ :: ⟨.not (.t 61), (some 62), (some (59, true)), []⟩ :: L114_19
theorem v114_20 : VS L114_20.eq_1 := rfl
def L114_21 : List AStep := ⟨.mov (.t 58), (some 59), (some (52, false)), []⟩ :: ⟨.faddr 2 (.t 4), (some 60), (some (59, true)), []⟩ :: L114_20
theorem v114_21 : VS L114_21.eq_1 := rfl
def L114_22 : List AStep := ⟨.load 1 false (.t 56), (some 57), (some (55, true)), []⟩ :: ⟨.pick (.t 55) (.t 57) (.c (.bool false)), (some 58), (some (52, false)), []⟩ :: L114_21
theorem v114_22 : VS L114_22.eq_1 := rfl
def L114_23 : List AStep := ⟨.mov (.t 54), (some 55), (some (52, false)), []⟩ :: ⟨.faddr 2 (.t 5), (some 56), (some (55, true)), []⟩ :: L114_22
theorem v114_23 : VS L114_23.eq_1 := rfl
def L114_24 : List AStep := ⟨.load 4 true (.t 4), (some 53), (some (52, false)), []⟩ :: ⟨.call 101 [(.t 53)], (some 54), (some (52, false)), []⟩ :: L114_23
theorem v114_24 : VS L114_24.eq_1 := rfl
def L114_25 : List AStep := ⟨.pick (.t 40) (.c (.bool true)) (.t 50), (some 51), none, []⟩ :: ⟨.mov (.t 51), (some 52), none, []⟩ :: L114_24
theorem v114_25 : VS L114_25.eq_1 := rfl
def L114_26 : List AStep := ⟨.not (.t 48), (some 49), (some (46, true)), []⟩ :: ⟨.pick (.t 46) (.t 49) (.c (.bool false)), (some 50), (some (40, false)), []⟩ :: L114_25
theorem v114_26 : VS L114_26.eq_1 := rfl
def L114_27 : List AStep := ⟨.load 4 true (.t 4), (some 47), (some (46, true)), []⟩ :: ⟨.call 53 [(.t 47)], (some 48), (some (46, true)), []⟩ :: L114_26
theorem v114_27 : VS L114_27.eq_1 := rfl
def L114_28 : List AStep := ⟨.bin .eql (.t 42) (.t 44), (some 45), (some (40, false)), []⟩ :: ⟨.mov (.t 45), (some 46), (some (40, false)), []⟩ :: L114_27
theorem v114_28 : VS L114_28.eq_1 := rfl
def L114_29 : List AStep := ⟨.faddr 1 (.t 5), (some 43), (some (40, false)), []⟩ :: ⟨.load 1 false (.t 43), (some 44), (some (40, false)), []⟩ :: L114_28
theorem v114_29 : VS L114_29.eq_1 := rfl
def L114_30 : List AStep := ⟨.faddr 1 (.t 4), (some 41), (some (40, false)), []⟩ :: ⟨.load 1 false (.t 41), (some 42), (some (40, false)), []⟩ :: L114_29
theorem v114_30 : VS L114_30.eq_1 := rfl
def L114_31 : List AStep := ⟨.bin .lss (.t 36) (.t 38), (some 39), none, []⟩ :: ⟨.mov (.t 39), (some 40), none, []⟩ :: L114_30
theorem v114_31 : VS L114_31.eq_1 := rfl
def L114_32 : List AStep := ⟨.faddr 1 (.t 5), (some 37), none, []⟩ :: ⟨.load 1 false (.t 37), (some 38), none, []⟩ :: L114_31
theorem v114_32 : VS L114_32.eq_1 := rfl
def L114_33 : List AStep := ⟨.faddr 1 (.t 4), (some 35), none, []⟩ :: ⟨.load 1 false (.t 35), (some 36), none, []⟩ :: L114_32
theorem v114_33 : VS L114_33.eq_1 := rfl
def L114_34 : List AStep := [⟨.mov (.c (.bool false)), (some 2), none, []⟩]
theorem v114_34 : VS L114_34.eq_1 := rfl
def L114_35 : List AStep := [⟨.mov (.t 11), (some 3), none, []⟩]
theorem v114_35 : VS L114_35.eq_1 := rfl
def L114_36 : List AStep := ⟨.mov (.t 3), (some 10), none, []⟩ :: ⟨.bin .add (.t 10) (.c (.int .i64 1)), (some 11), none, []⟩ :: L114_35
theorem v114_36 : VS L114_36.eq_1 := rfl
def L114_37 : List AStep := [⟨.bin .leq (.t 66) (.c (.int .i64 8)), (some 67), none, []⟩, ⟨.mov (.t 67), (some 2), none, []⟩]
theorem v114_37 : VS L114_37.eq_1 := rfl
def L114_38 : List AStep := ⟨.mov (.t 0), (some 65), none, []⟩ :: ⟨.len (.t 65), (some 66), none, []⟩ :: L114_37
theorem v114_38 : VS L114_38.eq_1 := rfl
def C114_0 : ACode := .cond (.t 9) .skip (.exit 0)
theorem u114_0 : VC C114_0.eq_1 := rfl
def C114_1 : ACode := .seq (.reg L114_3) C114_0
theorem u114_1 : VC C114_1.eq_1 := rfl
def C114_2 : ACode := .seq (.reg L114_13) .ret
theorem u114_2 : VC C114_2.eq_1 := rfl
def C114_3 : ACode := .cond (.t 27) C114_2 .skip
theorem u114_3 : VC C114_3.eq_1 := rfl
def C114_4 : ACode := .seq (.reg L114_12) C114_3
theorem u114_4 : VC C114_4.eq_1 := rfl
def C114_5 : ACode := .cond (.t 29) (.exit 1) .skip
theorem u114_5 : VC C114_5.eq_1 := rfl
def C114_6 : ACode := .seq (.reg L114_14) C114_5
theorem u114_6 : VC C114_6.eq_1 := rfl
def C114_7 : ACode := .seq (.reg L114_34) .ret
theorem u114_7 : VC C114_7.eq_1 := rfl
def C114_8 : ACode := .cond (.t 64) C114_7 .skip
theorem u114_8 : VC C114_8.eq_1 := rfl
def C114_9 : ACode := .seq (.reg L114_33) C114_8
theorem u114_9 : VC C114_9.eq_1 := rfl
def C114_10 : ACode := .seq (.reg L114_18) C114_9
theorem u114_10 : VC C114_10.eq_1 := rfl
def C114_11 : ACode := .seq C114_6 C114_10
theorem u114_11 : VC C114_11.eq_1 := rfl
def C114_12 : ACode := .seq C114_4 C114_11
theorem u114_12 : VC C114_12.eq_1 := rfl
def C114_13 : ACode := .seq (.reg L114_6) C114_12
theorem u114_13 : VC C114_13.eq_1 := rfl
def C114_14 : ACode := .block 1 C114_13
theorem u114_14 : VC C114_14.eq_1 := rfl
def C114_15 : ACode := .seq C114_14 (.reg L114_36)
theorem u114_15 : VC C114_15.eq_1 := rfl
def C114_16 : ACode := .seq C114_1 C114_15
theorem u114_16 : VC C114_16.eq_1 := rfl
def C114_17 : ACode := .block 0 (.loop C114_16)
theorem u114_17 : VC C114_17.eq_1 := rfl
def C114_18 : ACode := .seq (.reg L114_1) C114_17
theorem u114_18 : VC C114_18.eq_1 := rfl
def C114_19 : ACode := .seq (.reg L114_38) .ret
theorem u114_19 : VC C114_19.eq_1 := rfl
def C114_20 : ACode := .seq C114_18 C114_19
theorem u114_20 : VC C114_20.eq_1 := rfl
def C114_21 : ACode := .seq (.reg L114_0) C114_20
theorem u114_21 : VC C114_21.eq_1 := rfl
def F114 : AFunc := ⟨68, [.tmp 2], C114_21⟩
theorem cF114 : compB Try.prog 114 = some F114 := by kernel_rfl
attribute [local go_sem ↓] u114_0 u114_1 u114_2 u114_3 u114_4 u114_5 u114_6 u114_7 u114_8 u114_9 u114_10 u114_11 u114_12 u114_13 u114_14 u114_15 u114_16 u114_17 u114_18 u114_19 u114_20 u114_21 v114_0 v114_1 v114_2 v114_3 v114_4 v114_5 v114_6 v114_7 v114_8 v114_9 v114_10 v114_11 v114_12 v114_13 v114_14 v114_15 v114_16 v114_17 v114_18 v114_19 v114_20 v114_21 v114_22 v114_23 v114_24 v114_25 v114_26 v114_27 v114_28 v114_29 v114_30 v114_31 v114_32 v114_33 v114_34 v114_35 v114_36 v114_37 v114_38
theorem c_validParams (l : List Param) (v : AV) (h : H) (hl : SlQ h v l) (hn : smQ l) : bm Try.prog 114 [v] h = some (ib (okSig l), h) := by
  refine bm_eq cF114 ?_
  simp +contextual (maxSteps := 2000000) only [go_sem, Nat.reduceEqDiff, reduceCtorEq, Nat.reduceAdd, Nat.reduceLeDiff, F114]
  refine wpC_loop (fun i T L h' => h' = h ∧ T 0 = .v v ∧ T 3 = .v (.one (.int .i64 i)) ∧ Upto (stepAt l) i) l.length ?_ ?_ (Nat.zero_le _) ?_
  · rintro i T L h' hi ⟨rfl, t0, t3, hu⟩
    obtain ⟨v', e1, s1⟩ := hl.takeO (i := i) (by omega) (kd := .i64)
    have e2 : decide (paramAt (l.take i) l[i].name ≥ 0) = !(newAt Param.name l i) := newAt_ge hi
    cases i with
    | zero =>
      have e3 := stepAt_zero hi
      simp only [List.take_zero] at e1 e2 s1
      have e4 : decide (((0 : Nat) : Int) = 0) = true := rfl
      simp +contextual (maxSteps := 2000000) only [go_sem, Nat.reduceEqDiff, reduceCtorEq, Nat.reduceAdd, Nat.reduceLeDiff, e4, List.take_zero, t0, t3, hl.len, hl.iaddr hi, hl.whole hi, lt_true hi, e1, e2, c_findParam _ _ _ _ s1 (hn.take 0), c_validParam _ _ (hn.at hi)]
      (repeat' (first | refine And.intro ?_ ?_ | intro _)) <;> first | rfl | rw [wrap_next hi hn.len] | exact hu.next (by rw [e3]; simp_all) | (rw [okSig_not hi (by rw [e3]; simp_all)]) | simp_all
    | succ j =>
      have e3 := stepAt_succ hi
      have hj : j < l.length := by omega
      have e4 : decide (((j + 1 : Nat) : Int) = 0) = false := decide_eq_false (by omega)
      simp +contextual (maxSteps := 2000000) only [go_sem, Nat.reduceEqDiff, reduceCtorEq, Nat.reduceAdd, Nat.reduceLeDiff, e4, t0, t3, hl.len, hl.iaddr hi, hl.whole hi, lt_true hi, e1, e2, c_findParam _ _ _ _ s1 (hn.take _), c_validParam _ _ (hn.at hi), wrap_pred (show j < 2 ^ 62 from Nat.lt_trans (Nat.lt_succ_self j) (Nat.lt_trans hi hn.len)), hl.iaddr hj, hl.whole hj, c_isSingle, c_byPlace]
      (repeat' (first | refine And.intro ?_ ?_ | intro _)) <;> first | rfl | rw [wrap_next hi hn.len] | exact hu.next (by rw [e3]; simp_all [follows]) | (rw [okSig_not hi (by rw [e3]; simp_all [follows])]) | simp_all
  · rintro T L h' ⟨rfl, t0, t3, hu⟩
    simp +contextual (maxSteps := 2000000) only [go_sem, Nat.reduceEqDiff, reduceCtorEq, Nat.reduceAdd, Nat.reduceLeDiff, t0, t3, hl.len, lt_false, okSig_of hu]
  · simp +contextual (maxSteps := 2000000) only [go_sem, Nat.reduceEqDiff, reduceCtorEq, Nat.reduceAdd, Nat.reduceLeDiff]
    (repeat' (first | refine And.intro ?_ ?_ | intro _)) <;> first | rfl | exact Upto.zero
/-! spec.validSignature -/
def L126_0 : List AStep := [⟨.box 25 (.t 0), (some 1), none, []⟩, ⟨.mov (.c (.bool false)), (some 2), none, []⟩]
theorem v126_0 : VS L126_0.eq_1 := rfl
def L126_1 : List AStep := [⟨.call 114 [(.t 4)], (some 5), none, []⟩, ⟨.mov (.t 5), (some 2), none, []⟩]
theorem v126_1 : VS L126_1.eq_1 := rfl
def L126_2 : List AStep := ⟨.faddr 0 (.t 1), (some 3), none, []⟩ :: ⟨.load 1 false (.t 3), (some 4), none, []⟩ :: L126_1
theorem v126_2 : VS L126_2.eq_1 := rfl
def C126_0 : ACode := .seq (.reg L126_2) .ret
theorem u126_0 : VC C126_0.eq_1 := rfl
def C126_1 : ACode := .seq (.reg L126_0) C126_0
theorem u126_1 : VC C126_1.eq_1 := rfl
def F126 : AFunc := ⟨6, [.tmp 2], C126_1⟩
theorem cF126 : compB Try.prog 126 = some F126 := by kernel_rfl
attribute [local go_sem ↓] u126_0 u126_1 v126_0 v126_1 v126_2
theorem c_validSignature (l : List Param) (pv : CV) (h : H) (hl : SlQ h (.one pv) l) (hn : smQ l) : bm Try.prog 126 [.agg [pv]] h = some (ib (okSig l), h) := by
  refine bm_eq cF126 ?_
  simp +contextual (maxSteps := 2000000) only [go_sem, Nat.reduceEqDiff, reduceCtorEq, Nat.reduceAdd, Nat.reduceLeDiff, F126, c_validParams _ _ _ hl hn]
end Go.Proofs.Ytekkimfdcbgcoac.Am
