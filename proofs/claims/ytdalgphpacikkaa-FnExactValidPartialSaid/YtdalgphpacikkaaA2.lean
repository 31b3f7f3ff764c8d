/- Contracts of the reference: signatures. -/
import Derived.Test.YtdalgphpacikkaaA1
namespace Go.Proofs.Ytdalgphpacikkaa.Am
open Go
set_option maxRecDepth 100000
set_option maxHeartbeats 4000000
set_option linter.unusedSimpArgs false
set_option linter.unusedVariables false
attribute [local go_sem ↓] bv_t bv_c ev_t ev_c put_same put_ne put_none kill_at pro_at lb_same lb_ne start_zero start_succ wpC_seq wpC_reg wpC_cond wpC_block wpC_skip wpC_exit wpC_ret thenQ_normal thenQ_exit thenQ_ret inBlk_normal inBlk_exit inBlk_ret wpS_nil wpS_step wpS_again wpS_guard wpO_mov wpO_load wpO_faddr wpO_nilCheck wpO_pick wpO_build wpO_bin wpO_eqb wpO_eqst wpO_eqnil wpO_not wpO_conv wpO_bytesStr wpO_iaddr wpO_idxStr wpO_field wpO_extract wpO_len wpO_lenStr wpO_cap wpO_min wpO_slice wpO_sliceStr wpO_alloc wpO_box wpO_store wpO_call wpO_callv wpO_mkfn wpO_buildSlice wpO_mkslice wpO_append wpO_appz proA_nil proA_cons tmpX_nil tmpX_tmp tmpX_cell doneB_normal doneB_ret agK_cons agK_nil agK_guard agG_tt agG_ff agG_tf agG_ft agG_undef pureB_load results_one results_two results_nil resBs_cons resBs_nil resB_tmp resB_cell
attribute [local go_sem] kill_v kill_lp_ne kill_lp_same pro_v pro_lp_same pro_lp_ne av_v av_lp optB_some optX_some valX_eq ldX_lp ldX_v faX_lp faX_v ncX_lp ncX_ptr ncX_fn boxK_one boxK_agg stL_some stK_lp_one stK_lp_agg stK_v_one stK_v_agg proM_v proM_lp callG_mk callVG_mk callvK_fn fnG_mk ptrsA_nil ptrsA_cons callH_some whenA_true whenA_false guardH_tt guardH_ff guardH_tf guardH_ft guardH_undef agV_one agV_agg lenO_sl lenStrO_str notO_bool pickO_bool convO_int eqbO_bool eqnilO_sl extractO_tup capO_sl minO_int loadL_one loadL_all storeL_eq fillA_nil fillA_one fillA_agg nat_ge neg_ge nat_lt neg_lt buildO bin_add bin_sub bin_mul bin_eql bin_neq bin_lss bin_leq bin_gtr bin_geq str_eql str_neq str_lss str_leq str_gtr str_geq retK_some endK_mk gcK_same gcK_int gcK_bool tupO_one tupO_agg rdy_self ib ii Option.map_none Option.map_some Option.some.injEq exists_eq_left' exists_eq_left ne_eq not_false_eq_true if_true if_false List.map_cons List.map_nil List.getElem?_cons_zero List.getElem?_cons_succ List.length_cons List.length_nil List.take_succ_cons List.take_zero List.take_nil List.drop_succ_cons List.drop_zero List.drop_nil List.cons_append List.nil_append List.append_nil List.set_cons_zero List.set_cons_succ Nat.zero_add forall_const true_and and_true and_self Bool.false_eq_true false_implies true_implies implies_true Bool.not_true Bool.not_false Bool.not_eq_true' Bool.not_eq_false' beq_self_eq_true Bool.bne_true Bool.bne_false
attribute [local go_sem] lenI lenS lenP lenQ lenB lenL lenT encI_0 encS_0 encP_0 encP_1 encQ_0 encQ_1 encQ_2 encQ_3 encB_0 encB_1 encL_0 encL_1 encT_0 encT_1
attribute [local go_sem low] whenA_bool guardH_bool
/-! spec.validParam -/
def L106_0 : List AStep := [⟨.box 100 (.t 0), (some 1), none, []⟩, ⟨.mov (.c (.bool false)), (some 2), none, []⟩]
theorem v106_0 : VS L106_0.eq_1 := rfl
def L106_1 : List AStep := [⟨.pick (.t 25) (.t 32) (.c (.bool false)), (some 33), none, []⟩, ⟨.mov (.t 33), (some 2), none, []⟩]
theorem v106_1 : VS L106_1.eq_1 := rfl
def L106_2 : List AStep := ⟨.not (.t 30), (some 31), (some (28, false)), []⟩ :: ⟨.pick (.t 28) (.c (.bool true)) (.t 31), (some 32), (some (25, true)), []⟩ :: L106_1
theorem v106_2 : VS L106_2.eq_1 := rfl
def L106_3 : List AStep := ⟨.faddr 2 (.t 1), (some 29), (some (28, false)), []⟩ :: ⟨.load 1 false (.t 29), (some 30), (some (28, false)), []⟩ :: L106_2
theorem v106_3 : VS L106_3.eq_1 := rfl
def L106_4 : List AStep := ⟨.call 105 [(.t 26)], (some 27), (some (25, true)), []⟩ :: ⟨.mov (.t 27), (some 28), (some (25, true)), []⟩ :: L106_3
theorem v106_4 : VS L106_4.eq_1 := rfl
def L106_5 : List AStep := ⟨.mov (.t 24), (some 25), none, []⟩ :: ⟨.load 4 true (.t 1), (some 26), (some (25, true)), []⟩ :: L106_4
theorem v106_5 : VS L106_5.eq_1 := rfl
def L106_6 : List AStep := ⟨.pick (.t 19) (.c (.bool true)) (.t 22), (some 23), (some (16, true)), []⟩ :: ⟨.pick (.t 16) (.t 23) (.c (.bool false)), (some 24), none, []⟩ :: L106_5
theorem v106_6 : VS L106_6.eq_1 := rfl
def L106_7 : List AStep := ⟨.load 1 false (.t 20), (some 21), (some (19, false)), []⟩ :: ⟨.bin .eql (.t 21) (.c (.int .i64 0)), (some 22), (some (19, false)), []⟩ :: L106_6
theorem v106_7 : VS L106_7.eq_1 := rfl
def L106_8 : List AStep := ⟨.mov (.t 18), (some 19), (some (16, true)), []⟩ :: ⟨.faddr 3 (.t 1), (some 20), (some (19, false)), []⟩ :: L106_7
theorem v106_8 : VS L106_8.eq_1 := rfl
def L106_9 : List AStep := ⟨.faddr 2 (.t 1), (some 17), (some (16, true)), []⟩ :: ⟨.load 1 false (.t 17), (some 18), (some (16, true)), []⟩ :: L106_8
theorem v106_9 : VS L106_9.eq_1 := rfl
def L106_10 : List AStep := ⟨.pick (.t 11) (.t 14) (.c (.bool false)), (some 15), none, []⟩ :: ⟨.mov (.t 15), (some 16), none, []⟩ :: L106_9
theorem v106_10 : VS L106_10.eq_1 := rfl
def L106_11 : List AStep := ⟨.load 1 false (.t 12), (some 13), (some (11, true)), []⟩ :: ⟨.call 107 [(.t 13)], (some 14), (some (11, true)), []⟩ :: L106_10
theorem v106_11 : VS L106_11.eq_1 := rfl
def L106_12 : List AStep := ⟨.mov (.t 10), (some 11), none, []⟩ :: ⟨.faddr 3 (.t 1), (some 12), (some (11, true)), []⟩ :: L106_11
theorem v106_12 : VS L106_12.eq_1 := rfl
def L106_13 : List AStep := ⟨.call 114 [(.t 8), (.c (.int .i64 0)), (.c (.int .i64 4))], (some 9), (some (6, true)), []⟩ :: ⟨.pick (.t 6) (.t 9) (.c (.bool false)), (some 10), none, []⟩ :: L106_12
theorem v106_13 : VS L106_13.eq_1 := rfl
def L106_14 : List AStep := ⟨.faddr 1 (.t 1), (some 7), (some (6, true)), []⟩ :: ⟨.load 1 false (.t 7), (some 8), (some (6, true)), []⟩ :: L106_13
theorem v106_14 : VS L106_14.eq_1 := rfl
def L106_15 : List AStep := ⟨.call 108 [(.t 4)], (some 5), none, []⟩ :: ⟨.mov (.t 5), (some 6), none, []⟩ :: L106_14
theorem v106_15 : VS L106_15.eq_1 := rfl
def L106_16 : List AStep := ⟨.faddr 0 (.t 1), (some 3), none, []⟩ :: ⟨.load 1 false (.t 3), (some 4), none, []⟩ :: L106_15
theorem v106_16 : VS L106_16.eq_1 := rfl
def C106_0 : ACode := .seq (.reg L106_16) .ret
theorem u106_0 : VC C106_0.eq_1 := rfl
def C106_1 : ACode := .seq (.reg L106_0) C106_0
theorem u106_1 : VC C106_1.eq_1 := rfl
def F106 : AFunc := ⟨34, [.tmp 2], C106_1⟩
theorem cF106 : compB Try.prog 106 = some F106 := by kernel_rfl
attribute [local go_sem ↓] u106_0 u106_1 v106_0 v106_1 v106_2 v106_3 v106_4 v106_5 v106_6 v106_7 v106_8 v106_9 v106_10 v106_11 v106_12 v106_13 v106_14 v106_15 v106_16
theorem c_validParam (p : Param) (h : H) (hn : p.name.size < 2 ^ 62) : bm Try.prog 106 [.agg (encQ p)] h = some (ib (okParam p), h) := by
  refine bm_eq cF106 ?_
  simp +contextual (maxSteps := 2000000) only [go_sem, Nat.reduceEqDiff, reduceCtorEq, Nat.reduceAdd, Nat.reduceLeDiff, F106, c_validName _ _ hn, c_inRange, c_validNumber, c_isSingle, okParam]
  (repeat' (first | refine And.intro ?_ ?_ | intro _)) <;> first | simp_all
/-! spec.findParam -/
def L91_0 : List AStep := [⟨.mov (.c (.int .i64 0)), (some 4), none, []⟩]
theorem v91_0 : VS L91_0.eq_1 := rfl
def L91_1 : List AStep := [⟨.mov (.c (.int .i64 0)), (some 5), none, []⟩]
theorem v91_1 : VS L91_1.eq_1 := rfl
def L91_2 : List AStep := [⟨.len (.t 7), (some 8), none, []⟩, ⟨.bin .lss (.t 6) (.t 8), (some 9), none, []⟩]
theorem v91_2 : VS L91_2.eq_1 := rfl
def L91_3 : List AStep := ⟨.mov (.t 5), (some 6), none, []⟩ :: ⟨.mov (.t 0), (some 7), none, []⟩ :: L91_2
theorem v91_3 : VS L91_3.eq_1 := rfl
def L91_4 : List AStep := [⟨.bin .eql (.t 16) (.t 17), (some 18), none, []⟩]
theorem v91_4 : VS L91_4.eq_1 := rfl
def L91_5 : List AStep := ⟨.load 1 false (.t 15), (some 16), none, []⟩ :: ⟨.mov (.t 1), (some 17), none, []⟩ :: L91_4
theorem v91_5 : VS L91_5.eq_1 := rfl
def L91_6 : List AStep := ⟨.iaddr 4 (.t 12) (.t 13), (some 14), none, []⟩ :: ⟨.faddr 0 (.t 14), (some 15), none, []⟩ :: L91_5
theorem v91_6 : VS L91_6.eq_1 := rfl
def L91_7 : List AStep := ⟨.mov (.t 0), (some 12), none, []⟩ :: ⟨.mov (.t 5), (some 13), none, []⟩ :: L91_6
theorem v91_7 : VS L91_7.eq_1 := rfl
def L91_8 : List AStep := [⟨.mov (.t 5), (some 19), none, []⟩, ⟨.mov (.t 19), (some 4), none, []⟩]
theorem v91_8 : VS L91_8.eq_1 := rfl
def L91_9 : List AStep := [⟨.mov (.t 11), (some 5), none, []⟩]
theorem v91_9 : VS L91_9.eq_1 := rfl
def L91_10 : List AStep := ⟨.mov (.t 5), (some 10), none, []⟩ :: ⟨.bin .add (.t 10) (.c (.int .i64 1)), (some 11), none, []⟩ :: L91_9
theorem v91_10 : VS L91_10.eq_1 := rfl
def L91_11 : List AStep := [⟨.mov (.c (.int .i64 (-1))), (some 4), none, []⟩]
theorem v91_11 : VS L91_11.eq_1 := rfl
def C91_0 : ACode := .cond (.t 9) .skip (.exit 0)
theorem u91_0 : VC C91_0.eq_1 := rfl
def C91_1 : ACode := .seq (.reg L91_3) C91_0
theorem u91_1 : VC C91_1.eq_1 := rfl
def C91_2 : ACode := .seq (.reg L91_8) .ret
theorem u91_2 : VC C91_2.eq_1 := rfl
def C91_3 : ACode := .cond (.t 18) C91_2 .skip
theorem u91_3 : VC C91_3.eq_1 := rfl
def C91_4 : ACode := .seq (.reg L91_7) C91_3
theorem u91_4 : VC C91_4.eq_1 := rfl
def C91_5 : ACode := .block 1 C91_4
theorem u91_5 : VC C91_5.eq_1 := rfl
def C91_6 : ACode := .seq C91_5 (.reg L91_10)
theorem u91_6 : VC C91_6.eq_1 := rfl
def C91_7 : ACode := .seq C91_1 C91_6
theorem u91_7 : VC C91_7.eq_1 := rfl
def C91_8 : ACode := .block 0 (.loop C91_7)
theorem u91_8 : VC C91_8.eq_1 := rfl
def C91_9 : ACode := .seq (.reg L91_1) C91_8
theorem u91_9 : VC C91_9.eq_1 := rfl
def C91_10 : ACode := .seq (.reg L91_11) .ret
theorem u91_10 : VC C91_10.eq_1 := rfl
def C91_11 : ACode := .seq C91_9 C91_10
theorem u91_11 : VC C91_11.eq_1 := rfl
def C91_12 : ACode := .seq (.reg L91_0) C91_11
theorem u91_12 : VC C91_12.eq_1 := rfl
def F91 : AFunc := ⟨20, [.tmp 4], C91_12⟩
theorem cF91 : compB Try.prog 91 = some F91 := by kernel_rfl
attribute [local go_sem ↓] u91_0 u91_1 u91_2 u91_3 u91_4 u91_5 u91_6 u91_7 u91_8 u91_9 u91_10 u91_11 u91_12 v91_0 v91_1 v91_2 v91_3 v91_4 v91_5 v91_6 v91_7 v91_8 v91_9 v91_10 v91_11
theorem c_findParam (l : List Param) (v : AV) (s : ByteArray) (h : H) (hl : SlQ h v l) (hn : smQ l) : bm Try.prog 91 [v, .one (.str s)] h = some (ii (paramAt l s), h) := by
  refine bm_eq cF91 ?_
  simp +contextual (maxSteps := 2000000) only [go_sem, Nat.reduceEqDiff, reduceCtorEq, Nat.reduceAdd, Nat.reduceLeDiff, F91]
  refine wpC_loop (fun i T L h' => h' = h ∧ T 0 = .v v ∧ T 1 = .v (.one (.str s)) ∧ T 5 = .v (.one (.int .i64 i)) ∧ Pre (fun p => decide (p.name = s)) false l i) l.length ?_ ?_ (Nat.zero_le _) ?_
  · rintro i T L h' hi ⟨rfl, h0, h1, h3, hp⟩
    simp +contextual (maxSteps := 2000000) only [go_sem, Nat.reduceEqDiff, reduceCtorEq, Nat.reduceAdd, Nat.reduceLeDiff, h0, h1, h3, hl.len, hl.iaddr hi, hl.fieldO hi, lt_true hi]
    (repeat' (first | refine And.intro ?_ ?_ | intro _)) <;> first | rfl | rw [wrap_next hi hn.len] | exact hp.next hi ‹_› | rw [paramAt, idx_hit hi hp ‹_›]
  · rintro T L h' ⟨rfl, h0, h1, h3, hp⟩
    simp +contextual (maxSteps := 2000000) only [go_sem, Nat.reduceEqDiff, reduceCtorEq, Nat.reduceAdd, Nat.reduceLeDiff, h0, h1, h3, hl.len, lt_false, paramAt, idx_none hp]
  · simp +contextual (maxSteps := 2000000) only [go_sem, Nat.reduceEqDiff, reduceCtorEq, Nat.reduceAdd, Nat.reduceLeDiff]
    (repeat' (first | refine And.intro ?_ ?_ | intro _)) <;> first | rfl | exact Pre.zero
/-! spec.kindAt -/
def L67_0 : List AStep := [⟨.mov (.c (.int .i64 0)), (some 4), none, []⟩]
theorem v67_0 : VS L67_0.eq_1 := rfl
def L67_1 : List AStep := [⟨.mov (.c (.int .i64 0)), (some 5), none, []⟩]
theorem v67_1 : VS L67_1.eq_1 := rfl
def L67_2 : List AStep := [⟨.len (.t 7), (some 8), none, []⟩, ⟨.bin .lss (.t 6) (.t 8), (some 9), none, []⟩]
theorem v67_2 : VS L67_2.eq_1 := rfl
def L67_3 : List AStep := ⟨.mov (.t 5), (some 6), none, []⟩ :: ⟨.mov (.t 0), (some 7), none, []⟩ :: L67_2
theorem v67_3 : VS L67_3.eq_1 := rfl
def L67_4 : List AStep := [⟨.bin .eql (.t 16) (.t 17), (some 18), none, []⟩]
theorem v67_4 : VS L67_4.eq_1 := rfl
def L67_5 : List AStep := ⟨.load 1 false (.t 15), (some 16), none, []⟩ :: ⟨.mov (.t 1), (some 17), none, []⟩ :: L67_4
theorem v67_5 : VS L67_5.eq_1 := rfl
def L67_6 : List AStep := ⟨.iaddr 4 (.t 12) (.t 13), (some 14), none, []⟩ :: ⟨.faddr 1 (.t 14), (some 15), none, []⟩ :: L67_5
theorem v67_6 : VS L67_6.eq_1 := rfl
def L67_7 : List AStep := ⟨.mov (.t 0), (some 12), none, []⟩ :: ⟨.mov (.t 5), (some 13), none, []⟩ :: L67_6
theorem v67_7 : VS L67_7.eq_1 := rfl
def L67_8 : List AStep := [⟨.mov (.t 5), (some 19), none, []⟩, ⟨.mov (.t 19), (some 4), none, []⟩]
theorem v67_8 : VS L67_8.eq_1 := rfl
def L67_9 : List AStep := [⟨.mov (.t 11), (some 5), none, []⟩]
theorem v67_9 : VS L67_9.eq_1 := rfl
def L67_10 : List AStep := ⟨.mov (.t 5), (some 10), none, []⟩ :: ⟨.bin .add (.t 10) (.c (.int .i64 1)), (some 11), none, []⟩ :: L67_9
theorem v67_10 : VS L67_10.eq_1 := rfl
def L67_11 : List AStep := [⟨.mov (.c (.int .i64 (-1))), (some 4), none, []⟩]
theorem v67_11 : VS L67_11.eq_1 := rfl
def C67_0 : ACode := .cond (.t 9) .skip (.exit 0)
theorem u67_0 : VC C67_0.eq_1 := rfl
def C67_1 : ACode := .seq (.reg L67_3) C67_0
theorem u67_1 : VC C67_1.eq_1 := rfl
def C67_2 : ACode := .seq (.reg L67_8) .ret
theorem u67_2 : VC C67_2.eq_1 := rfl
def C67_3 : ACode := .cond (.t 18) C67_2 .skip
theorem u67_3 : VC C67_3.eq_1 := rfl
def C67_4 : ACode := .seq (.reg L67_7) C67_3
theorem u67_4 : VC C67_4.eq_1 := rfl
def C67_5 : ACode := .block 1 C67_4
theorem u67_5 : VC C67_5.eq_1 := rfl
def C67_6 : ACode := .seq C67_5 (.reg L67_10)
theorem u67_6 : VC C67_6.eq_1 := rfl
def C67_7 : ACode := .seq C67_1 C67_6
theorem u67_7 : VC C67_7.eq_1 := rfl
def C67_8 : ACode := .block 0 (.loop C67_7)
theorem u67_8 : VC C67_8.eq_1 := rfl
def C67_9 : ACode := .seq (.reg L67_1) C67_8
theorem u67_9 : VC C67_9.eq_1 := rfl
def C67_10 : ACode := .seq (.reg L67_11) .ret
theorem u67_10 : VC C67_10.eq_1 := rfl
def C67_11 : ACode := .seq C67_9 C67_10
theorem u67_11 : VC C67_11.eq_1 := rfl
def C67_12 : ACode := .seq (.reg L67_0) C67_11
theorem u67_12 : VC C67_12.eq_1 := rfl
def F67 : AFunc := ⟨20, [.tmp 4], C67_12⟩
theorem cF67 : compB Try.prog 67 = some F67 := by kernel_rfl
attribute [local go_sem ↓] u67_0 u67_1 u67_2 u67_3 u67_4 u67_5 u67_6 u67_7 u67_8 u67_9 u67_10 u67_11 u67_12 v67_0 v67_1 v67_2 v67_3 v67_4 v67_5 v67_6 v67_7 v67_8 v67_9 v67_10 v67_11
theorem c_kindAt (l : List Param) (v : AV) (k : Int) (h : H) (hl : SlQ h v l) (hn : smQ l) : bm Try.prog 67 [v, .one (.int .i64 k)] h = some (ii (kindAt l k), h) := by
  refine bm_eq cF67 ?_
  simp +contextual (maxSteps := 2000000) only [go_sem, Nat.reduceEqDiff, reduceCtorEq, Nat.reduceAdd, Nat.reduceLeDiff, F67]
  refine wpC_loop (fun i T L h' => h' = h ∧ T 0 = .v v ∧ T 1 = .v (.one (.int .i64 k)) ∧ T 5 = .v (.one (.int .i64 i)) ∧ Pre (fun p => decide (p.kind = k)) false l i) l.length ?_ ?_ (Nat.zero_le _) ?_
  · rintro i T L h' hi ⟨rfl, h0, h1, h3, hp⟩
    simp +contextual (maxSteps := 2000000) only [go_sem, Nat.reduceEqDiff, reduceCtorEq, Nat.reduceAdd, Nat.reduceLeDiff, h0, h1, h3, hl.len, hl.iaddr hi, hl.fieldO hi, lt_true hi]
    (repeat' (first | refine And.intro ?_ ?_ | intro _)) <;> first | rfl | rw [wrap_next hi hn.len] | exact hp.next hi ‹_› | rw [kindAt, idx_hit hi hp ‹_›]
  · rintro T L h' ⟨rfl, h0, h1, h3, hp⟩
    simp +contextual (maxSteps := 2000000) only [go_sem, Nat.reduceEqDiff, reduceCtorEq, Nat.reduceAdd, Nat.reduceLeDiff, h0, h1, h3, hl.len, lt_false, kindAt, idx_none hp]
  · simp +contextual (maxSteps := 2000000) only [go_sem, Nat.reduceEqDiff, reduceCtorEq, Nat.reduceAdd, Nat.reduceLeDiff]
    (repeat' (first | refine And.intro ?_ ?_ | intro _)) <;> first | rfl | exact Pre.zero
/-! spec.placeCount -/
def L66_0 : List AStep := [⟨.box 38 (.t 0), (some 1), none, []⟩, ⟨.mov (.c (.int .i64 0)), (some 2), none, []⟩]
theorem v66_0 : VS L66_0.eq_1 := rfl
def L66_1 : List AStep := [⟨.mov (.c (.int .i64 0)), (some 3), none, []⟩]
theorem v66_1 : VS L66_1.eq_1 := rfl
def L66_2 : List AStep := [⟨.mov (.c (.int .i64 0)), (some 4), none, []⟩]
theorem v66_2 : VS L66_2.eq_1 := rfl
def L66_3 : List AStep := [⟨.bin .lss (.t 5) (.t 8), (some 9), none, []⟩]
theorem v66_3 : VS L66_3.eq_1 := rfl
def L66_4 : List AStep := ⟨.load 1 false (.t 6), (some 7), none, []⟩ :: ⟨.len (.t 7), (some 8), none, []⟩ :: L66_3
theorem v66_4 : VS L66_4.eq_1 := rfl
def L66_5 : List AStep := ⟨.mov (.t 4), (some 5), none, []⟩ :: ⟨.faddr 0 (.t 1), (some 6), none, []⟩ :: L66_4
theorem v66_5 : VS L66_5.eq_1 := rfl
def L66_6 : List AStep := [⟨.load 4 true (.t 15), (some 16), none, []⟩, ⟨.call 90 [(.t 16)], (some 17), none, []⟩]
theorem v66_6 : VS L66_6.eq_1 := rfl
def L66_7 : List AStep := ⟨.mov (.t 4), (some 14), none, []⟩ :: ⟨.iaddr 4 (.t 13) (.t 14), (some 15), none, []⟩ :: L66_6
theorem v66_7 : VS L66_7.eq_1 := rfl
def L66_8 : List AStep := ⟨.faddr 0 (.t 1), (some 12), none, []⟩ :: ⟨.load 1 false (.t 12), (some 13), none, []⟩ :: L66_7
theorem v66_8 : VS L66_8.eq_1 := rfl
def L66_9 : List AStep := [⟨.mov (.t 19), (some 3), none, []⟩]
theorem v66_9 : VS L66_9.eq_1 := rfl
def L66_10 : List AStep := ⟨.mov (.t 3), (some 18), none, []⟩ :: ⟨.bin .add (.t 18) (.c (.int .i64 1)), (some 19), none, []⟩ :: L66_9
theorem v66_10 : VS L66_10.eq_1 := rfl
def L66_11 : List AStep := [⟨.mov (.t 11), (some 4), none, []⟩]
theorem v66_11 : VS L66_11.eq_1 := rfl
def L66_12 : List AStep := ⟨.mov (.t 4), (some 10), none, []⟩ :: ⟨.bin .add (.t 10) (.c (.int .i64 1)), (some 11), none, []⟩ :: L66_11
theorem v66_12 : VS L66_12.eq_1 := rfl
def L66_13 : List AStep := [⟨.mov (.t 3), (some 20), none, []⟩, ⟨.mov (.t 20), (some 2), none, []⟩]
theorem v66_13 : VS L66_13.eq_1 := rfl
def C66_0 : ACode := .cond (.t 9) .skip (.exit 0)
theorem u66_0 : VC C66_0.eq_1 := rfl
def C66_1 : ACode := .seq (.reg L66_5) C66_0
theorem u66_1 : VC C66_1.eq_1 := rfl
def C66_2 : ACode := .cond (.t 17) (.reg L66_10) .skip
theorem u66_2 : VC C66_2.eq_1 := rfl
def C66_3 : ACode := .seq (.reg L66_8) C66_2
theorem u66_3 : VC C66_3.eq_1 := rfl
def C66_4 : ACode := .block 1 C66_3
theorem u66_4 : VC C66_4.eq_1 := rfl
def C66_5 : ACode := .seq C66_4 (.reg L66_12)
theorem u66_5 : VC C66_5.eq_1 := rfl
def C66_6 : ACode := .seq C66_1 C66_5
theorem u66_6 : VC C66_6.eq_1 := rfl
def C66_7 : ACode := .block 0 (.loop C66_6)
theorem u66_7 : VC C66_7.eq_1 := rfl
def C66_8 : ACode := .seq (.reg L66_2) C66_7
theorem u66_8 : VC C66_8.eq_1 := rfl
def C66_9 : ACode := .seq (.reg L66_13) .ret
theorem u66_9 : VC C66_9.eq_1 := rfl
def C66_10 : ACode := .seq C66_8 C66_9
theorem u66_10 : VC C66_10.eq_1 := rfl
def C66_11 : ACode := .seq (.reg L66_1) C66_10
theorem u66_11 : VC C66_11.eq_1 := rfl
def C66_12 : ACode := .seq (.reg L66_0) C66_11
theorem u66_12 : VC C66_12.eq_1 := rfl
def F66 : AFunc := ⟨21, [.tmp 2], C66_12⟩
theorem cF66 : compB Try.prog 66 = some F66 := by kernel_rfl
attribute [local go_sem ↓] u66_0 u66_1 u66_2 u66_3 u66_4 u66_5 u66_6 u66_7 u66_8 u66_9 u66_10 u66_11 u66_12 v66_0 v66_1 v66_2 v66_3 v66_4 v66_5 v66_6 v66_7 v66_8 v66_9 v66_10 v66_11 v66_12 v66_13
theorem c_placeCount (l : List Param) (pv : CV) (h : H) (hl : SlQ h (.one pv) l) (hn : smQ l) : bm Try.prog 66 [.agg [pv]] h = some (ii (l.countP byPlace), h) := by
  refine bm_eq cF66 ?_
  simp +contextual (maxSteps := 2000000) only [go_sem, Nat.reduceEqDiff, reduceCtorEq, Nat.reduceAdd, Nat.reduceLeDiff, F66]
  refine wpC_loop (fun i T L h' => h' = h ∧ T 1 = .lp 1 0 ∧ (L 1).2 = [pv] ∧ T 3 = .v (.one (.int .i64 (cnt byPlace l i))) ∧ T 4 = .v (.one (.int .i64 i))) l.length ?_ ?_ (Nat.zero_le _) ?_
  · rintro i T L h' hi ⟨rfl, t1, l1, t3, t4⟩
    have b1 := cnt_le (p := byPlace) (l := l) (i := i)
    have b2 := hn.len
    simp +contextual (maxSteps := 2000000) only [go_sem, Nat.reduceEqDiff, reduceCtorEq, Nat.reduceAdd, Nat.reduceLeDiff, t1, l1, t3, t4, hl.len, hl.iaddr hi, hl.whole hi, c_byPlace, lt_true hi, cnt_next hi]
    (repeat' (first | refine And.intro ?_ ?_ | intro _)) <;> first | rfl | rw [wrap_next hi hn.len] | (rw [i64_wrap (by omega) (by omega)]; simp_all) | simp_all
  · rintro T L h' ⟨rfl, t1, l1, t3, t4⟩
    simp +contextual (maxSteps := 2000000) only [go_sem, Nat.reduceEqDiff, reduceCtorEq, Nat.reduceAdd, Nat.reduceLeDiff, t1, l1, t3, t4, hl.len, lt_false, cnt_all]
  · simp +contextual (maxSteps := 2000000) only [go_sem, Nat.reduceEqDiff, reduceCtorEq, Nat.reduceAdd, Nat.reduceLeDiff, cnt_zero]
    (repeat' (first | refine And.intro ?_ ?_ | intro _)) <;> first | rfl
/-! spec.takesName -/
def L68_0 : List AStep := [⟨.box 38 (.t 0), (some 2), none, []⟩, ⟨.mov (.c (.int .i64 0)), (some 4), none, []⟩]
theorem v68_0 : VS L68_0.eq_1 := rfl
def L68_1 : List AStep := [⟨.mov (.t 9), (some 5), none, []⟩]
theorem v68_1 : VS L68_1.eq_1 := rfl
def L68_2 : List AStep := ⟨.mov (.t 1), (some 8), none, []⟩ :: ⟨.call 91 [(.t 7), (.t 8)], (some 9), none, []⟩ :: L68_1
theorem v68_2 : VS L68_2.eq_1 := rfl
def L68_3 : List AStep := ⟨.faddr 0 (.t 2), (some 6), none, []⟩ :: ⟨.load 1 false (.t 6), (some 7), none, []⟩ :: L68_2
theorem v68_3 : VS L68_3.eq_1 := rfl
def L68_4 : List AStep := [⟨.call 92 [(.t 17)], (some 18), (some (12, true)), []⟩, ⟨.pick (.t 12) (.t 18) (.c (.bool false)), (some 19), none, []⟩]
theorem v68_4 : VS L68_4.eq_1 := rfl
def L68_5 : List AStep := ⟨.iaddr 4 (.t 14) (.t 15), (some 16), (some (12, true)), []⟩ :: ⟨.load 4 true (.t 16), (some 17), (some (12, true)), []⟩ :: L68_4
theorem v68_5 : VS L68_5.eq_1 := rfl
def L68_6 : List AStep := ⟨.load 1 false (.t 13), (some 14), (some (12, true)), []⟩ :: ⟨.mov (.t 5), (some 15), (some (12, true)), []⟩ :: L68_5
theorem v68_6 : VS L68_6.eq_1 := rfl
def L68_7 : List AStep := ⟨.mov (.t 11), (some 12), none, []⟩ :: ⟨.faddr 0 (.t 2), (some 13), (some (12, true)), []⟩ :: L68_6
theorem v68_7 : VS L68_7.eq_1 := rfl
def L68_8 : List AStep := ⟨.mov (.t 5), (some 10), none, []⟩ :: ⟨.bin .geq (.t 10) (.c (.int .i64 0)), (some 11), none, []⟩ :: L68_7
theorem v68_8 : VS L68_8.eq_1 := rfl
def L68_9 : List AStep := [⟨.mov (.t 5), (some 20), none, []⟩, ⟨.mov (.t 20), (some 4), none, []⟩]
theorem v68_9 : VS L68_9.eq_1 := rfl
def L68_10 : List AStep := [⟨.call 67 [(.t 22), (.c (.int .i64 4))], (some 23), none, []⟩, ⟨.mov (.t 23), (some 4), none, []⟩]
theorem v68_10 : VS L68_10.eq_1 := rfl
def L68_11 : List AStep := ⟨.faddr 0 (.t 2), (some 21), none, []⟩ :: ⟨.load 1 false (.t 21), (some 22), none, []⟩ :: L68_10
theorem v68_11 : VS L68_11.eq_1 := rfl
def C68_0 : ACode := .seq (.reg L68_9) .ret
theorem u68_0 : VC C68_0.eq_1 := rfl
def C68_1 : ACode := .cond (.t 19) C68_0 .skip
theorem u68_1 : VC C68_1.eq_1 := rfl
def C68_2 : ACode := .seq (.reg L68_8) C68_1
theorem u68_2 : VC C68_2.eq_1 := rfl
def C68_3 : ACode := .seq (.reg L68_11) .ret
theorem u68_3 : VC C68_3.eq_1 := rfl
def C68_4 : ACode := .seq C68_2 C68_3
theorem u68_4 : VC C68_4.eq_1 := rfl
def C68_5 : ACode := .seq (.reg L68_3) C68_4
theorem u68_5 : VC C68_5.eq_1 := rfl
def C68_6 : ACode := .seq (.reg L68_0) C68_5
theorem u68_6 : VC C68_6.eq_1 := rfl
def F68 : AFunc := ⟨24, [.tmp 4], C68_6⟩
theorem cF68 : compB Try.prog 68 = some F68 := by kernel_rfl
attribute [local go_sem ↓] u68_0 u68_1 u68_2 u68_3 u68_4 u68_5 u68_6 v68_0 v68_1 v68_2 v68_3 v68_4 v68_5 v68_6 v68_7 v68_8 v68_9 v68_10 v68_11
theorem c_takesName (l : List Param) (pv : CV) (s : ByteArray) (h : H) (hl : SlQ h (.one pv) l) (hn : smQ l) : bm Try.prog 68 [.agg [pv], .one (.str s)] h = some (ii (takes l s), h) := by
  refine bm_eq cF68 ?_
  rcases idx_cases (fun p : Param => decide (p.name = s)) l with e | ⟨j, hj, e, _⟩ <;> (replace e := (show paramAt l s = _ from e))
  · simp +contextual (maxSteps := 2000000) only [go_sem, Nat.reduceEqDiff, reduceCtorEq, Nat.reduceAdd, Nat.reduceLeDiff, F68, c_findParam _ _ _ _ hl hn, e, c_kindAt _ _ _ _ hl hn, takes_none e]
  · simp +contextual (maxSteps := 2000000) only [go_sem, Nat.reduceEqDiff, reduceCtorEq, Nat.reduceAdd, Nat.reduceLeDiff, F68, c_findParam _ _ _ _ hl hn, e, c_kindAt _ _ _ _ hl hn, takes_some hj e, hl.iaddr hj, hl.whole hj, c_byName]
/-! spec.validParams -/
def L86_0 : List AStep := [⟨.mov (.c (.bool false)), (some 2), none, []⟩]
theorem v86_0 : VS L86_0.eq_1 := rfl
def L86_1 : List AStep := [⟨.mov (.c (.int .i64 0)), (some 3), none, []⟩]
theorem v86_1 : VS L86_1.eq_1 := rfl
def L86_2 : List AStep := [⟨.len (.t 7), (some 8), none, []⟩, ⟨.bin .lss (.t 6) (.t 8), (some 9), none, []⟩]
theorem v86_2 : VS L86_2.eq_1 := rfl
def L86_3 : List AStep := ⟨.mov (.t 3), (some 6), none, []⟩ :: ⟨.mov (.t 0), (some 7), none, []⟩ :: L86_2
theorem v86_3 : VS L86_3.eq_1 := rfl
def L86_4 : List AStep := [⟨.alloc 100 [(.str (strOfNums [])), (.int .i64 0), (.bool false), (.int .i64 0)], (some 4), none, []⟩, ⟨.store 4 (.t 4) (.t 15), none, none, []⟩]
theorem v86_4 : VS L86_4.eq_1 := rfl
def L86_5 : List AStep := ⟨.iaddr 4 (.t 12) (.t 13), (some 14), none, []⟩ :: ⟨.load 4 true (.t 14), (some 15), none, []⟩ :: L86_4
theorem v86_5 : VS L86_5.eq_1 := rfl
def L86_6 : List AStep := ⟨.mov (.t 0), (some 12), none, []⟩ :: ⟨.mov (.t 3), (some 13), none, []⟩ :: L86_5
theorem v86_6 : VS L86_6.eq_1 := rfl
def L86_7 : List AStep := [⟨.bin .geq (.t 25) (.c (.int .i64 0)), (some 26), (some (19, false)), []⟩, ⟨.pick (.t 19) (.c (.bool true)) (.t 26), (some 27), none, []⟩]
theorem v86_7 : VS L86_7.eq_1 := rfl
def L86_8 : List AStep := ⟨.load 1 false (.t 23), (some 24), (some (19, false)), []⟩ :: ⟨.call 91 [(.t 22), (.t 24)], (some 25), (some (19, false)), []⟩ :: L86_7
theorem v86_8 : VS L86_8.eq_1 := rfl
def L86_9 : List AStep := ⟨.slice 100 4 (.t 20) none (some (.t 21)) none, (some 22), (some (19, false)), []⟩ :: ⟨.faddr 0 (.t 4), (some 23), (some (19, false)), []⟩ :: L86_8
theorem v86_9 : VS L86_9.eq_1 := rfl
def L86_10 : List AStep := ⟨.mov (.t 0), (some 20), (some (19, false)), []⟩ :: ⟨.mov (.t 3), (some 21), (some (19, false)), []⟩ :: L86_9
theorem v86_10 : VS L86_10.eq_1 := rfl
def L86_11 : List AStep := ⟨.not (.t 17), (some 18), none, []⟩ :: ⟨.mov (.t 18), (some 19), none, []⟩ :: L86_10
theorem v86_11 : VS L86_11.eq_1 := rfl
def L86_12 : List AStep := ⟨.load 4 true (.t 4), (some 16), none, []⟩ :: ⟨.call 106 [(.t 16)], (some 17), none, []⟩ :: L86_11
theorem v86_12 : VS L86_12.eq_1 := rfl
def L86_13 : List AStep := [⟨.mov (.c (.bool false)), (some 2), none, []⟩]
theorem v86_13 : VS L86_13.eq_1 := rfl
def L86_14 : List AStep := [⟨.mov (.t 3), (some 28), none, []⟩, ⟨.bin .eql (.t 28) (.c (.int .i64 0)), (some 29), none, []⟩]
theorem v86_14 : VS L86_14.eq_1 := rfl
def L86_15 : List AStep := [⟨.store 4 (.t 5) (.t 34), none, none, []⟩]
theorem v86_15 : VS L86_15.eq_1 := rfl
def L86_16 : List AStep := ⟨.load 4 true (.t 33), (some 34), none, []⟩ :: ⟨.alloc 100 [(.str (strOfNums [])), (.int .i64 0), (.bool false), (.int .i64 0)], (some 5), none, []⟩ :: L86_15
theorem v86_16 : VS L86_16.eq_1 := rfl
def L86_17 : List AStep := ⟨.bin .sub (.t 31) (.c (.int .i64 1)), (some 32), none, []⟩ :: ⟨.iaddr 4 (.t 30) (.t 32), (some 33), none, []⟩ :: L86_16
theorem v86_17 : VS L86_17.eq_1 := rfl
def L86_18 : List AStep := ⟨.mov (.t 0), (some 30), none, []⟩ :: ⟨.mov (.t 3), (some 31), none, []⟩ :: L86_17
theorem v86_18 : VS L86_18.eq_1 := rfl
def L86_19 : List AStep := [⟨.pick (.t 59) (.t 62) (.c (.bool false)), (some 63), (some (52, false)), []⟩, ⟨.pick (.t 52) (.c (.bool true)) (.t 63), (some 64), none, []⟩]
theorem v86_19 : VS L86_19.eq_1 := rfl
def L86_20 : List AStep := ⟨.load 1 false (.t 60), (some 61), (some (59, true)), []⟩ :: ⟨.not (.t 61), (some 62), (some (59, true)), []⟩ :: L86_19
theorem v86_20 : VS L86_20.eq_1 := rfl
def L86_21 : List AStep := ⟨.mov (.t 58), (some 59), (some (52, false)), []⟩ :: ⟨.faddr 2 (.t 4), (some 60), (some (59, true)), []⟩ :: L86_20
theorem v86_21 : VS L86_21.eq_1 := rfl
def L86_22 : List AStep := ⟨.load 1 false (.t 56), (some 57), (some (55, true)), []⟩ :: ⟨.pick (.t 55) (.t 57) (.c (.bool false)), (some 58), (some (52, false)), []⟩ :: L86_21
theorem v86_22 : VS L86_22.eq_1 := rfl
def L86_23 : List AStep := ⟨.mov (.t 54), (some 55), (some (52, false)), []⟩ :: ⟨.faddr 2 (.t 5), (some 56), (some (55, true)), []⟩ :: L86_22
theorem v86_23 : VS L86_23.eq_1 := rfl
def L86_24 : List AStep := ⟨.load 4 true (.t 4), (some 53), (some (52, false)), []⟩ :: ⟨.call 90 [(.t 53)], (some 54), (some (52, false)), []⟩ :: L86_23
theorem v86_24 : VS L86_24.eq_1 := rfl
def L86_25 : List AStep := ⟨.pick (.t 40) (.c (.bool true)) (.t 50), (some 51), none, []⟩ :: ⟨.mov (.t 51), (some 52), none, []⟩ :: L86_24
theorem v86_25 : VS L86_25.eq_1 := rfl
def L86_26 : List AStep := ⟨.not (.t 48), (some 49), (some (46, true)), []⟩ :: ⟨.pick (.t 46) (.t 49) (.c (.bool false)), (some 50), (some (40, false)), []⟩ :: L86_25
theorem v86_26 : VS L86_26.eq_1 := rfl
def L86_27 : List AStep := ⟨.load 4 true (.t 4), (some 47), (some (46, true)), []⟩ :: ⟨.call 105 [(.t 47)], (some 48), (some (46, true)), []⟩ :: L86_26
theorem v86_27 : VS L86_27.eq_1 := rfl
def L86_28 : List AStep := ⟨.bin .eql (.t 42) (.t 44), (some 45), (some (40, false)), []⟩ :: ⟨.mov (.t 45), (some 46), (some (40, false)), []⟩ :: L86_27
theorem v86_28 : VS L86_28.eq_1 := rfl
def L86_29 : List AStep := ⟨.faddr 1 (.t 5), (some 43), (some (40, false)), []⟩ :: ⟨.load 1 false (.t 43), (some 44), (some (40, false)), []⟩ :: L86_28
theorem v86_29 : VS L86_29.eq_1 := rfl
def L86_30 : List AStep := ⟨.faddr 1 (.t 4), (some 41), (some (40, false)), []⟩ :: ⟨.load 1 false (.t 41), (some 42), (some (40, false)), []⟩ :: L86_29
theorem v86_30 : VS L86_30.eq_1 := rfl
def L86_31 : List AStep := ⟨.bin .lss (.t 36) (.t 38), (some 39), none, []⟩ :: ⟨.mov (.t 39), (some 40), none, []⟩ :: L86_30
theorem v86_31 : VS L86_31.eq_1 := rfl
def L86_32 : List AStep := ⟨.faddr 1 (.t 5), (some 37), none, []⟩ :: ⟨.load 1 false (.t 37), (some 38), none, []⟩ :: L86_31
theorem v86_32 : VS L86_32.eq_1 := rfl
def L86_33 : List AStep := ⟨.faddr 1 (.t 4), (some 35), none, []⟩ :: ⟨.load 1 false (.t 35), (some 36), none, []⟩ :: L86_32
theorem v86_33 : VS L86_33.eq_1 := rfl
def L86_34 : List AStep := [⟨.mov (.c (.bool false)), (some 2), none, []⟩]
theorem v86_34 : VS L86_34.eq_1 := rfl
def L86_35 : List AStep := [⟨.mov (.t 11), (some 3), none, []⟩]
theorem v86_35 : VS L86_35.eq_1 := rfl
def L86_36 : List AStep := ⟨.mov (.t 3), (some 10), none, []⟩ :: ⟨.bin .add (.t 10) (.c (.int .i64 1)), (some 11), none, []⟩ :: L86_35
theorem v86_36 : VS L86_36.eq_1 := rfl
def L86_37 : List AStep := [⟨.bin .leq (.t 66) (.c (.int .i64 8)), (some 67), none, []⟩, ⟨.mov (.t 67), (some 2), none, []⟩]
theorem v86_37 : VS L86_37.eq_1 := rfl
def L86_38 : List AStep := ⟨.mov (.t 0), (some 65), none, []⟩ :: ⟨.len (.t 65), (some 66), none, []⟩ :: L86_37
theorem v86_38 : VS L86_38.eq_1 := rfl
def C86_0 : ACode := .cond (.t 9) .skip (.exit 0)
theorem u86_0 : VC C86_0.eq_1 := rfl
def C86_1 : ACode := .seq (.reg L86_3) C86_0
theorem u86_1 : VC C86_1.eq_1 := rfl
def C86_2 : ACode := .seq (.reg L86_13) .ret
theorem u86_2 : VC C86_2.eq_1 := rfl
def C86_3 : ACode := .cond (.t 27) C86_2 .skip
theorem u86_3 : VC C86_3.eq_1 := rfl
def C86_4 : ACode := .seq (.reg L86_12) C86_3
theorem u86_4 : VC C86_4.eq_1 := rfl
def C86_5 : ACode := .cond (.t 29) (.exit 1) .skip
theorem u86_5 : VC C86_5.eq_1 := rfl
def C86_6 : ACode := .seq (.reg L86_14) C86_5
theorem u86_6 : VC C86_6.eq_1 := rfl
def C86_7 : ACode := .seq (.reg L86_34) .ret
theorem u86_7 : VC C86_7.eq_1 := rfl
def C86_8 : ACode := .cond (.t 64) C86_7 .skip
theorem u86_8 : VC C86_8.eq_1 := rfl
def C86_9 : ACode := .seq (.reg L86_33) C86_8
theorem u86_9 : VC C86_9.eq_1 := rfl
def C86_10 : ACode := .seq (.reg L86_18) C86_9
theorem u86_10 : VC C86_10.eq_1 := rfl
def C86_11 : ACode := .seq C86_6 C86_10
theorem u86_11 : VC C86_11.eq_1 := rfl
def C86_12 : ACode := .seq C86_4 C86_11
theorem u86_12 : VC C86_12.eq_1 := rfl
def C86_13 : ACode := .seq (.reg L86_6) C86_12
theorem u86_13 : VC C86_13.eq_1 := rfl
def C86_14 : ACode := .block 1 C86_13
theorem u86_14 : VC C86_14.eq_1 := rfl
def C86_15 : ACode := .seq C86_14 (.reg L86_36)
theorem u86_15 : VC C86_15.eq_1 := rfl
def C86_16 : ACode := .seq C86_1 C86_15
theorem u86_16 : VC C86_16.eq_1 := rfl
def C86_17 : ACode := .block 0 (.loop C86_16)
theorem u86_17 : VC C86_17.eq_1 := rfl
def C86_18 : ACode := .seq (.reg L86_1) C86_17
theorem u86_18 : VC C86_18.eq_1 := rfl
def C86_19 : ACode := .seq (.reg L86_38) .ret
theorem u86_19 : VC C86_19.eq_1 := rfl
def C86_20 : ACode := .seq C86_18 C86_19
theorem u86_20 : VC C86_20.eq_1 := rfl
def C86_21 : ACode := .seq (.reg L86_0) C86_20
theorem u86_21 : VC C86_21.eq_1 := rfl
def F86 : AFunc := ⟨68, [.tmp 2], C86_21⟩
theorem cF86 : compB Try.prog 86 = some F86 := by kernel_rfl
attribute [local go_sem ↓] u86_0 u86_1 u86_2 u86_3 u86_4 u86_5 u86_6 u86_7 u86_8 u86_9 u86_10 u86_11 u86_12 u86_13 u86_14 u86_15 u86_16 u86_17 u86_18 u86_19 u86_20 u86_21 v86_0 v86_1 v86_2 v86_3 v86_4 v86_5 v86_6 v86_7 v86_8 v86_9 v86_10 v86_11 v86_12 v86_13 v86_14 v86_15 v86_16 v86_17 v86_18 v86_19 v86_20 v86_21 v86_22 v86_23 v86_24 v86_25 v86_26 v86_27 v86_28 v86_29 v86_30 v86_31 v86_32 v86_33 v86_34 v86_35 v86_36 v86_37 v86_38
theorem c_validParams (l : List Param) (v : AV) (h : H) (hl : SlQ h v l) (hn : smQ l) : bm Try.prog 86 [v] h = some (ib (okSig l), h) := by
  refine bm_eq cF86 ?_
  simp +contextual (maxSteps := 2000000) only [go_sem, Nat.reduceEqDiff, reduceCtorEq, Nat.reduceAdd, Nat.reduceLeDiff, F86]
  refine wpC_loop (fun i T L h' => h' = h ∧ T 0 = .v v ∧ T 3 = .v (.one (.int .i64 i)) ∧ Upto (stepAt l) i) l.length ?_ ?_ (Nat.zero_le _) ?_
  · rintro i T L h' hi ⟨rfl, t0, t3, hu⟩
    obtain ⟨v', e1, s1⟩ := hl.takeO (i := i) (by omega) (kd := .i64)
    have e2 : decide (paramAt (l.take i) l[i].name ≥ 0) = !(newAt Param.name l i) := newAt_ge hi
    cases i with
    | zero =>
      have e3 := stepAt_zero hi
      simp only [List.take_zero] at e1 e2 s1
      have e4 : decide (((0 : Nat) : Int) = 0) = true := rfl
      simp +contextual (maxSteps := 2000000) only [go_sem, Nat.reduceEqDiff, reduceCtorEq, Nat.reduceAdd, Nat.reduceLeDiff, e4, List.take_zero, t0, t3, hl.len, hl.iaddr hi, hl.whole hi, lt_true hi, e1, e2, c_findParam _ _ _ _ s1 (hn.take 0), c_validParam _ _ (hn.at hi)]
      (repeat' (first | refine And.intro ?_ ?_ | intro _)) <;> first | rfl | rw [wrap_next hi hn.len] | exact hu.next (by rw [e3]; simp_all) | (rw [okSig_not hi (by rw [e3]; simp_all)]) | simp_all
    | succ j =>
      have e3 := stepAt_succ hi
      have hj : j < l.length := by omega
      have e4 : decide (((j + 1 : Nat) : Int) = 0) = false := decide_eq_false (by omega)
      simp +contextual (maxSteps := 2000000) only [go_sem, Nat.reduceEqDiff, reduceCtorEq, Nat.reduceAdd, Nat.reduceLeDiff, e4, t0, t3, hl.len, hl.iaddr hi, hl.whole hi, lt_true hi, e1, e2, c_findParam _ _ _ _ s1 (hn.take _), c_validParam _ _ (hn.at hi), wrap_pred (show j < 2 ^ 62 from Nat.lt_trans (Nat.lt_succ_self j) (Nat.lt_trans hi hn.len)), hl.iaddr hj, hl.whole hj, c_isSingle, c_byPlace]
      (repeat' (first | refine And.intro ?_ ?_ | intro _)) <;> first | rfl | rw [wrap_next hi hn.len] | exact hu.next (by rw [e3]; simp_all [follows]) | (rw [okSig_not hi (by rw [e3]; simp_all [follows])]) | simp_all
  · rintro T L h' ⟨rfl, t0, t3, hu⟩
    simp +contextual (maxSteps := 2000000) only [go_sem, Nat.reduceEqDiff, reduceCtorEq, Nat.reduceAdd, Nat.reduceLeDiff, t0, t3, hl.len, lt_false, okSig_of hu]
  · simp +contextual (maxSteps := 2000000) only [go_sem, Nat.reduceEqDiff, reduceCtorEq, Nat.reduceAdd, Nat.reduceLeDiff]
    (repeat' (first | refine And.intro ?_ ?_ | intro _)) <;> first | rfl | exact Upto.zero
/-! spec.validSignature -/
def L63_0 : List AStep := [⟨.box 38 (.t 0), (some 1), none, []⟩, ⟨.mov (.c (.bool false)), (some 2), none, []⟩]
theorem v63_0 : VS L63_0.eq_1 := rfl
def L63_1 : List AStep := [⟨.call 86 [(.t 4)], (some 5), none, []⟩, ⟨.mov (.t 5), (some 2), none, []⟩]
theorem v63_1 : VS L63_1.eq_1 := rfl
def L63_2 : List AStep := ⟨.faddr 0 (.t 1), (some 3), none, []⟩ :: ⟨.load 1 false (.t 3), (some 4), none, []⟩ :: L63_1
theorem v63_2 : VS L63_2.eq_1 := rfl
def C63_0 : ACode := .seq (.reg L63_2) .ret
theorem u63_0 : VC C63_0.eq_1 := rfl
def C63_1 : ACode := .seq (.reg L63_0) C63_0
theorem u63_1 : VC C63_1.eq_1 := rfl
def F63 : AFunc := ⟨6, [.tmp 2], C63_1⟩
theorem cF63 : compB Try.prog 63 = some F63 := by kernel_rfl
attribute [local go_sem ↓] u63_0 u63_1 v63_0 v63_1 v63_2
theorem c_validSignature (l : List Param) (pv : CV) (h : H) (hl : SlQ h (.one pv) l) (hn : smQ l) : bm Try.prog 63 [.agg [pv]] h = some (ib (okSig l), h) := by
  refine bm_eq cF63 ?_
  simp +contextual (maxSteps := 2000000) only [go_sem, Nat.reduceEqDiff, reduceCtorEq, Nat.reduceAdd, Nat.reduceLeDiff, F63, c_validParams _ _ _ hl hn]
/-! spec.goodCall -/
def L38_0 : List AStep := [⟨.mov (.c (.bool false)), (some 4), none, []⟩]
theorem v38_0 : VS L38_0.eq_1 := rfl
def L38_1 : List AStep := ⟨.box 38 (.t 0), (some 2), none, []⟩ :: ⟨.box 42 (.t 1), (some 3), none, []⟩ :: L38_0
theorem v38_1 : VS L38_1.eq_1 := rfl
def L38_2 : List AStep := [⟨.mov (.t 10), (some 4), none, []⟩]
theorem v38_2 : VS L38_2.eq_1 := rfl
def L38_3 : List AStep := ⟨.call 64 [(.t 8)], (some 9), (some (7, true)), []⟩ :: ⟨.pick (.t 7) (.t 9) (.c (.bool false)), (some 10), none, []⟩ :: L38_2
theorem v38_3 : VS L38_3.eq_1 := rfl
def L38_4 : List AStep := ⟨.mov (.t 6), (some 7), none, []⟩ :: ⟨.load 2 true (.t 3), (some 8), (some (7, true)), []⟩ :: L38_3
theorem v38_4 : VS L38_4.eq_1 := rfl
def L38_5 : List AStep := ⟨.load 1 true (.t 2), (some 5), none, []⟩ :: ⟨.call 63 [(.t 5)], (some 6), none, []⟩ :: L38_4
theorem v38_5 : VS L38_5.eq_1 := rfl
def C38_0 : ACode := .seq (.reg L38_5) .ret
theorem u38_0 : VC C38_0.eq_1 := rfl
def C38_1 : ACode := .seq (.reg L38_1) C38_0
theorem u38_1 : VC C38_1.eq_1 := rfl
def F38 : AFunc := ⟨11, [.tmp 4], C38_1⟩
theorem cF38 : compB Try.prog 38 = some F38 := by kernel_rfl
attribute [local go_sem ↓] u38_0 u38_1 v38_0 v38_1 v38_2 v38_3 v38_4 v38_5
theorem c_goodCall (l : List Param) (f : Flat) (qv pv nv : CV) (h : H) (hl : SlQ h (.one qv) l) (hn : smQ l) (hp : SlI h (.one pv) f.pl) (hq : SlP h (.one nv) f.nl) (hf : smF f) : bm Try.prog 38 [.agg [qv], .agg [pv, nv]] h = some (ib (okSig l && okFlat f), h) := by
  refine bm_eq cF38 ?_
  simp +contextual (maxSteps := 2000000) only [go_sem, Nat.reduceEqDiff, reduceCtorEq, Nat.reduceAdd, Nat.reduceLeDiff, F38, c_validSignature _ _ _ hl hn, c_validFlat _ _ _ _ hp hq hf]
  (repeat' (first | refine And.intro ?_ ?_ | intro _)) <;> first | simp_all
end Go.Proofs.Ytdalgphpacikkaa.Am
