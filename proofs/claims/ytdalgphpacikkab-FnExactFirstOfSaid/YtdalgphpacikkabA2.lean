/- Contracts of the reference: signatures. -/
import Derived.Test.YtdalgphpacikkabA1
namespace Go.Proofs.Ytdalgphpacikkab.Am
open Go
set_option maxRecDepth 100000
set_option maxHeartbeats 4000000
set_option linter.unusedSimpArgs false
set_option linter.unusedVariables false
attribute [local go_sem ↓] bv_t bv_c ev_t ev_c put_same put_ne put_none kill_at pro_at lb_same lb_ne start_zero start_succ wpC_seq wpC_reg wpC_cond wpC_block wpC_skip wpC_exit wpC_ret thenQ_normal thenQ_exit thenQ_ret inBlk_normal inBlk_exit inBlk_ret wpS_nil wpS_step wpS_again wpS_guard wpO_mov wpO_load wpO_faddr wpO_nilCheck wpO_pick wpO_build wpO_bin wpO_eqb wpO_eqst wpO_eqnil wpO_not wpO_conv wpO_bytesStr wpO_iaddr wpO_idxStr wpO_field wpO_extract wpO_len wpO_lenStr wpO_cap wpO_min wpO_slice wpO_sliceStr wpO_alloc wpO_box wpO_store wpO_call wpO_callv wpO_mkfn wpO_buildSlice wpO_mkslice wpO_append wpO_appz proA_nil proA_cons tmpX_nil tmpX_tmp tmpX_cell doneB_normal doneB_ret agK_cons agK_nil agK_guard agG_tt agG_ff agG_tf agG_ft agG_undef pureB_load results_one results_two results_nil resBs_cons resBs_nil resB_tmp resB_cell
attribute [local go_sem] kill_v kill_lp_ne kill_lp_same pro_v pro_lp_same pro_lp_ne av_v av_lp optB_some optX_some valX_eq ldX_lp ldX_v faX_lp faX_v ncX_lp ncX_ptr ncX_fn boxK_one boxK_agg stL_some stK_lp_one stK_lp_agg stK_v_one stK_v_agg proM_v proM_lp callG_mk callVG_mk callvK_fn fnG_mk ptrsA_nil ptrsA_cons callH_some whenA_true whenA_false guardH_tt guardH_ff guardH_tf guardH_ft guardH_undef agV_one agV_agg lenO_sl lenStrO_str notO_bool pickO_bool convO_int eqbO_bool eqnilO_sl extractO_tup capO_sl minO_int loadL_one loadL_all storeL_eq fillA_nil fillA_one fillA_agg nat_ge neg_ge nat_lt neg_lt buildO bin_add bin_sub bin_mul bin_eql bin_neq bin_lss bin_leq bin_gtr bin_geq str_eql str_neq str_lss str_leq str_gtr str_geq retK_some endK_mk gcK_same gcK_int gcK_bool tupO_one tupO_agg rdy_self ib ii Option.map_none Option.map_some Option.some.injEq exists_eq_left' exists_eq_left ne_eq not_false_eq_true if_true if_false List.map_cons List.map_nil List.getElem?_cons_zero List.getElem?_cons_succ List.length_cons List.length_nil List.take_succ_cons List.take_zero List.take_nil List.drop_succ_cons List.drop_zero List.drop_nil List.cons_append List.nil_append List.append_nil List.set_cons_zero List.set_cons_succ Nat.zero_add forall_const true_and and_true and_self Bool.false_eq_true false_implies true_implies implies_true Bool.not_true Bool.not_false Bool.not_eq_true' Bool.not_eq_false' beq_self_eq_true Bool.bne_true Bool.bne_false
attribute [local go_sem] lenI lenS lenP lenQ lenB lenL lenT encI_0 encS_0 encP_0 encP_1 encQ_0 encQ_1 encQ_2 encQ_3 encB_0 encB_1 encL_0 encL_1 encT_0 encT_1
attribute [local go_sem low] whenA_bool guardH_bool
/-! spec.validParam -/
def L125_0 : List AStep := [⟨.box 81 (.t 0), (some 1), none, []⟩, ⟨.mov (.c (.bool false)), (some 2), none, []⟩]
theorem v125_0 : VS L125_0.eq_1 := rfl
def L125_1 : List AStep := [⟨.pick (.t 25) (.t 32) (.c (.bool false)), (some 33), none, []⟩, ⟨.mov (.t 33), (some 2), none, []⟩]
theorem v125_1 : VS L125_1.eq_1 := rfl
def L125_2 : List AStep := ⟨.not (.t 30), (some 31), (some (28, false)), []⟩ :: ⟨.pick (.t 28) (.c (.bool true)) (.t 31), (some 32), (some (25, true)), []⟩ :: L125_1
theorem v125_2 : VS L125_2.eq_1 := rfl
def L125_3 : List AStep := ⟨.faddr 2 (.t 1), (some 29), (some (28, false)), []⟩ :: ⟨.load 1 false (.t 29), (some 30), (some (28, false)), []⟩ :: L125_2
theorem v125_3 : VS L125_3.eq_1 := rfl
def L125_4 : List AStep := ⟨.call 46 [(.t 26)], (some 27), (some (25, true)), []⟩ :: ⟨.mov (.t 27), (some 28), (some (25, true)), []⟩ :: L125_3
theorem v125_4 : VS L125_4.eq_1 := rfl
def L125_5 : List AStep := ⟨.mov (.t 24), (some 25), none, []⟩ :: ⟨.load 4 true (.t 1), (some 26), (some (25, true)), []⟩ :: L125_4
theorem v125_5 : VS L125_5.eq_1 := rfl
def L125_6 : List AStep := ⟨.pick (.t 19) (.c (.bool true)) (.t 22), (some 23), (some (16, true)), []⟩ :: ⟨.pick (.t 16) (.t 23) (.c (.bool false)), (some 24), none, []⟩ :: L125_5
theorem v125_6 : VS L125_6.eq_1 := rfl
def L125_7 : List AStep := ⟨.load 1 false (.t 20), (some 21), (some (19, false)), []⟩ :: ⟨.bin .eql (.t 21) (.c (.int .i64 0)), (some 22), (some (19, false)), []⟩ :: L125_6
theorem v125_7 : VS L125_7.eq_1 := rfl
def L125_8 : List AStep := ⟨.mov (.t 18), (some 19), (some (16, true)), []⟩ :: ⟨.faddr 3 (.t 1), (some 20), (some (19, false)), []⟩ :: L125_7
theorem v125_8 : VS L125_8.eq_1 := rfl
def L125_9 : List AStep := ⟨.faddr 2 (.t 1), (some 17), (some (16, true)), []⟩ :: ⟨.load 1 false (.t 17), (some 18), (some (16, true)), []⟩ :: L125_8
theorem v125_9 : VS L125_9.eq_1 := rfl
def L125_10 : List AStep := ⟨.pick (.t 11) (.t 14) (.c (.bool false)), (some 15), none, []⟩ :: ⟨.mov (.t 15), (some 16), none, []⟩ :: L125_9
theorem v125_10 : VS L125_10.eq_1 := rfl
def L125_11 : List AStep := ⟨.load 1 false (.t 12), (some 13), (some (11, true)), []⟩ :: ⟨.call 126 [(.t 13)], (some 14), (some (11, true)), []⟩ :: L125_10
theorem v125_11 : VS L125_11.eq_1 := rfl
def L125_12 : List AStep := ⟨.mov (.t 10), (some 11), none, []⟩ :: ⟨.faddr 3 (.t 1), (some 12), (some (11, true)), []⟩ :: L125_11
theorem v125_12 : VS L125_12.eq_1 := rfl
def L125_13 : List AStep := ⟨.call 138 [(.t 8), (.c (.int .i64 0)), (.c (.int .i64 4))], (some 9), (some (6, true)), []⟩ :: ⟨.pick (.t 6) (.t 9) (.c (.bool false)), (some 10), none, []⟩ :: L125_12
theorem v125_13 : VS L125_13.eq_1 := rfl
def L125_14 : List AStep := ⟨.faddr 1 (.t 1), (some 7), (some (6, true)), []⟩ :: ⟨.load 1 false (.t 7), (some 8), (some (6, true)), []⟩ :: L125_13
theorem v125_14 : VS L125_14.eq_1 := rfl
def L125_15 : List AStep := ⟨.call 127 [(.t 4)], (some 5), none, []⟩ :: ⟨.mov (.t 5), (some 6), none, []⟩ :: L125_14
theorem v125_15 : VS L125_15.eq_1 := rfl
def L125_16 : List AStep := ⟨.faddr 0 (.t 1), (some 3), none, []⟩ :: ⟨.load 1 false (.t 3), (some 4), none, []⟩ :: L125_15
theorem v125_16 : VS L125_16.eq_1 := rfl
def C125_0 : ACode := .seq (.reg L125_16) .ret
theorem u125_0 : VC C125_0.eq_1 := rfl
def C125_1 : ACode := .seq (.reg L125_0) C125_0
theorem u125_1 : VC C125_1.eq_1 := rfl
def F125 : AFunc := ⟨34, [.tmp 2], C125_1⟩
theorem cF125 : compB Try.prog 125 = some F125 := by kernel_rfl
attribute [local go_sem ↓] u125_0 u125_1 v125_0 v125_1 v125_2 v125_3 v125_4 v125_5 v125_6 v125_7 v125_8 v125_9 v125_10 v125_11 v125_12 v125_13 v125_14 v125_15 v125_16
theorem c_validParam (p : Param) (h : H) (hn : p.name.size < 2 ^ 62) : bm Try.prog 125 [.agg (encQ p)] h = some (ib (okParam p), h) := by
  refine bm_eq cF125 ?_
  simp +contextual (maxSteps := 2000000) only [go_sem, Nat.reduceEqDiff, reduceCtorEq, Nat.reduceAdd, Nat.reduceLeDiff, F125, c_validName _ _ hn, c_inRange, c_validNumber, c_isSingle, okParam]
  (repeat' (first | refine And.intro ?_ ?_ | intro _)) <;> first | simp_all
/-! spec.findParam -/
def L110_0 : List AStep := [⟨.mov (.c (.int .i64 0)), (some 4), none, []⟩]
theorem v110_0 : VS L110_0.eq_1 := rfl
def L110_1 : List AStep := [⟨.mov (.c (.int .i64 0)), (some 5), none, []⟩]
theorem v110_1 : VS L110_1.eq_1 := rfl
def L110_2 : List AStep := [⟨.len (.t 7), (some 8), none, []⟩, ⟨.bin .lss (.t 6) (.t 8), (some 9), none, []⟩]
theorem v110_2 : VS L110_2.eq_1 := rfl
def L110_3 : List AStep := ⟨.mov (.t 5), (some 6), none, []⟩ :: ⟨.mov (.t 0), (some 7), none, []⟩ :: L110_2
theorem v110_3 : VS L110_3.eq_1 := rfl
def L110_4 : List AStep := [⟨.bin .eql (.t 16) (.t 17), (some 18), none, []⟩]
theorem v110_4 : VS L110_4.eq_1 := rfl
def L110_5 : List AStep := ⟨.load 1 false (.t 15), (some 16), none, []⟩ :: ⟨.mov (.t 1), (some 17), none, []⟩ :: L110_4
theorem v110_5 : VS L110_5.eq_1 := rfl
def L110_6 : List AStep := ⟨.iaddr 4 (.t 12) (.t 13), (some 14), none, []⟩ :: ⟨.faddr 0 (.t 14), (some 15), none, []⟩ :: L110_5
theorem v110_6 : VS L110_6.eq_1 := rfl
def L110_7 : List AStep := ⟨.mov (.t 0), (some 12), none, []⟩ :: ⟨.mov (.t 5), (some 13), none, []⟩ :: L110_6
theorem v110_7 : VS L110_7.eq_1 := rfl
def L110_8 : List AStep := [⟨.mov (.t 5), (some 19), none, []⟩, ⟨.mov (.t 19), (some 4), none, []⟩]
theorem v110_8 : VS L110_8.eq_1 := rfl
def L110_9 : List AStep := [⟨.mov (.t 11), (some 5), none, []⟩]
theorem v110_9 : VS L110_9.eq_1 := rfl
def L110_10 : List AStep := ⟨.mov (.t 5), (some 10), none, []⟩ :: ⟨.bin .add (.t 10) (.c (.int .i64 1)), (some 11), none, []⟩ :: L110_9
theorem v110_10 : VS L110_10.eq_1 := rfl
def L110_11 : List AStep := [⟨.mov (.c (.int .i64 (-1))), (some 4), none, []⟩]
theorem v110_11 : VS L110_11.eq_1 := rfl
def C110_0 : ACode := .cond (.t 9) .skip (.exit 0)
theorem u110_0 : VC C110_0.eq_1 := rfl
def C110_1 : ACode := .seq (.reg L110_3) C110_0
theorem u110_1 : VC C110_1.eq_1 := rfl
def C110_2 : ACode := .seq (.reg L110_8) .ret
theorem u110_2 : VC C110_2.eq_1 := rfl
def C110_3 : ACode := .cond (.t 18) C110_2 .skip
theorem u110_3 : VC C110_3.eq_1 := rfl
def C110_4 : ACode := .seq (.reg L110_7) C110_3
theorem u110_4 : VC C110_4.eq_1 := rfl
def C110_5 : ACode := .block 1 C110_4
theorem u110_5 : VC C110_5.eq_1 := rfl
def C110_6 : ACode := .seq C110_5 (.reg L110_10)
theorem u110_6 : VC C110_6.eq_1 := rfl
def C110_7 : ACode := .seq C110_1 C110_6
theorem u110_7 : VC C110_7.eq_1 := rfl
def C110_8 : ACode := .block 0 (.loop C110_7)
theorem u110_8 : VC C110_8.eq_1 := rfl
def C110_9 : ACode := .seq (.reg L110_1) C110_8
theorem u110_9 : VC C110_9.eq_1 := rfl
def C110_10 : ACode := .seq (.reg L110_11) .ret
theorem u110_10 : VC C110_10.eq_1 := rfl
def C110_11 : ACode := .seq C110_9 C110_10
theorem u110_11 : VC C110_11.eq_1 := rfl
def C110_12 : ACode := .seq (.reg L110_0) C110_11
theorem u110_12 : VC C110_12.eq_1 := rfl
def F110 : AFunc := ⟨20, [.tmp 4], C110_12⟩
theorem cF110 : compB Try.prog 110 = some F110 := by kernel_rfl
attribute [local go_sem ↓] u110_0 u110_1 u110_2 u110_3 u110_4 u110_5 u110_6 u110_7 u110_8 u110_9 u110_10 u110_11 u110_12 v110_0 v110_1 v110_2 v110_3 v110_4 v110_5 v110_6 v110_7 v110_8 v110_9 v110_10 v110_11
theorem c_findParam (l : List Param) (v : AV) (s : ByteArray) (h : H) (hl : SlQ h v l) (hn : smQ l) : bm Try.prog 110 [v, .one (.str s)] h = some (ii (paramAt l s), h) := by
  refine bm_eq cF110 ?_
  simp +contextual (maxSteps := 2000000) only [go_sem, Nat.reduceEqDiff, reduceCtorEq, Nat.reduceAdd, Nat.reduceLeDiff, F110]
  refine wpC_loop (fun i T L h' => h' = h ∧ T 0 = .v v ∧ T 1 = .v (.one (.str s)) ∧ T 5 = .v (.one (.int .i64 i)) ∧ Pre (fun p => decide (p.name = s)) false l i) l.length ?_ ?_ (Nat.zero_le _) ?_
  · rintro i T L h' hi ⟨rfl, h0, h1, h3, hp⟩
    simp +contextual (maxSteps := 2000000) only [go_sem, Nat.reduceEqDiff, reduceCtorEq, Nat.reduceAdd, Nat.reduceLeDiff, h0, h1, h3, hl.len, hl.iaddr hi, hl.fieldO hi, lt_true hi]
    (repeat' (first | refine And.intro ?_ ?_ | intro _)) <;> first | rfl | rw [wrap_next hi hn.len] | exact hp.next hi ‹_› | rw [paramAt, idx_hit hi hp ‹_›]
  · rintro T L h' ⟨rfl, h0, h1, h3, hp⟩
    simp +contextual (maxSteps := 2000000) only [go_sem, Nat.reduceEqDiff, reduceCtorEq, Nat.reduceAdd, Nat.reduceLeDiff, h0, h1, h3, hl.len, lt_false, paramAt, idx_none hp]
  · simp +contextual (maxSteps := 2000000) only [go_sem, Nat.reduceEqDiff, reduceCtorEq, Nat.reduceAdd, Nat.reduceLeDiff]
    (repeat' (first | refine And.intro ?_ ?_ | intro _)) <;> first | rfl | exact Pre.zero
/-! spec.kindAt -/
def L81_0 : List AStep := [⟨.mov (.c (.int .i64 0)), (some 4), none, []⟩]
theorem v81_0 : VS L81_0.eq_1 := rfl
def L81_1 : List AStep := [⟨.mov (.c (.int .i64 0)), (some 5), none, []⟩]
theorem v81_1 : VS L81_1.eq_1 := rfl
def L81_2 : List AStep := [⟨.len (.t 7), (some 8), none, []⟩, ⟨.bin .lss (.t 6) (.t 8), (some 9), none, []⟩]
theorem v81_2 : VS L81_2.eq_1 := rfl
def L81_3 : List AStep := ⟨.mov (.t 5), (some 6), none, []⟩ :: ⟨.mov (.t 0), (some 7), none, []⟩ :: L81_2
theorem v81_3 : VS L81_3.eq_1 := rfl
def L81_4 : List AStep := [⟨.bin .eql (.t 16) (.t 17), (some 18), none, []⟩]
theorem v81_4 : VS L81_4.eq_1 := rfl
def L81_5 : List AStep := ⟨.load 1 false (.t 15), (some 16), none, []⟩ :: ⟨.mov (.t 1), (some 17), none, []⟩ :: L81_4
theorem v81_5 : VS L81_5.eq_1 := rfl
def L81_6 : List AStep := ⟨.iaddr 4 (.t 12) (.t 13), (some 14), none, []⟩ :: ⟨.faddr 1 (.t 14), (some 15), none, []⟩ :: L81_5
theorem v81_6 : VS L81_6.eq_1 := rfl
def L81_7 : List AStep := ⟨.mov (.t 0), (some 12), none, []⟩ :: ⟨.mov (.t 5), (some 13), none, []⟩ :: L81_6
theorem v81_7 : VS L81_7.eq_1 := rfl
def L81_8 : List AStep := [⟨.mov (.t 5), (some 19), none, []⟩, ⟨.mov (.t 19), (some 4), none, []⟩]
theorem v81_8 : VS L81_8.eq_1 := rfl
def L81_9 : List AStep := [⟨.mov (.t 11), (some 5), none, []⟩]
theorem v81_9 : VS L81_9.eq_1 := rfl
def L81_10 : List AStep := ⟨.mov (.t 5), (some 10), none, []⟩ :: ⟨.bin .add (.t 10) (.c (.int .i64 1)), (some 11), none, []⟩ :: L81_9
theorem v81_10 : VS L81_10.eq_1 := rfl
def L81_11 : List AStep := [⟨.mov (.c (.int .i64 (-1))), (some 4), none, []⟩]
theorem v81_11 : VS L81_11.eq_1 := rfl
def C81_0 : ACode := .cond (.t 9) .skip (.exit 0)
theorem u81_0 : VC C81_0.eq_1 := rfl
def C81_1 : ACode := .seq (.reg L81_3) C81_0
theorem u81_1 : VC C81_1.eq_1 := rfl
def C81_2 : ACode := .seq (.reg L81_8) .ret
theorem u81_2 : VC C81_2.eq_1 := rfl
def C81_3 : ACode := .cond (.t 18) C81_2 .skip
theorem u81_3 : VC C81_3.eq_1 := rfl
def C81_4 : ACode := .seq (.reg L81_7) C81_3
theorem u81_4 : VC C81_4.eq_1 := rfl
def C81_5 : ACode := .block 1 C81_4
theorem u81_5 : VC C81_5.eq_1 := rfl
def C81_6 : ACode := .seq C81_5 (.reg L81_10)
theorem u81_6 : VC C81_6.eq_1 := rfl
def C81_7 : ACode := .seq C81_1 C81_6
theorem u81_7 : VC C81_7.eq_1 := rfl
def C81_8 : ACode := .block 0 (.loop C81_7)
theorem u81_8 : VC C81_8.eq_1 := rfl
def C81_9 : ACode := .seq (.reg L81_1) C81_8
theorem u81_9 : VC C81_9.eq_1 := rfl
def C81_10 : ACode := .seq (.reg L81_11) .ret
theorem u81_10 : VC C81_10.eq_1 := rfl
def C81_11 : ACode := .seq C81_9 C81_10
theorem u81_11 : VC C81_11.eq_1 := rfl
def C81_12 : ACode := .seq (.reg L81_0) C81_11
theorem u81_12 : VC C81_12.eq_1 := rfl
def F81 : AFunc := ⟨20, [.tmp 4], C81_12⟩
theorem cF81 : compB Try.prog 81 = some F81 := by kernel_rfl
attribute [local go_sem ↓] u81_0 u81_1 u81_2 u81_3 u81_4 u81_5 u81_6 u81_7 u81_8 u81_9 u81_10 u81_11 u81_12 v81_0 v81_1 v81_2 v81_3 v81_4 v81_5 v81_6 v81_7 v81_8 v81_9 v81_10 v81_11
theorem c_kindAt (l : List Param) (v : AV) (k : Int) (h : H) (hl : SlQ h v l) (hn : smQ l) : bm Try.prog 81 [v, .one (.int .i64 k)] h = some (ii (kindAt l k), h) := by
  refine bm_eq cF81 ?_
  simp +contextual (maxSteps := 2000000) only [go_sem, Nat.reduceEqDiff, reduceCtorEq, Nat.reduceAdd, Nat.reduceLeDiff, F81]
  refine wpC_loop (fun i T L h' => h' = h ∧ T 0 = .v v ∧ T 1 = .v (.one (.int .i64 k)) ∧ T 5 = .v (.one (.int .i64 i)) ∧ Pre (fun p => decide (p.kind = k)) false l i) l.length ?_ ?_ (Nat.zero_le _) ?_
  · rintro i T L h' hi ⟨rfl, h0, h1, h3, hp⟩
    simp +contextual (maxSteps := 2000000) only [go_sem, Nat.reduceEqDiff, reduceCtorEq, Nat.reduceAdd, Nat.reduceLeDiff, h0, h1, h3, hl.len, hl.iaddr hi, hl.fieldO hi, lt_true hi]
    (repeat' (first | refine And.intro ?_ ?_ | intro _)) <;> first | rfl | rw [wrap_next hi hn.len] | exact hp.next hi ‹_› | rw [kindAt, idx_hit hi hp ‹_›]
  · rintro T L h' ⟨rfl, h0, h1, h3, hp⟩
    simp +contextual (maxSteps := 2000000) only [go_sem, Nat.reduceEqDiff, reduceCtorEq, Nat.reduceAdd, Nat.reduceLeDiff, h0, h1, h3, hl.len, lt_false, kindAt, idx_none hp]
  · simp +contextual (maxSteps := 2000000) only [go_sem, Nat.reduceEqDiff, reduceCtorEq, Nat.reduceAdd, Nat.reduceLeDiff]
    (repeat' (first | refine And.intro ?_ ?_ | intro _)) <;> first | rfl | exact Pre.zero
/-! spec.placeCount -/
def L80_0 : List AStep := [⟨.box 36 (.t 0), (some 1), none, []⟩, ⟨.mov (.c (.int .i64 0)), (some 2), none, []⟩]
theorem v80_0 : VS L80_0.eq_1 := rfl
def L80_1 : List AStep := [⟨.mov (.c (.int .i64 0)), (some 3), none, []⟩]
theorem v80_1 : VS L80_1.eq_1 := rfl
def L80_2 : List AStep := [⟨.mov (.c (.int .i64 0)), (some 4), none, []⟩]
theorem v80_2 : VS L80_2.eq_1 := rfl
def L80_3 : List AStep := [⟨.bin .lss (.t 5) (.t 8), (some 9), none, []⟩]
theorem v80_3 : VS L80_3.eq_1 := rfl
def L80_4 : List AStep := ⟨.load 1 false (.t 6), (some 7), none, []⟩ :: ⟨.len (.t 7), (some 8), none, []⟩ :: L80_3
theorem v80_4 : VS L80_4.eq_1 := rfl
def L80_5 : List AStep := ⟨.mov (.t 4), (some 5), none, []⟩ :: ⟨.faddr 0 (.t 1), (some 6), none, []⟩ :: L80_4
theorem v80_5 : VS L80_5.eq_1 := rfl
def L80_6 : List AStep := [⟨.load 4 true (.t 15), (some 16), none, []⟩, ⟨.call 83 [(.t 16)], (some 17), none, []⟩]
theorem v80_6 : VS L80_6.eq_1 := rfl
def L80_7 : List AStep := ⟨.mov (.t 4), (some 14), none, []⟩ :: ⟨.iaddr 4 (.t 13) (.t 14), (some 15), none, []⟩ :: L80_6
theorem v80_7 : VS L80_7.eq_1 := rfl
def L80_8 : List AStep := ⟨.faddr 0 (.t 1), (some 12), none, []⟩ :: ⟨.load 1 false (.t 12), (some 13), none, []⟩ :: L80_7
theorem v80_8 : VS L80_8.eq_1 := rfl
def L80_9 : List AStep := [⟨.mov (.t 19), (some 3), none, []⟩]
theorem v80_9 : VS L80_9.eq_1 := rfl
def L80_10 : List AStep := ⟨.mov (.t 3), (some 18), none, []⟩ :: ⟨.bin .add (.t 18) (.c (.int .i64 1)), (some 19), none, []⟩ :: L80_9
theorem v80_10 : VS L80_10.eq_1 := rfl
def L80_11 : List AStep := [⟨.mov (.t 11), (some 4), none, []⟩]
theorem v80_11 : VS L80_11.eq_1 := rfl
def L80_12 : List AStep := ⟨.mov (.t 4), (some 10), none, []⟩ :: ⟨.bin .add (.t 10) (.c (.int .i64 1)), (some 11), none, []⟩ :: L80_11
theorem v80_12 : VS L80_12.eq_1 := rfl
def L80_13 : List AStep := [⟨.mov (.t 3), (some 20), none, []⟩, ⟨.mov (.t 20), (some 2), none, []⟩]
theorem v80_13 : VS L80_13.eq_1 := rfl
def C80_0 : ACode := .cond (.t 9) .skip (.exit 0)
theorem u80_0 : VC C80_0.eq_1 := rfl
def C80_1 : ACode := .seq (.reg L80_5) C80_0
theorem u80_1 : VC C80_1.eq_1 := rfl
def C80_2 : ACode := .cond (.t 17) (.reg L80_10) .skip
theorem u80_2 : VC C80_2.eq_1 := rfl
def C80_3 : ACode := .seq (.reg L80_8) C80_2
theorem u80_3 : VC C80_3.eq_1 := rfl
def C80_4 : ACode := .block 1 C80_3
theorem u80_4 : VC C80_4.eq_1 := rfl
def C80_5 : ACode := .seq C80_4 (.reg L80_12)
theorem u80_5 : VC C80_5.eq_1 := rfl
def C80_6 : ACode := .seq C80_1 C80_5
theorem u80_6 : VC C80_6.eq_1 := rfl
def C80_7 : ACode := .block 0 (.loop C80_6)
theorem u80_7 : VC C80_7.eq_1 := rfl
def C80_8 : ACode := .seq (.reg L80_2) C80_7
theorem u80_8 : VC C80_8.eq_1 := rfl
def C80_9 : ACode := .seq (.reg L80_13) .ret
theorem u80_9 : VC C80_9.eq_1 := rfl
def C80_10 : ACode := .seq C80_8 C80_9
theorem u80_10 : VC C80_10.eq_1 := rfl
def C80_11 : ACode := .seq (.reg L80_1) C80_10
theorem u80_11 : VC C80_11.eq_1 := rfl
def C80_12 : ACode := .seq (.reg L80_0) C80_11
theorem u80_12 : VC C80_12.eq_1 := rfl
def F80 : AFunc := ⟨21, [.tmp 2], C80_12⟩
theorem cF80 : compB Try.prog 80 = some F80 := by kernel_rfl
attribute [local go_sem ↓] u80_0 u80_1 u80_2 u80_3 u80_4 u80_5 u80_6 u80_7 u80_8 u80_9 u80_10 u80_11 u80_12 v80_0 v80_1 v80_2 v80_3 v80_4 v80_5 v80_6 v80_7 v80_8 v80_9 v80_10 v80_11 v80_12 v80_13
theorem c_placeCount (l : List Param) (pv : CV) (h : H) (hl : SlQ h (.one pv) l) (hn : smQ l) : bm Try.prog 80 [.agg [pv]] h = some (ii (l.countP byPlace), h) := by
  refine bm_eq cF80 ?_
  simp +contextual (maxSteps := 2000000) only [go_sem, Nat.reduceEqDiff, reduceCtorEq, Nat.reduceAdd, Nat.reduceLeDiff, F80]
  refine wpC_loop (fun i T L h' => h' = h ∧ T 1 = .lp 1 0 ∧ (L 1).2 = [pv] ∧ T 3 = .v (.one (.int .i64 (cnt byPlace l i))) ∧ T 4 = .v (.one (.int .i64 i))) l.length ?_ ?_ (Nat.zero_le _) ?_
  · rintro i T L h' hi ⟨rfl, t1, l1, t3, t4⟩
    have b1 := cnt_le (p := byPlace) (l := l) (i := i)
    have b2 := hn.len
    simp +contextual (maxSteps := 2000000) only [go_sem, Nat.reduceEqDiff, reduceCtorEq, Nat.reduceAdd, Nat.reduceLeDiff, t1, l1, t3, t4, hl.len, hl.iaddr hi, hl.whole hi, c_byPlace, lt_true hi, cnt_next hi]
    (repeat' (first | refine And.intro ?_ ?_ | intro _)) <;> first | rfl | rw [wrap_next hi hn.len] | (rw [i64_wrap (by omega) (by omega)]; simp_all) | simp_all
  · rintro T L h' ⟨rfl, t1, l1, t3, t4⟩
    simp +contextual (maxSteps := 2000000) only [go_sem, Nat.reduceEqDiff, reduceCtorEq, Nat.reduceAdd, Nat.reduceLeDiff, t1, l1, t3, t4, hl.len, lt_false, cnt_all]
  · simp +contextual (maxSteps := 2000000) only [go_sem, Nat.reduceEqDiff, reduceCtorEq, Nat.reduceAdd, Nat.reduceLeDiff, cnt_zero]
    (repeat' (first | refine And.intro ?_ ?_ | intro _)) <;> first | rfl
/-! spec.takesName -/
def L82_0 : List AStep := [⟨.box 36 (.t 0), (some 2), none, []⟩, ⟨.mov (.c (.int .i64 0)), (some 4), none, []⟩]
theorem v82_0 : VS L82_0.eq_1 := rfl
def L82_1 : List AStep := [⟨.mov (.t 9), (some 5), none, []⟩]
theorem v82_1 : VS L82_1.eq_1 := rfl
def L82_2 : List AStep := ⟨.mov (.t 1), (some 8), none, []⟩ :: ⟨.call 110 [(.t 7), (.t 8)], (some 9), none, []⟩ :: L82_1
theorem v82_2 : VS L82_2.eq_1 := rfl
def L82_3 : List AStep := ⟨.faddr 0 (.t 2), (some 6), none, []⟩ :: ⟨.load 1 false (.t 6), (some 7), none, []⟩ :: L82_2
theorem v82_3 : VS L82_3.eq_1 := rfl
def L82_4 : List AStep := [⟨.call 84 [(.t 17)], (some 18), (some (12, true)), []⟩, ⟨.pick (.t 12) (.t 18) (.c (.bool false)), (some 19), none, []⟩]
theorem v82_4 : VS L82_4.eq_1 := rfl
def L82_5 : List AStep := ⟨.iaddr 4 (.t 14) (.t 15), (some 16), (some (12, true)), []⟩ :: ⟨.load 4 true (.t 16), (some 17), (some (12, true)), []⟩ :: L82_4
theorem v82_5 : VS L82_5.eq_1 := rfl
def L82_6 : List AStep := ⟨.load 1 false (.t 13), (some 14), (some (12, true)), []⟩ :: ⟨.mov (.t 5), (some 15), (some (12, true)), []⟩ :: L82_5
theorem v82_6 : VS L82_6.eq_1 := rfl
def L82_7 : List AStep := ⟨.mov (.t 11), (some 12), none, []⟩ :: ⟨.faddr 0 (.t 2), (some 13), (some (12, true)), []⟩ :: L82_6
theorem v82_7 : VS L82_7.eq_1 := rfl
def L82_8 : List AStep := ⟨.mov (.t 5), (some 10), none, []⟩ :: ⟨.bin .geq (.t 10) (.c (.int .i64 0)), (some 11), none, []⟩ :: L82_7
theorem v82_8 : VS L82_8.eq_1 := rfl
def L82_9 : List AStep := [⟨.mov (.t 5), (some 20), none, []⟩, ⟨.mov (.t 20), (some 4), none, []⟩]
theorem v82_9 : VS L82_9.eq_1 := rfl
def L82_10 : List AStep := [⟨.call 81 [(.t 22), (.c (.int .i64 4))], (some 23), none, []⟩, ⟨.mov (.t 23), (some 4), none, []⟩]
theorem v82_10 : VS L82_10.eq_1 := rfl
def L82_11 : List AStep := ⟨.faddr 0 (.t 2), (some 21), none, []⟩ :: ⟨.load 1 false (.t 21), (some 22), none, []⟩ :: L82_10
theorem v82_11 : VS L82_11.eq_1 := rfl
def C82_0 : ACode := .seq (.reg L82_9) .ret
theorem u82_0 : VC C82_0.eq_1 := rfl
def C82_1 : ACode := .cond (.t 19) C82_0 .skip
theorem u82_1 : VC C82_1.eq_1 := rfl
def C82_2 : ACode := .seq (.reg L82_8) C82_1
theorem u82_2 : VC C82_2.eq_1 := rfl
def C82_3 : ACode := .seq (.reg L82_11) .ret
theorem u82_3 : VC C82_3.eq_1 := rfl
def C82_4 : ACode := .seq C82_2 C82_3
theorem u82_4 : VC C82_4.eq_1 := rfl
def C82_5 : ACode := .seq (.reg L82_3) C82_4
theorem u82_5 : VC C82_5.eq_1 := rfl
def C82_6 : ACode := .seq (.reg L82_0) C82_5
theorem u82_6 : VC C82_6.eq_1 := rfl
def F82 : AFunc := ⟨24, [.tmp 4], C82_6⟩
theorem cF82 : compB Try.prog 82 = some F82 := by kernel_rfl
attribute [local go_sem ↓] u82_0 u82_1 u82_2 u82_3 u82_4 u82_5 u82_6 v82_0 v82_1 v82_2 v82_3 v82_4 v82_5 v82_6 v82_7 v82_8 v82_9 v82_10 v82_11
theorem c_takesName (l : List Param) (pv : CV) (s : ByteArray) (h : H) (hl : SlQ h (.one pv) l) (hn : smQ l) : bm Try.prog 82 [.agg [pv], .one (.str s)] h = some (ii (takes l s), h) := by
  refine bm_eq cF82 ?_
  rcases idx_cases (fun p : Param => decide (p.name = s)) l with e | ⟨j, hj, e, _⟩ <;> (replace e := (show paramAt l s = _ from e))
  · simp +contextual (maxSteps := 2000000) only [go_sem, Nat.reduceEqDiff, reduceCtorEq, Nat.reduceAdd, Nat.reduceLeDiff, F82, c_findParam _ _ _ _ hl hn, e, c_kindAt _ _ _ _ hl hn, takes_none e]
  · simp +contextual (maxSteps := 2000000) only [go_sem, Nat.reduceEqDiff, reduceCtorEq, Nat.reduceAdd, Nat.reduceLeDiff, F82, c_findParam _ _ _ _ hl hn, e, c_kindAt _ _ _ _ hl hn, takes_some hj e, hl.iaddr hj, hl.whole hj, c_byName]
/-! spec.validParams -/
def L101_0 : List AStep := [⟨.mov (.c (.bool false)), (some 2), none, []⟩]
theorem v101_0 : VS L101_0.eq_1 := rfl
def L101_1 : List AStep := [⟨.mov (.c (.int .i64 0)), (some 3), none, []⟩]
theorem v101_1 : VS L101_1.eq_1 := rfl
def L101_2 : List AStep := [⟨.len (.t 7), (some 8), none, []⟩, ⟨.bin .lss (.t 6) (.t 8), (some 9), none, []⟩]
theorem v101_2 : VS L101_2.eq_1 := rfl
def L101_3 : List AStep := ⟨.mov (.t 3), (some 6), none, []⟩ :: ⟨.mov (.t 0), (some 7), none, []⟩ :: L101_2
theorem v101_3 : VS L101_3.eq_1 := rfl
def L101_4 : List AStep := [⟨.alloc 81 [(.str (strOfNums [])), (.int .i64 0), (.bool false), (.int .i64 0)], (some 4), none, []⟩, ⟨.store 4 (.t 4) (.t 15), none, none, []⟩]
theorem v101_4 : VS L101_4.eq_1 := rfl
def L101_5 : List AStep := ⟨.iaddr 4 (.t 12) (.t 13), (some 14), none, []⟩ :: ⟨.load 4 true (.t 14), (some 15), none, []⟩ :: L101_4
theorem v101_5 : VS L101_5.eq_1 := rfl
def L101_6 : List AStep := ⟨.mov (.t 0), (some 12), none, []⟩ :: ⟨.mov (.t 3), (some 13), none, []⟩ :: L101_5
theorem v101_6 : VS L101_6.eq_1 := rfl
def L101_7 : List AStep := [⟨.bin .geq (.t 25) (.c (.int .i64 0)), (some 26), (some (19, false)), []⟩, ⟨.pick (.t 19) (.c (.bool true)) (.t 26), (some 27), none, []⟩]
theorem v101_7 : VS L101_7.eq_1 := rfl
def L101_8 : List AStep := ⟨.load 1 false (.t 23), (some 24), (some (19, false)), []⟩ :: ⟨.call 110 [(.t 22), (.t 24)], (some 25), (some (19, false)), []⟩ :: L101_7
theorem v101_8 : VS L101_8.eq_1 := rfl
def L101_9 : List AStep := ⟨.slice 81 4 (.t 20) none (some (.t 21)) none, (some 22), (some (19, false)), []⟩ :: ⟨.faddr 0 (.t 4), (some 23), (some (19, false)), []⟩ :: L101_8
theorem v101_9 : VS L101_9.eq_1 := rfl
def L101_10 : List AStep := ⟨.mov (.t 0), (some 20), (some (19, false)), []⟩ :: ⟨.mov (.t 3), (some 21), (some (19, false)), []⟩ :: L101_9
theorem v101_10 : VS L101_10.eq_1 := rfl
def L101_11 : List AStep := ⟨.not (.t 17), (some 18), none, []⟩ :: ⟨.mov (.t 18), (some 19), none, []⟩ :: L101_10
theorem v101_11 : VS L101_11.eq_1 := rfl
def L101_12 : List AStep := ⟨.load 4 true (.t 4), (some 16), none, []⟩ :: ⟨.call 125 [(.t 16)], (some 17), none, []⟩ :: L101_11
theorem v101_12 : VS L101_12.eq_1 := rfl
def L101_13 : List AStep := [⟨.mov (.c (.bool false)), (some 2), none, []⟩]
theorem v101_13 : VS L101_13.eq_1 := rfl
def L101_14 : List AStep := [⟨.mov (.t 3), (some 28), none, []⟩, ⟨.bin .eql (.t 28) (.c (.int .i64 0)), (some 29), none, []⟩]
theorem v101_14 : VS L101_14.eq_1 := rfl
def L101_15 : List AStep := [⟨.store 4 (.t 5) (.t 34), none, none, []⟩]
theorem v101_15 : VS L101_15.eq_1 := rfl
def L101_16 : List AStep := ⟨.load 4 true (.t 33), (some 34), none, []⟩ :: ⟨.alloc 81 [(.str (strOfNums [])), (.int .i64 0), (.bool false), (.int .i64 0)], (some 5), none, []⟩ :: L101_15
theorem v101_16 : VS L101_16.eq_1 := rfl
def L101_17 : List AStep := ⟨.bin .sub (.t 31) (.c (.int .i64 1)), (some 32), none, []⟩ :: ⟨.iaddr 4 (.t 30) (.t 32), (some 33), none, []⟩ :: L101_16
theorem v101_17 : VS L101_17.eq_1 := rfl
def L101_18 : List AStep := ⟨.mov (.t 0), (some 30), none, []⟩ :: ⟨.mov (.t 3), (some 31), none, []⟩ :: L101_17
theorem v101_18 : VS L101_18.eq_1 := rfl
def L101_19 : List AStep := [⟨.pick (.t 59) (.t 62) (.c (.bool false)), (some 63), (some (52, false)), []⟩, ⟨.pick (.t 52) (.c (.bool true)) (.t 63), (some 64), none, []⟩]
theorem v101_19 : VS L101_19.eq_1 := rfl
def L101_20 : List AStep := ⟨.load 1 false (.t 60), (some 61), (some (59, true)), []⟩ :: ⟨.not (.t 61), (some 62), (some (59, true)), []⟩ :: L101_19
theorem v101_20 : VS L101_20.eq_1 := rfl
def L101_21 : List AStep := ⟨.mov (.t 58), (some 59), (some (52, false)), []⟩ :: ⟨.faddr 2 (.t 4), (some 60), (some (59, true)), []⟩ :: L101_20
theorem v101_21 : VS L101_21.eq_1 := rfl
def L101_22 : List AStep := ⟨.load 1 false (.t 56), (some 57), (some (55, true)), []⟩ :: ⟨.pick (.t 55) (.t 57) (.c (.bool false)), (some 58), (some (52, false)), []⟩ :: L101_21
theorem v101_22 : VS L101_22.eq_1 := rfl
def L101_23 : List AStep := ⟨.mov (.t 54), (some 55), (some (52, false)), []⟩ :: ⟨.faddr 2 (.t 5), (some 56), (some (55, true)), []⟩ :: L101_22
theorem v101_23 : VS L101_23.eq_1 := rfl
def L101_24 : List AStep := ⟨.load 4 true (.t 4), (some 53), (some (52, false)), []⟩ :: ⟨.call 83 [(.t 53)], (some 54), (some (52, false)), []⟩ :: L101_23
theorem v101_24 : VS L101_24.eq_1 := rfl
def L101_25 : List AStep := ⟨.pick (.t 40) (.c (.bool true)) (.t 50), (some 51), none, []⟩ :: ⟨.mov (.t 51), (some 52), none, []⟩ :: L101_24
theorem v101_25 : VS L101_25.eq_1 := rfl
def L101_26 : List AStep := ⟨.not (.t 48), (some 49), (some (46, true)), []⟩ :: ⟨.pick (.t 46) (.t 49) (.c (.bool false)), (some 50), (some (40, false)), []⟩ :: L101_25
theorem v101_26 : VS L101_26.eq_1 := rfl
def L101_27 : List AStep := ⟨.load 4 true (.t 4), (some 47), (some (46, true)), []⟩ :: ⟨.call 46 [(.t 47)], (some 48), (some (46, true)), []⟩ :: L101_26
theorem v101_27 : VS L101_27.eq_1 := rfl
def L101_28 : List AStep := ⟨.bin .eql (.t 42) (.t 44), (some 45), (some (40, false)), []⟩ :: ⟨.mov (.t 45), (some 46), (some (40, false)), []⟩ :: L101_27
theorem v101_28 : VS L101_28.eq_1 := rfl
def L101_29 : List AStep := ⟨.faddr 1 (.t 5), (some 43), (some (40, false)), []⟩ :: ⟨.load 1 false (.t 43), (some 44), (some (40, false)), []⟩ :: L101_28
theorem v101_29 : VS L101_29.eq_1 := rfl
def L101_30 : List AStep := ⟨.faddr 1 (.t 4), (some 41), (some (40, false)), []⟩ :: ⟨.load 1 false (.t 41), (some 42), (some (40, false)), []⟩ :: L101_29
theorem v101_30 : VS L101_30.eq_1 := rfl
def L101_31 : List AStep := ⟨.bin .lss (.t 36) (.t 38), (some 39), none, []⟩ :: ⟨.mov (.t 39), (some 40), none, []⟩ :: L101_30
theorem v101_31 : VS L101_31.eq_1 := rfl
def L101_32 : List AStep := ⟨.faddr 1 (.t 5), (some 37), none, []⟩ :: ⟨.load 1 false (.t 37), (some 38), none, []⟩ :: L101_31
theorem v101_32 : VS L101_32.eq_1 := rfl
def L101_33 : List AStep := ⟨.faddr 1 (.t 4), (some 35), none, []⟩ :: ⟨.load 1 false (.t 35), (some 36), none, []⟩ :: L101_32
theorem v101_33 : VS L101_33.eq_1 := rfl
def L101_34 : List AStep := [⟨.mov (.c (.bool false)), (some 2), none, []⟩]
theorem v101_34 : VS L101_34.eq_1 := rfl
def L101_35 : List AStep := [⟨.mov (.t 11), (some 3), none, []⟩]
theorem v101_35 : VS L101_35.eq_1 := rfl
def L101_36 : List AStep := ⟨.mov (.t 3), (some 10), none, []⟩ :: ⟨.bin .add (.t 10) (.c (.int .i64 1)), (some 11), none, []⟩ :: L101_35
theorem v101_36 : VS L101_36.eq_1 := rfl
def L101_37 : List AStep := [⟨.bin .leq (.t 66) (.c (.int .i64 8)), (some 67), none, []⟩, ⟨.mov (.t 67), (some 2), none, []⟩]
theorem v101_37 : VS L101_37.eq_1 := rfl
def L101_38 : List AStep := ⟨.mov (.t 0), (some 65), none, []⟩ :: ⟨.len (.t 65), (some 66), none, []⟩ :: L101_37
theorem v101_38 : VS L101_38.eq_1 := rfl
def C101_0 : ACode := .cond (.t 9) .skip (.exit 0)
theorem u101_0 : VC C101_0.eq_1 := rfl
def C101_1 : ACode := .seq (.reg L101_3) C101_0
theorem u101_1 : VC C101_1.eq_1 := rfl
def C101_2 : ACode := .seq (.reg L101_13) .ret
theorem u101_2 : VC C101_2.eq_1 := rfl
def C101_3 : ACode := .cond (.t 27) C101_2 .skip
theorem u101_3 : VC C101_3.eq_1 := rfl
def C101_4 : ACode := .seq (.reg L101_12) C101_3
theorem u101_4 : VC C101_4.eq_1 := rfl
def C101_5 : ACode := .cond (.t 29) (.exit 1) .skip
theorem u101_5 : VC C101_5.eq_1 := rfl
def C101_6 : ACode := .seq (.reg L101_14) C101_5
theorem u101_6 : VC C101_6.eq_1 := rfl
def C101_7 : ACode := .seq (.reg L101_34) .ret
theorem u101_7 : VC C101_7.eq_1 := rfl
def C101_8 : ACode := .cond (.t 64) C101_7 .skip
theorem u101_8 : VC C101_8.eq_1 := rfl
def C101_9 : ACode := .seq (.reg L101_33) C101_8
theorem u101_9 : VC C101_9.eq_1 := rfl
def C101_10 : ACode := .seq (.reg L101_18) C101_9
theorem u101_10 : VC C101_10.eq_1 := rfl
def C101_11 : ACode := .seq C101_6 C101_10
theorem u101_11 : VC C101_11.eq_1 := rfl
def C101_12 : ACode := .seq C101_4 C101_11
theorem u101_12 : VC C101_12.eq_1 := rfl
def C101_13 : ACode := .seq (.reg L101_6) C101_12
theorem u101_13 : VC C101_13.eq_1 := rfl
def C101_14 : ACode := .block 1 C101_13
theorem u101_14 : VC C101_14.eq_1 := rfl
def C101_15 : ACode := .seq C101_14 (.reg L101_36)
theorem u101_15 : VC C101_15.eq_1 := rfl
def C101_16 : ACode := .seq C101_1 C101_15
theorem u101_16 : VC C101_16.eq_1 := rfl
def C101_17 : ACode := .block 0 (.loop C101_16)
theorem u101_17 : VC C101_17.eq_1 := rfl
def C101_18 : ACode := .seq (.reg L101_1) C101_17
theorem u101_18 : VC C101_18.eq_1 := rfl
def C101_19 : ACode := .seq (.reg L101_38) .ret
theorem u101_19 : VC C101_19.eq_1 := rfl
def C101_20 : ACode := .seq C101_18 C101_19
theorem u101_20 : VC C101_20.eq_1 := rfl
def C101_21 : ACode := .seq (.reg L101_0) C101_20
theorem u101_21 : VC C101_21.eq_1 := rfl
def F101 : AFunc := ⟨68, [.tmp 2], C101_21⟩
theorem cF101 : compB Try.prog 101 = some F101 := by kernel_rfl
attribute [local go_sem ↓] u101_0 u101_1 u101_2 u101_3 u101_4 u101_5 u101_6 u101_7 u101_8 u101_9 u101_10 u101_11 u101_12 u101_13 u101_14 u101_15 u101_16 u101_17 u101_18 u101_19 u101_20 u101_21 v101_0 v101_1 v101_2 v101_3 v101_4 v101_5 v101_6 v101_7 v101_8 v101_9 v101_10 v101_11 v101_12 v101_13 v101_14 v101_15 v101_16 v101_17 v101_18 v101_19 v101_20 v101_21 v101_22 v101_23 v101_24 v101_25 v101_26 v101_27 v101_28 v101_29 v101_30 v101_31 v101_32 v101_33 v101_34 v101_35 v101_36 v101_37 v101_38
theorem c_validParams (l : List Param) (v : AV) (h : H) (hl : SlQ h v l) (hn : smQ l) : bm Try.prog 101 [v] h = some (ib (okSig l), h) := by
  refine bm_eq cF101 ?_
  simp +contextual (maxSteps := 2000000) only [go_sem, Nat.reduceEqDiff, reduceCtorEq, Nat.reduceAdd, Nat.reduceLeDiff, F101]
  refine wpC_loop (fun i T L h' => h' = h ∧ T 0 = .v v ∧ T 3 = .v (.one (.int .i64 i)) ∧ Upto (stepAt l) i) l.length ?_ ?_ (Nat.zero_le _) ?_
  · rintro i T L h' hi ⟨rfl, t0, t3, hu⟩
    obtain ⟨v', e1, s1⟩ := hl.takeO (i := i) (by omega) (kd := .i64)
    have e2 : decide (paramAt (l.take i) l[i].name ≥ 0) = !(newAt Param.name l i) := newAt_ge hi
    cases i with
    | zero =>
      have e3 := stepAt_zero hi
      simp only [List.take_zero] at e1 e2 s1
      have e4 : decide (((0 : Nat) : Int) = 0) = true := rfl
      simp +contextual (maxSteps := 2000000) only [go_sem, Nat.reduceEqDiff, reduceCtorEq, Nat.reduceAdd, Nat.reduceLeDiff, e4, List.take_zero, t0, t3, hl.len, hl.iaddr hi, hl.whole hi, lt_true hi, e1, e2, c_findParam _ _ _ _ s1 (hn.take 0), c_validParam _ _ (hn.at hi)]
      (repeat' (first | refine And.intro ?_ ?_ | intro _)) <;> first | rfl | rw [wrap_next hi hn.len] | exact hu.next (by rw [e3]; simp_all) | (rw [okSig_not hi (by rw [e3]; simp_all)]) | simp_all
    | succ j =>
      have e3 := stepAt_succ hi
      have hj : j < l.length := by omega
      have e4 : decide (((j + 1 : Nat) : Int) = 0) = false := decide_eq_false (by omega)
      simp +contextual (maxSteps := 2000000) only [go_sem, Nat.reduceEqDiff, reduceCtorEq, Nat.reduceAdd, Nat.reduceLeDiff, e4, t0, t3, hl.len, hl.iaddr hi, hl.whole hi, lt_true hi, e1, e2, c_findParam _ _ _ _ s1 (hn.take _), c_validParam _ _ (hn.at hi), wrap_pred (show j < 2 ^ 62 from Nat.lt_trans (Nat.lt_succ_self j) (Nat.lt_trans hi hn.len)), hl.iaddr hj, hl.whole hj, c_isSingle, c_byPlace]
      (repeat' (first | refine And.intro ?_ ?_ | intro _)) <;> first | rfl | rw [wrap_next hi hn.len] | exact hu.next (by rw [e3]; simp_all [follows]) | (rw [okSig_not hi (by rw [e3]; simp_all [follows])]) | simp_all
  · rintro T L h' ⟨rfl, t0, t3, hu⟩
    simp +contextual (maxSteps := 2000000) only [go_sem, Nat.reduceEqDiff, reduceCtorEq, Nat.reduceAdd, Nat.reduceLeDiff, t0, t3, hl.len, lt_false, okSig_of hu]
  · simp +contextual (maxSteps := 2000000) only [go_sem, Nat.reduceEqDiff, reduceCtorEq, Nat.reduceAdd, Nat.reduceLeDiff]
    (repeat' (first | refine And.intro ?_ ?_ | intro _)) <;> first | rfl | exact Upto.zero
/-! spec.validSignature -/
def L69_0 : List AStep := [⟨.box 36 (.t 0), (some 1), none, []⟩, ⟨.mov (.c (.bool false)), (some 2), none, []⟩]
theorem v69_0 : VS L69_0.eq_1 := rfl
def L69_1 : List AStep := [⟨.call 101 [(.t 4)], (some 5), none, []⟩, ⟨.mov (.t 5), (some 2), none, []⟩]
theorem v69_1 : VS L69_1.eq_1 := rfl
def L69_2 : List AStep := ⟨.faddr 0 (.t 1), (some 3), none, []⟩ :: ⟨.load 1 false (.t 3), (some 4), none, []⟩ :: L69_1
theorem v69_2 : VS L69_2.eq_1 := rfl
def C69_0 : ACode := .seq (.reg L69_2) .ret
theorem u69_0 : VC C69_0.eq_1 := rfl
def C69_1 : ACode := .seq (.reg L69_0) C69_0
theorem u69_1 : VC C69_1.eq_1 := rfl
def F69 : AFunc := ⟨6, [.tmp 2], C69_1⟩
theorem cF69 : compB Try.prog 69 = some F69 := by kernel_rfl
attribute [local go_sem ↓] u69_0 u69_1 v69_0 v69_1 v69_2
theorem c_validSignature (l : List Param) (pv : CV) (h : H) (hl : SlQ h (.one pv) l) (hn : smQ l) : bm Try.prog 69 [.agg [pv]] h = some (ib (okSig l), h) := by
  refine bm_eq cF69 ?_
  simp +contextual (maxSteps := 2000000) only [go_sem, Nat.reduceEqDiff, reduceCtorEq, Nat.reduceAdd, Nat.reduceLeDiff, F69, c_validParams _ _ _ hl hn]
/-! spec.goodCall -/
def L78_0 : List AStep := [⟨.mov (.c (.bool false)), (some 4), none, []⟩]
theorem v78_0 : VS L78_0.eq_1 := rfl
def L78_1 : List AStep := ⟨.box 36 (.t 0), (some 2), none, []⟩ :: ⟨.box 39 (.t 1), (some 3), none, []⟩ :: L78_0
theorem v78_1 : VS L78_1.eq_1 := rfl
def L78_2 : List AStep := [⟨.mov (.t 10), (some 4), none, []⟩]
theorem v78_2 : VS L78_2.eq_1 := rfl
def L78_3 : List AStep := ⟨.call 73 [(.t 8)], (some 9), (some (7, true)), []⟩ :: ⟨.pick (.t 7) (.t 9) (.c (.bool false)), (some 10), none, []⟩ :: L78_2
theorem v78_3 : VS L78_3.eq_1 := rfl
def L78_4 : List AStep := ⟨.mov (.t 6), (some 7), none, []⟩ :: ⟨.load 2 true (.t 3), (some 8), (some (7, true)), []⟩ :: L78_3
theorem v78_4 : VS L78_4.eq_1 := rfl
def L78_5 : List AStep := ⟨.load 1 true (.t 2), (some 5), none, []⟩ :: ⟨.call 69 [(.t 5)], (some 6), none, []⟩ :: L78_4
theorem v78_5 : VS L78_5.eq_1 := rfl
def C78_0 : ACode := .seq (.reg L78_5) .ret
theorem u78_0 : VC C78_0.eq_1 := rfl
def C78_1 : ACode := .seq (.reg L78_1) C78_0
theorem u78_1 : VC C78_1.eq_1 := rfl
def F78 : AFunc := ⟨11, [.tmp 4], C78_1⟩
theorem cF78 : compB Try.prog 78 = some F78 := by kernel_rfl
attribute [local go_sem ↓] u78_0 u78_1 v78_0 v78_1 v78_2 v78_3 v78_4 v78_5
theorem c_goodCall (l : List Param) (f : Flat) (qv pv nv : CV) (h : H) (hl : SlQ h (.one qv) l) (hn : smQ l) (hp : SlI h (.one pv) f.pl) (hq : SlP h (.one nv) f.nl) (hf : smF f) : bm Try.prog 78 [.agg [qv], .agg [pv, nv]] h = some (ib (okSig l && okFlat f), h) := by
  refine bm_eq cF78 ?_
  simp +contextual (maxSteps := 2000000) only [go_sem, Nat.reduceEqDiff, reduceCtorEq, Nat.reduceAdd, Nat.reduceLeDiff, F78, c_validSignature _ _ _ hl hn, c_validFlat _ _ _ _ hp hq hf]
  (repeat' (first | refine And.intro ?_ ?_ | intro _)) <;> first | simp_all
end Go.Proofs.Ytdalgphpacikkab.Am
