/- Contracts of the reference: signatures. -/
import Derived.Test.YtdalgphpacikkacA1
namespace Go.Proofs.Ytdalgphpacikkac.Am
open Go
set_option maxRecDepth 100000
set_option maxHeartbeats 4000000
set_option linter.unusedSimpArgs false
set_option linter.unusedVariables false
attribute [local go_sem ↓] bv_t bv_c ev_t ev_c put_same put_ne put_none kill_at pro_at lb_same lb_ne start_zero start_succ wpC_seq wpC_reg wpC_cond wpC_block wpC_skip wpC_exit wpC_ret thenQ_normal thenQ_exit thenQ_ret inBlk_normal inBlk_exit inBlk_ret wpS_nil wpS_step wpS_again wpS_guard wpO_mov wpO_load wpO_faddr wpO_nilCheck wpO_pick wpO_build wpO_bin wpO_eqb wpO_eqst wpO_eqnil wpO_not wpO_conv wpO_bytesStr wpO_iaddr wpO_idxStr wpO_field wpO_extract wpO_len wpO_lenStr wpO_cap wpO_min wpO_slice wpO_sliceStr wpO_alloc wpO_box wpO_store wpO_call wpO_callv wpO_mkfn wpO_buildSlice wpO_mkslice wpO_append wpO_appz proA_nil proA_cons tmpX_nil tmpX_tmp tmpX_cell doneB_normal doneB_ret agK_cons agK_nil agK_guard agG_tt agG_ff agG_tf agG_ft agG_undef pureB_load results_one results_two results_nil resBs_cons resBs_nil resB_tmp resB_cell
attribute [local go_sem] kill_v kill_lp_ne kill_lp_same pro_v pro_lp_same pro_lp_ne av_v av_lp optB_some optX_some valX_eq ldX_lp ldX_v faX_lp faX_v ncX_lp ncX_ptr ncX_fn boxK_one boxK_agg stL_some stK_lp_one stK_lp_agg stK_v_one stK_v_agg proM_v proM_lp callG_mk callVG_mk callvK_fn fnG_mk ptrsA_nil ptrsA_cons callH_some whenA_true whenA_false guardH_tt guardH_ff guardH_tf guardH_ft guardH_undef agV_one agV_agg lenO_sl lenStrO_str notO_bool pickO_bool convO_int eqbO_bool eqnilO_sl extractO_tup capO_sl minO_int loadL_one loadL_all storeL_eq fillA_nil fillA_one fillA_agg nat_ge neg_ge nat_lt neg_lt buildO bin_add bin_sub bin_mul bin_eql bin_neq bin_lss bin_leq bin_gtr bin_geq str_eql str_neq str_lss str_leq str_gtr str_geq retK_some endK_mk gcK_same gcK_int gcK_bool tupO_one tupO_agg rdy_self ib ii Option.map_none Option.map_some Option.some.injEq exists_eq_left' exists_eq_left ne_eq not_false_eq_true if_true if_false List.map_cons List.map_nil List.getElem?_cons_zero List.getElem?_cons_succ List.length_cons List.length_nil List.take_succ_cons List.take_zero List.take_nil List.drop_succ_cons List.drop_zero List.drop_nil List.cons_append List.nil_append List.append_nil List.set_cons_zero List.set_cons_succ Nat.zero_add forall_const true_and and_true and_self Bool.false_eq_true false_implies true_implies implies_true Bool.not_true Bool.not_false Bool.not_eq_true' Bool.not_eq_false' beq_self_eq_true Bool.bne_true Bool.bne_false
attribute [local go_sem] lenI lenS lenP lenQ lenB lenL lenT encI_0 encS_0 encP_0 encP_1 encQ_0 encQ_1 encQ_2 encQ_3 encB_0 encB_1 encL_0 encL_1 encT_0 encT_1
attribute [local go_sem low] whenA_bool guardH_bool
/-! spec.validParam -/
def L143_0 : List AStep := [⟨.box 155 (.t 0), (some 1), none, []⟩, ⟨.mov (.c (.bool false)), (some 2), none, []⟩]
theorem v143_0 : VS L143_0.eq_1 := rfl
def L143_1 : List AStep := [⟨.pick (.t 25) (.t 32) (.c (.bool false)), (some 33), none, []⟩, ⟨.mov (.t 33), (some 2), none, []⟩]
theorem v143_1 : VS L143_1.eq_1 := rfl
def L143_2 : List AStep := ⟨.not (.t 30), (some 31), (some (28, false)), []⟩ :: ⟨.pick (.t 28) (.c (.bool true)) (.t 31), (some 32), (some (25, true)), []⟩ :: L143_1
theorem v143_2 : VS L143_2.eq_1 := rfl
def L143_3 : List AStep := ⟨.faddr 2 (.t 1), (some 29), (some (28, false)), []⟩ :: ⟨.load 1 false (.t 29), (some 30), (some (28, false)), []⟩ :: L143_2
theorem v143_3 : VS L143_3.eq_1 := rfl
def L143_4 : List AStep := ⟨.call 145 [(.t 26)], (some 27), (some (25, true)), []⟩ :: ⟨.mov (.t 27), (some 28), (some (25, true)), []⟩ :: L143_3
theorem v143_4 : VS L143_4.eq_1 := rfl
def L143_5 : List AStep := ⟨.mov (.t 24), (some 25), none, []⟩ :: ⟨.load 4 true (.t 1), (some 26), (some (25, true)), []⟩ :: L143_4
theorem v143_5 : VS L143_5.eq_1 := rfl
def L143_6 : List AStep := ⟨.pick (.t 19) (.c (.bool true)) (.t 22), (some 23), (some (16, true)), []⟩ :: ⟨.pick (.t 16) (.t 23) (.c (.bool false)), (some 24), none, []⟩ :: L143_5
theorem v143_6 : VS L143_6.eq_1 := rfl
def L143_7 : List AStep := ⟨.load 1 false (.t 20), (some 21), (some (19, false)), []⟩ :: ⟨.bin .eql (.t 21) (.c (.int .i64 0)), (some 22), (some (19, false)), []⟩ :: L143_6
theorem v143_7 : VS L143_7.eq_1 := rfl
def L143_8 : List AStep := ⟨.mov (.t 18), (some 19), (some (16, true)), []⟩ :: ⟨.faddr 3 (.t 1), (some 20), (some (19, false)), []⟩ :: L143_7
theorem v143_8 : VS L143_8.eq_1 := rfl
def L143_9 : List AStep := ⟨.faddr 2 (.t 1), (some 17), (some (16, true)), []⟩ :: ⟨.load 1 false (.t 17), (some 18), (some (16, true)), []⟩ :: L143_8
theorem v143_9 : VS L143_9.eq_1 := rfl
def L143_10 : List AStep := ⟨.pick (.t 11) (.t 14) (.c (.bool false)), (some 15), none, []⟩ :: ⟨.mov (.t 15), (some 16), none, []⟩ :: L143_9
theorem v143_10 : VS L143_10.eq_1 := rfl
def L143_11 : List AStep := ⟨.load 1 false (.t 12), (some 13), (some (11, true)), []⟩ :: ⟨.call 87 [(.t 13)], (some 14), (some (11, true)), []⟩ :: L143_10
theorem v143_11 : VS L143_11.eq_1 := rfl
def L143_12 : List AStep := ⟨.mov (.t 10), (some 11), none, []⟩ :: ⟨.faddr 3 (.t 1), (some 12), (some (11, true)), []⟩ :: L143_11
theorem v143_12 : VS L143_12.eq_1 := rfl
def L143_13 : List AStep := ⟨.call 115 [(.t 8), (.c (.int .i64 0)), (.c (.int .i64 4))], (some 9), (some (6, true)), []⟩ :: ⟨.pick (.t 6) (.t 9) (.c (.bool false)), (some 10), none, []⟩ :: L143_12
theorem v143_13 : VS L143_13.eq_1 := rfl
def L143_14 : List AStep := ⟨.faddr 1 (.t 1), (some 7), (some (6, true)), []⟩ :: ⟨.load 1 false (.t 7), (some 8), (some (6, true)), []⟩ :: L143_13
theorem v143_14 : VS L143_14.eq_1 := rfl
def L143_15 : List AStep := ⟨.call 114 [(.t 4)], (some 5), none, []⟩ :: ⟨.mov (.t 5), (some 6), none, []⟩ :: L143_14
theorem v143_15 : VS L143_15.eq_1 := rfl
def L143_16 : List AStep := ⟨.faddr 0 (.t 1), (some 3), none, []⟩ :: ⟨.load 1 false (.t 3), (some 4), none, []⟩ :: L143_15
theorem v143_16 : VS L143_16.eq_1 := rfl
def C143_0 : ACode := .seq (.reg L143_16) .ret
theorem u143_0 : VC C143_0.eq_1 := rfl
def C143_1 : ACode := .seq (.reg L143_0) C143_0
theorem u143_1 : VC C143_1.eq_1 := rfl
def F143 : AFunc := ⟨34, [.tmp 2], C143_1⟩
theorem cF143 : compB Try.prog 143 = some F143 := by kernel_rfl
attribute [local go_sem ↓] u143_0 u143_1 v143_0 v143_1 v143_2 v143_3 v143_4 v143_5 v143_6 v143_7 v143_8 v143_9 v143_10 v143_11 v143_12 v143_13 v143_14 v143_15 v143_16
theorem c_validParam (p : Param) (h : H) (hn : p.name.size < 2 ^ 62) : bm Try.prog 143 [.agg (encQ p)] h = some (ib (okParam p), h) := by
  refine bm_eq cF143 ?_
  simp +contextual (maxSteps := 2000000) only [go_sem, Nat.reduceEqDiff, reduceCtorEq, Nat.reduceAdd, Nat.reduceLeDiff, F143, c_validName _ _ hn, c_inRange, c_validNumber, c_isSingle, okParam]
  (repeat' (first | refine And.intro ?_ ?_ | intro _)) <;> first | simp_all
/-! spec.findParam -/
def L144_0 : List AStep := [⟨.mov (.c (.int .i64 0)), (some 4), none, []⟩]
theorem v144_0 : VS L144_0.eq_1 := rfl
def L144_1 : List AStep := [⟨.mov (.c (.int .i64 0)), (some 5), none, []⟩]
theorem v144_1 : VS L144_1.eq_1 := rfl
def L144_2 : List AStep := [⟨.len (.t 7), (some 8), none, []⟩, ⟨.bin .lss (.t 6) (.t 8), (some 9), none, []⟩]
theorem v144_2 : VS L144_2.eq_1 := rfl
def L144_3 : List AStep := ⟨.mov (.t 5), (some 6), none, []⟩ :: ⟨.mov (.t 0), (some 7), none, []⟩ :: L144_2
theorem v144_3 : VS L144_3.eq_1 := rfl
def L144_4 : List AStep := [⟨.bin .eql (.t 16) (.t 17), (some 18), none, []⟩]
theorem v144_4 : VS L144_4.eq_1 := rfl
def L144_5 : List AStep := ⟨.load 1 false (.t 15), (some 16), none, []⟩ :: ⟨.mov (.t 1), (some 17), none, []⟩ :: L144_4
theorem v144_5 : VS L144_5.eq_1 := rfl
def L144_6 : List AStep := ⟨.iaddr 4 (.t 12) (.t 13), (some 14), none, []⟩ :: ⟨.faddr 0 (.t 14), (some 15), none, []⟩ :: L144_5
theorem v144_6 : VS L144_6.eq_1 := rfl
def L144_7 : List AStep := ⟨.mov (.t 0), (some 12), none, []⟩ :: ⟨.mov (.t 5), (some 13), none, []⟩ :: L144_6
theorem v144_7 : VS L144_7.eq_1 := rfl
def L144_8 : List AStep := [⟨.mov (.t 5), (some 19), none, []⟩, ⟨.mov (.t 19), (some 4), none, []⟩]
theorem v144_8 : VS L144_8.eq_1 := rfl
def L144_9 : List AStep := [⟨.mov (.t 11), (some 5), none, []⟩]
theorem v144_9 : VS L144_9.eq_1 := rfl
def L144_10 : List AStep := ⟨.mov (.t 5), (some 10), none, []⟩ :: ⟨.bin .add (.t 10) (.c (.int .i64 1)), (some 11), none, []⟩ :: L144_9
theorem v144_10 : VS L144_10.eq_1 := rfl
def L144_11 : List AStep := [⟨.mov (.c (.int .i64 (-1))), (some 4), none, []⟩]
theorem v144_11 : VS L144_11.eq_1 := rfl
def C144_0 : ACode := .cond (.t 9) .skip (.exit 0)
theorem u144_0 : VC C144_0.eq_1 := rfl
def C144_1 : ACode := .seq (.reg L144_3) C144_0
theorem u144_1 : VC C144_1.eq_1 := rfl
def C144_2 : ACode := .seq (.reg L144_8) .ret
theorem u144_2 : VC C144_2.eq_1 := rfl
def C144_3 : ACode := .cond (.t 18) C144_2 .skip
theorem u144_3 : VC C144_3.eq_1 := rfl
def C144_4 : ACode := .seq (.reg L144_7) C144_3
theorem u144_4 : VC C144_4.eq_1 := rfl
def C144_5 : ACode := .block 1 C144_4
theorem u144_5 : VC C144_5.eq_1 := rfl
def C144_6 : ACode := .seq C144_5 (.reg L144_10)
theorem u144_6 : VC C144_6.eq_1 := rfl
def C144_7 : ACode := .seq C144_1 C144_6
theorem u144_7 : VC C144_7.eq_1 := rfl
def C144_8 : ACode := .block 0 (.loop C144_7)
theorem u144_8 : VC C144_8.eq_1 := rfl
def C144_9 : ACode := .seq (.reg L144_1) C144_8
theorem u144_9 : VC C144_9.eq_1 := rfl
def C144_10 : ACode := .seq (.reg L144_11) .ret
theorem u144_10 : VC C144_10.eq_1 := rfl
def C144_11 : ACode := .seq C144_9 C144_10
theorem u144_11 : VC C144_11.eq_1 := rfl
def C144_12 : ACode := .seq (.reg L144_0) C144_11
theorem u144_12 : VC C144_12.eq_1 := rfl
def F144 : AFunc := ⟨20, [.tmp 4], C144_12⟩
theorem cF144 : compB Try.prog 144 = some F144 := by kernel_rfl
attribute [local go_sem ↓] u144_0 u144_1 u144_2 u144_3 u144_4 u144_5 u144_6 u144_7 u144_8 u144_9 u144_10 u144_11 u144_12 v144_0 v144_1 v144_2 v144_3 v144_4 v144_5 v144_6 v144_7 v144_8 v144_9 v144_10 v144_11
theorem c_findParam (l : List Param) (v : AV) (s : ByteArray) (h : H) (hl : SlQ h v l) (hn : smQ l) : bm Try.prog 144 [v, .one (.str s)] h = some (ii (paramAt l s), h) := by
  refine bm_eq cF144 ?_
  simp +contextual (maxSteps := 2000000) only [go_sem, Nat.reduceEqDiff, reduceCtorEq, Nat.reduceAdd, Nat.reduceLeDiff, F144]
  refine wpC_loop (fun i T L h' => h' = h ∧ T 0 = .v v ∧ T 1 = .v (.one (.str s)) ∧ T 5 = .v (.one (.int .i64 i)) ∧ Pre (fun p => decide (p.name = s)) false l i) l.length ?_ ?_ (Nat.zero_le _) ?_
  · rintro i T L h' hi ⟨rfl, h0, h1, h3, hp⟩
    simp +contextual (maxSteps := 2000000) only [go_sem, Nat.reduceEqDiff, reduceCtorEq, Nat.reduceAdd, Nat.reduceLeDiff, h0, h1, h3, hl.len, hl.iaddr hi, hl.fieldO hi, lt_true hi]
    (repeat' (first | refine And.intro ?_ ?_ | intro _)) <;> first | rfl | rw [wrap_next hi hn.len] | exact hp.next hi ‹_› | rw [paramAt, idx_hit hi hp ‹_›]
  · rintro T L h' ⟨rfl, h0, h1, h3, hp⟩
    simp +contextual (maxSteps := 2000000) only [go_sem, Nat.reduceEqDiff, reduceCtorEq, Nat.reduceAdd, Nat.reduceLeDiff, h0, h1, h3, hl.len, lt_false, paramAt, idx_none hp]
  · simp +contextual (maxSteps := 2000000) only [go_sem, Nat.reduceEqDiff, reduceCtorEq, Nat.reduceAdd, Nat.reduceLeDiff]
    (repeat' (first | refine And.intro ?_ ?_ | intro _)) <;> first | rfl | exact Pre.zero
/-! spec.kindAt -/
def L155_0 : List AStep := [⟨.mov (.c (.int .i64 0)), (some 4), none, []⟩]
theorem v155_0 : VS L155_0.eq_1 := rfl
def L155_1 : List AStep := [⟨.mov (.c (.int .i64 0)), (some 5), none, []⟩]
theorem v155_1 : VS L155_1.eq_1 := rfl
def L155_2 : List AStep := [⟨.len (.t 7), (some 8), none, []⟩, ⟨.bin .lss (.t 6) (.t 8), (some 9), none, []⟩]
theorem v155_2 : VS L155_2.eq_1 := rfl
def L155_3 : List AStep := ⟨.mov (.t 5), (some 6), none, []⟩ :: ⟨.mov (.t 0), (some 7), none, []⟩ :: L155_2
theorem v155_3 : VS L155_3.eq_1 := rfl
def L155_4 : List AStep := [⟨.bin .eql (.t 16) (.t 17), (some 18), none, []⟩]
theorem v155_4 : VS L155_4.eq_1 := rfl
def L155_5 : List AStep := ⟨.load 1 false (.t 15), (some 16), none, []⟩ :: ⟨.mov (.t 1), (some 17), none, []⟩ :: L155_4
theorem v155_5 : VS L155_5.eq_1 := rfl
def L155_6 : List AStep := ⟨.iaddr 4 (.t 12) (.t 13), (some 14), none, []⟩ :: ⟨.faddr 1 (.t 14), (some 15), none, []⟩ :: L155_5
theorem v155_6 : VS L155_6.eq_1 := rfl
def L155_7 : List AStep := ⟨.mov (.t 0), (some 12), none, []⟩ :: ⟨.mov (.t 5), (some 13), none, []⟩ :: L155_6
theorem v155_7 : VS L155_7.eq_1 := rfl
def L155_8 : List AStep := [⟨.mov (.t 5), (some 19), none, []⟩, ⟨.mov (.t 19), (some 4), none, []⟩]
theorem v155_8 : VS L155_8.eq_1 := rfl
def L155_9 : List AStep := [⟨.mov (.t 11), (some 5), none, []⟩]
theorem v155_9 : VS L155_9.eq_1 := rfl
def L155_10 : List AStep := ⟨.mov (.t 5), (some 10), none, []⟩ :: ⟨.bin .add (.t 10) (.c (.int .i64 1)), (some 11), none, []⟩ :: L155_9
theorem v155_10 : VS L155_10.eq_1 := rfl
def L155_11 : List AStep := [⟨.mov (.c (.int .i64 (-1))), (some 4), none, []⟩]
theorem v155_11 : VS L155_11.eq_1 := rfl
def C155_0 : ACode := .cond (.t 9) .skip (.exit 0)
theorem u155_0 : VC C155_0.eq_1 := rfl
def C155_1 : ACode := .seq (.reg L155_3) C155_0
theorem u155_1 : VC C155_1.eq_1 := rfl
def C155_2 : ACode := .seq (.reg L155_8) .ret
theorem u155_2 : VC C155_2.eq_1 := rfl
def C155_3 : ACode := .cond (.t 18) C155_2 .skip
theorem u155_3 : VC C155_3.eq_1 := rfl
def C155_4 : ACode := .seq (.reg L155_7) C155_3
theorem u155_4 : VC C155_4.eq_1 := rfl
def C155_5 : ACode := .block 1 C155_4
theorem u155_5 : VC C155_5.eq_1 := rfl
def C155_6 : ACode := .seq C155_5 (.reg L155_10)
theorem u155_6 : VC C155_6.eq_1 := rfl
def C155_7 : ACode := .seq C155_1 C155_6
theorem u155_7 : VC C155_7.eq_1 := rfl
def C155_8 : ACode := .block 0 (.loop C155_7)
theorem u155_8 : VC C155_8.eq_1 := rfl
def C155_9 : ACode := .seq (.reg L155_1) C155_8
theorem u155_9 : VC C155_9.eq_1 := rfl
def C155_10 : ACode := .seq (.reg L155_11) .ret
theorem u155_10 : VC C155_10.eq_1 := rfl
def C155_11 : ACode := .seq C155_9 C155_10
theorem u155_11 : VC C155_11.eq_1 := rfl
def C155_12 : ACode := .seq (.reg L155_0) C155_11
theorem u155_12 : VC C155_12.eq_1 := rfl
def F155 : AFunc := ⟨20, [.tmp 4], C155_12⟩
theorem cF155 : compB Try.prog 155 = some F155 := by kernel_rfl
attribute [local go_sem ↓] u155_0 u155_1 u155_2 u155_3 u155_4 u155_5 u155_6 u155_7 u155_8 u155_9 u155_10 u155_11 u155_12 v155_0 v155_1 v155_2 v155_3 v155_4 v155_5 v155_6 v155_7 v155_8 v155_9 v155_10 v155_11
theorem c_kindAt (l : List Param) (v : AV) (k : Int) (h : H) (hl : SlQ h v l) (hn : smQ l) : bm Try.prog 155 [v, .one (.int .i64 k)] h = some (ii (kindAt l k), h) := by
  refine bm_eq cF155 ?_
  simp +contextual (maxSteps := 2000000) only [go_sem, Nat.reduceEqDiff, reduceCtorEq, Nat.reduceAdd, Nat.reduceLeDiff, F155]
  refine wpC_loop (fun i T L h' => h' = h ∧ T 0 = .v v ∧ T 1 = .v (.one (.int .i64 k)) ∧ T 5 = .v (.one (.int .i64 i)) ∧ Pre (fun p => decide (p.kind = k)) false l i) l.length ?_ ?_ (Nat.zero_le _) ?_
  · rintro i T L h' hi ⟨rfl, h0, h1, h3, hp⟩
    simp +contextual (maxSteps := 2000000) only [go_sem, Nat.reduceEqDiff, reduceCtorEq, Nat.reduceAdd, Nat.reduceLeDiff, h0, h1, h3, hl.len, hl.iaddr hi, hl.fieldO hi, lt_true hi]
    (repeat' (first | refine And.intro ?_ ?_ | intro _)) <;> first | rfl | rw [wrap_next hi hn.len] | exact hp.next hi ‹_› | rw [kindAt, idx_hit hi hp ‹_›]
  · rintro T L h' ⟨rfl, h0, h1, h3, hp⟩
    simp +contextual (maxSteps := 2000000) only [go_sem, Nat.reduceEqDiff, reduceCtorEq, Nat.reduceAdd, Nat.reduceLeDiff, h0, h1, h3, hl.len, lt_false, kindAt, idx_none hp]
  · simp +contextual (maxSteps := 2000000) only [go_sem, Nat.reduceEqDiff, reduceCtorEq, Nat.reduceAdd, Nat.reduceLeDiff]
    (repeat' (first | refine And.intro ?_ ?_ | intro _)) <;> first | rfl | exact Pre.zero
/-! spec.placeCount -/
def L154_0 : List AStep := [⟨.box 69 (.t 0), (some 1), none, []⟩, ⟨.mov (.c (.int .i64 0)), (some 2), none, []⟩]
theorem v154_0 : VS L154_0.eq_1 := rfl
def L154_1 : List AStep := [⟨.mov (.c (.int .i64 0)), (some 3), none, []⟩]
theorem v154_1 : VS L154_1.eq_1 := rfl
def L154_2 : List AStep := [⟨.mov (.c (.int .i64 0)), (some 4), none, []⟩]
theorem v154_2 : VS L154_2.eq_1 := rfl
def L154_3 : List AStep := [⟨.bin .lss (.t 5) (.t 8), (some 9), none, []⟩]
theorem v154_3 : VS L154_3.eq_1 := rfl
def L154_4 : List AStep := ⟨.load 1 false (.t 6), (some 7), none, []⟩ :: ⟨.len (.t 7), (some 8), none, []⟩ :: L154_3
theorem v154_4 : VS L154_4.eq_1 := rfl
def L154_5 : List AStep := ⟨.mov (.t 4), (some 5), none, []⟩ :: ⟨.faddr 0 (.t 1), (some 6), none, []⟩ :: L154_4
theorem v154_5 : VS L154_5.eq_1 := rfl
def L154_6 : List AStep := [⟨.load 4 true (.t 15), (some 16), none, []⟩, ⟨.call 146 [(.t 16)], (some 17), none, []⟩]
theorem v154_6 : VS L154_6.eq_1 := rfl
def L154_7 : List AStep := ⟨.mov (.t 4), (some 14), none, []⟩ :: ⟨.iaddr 4 (.t 13) (.t 14), (some 15), none, []⟩ :: L154_6
theorem v154_7 : VS L154_7.eq_1 := rfl
def L154_8 : List AStep := ⟨.faddr 0 (.t 1), (some 12), none, []⟩ :: ⟨.load 1 false (.t 12), (some 13), none, []⟩ :: L154_7
theorem v154_8 : VS L154_8.eq_1 := rfl
def L154_9 : List AStep := [⟨.mov (.t 19), (some 3), none, []⟩]
theorem v154_9 : VS L154_9.eq_1 := rfl
def L154_10 : List AStep := ⟨.mov (.t 3), (some 18), none, []⟩ :: ⟨.bin .add (.t 18) (.c (.int .i64 1)), (some 19), none, []⟩ :: L154_9
theorem v154_10 : VS L154_10.eq_1 := rfl
def L154_11 : List AStep := [⟨.mov (.t 11), (some 4), none, []⟩]
theorem v154_11 : VS L154_11.eq_1 := rfl
def L154_12 : List AStep := ⟨.mov (.t 4), (some 10), none, []⟩ :: ⟨.bin .add (.t 10) (.c (.int .i64 1)), (some 11), none, []⟩ :: L154_11
theorem v154_12 : VS L154_12.eq_1 := rfl
def L154_13 : List AStep := [⟨.mov (.t 3), (some 20), none, []⟩, ⟨.mov (.t 20), (some 2), none, []⟩]
theorem v154_13 : VS L154_13.eq_1 := rfl
def C154_0 : ACode := .cond (.t 9) .skip (.exit 0)
theorem u154_0 : VC C154_0.eq_1 := rfl
def C154_1 : ACode := .seq (.reg L154_5) C154_0
theorem u154_1 : VC C154_1.eq_1 := rfl
def C154_2 : ACode := .cond (.t 17) (.reg L154_10) .skip
theorem u154_2 : VC C154_2.eq_1 := rfl
def C154_3 : ACode := .seq (.reg L154_8) C154_2
theorem u154_3 : VC C154_3.eq_1 := rfl
def C154_4 : ACode := .block 1 C154_3
theorem u154_4 : VC C154_4.eq_1 := rfl
def C154_5 : ACode := .seq C154_4 (.reg L154_12)
theorem u154_5 : VC C154_5.eq_1 := rfl
def C154_6 : ACode := .seq C154_1 C154_5
theorem u154_6 : VC C154_6.eq_1 := rfl
def C154_7 : ACode := .block 0 (.loop C154_6)
theorem u154_7 : VC C154_7.eq_1 := rfl
def C154_8 : ACode := .seq (.reg L154_2) C154_7
theorem u154_8 : VC C154_8.eq_1 := rfl
def C154_9 : ACode := .seq (.reg L154_13) .ret
theorem u154_9 : VC C154_9.eq_1 := rfl
def C154_10 : ACode := .seq C154_8 C154_9
theorem u154_10 : VC C154_10.eq_1 := rfl
def C154_11 : ACode := .seq (.reg L154_1) C154_10
theorem u154_11 : VC C154_11.eq_1 := rfl
def C154_12 : ACode := .seq (.reg L154_0) C154_11
theorem u154_12 : VC C154_12.eq_1 := rfl
def F154 : AFunc := ⟨21, [.tmp 2], C154_12⟩
theorem cF154 : compB Try.prog 154 = some F154 := by kernel_rfl
attribute [local go_sem ↓] u154_0 u154_1 u154_2 u154_3 u154_4 u154_5 u154_6 u154_7 u154_8 u154_9 u154_10 u154_11 u154_12 v154_0 v154_1 v154_2 v154_3 v154_4 v154_5 v154_6 v154_7 v154_8 v154_9 v154_10 v154_11 v154_12 v154_13
theorem c_placeCount (l : List Param) (pv : CV) (h : H) (hl : SlQ h (.one pv) l) (hn : smQ l) : bm Try.prog 154 [.agg [pv]] h = some (ii (l.countP byPlace), h) := by
  refine bm_eq cF154 ?_
  simp +contextual (maxSteps := 2000000) only [go_sem, Nat.reduceEqDiff, reduceCtorEq, Nat.reduceAdd, Nat.reduceLeDiff, F154]
  refine wpC_loop (fun i T L h' => h' = h ∧ T 1 = .lp 1 0 ∧ (L 1).2 = [pv] ∧ T 3 = .v (.one (.int .i64 (cnt byPlace l i))) ∧ T 4 = .v (.one (.int .i64 i))) l.length ?_ ?_ (Nat.zero_le _) ?_
  · rintro i T L h' hi ⟨rfl, t1, l1, t3, t4⟩
    have b1 := cnt_le (p := byPlace) (l := l) (i := i)
    have b2 := hn.len
    simp +contextual (maxSteps := 2000000) only [go_sem, Nat.reduceEqDiff, reduceCtorEq, Nat.reduceAdd, Nat.reduceLeDiff, t1, l1, t3, t4, hl.len, hl.iaddr hi, hl.whole hi, c_byPlace, lt_true hi, cnt_next hi]
    (repeat' (first | refine And.intro ?_ ?_ | intro _)) <;> first | rfl | rw [wrap_next hi hn.len] | (rw [i64_wrap (by omega) (by omega)]; simp_all) | simp_all
  · rintro T L h' ⟨rfl, t1, l1, t3, t4⟩
    simp +contextual (maxSteps := 2000000) only [go_sem, Nat.reduceEqDiff, reduceCtorEq, Nat.reduceAdd, Nat.reduceLeDiff, t1, l1, t3, t4, hl.len, lt_false, cnt_all]
  · simp +contextual (maxSteps := 2000000) only [go_sem, Nat.reduceEqDiff, reduceCtorEq, Nat.reduceAdd, Nat.reduceLeDiff, cnt_zero]
    (repeat' (first | refine And.intro ?_ ?_ | intro _)) <;> first | rfl
/-! spec.takesName -/
def L167_0 : List AStep := [⟨.box 69 (.t 0), (some 2), none, []⟩, ⟨.mov (.c (.int .i64 0)), (some 4), none, []⟩]
theorem v167_0 : VS L167_0.eq_1 := rfl
def L167_1 : List AStep := [⟨.mov (.t 9), (some 5), none, []⟩]
theorem v167_1 : VS L167_1.eq_1 := rfl
def L167_2 : List AStep := ⟨.mov (.t 1), (some 8), none, []⟩ :: ⟨.call 144 [(.t 7), (.t 8)], (some 9), none, []⟩ :: L167_1
theorem v167_2 : VS L167_2.eq_1 := rfl
def L167_3 : List AStep := ⟨.faddr 0 (.t 2), (some 6), none, []⟩ :: ⟨.load 1 false (.t 6), (some 7), none, []⟩ :: L167_2
theorem v167_3 : VS L167_3.eq_1 := rfl
def L167_4 : List AStep := [⟨.call 165 [(.t 17)], (some 18), (some (12, true)), []⟩, ⟨.pick (.t 12) (.t 18) (.c (.bool false)), (some 19), none, []⟩]
theorem v167_4 : VS L167_4.eq_1 := rfl
def L167_5 : List AStep := ⟨.iaddr 4 (.t 14) (.t 15), (some 16), (some (12, true)), []⟩ :: ⟨.load 4 true (.t 16), (some 17), (some (12, true)), []⟩ :: L167_4
theorem v167_5 : VS L167_5.eq_1 := rfl
def L167_6 : List AStep := ⟨.load 1 false (.t 13), (some 14), (some (12, true)), []⟩ :: ⟨.mov (.t 5), (some 15), (some (12, true)), []⟩ :: L167_5
theorem v167_6 : VS L167_6.eq_1 := rfl
def L167_7 : List AStep := ⟨.mov (.t 11), (some 12), none, []⟩ :: ⟨.faddr 0 (.t 2), (some 13), (some (12, true)), []⟩ :: L167_6
theorem v167_7 : VS L167_7.eq_1 := rfl
def L167_8 : List AStep := ⟨.mov (.t 5), (some 10), none, []⟩ :: ⟨.bin .geq (.t 10) (.c (.int .i64 0)), (some 11), none, []⟩ :: L167_7
theorem v167_8 : VS L167_8.eq_1 := rfl
def L167_9 : List AStep := [⟨.mov (.t 5), (some 20), none, []⟩, ⟨.mov (.t 20), (some 4), none, []⟩]
theorem v167_9 : VS L167_9.eq_1 := rfl
def L167_10 : List AStep := [⟨.call 155 [(.t 22), (.c (.int .i64 4))], (some 23), none, []⟩, ⟨.mov (.t 23), (some 4), none, []⟩]
theorem v167_10 : VS L167_10.eq_1 := rfl
def L167_11 : List AStep := ⟨.faddr 0 (.t 2), (some 21), none, []⟩ :: ⟨.load 1 false (.t 21), (some 22), none, []⟩ :: L167_10
theorem v167_11 : VS L167_11.eq_1 := rfl
def C167_0 : ACode := .seq (.reg L167_9) .ret
theorem u167_0 : VC C167_0.eq_1 := rfl
def C167_1 : ACode := .cond (.t 19) C167_0 .skip
theorem u167_1 : VC C167_1.eq_1 := rfl
def C167_2 : ACode := .seq (.reg L167_8) C167_1
theorem u167_2 : VC C167_2.eq_1 := rfl
def C167_3 : ACode := .seq (.reg L167_11) .ret
theorem u167_3 : VC C167_3.eq_1 := rfl
def C167_4 : ACode := .seq C167_2 C167_3
theorem u167_4 : VC C167_4.eq_1 := rfl
def C167_5 : ACode := .seq (.reg L167_3) C167_4
theorem u167_5 : VC C167_5.eq_1 := rfl
def C167_6 : ACode := .seq (.reg L167_0) C167_5
theorem u167_6 : VC C167_6.eq_1 := rfl
def F167 : AFunc := ⟨24, [.tmp 4], C167_6⟩
theorem cF167 : compB Try.prog 167 = some F167 := by kernel_rfl
attribute [local go_sem ↓] u167_0 u167_1 u167_2 u167_3 u167_4 u167_5 u167_6 v167_0 v167_1 v167_2 v167_3 v167_4 v167_5 v167_6 v167_7 v167_8 v167_9 v167_10 v167_11
theorem c_takesName (l : List Param) (pv : CV) (s : ByteArray) (h : H) (hl : SlQ h (.one pv) l) (hn : smQ l) : bm Try.prog 167 [.agg [pv], .one (.str s)] h = some (ii (takes l s), h) := by
  refine bm_eq cF167 ?_
  rcases idx_cases (fun p : Param => decide (p.name = s)) l with e | ⟨j, hj, e, _⟩ <;> (replace e := (show paramAt l s = _ from e))
  · simp +contextual (maxSteps := 2000000) only [go_sem, Nat.reduceEqDiff, reduceCtorEq, Nat.reduceAdd, Nat.reduceLeDiff, F167, c_findParam _ _ _ _ hl hn, e, c_kindAt _ _ _ _ hl hn, takes_none e]
  · simp +contextual (maxSteps := 2000000) only [go_sem, Nat.reduceEqDiff, reduceCtorEq, Nat.reduceAdd, Nat.reduceLeDiff, F167, c_findParam _ _ _ _ hl hn, e, c_kindAt _ _ _ _ hl hn, takes_some hj e, hl.iaddr hj, hl.whole hj, c_byName]
/-! spec.validParams -/
def L113_0 : List AStep := [⟨.mov (.c (.bool false)), (some 2), none, []⟩]
theorem v113_0 : VS L113_0.eq_1 := rfl
def L113_1 : List AStep := [⟨.mov (.c (.int .i64 0)), (some 3), none, []⟩]
theorem v113_1 : VS L113_1.eq_1 := rfl
def L113_2 : List AStep := [⟨.len (.t 7), (some 8), none, []⟩, ⟨.bin .lss (.t 6) (.t 8), (some 9), none, []⟩]
theorem v113_2 : VS L113_2.eq_1 := rfl
def L113_3 : List AStep := ⟨.mov (.t 3), (some 6), none, []⟩ :: ⟨.mov (.t 0), (some 7), none, []⟩ :: L113_2
theorem v113_3 : VS L113_3.eq_1 := rfl
def L113_4 : List AStep := [⟨.alloc 155 [(.str (strOfNums [])), (.int .i64 0), (.bool false), (.int .i64 0)], (some 4), none, []⟩, ⟨.store 4 (.t 4) (.t 15), none, none, []⟩]
theorem v113_4 : VS L113_4.eq_1 := rfl
def L113_5 : List AStep := ⟨.iaddr 4 (.t 12) (.t 13), (some 14), none, []⟩ :: ⟨.load 4 true (.t 14), (some 15), none, []⟩ :: L113_4
theorem v113_5 : VS L113_5.eq_1 := rfl
def L113_6 : List AStep := ⟨.mov (.t 0), (some 12), none, []⟩ :: ⟨.mov (.t 3), (some 13), none, []⟩ :: L113_5
theorem v113_6 : VS L113_6.eq_1 := rfl
def L113_7 : List AStep := [⟨.bin .geq (.t 25) (.c (.int .i64 0)), (some 26), (some (19, false)), []⟩, ⟨.pick (.t 19) (.c (.bool true)) (.t 26), (some 27), none, []⟩]
theorem v113_7 : VS L113_7.eq_1 := rfl
def L113_8 : List AStep := ⟨.load 1 false (.t 23), (some 24), (some (19, false)), []⟩ :: ⟨.call 144 [(.t 22), (.t 24)], (some 25), (some (19, false)), []⟩ :: L113_7
theorem v113_8 : VS L113_8.eq_1 := rfl
def L113_9 : List AStep := ⟨.slice 155 4 (.t 20) none (some (.t 21)) none, (some 22), (some (19, false)), []⟩ :: ⟨.faddr 0 (.t 4), (some 23), (some (19, false)), []⟩ :: L113_8
theorem v113_9 : VS L113_9.eq_1 := rfl
def L113_10 : List AStep := ⟨.mov (.t 0), (some 20), (some (19, false)), []⟩ :: ⟨.mov (.t 3), (some 21), (some (19, false)), []⟩ :: L113_9
theorem v113_10 : VS L113_10.eq_1 := rfl
def L113_11 : List AStep := ⟨.not (.t 17), (some 18), none, []⟩ :: ⟨.mov (.t 18), (some 19), none, []⟩ :: L113_10
theorem v113_11 : VS L113_11.eq_1 := rfl
def L113_12 : List AStep := ⟨.load 4 true (.t 4), (some 16), none, []⟩ :: ⟨.call 143 [(.t 16)], (some 17), none, []⟩ :: L113_11
theorem v113_12 : VS L113_12.eq_1 := rfl
def L113_13 : List AStep := [⟨.mov (.c (.bool false)), (some 2), none, []⟩]
theorem v113_13 : VS L113_13.eq_1 := rfl
def L113_14 : List AStep := [⟨.mov (.t 3), (some 28), none, []⟩, ⟨.bin .eql (.t 28) (.c (.int .i64 0)), (some 29), none, []⟩]
theorem v113_14 : VS L113_14.eq_1 := rfl
def L113_15 : List AStep := [⟨.store 4 (.t 5) (.t 34), none, none, []⟩]
theorem v113_15 : VS L113_15.eq_1 := rfl
def L113_16 : List AStep := ⟨.load 4 true (.t 33), (some 34), none, []⟩ :: ⟨.alloc 155 [(.str (strOfNums [])), (.int .i64 0), (.bool false), (.int .i64 0)], (some 5), none, []⟩ :: L113_15
theorem v113_16 : VS L113_16.eq_1 := rfl
def L113_17 : List AStep := ⟨.bin .sub (.t 31) (.c (.int .i64 1)), (some 32), none, []⟩ :: ⟨.iaddr 4 (.t 30) (.t 32), (some 33), none, []⟩ :: L113_16
theorem v113_17 : VS L113_17.eq_1 := rfl
def L113_18 : List AStep := ⟨.mov (.t 0), (some 30), none, []⟩ :: ⟨.mov (.t 3), (some 31), none, []⟩ :: L113_17
theorem v113_18 : VS L113_18.eq_1 := rfl
def L113_19 : List AStep := [⟨.pick (.t 59) (.t 62) (.c (.bool false)), (some 63), (some (52, false)), []⟩, ⟨.pick (.t 52) (.c (.bool true)) (.t 63), (some 64), none, []⟩]
theorem v113_19 : VS L113_19.eq_1 := rfl
def L113_20 : List AStep := ⟨.load 1 false (.t 60), (some 61), (some (59, true)), []⟩ :: ⟨.not (.t 61), (some 62), (some (59, true)), []⟩ :: L113_19
theorem v113_20 : VS L113_20.eq_1 := rfl
def L113_21 : List AStep := ⟨.mov (.t 58), (some 59), (some (52, false)), []⟩ :: ⟨.faddr 2 (.t 4), (some 60), (some (59, true)), []⟩ :: L113_20
theorem v113_21 : VS L113_21.eq_1 := rfl
def L113_22 : List AStep := ⟨.load 1 false (.t 56), (some 57), (some (55, true)), []⟩ :: ⟨.pick (.t 55) (.t 57) (.c (.bool false)), (some 58), (some (52, false)), []⟩ :: L113_21
theorem v113_22 : VS L113_22.eq_1 := rfl
def L113_23 : List AStep := ⟨.mov (.t 54), (some 55), (some (52, false)), []⟩ :: ⟨.faddr 2 (.t 5), (some 56), (some (55, true)), []⟩ :: L113_22
theorem v113_23 : VS L113_23.eq_1 := rfl
def L113_24 : List AStep := ⟨.load 4 true (.t 4), (some 53), (some (52, false)), []⟩ :: ⟨.call 146 [(.t 53)], (some 54), (some (52, false)), []⟩ :: L113_23
theorem v113_24 : VS L113_24.eq_1 := rfl
def L113_25 : List AStep := ⟨.pick (.t 40) (.c (.bool true)) (.t 50), (some 51), none, []⟩ :: ⟨.mov (.t 51), (some 52), none, []⟩ :: L113_24
theorem v113_25 : VS L113_25.eq_1 := rfl
def L113_26 : List AStep := ⟨.not (.t 48), (some 49), (some (46, true)), []⟩ :: ⟨.pick (.t 46) (.t 49) (.c (.bool false)), (some 50), (some (40, false)), []⟩ :: L113_25
theorem v113_26 : VS L113_26.eq_1 := rfl
def L113_27 : List AStep := ⟨.load 4 true (.t 4), (some 47), (some (46, true)), []⟩ :: ⟨.call 145 [(.t 47)], (some 48), (some (46, true)), []⟩ :: L113_26
theorem v113_27 : VS L113_27.eq_1 := rfl
def L113_28 : List AStep := ⟨.bin .eql (.t 42) (.t 44), (some 45), (some (40, false)), []⟩ :: ⟨.mov (.t 45), (some 46), (some (40, false)), []⟩ :: L113_27
theorem v113_28 : VS L113_28.eq_1 := rfl
def L113_29 : List AStep := ⟨.faddr 1 (.t 5), (some 43), (some (40, false)), []⟩ :: ⟨.load 1 false (.t 43), (some 44), (some (40, false)), []⟩ :: L113_28
theorem v113_29 : VS L113_29.eq_1 := rfl
def L113_30 : List AStep := ⟨.faddr 1 (.t 4), (some 41), (some (40, false)), []⟩ :: ⟨.load 1 false (.t 41), (some 42), (some (40, false)), []⟩ :: L113_29
theorem v113_30 : VS L113_30.eq_1 := rfl
def L113_31 : List AStep := ⟨.bin .lss (.t 36) (.t 38), (some 39), none, []⟩ :: ⟨.mov (.t 39), (some 40), none, []⟩ :: L113_30
theorem v113_31 : VS L113_31.eq_1 := rfl
def L113_32 : List AStep := ⟨.faddr 1 (.t 5), (some 37), none, []⟩ :: ⟨.load 1 false (.t 37), (some 38), none, []⟩ :: L113_31
theorem v113_32 : VS L113_32.eq_1 := rfl
def L113_33 : List AStep := ⟨.faddr 1 (.t 4), (some 35), none, []⟩ :: ⟨.load 1 false (.t 35), (some 36), none, []⟩ :: L113_32
theorem v113_33 : VS L113_33.eq_1 := rfl
def L113_34 : List AStep := [⟨.mov (.c (.bool false)), (some 2), none, []⟩]
theorem v113_34 : VS L113_34.eq_1 := rfl
def L113_35 : List AStep := [⟨.mov (.t 11), (some 3), none, []⟩]
theorem v113_35 : VS L113_35.eq_1 := rfl
def L113_36 : List AStep := ⟨.mov (.t 3), (some 10), none, []⟩ :: ⟨.bin .add (.t 10) (.c (.int .i64 1)), (some 11), none, []⟩ :: L113_35
theorem v113_36 : VS L113_36.eq_1 := rfl
def L113_37 : List AStep := [⟨.bin .leq (.t 66) (.c (.int .i64 8)), (some 67), none, []⟩, ⟨.mov (.t 67), (some 2), none, []⟩]
theorem v113_37 : VS L113_37.eq_1 := rfl
def L113_38 : List AStep := ⟨.mov (.t 0), (some 65), none, []⟩ :: ⟨.len (.t 65), (some 66), none, []⟩ :: L113_37
theorem v113_38 : VS L113_38.eq_1 := rfl
def C113_0 : ACode := .cond (.t 9) .skip (.exit 0)
theorem u113_0 : VC C113_0.eq_1 := rfl
def C113_1 : ACode := .seq (.reg L113_3) C113_0
theorem u113_1 : VC C113_1.eq_1 := rfl
def C113_2 : ACode := .seq (.reg L113_13) .ret
theorem u113_2 : VC C113_2.eq_1 := rfl
def C113_3 : ACode := .cond (.t 27) C113_2 .skip
theorem u113_3 : VC C113_3.eq_1 := rfl
def C113_4 : ACode := .seq (.reg L113_12) C113_3
theorem u113_4 : VC C113_4.eq_1 := rfl
def C113_5 : ACode := .cond (.t 29) (.exit 1) .skip
theorem u113_5 : VC C113_5.eq_1 := rfl
def C113_6 : ACode := .seq (.reg L113_14) C113_5
theorem u113_6 : VC C113_6.eq_1 := rfl
def C113_7 : ACode := .seq (.reg L113_34) .ret
theorem u113_7 : VC C113_7.eq_1 := rfl
def C113_8 : ACode := .cond (.t 64) C113_7 .skip
theorem u113_8 : VC C113_8.eq_1 := rfl
def C113_9 : ACode := .seq (.reg L113_33) C113_8
theorem u113_9 : VC C113_9.eq_1 := rfl
def C113_10 : ACode := .seq (.reg L113_18) C113_9
theorem u113_10 : VC C113_10.eq_1 := rfl
def C113_11 : ACode := .seq C113_6 C113_10
theorem u113_11 : VC C113_11.eq_1 := rfl
def C113_12 : ACode := .seq C113_4 C113_11
theorem u113_12 : VC C113_12.eq_1 := rfl
def C113_13 : ACode := .seq (.reg L113_6) C113_12
theorem u113_13 : VC C113_13.eq_1 := rfl
def C113_14 : ACode := .block 1 C113_13
theorem u113_14 : VC C113_14.eq_1 := rfl
def C113_15 : ACode := .seq C113_14 (.reg L113_36)
theorem u113_15 : VC C113_15.eq_1 := rfl
def C113_16 : ACode := .seq C113_1 C113_15
theorem u113_16 : VC C113_16.eq_1 := rfl
def C113_17 : ACode := .block 0 (.loop C113_16)
theorem u113_17 : VC C113_17.eq_1 := rfl
def C113_18 : ACode := .seq (.reg L113_1) C113_17
theorem u113_18 : VC C113_18.eq_1 := rfl
def C113_19 : ACode := .seq (.reg L113_38) .ret
theorem u113_19 : VC C113_19.eq_1 := rfl
def C113_20 : ACode := .seq C113_18 C113_19
theorem u113_20 : VC C113_20.eq_1 := rfl
def C113_21 : ACode := .seq (.reg L113_0) C113_20
theorem u113_21 : VC C113_21.eq_1 := rfl
def F113 : AFunc := ⟨68, [.tmp 2], C113_21⟩
theorem cF113 : compB Try.prog 113 = some F113 := by kernel_rfl
attribute [local go_sem ↓] u113_0 u113_1 u113_2 u113_3 u113_4 u113_5 u113_6 u113_7 u113_8 u113_9 u113_10 u113_11 u113_12 u113_13 u113_14 u113_15 u113_16 u113_17 u113_18 u113_19 u113_20 u113_21 v113_0 v113_1 v113_2 v113_3 v113_4 v113_5 v113_6 v113_7 v113_8 v113_9 v113_10 v113_11 v113_12 v113_13 v113_14 v113_15 v113_16 v113_17 v113_18 v113_19 v113_20 v113_21 v113_22 v113_23 v113_24 v113_25 v113_26 v113_27 v113_28 v113_29 v113_30 v113_31 v113_32 v113_33 v113_34 v113_35 v113_36 v113_37 v113_38
theorem c_validParams (l : List Param) (v : AV) (h : H) (hl : SlQ h v l) (hn : smQ l) : bm Try.prog 113 [v] h = some (ib (okSig l), h) := by
  refine bm_eq cF113 ?_
  simp +contextual (maxSteps := 2000000) only [go_sem, Nat.reduceEqDiff, reduceCtorEq, Nat.reduceAdd, Nat.reduceLeDiff, F113]
  refine wpC_loop (fun i T L h' => h' = h ∧ T 0 = .v v ∧ T 3 = .v (.one (.int .i64 i)) ∧ Upto (stepAt l) i) l.length ?_ ?_ (Nat.zero_le _) ?_
  · rintro i T L h' hi ⟨rfl, t0, t3, hu⟩
    obtain ⟨v', e1, s1⟩ := hl.takeO (i := i) (by omega) (kd := .i64)
    have e2 : decide (paramAt (l.take i) l[i].name ≥ 0) = !(newAt Param.name l i) := newAt_ge hi
    cases i with
    | zero =>
      have e3 := stepAt_zero hi
      simp only [List.take_zero] at e1 e2 s1
      have e4 : decide (((0 : Nat) : Int) = 0) = true := rfl
      simp +contextual (maxSteps := 2000000) only [go_sem, Nat.reduceEqDiff, reduceCtorEq, Nat.reduceAdd, Nat.reduceLeDiff, e4, List.take_zero, t0, t3, hl.len, hl.iaddr hi, hl.whole hi, lt_true hi, e1, e2, c_findParam _ _ _ _ s1 (hn.take 0), c_validParam _ _ (hn.at hi)]
      (repeat' (first | refine And.intro ?_ ?_ | intro _)) <;> first | rfl | rw [wrap_next hi hn.len] | exact hu.next (by rw [e3]; simp_all) | (rw [okSig_not hi (by rw [e3]; simp_all)]) | simp_all
    | succ j =>
      have e3 := stepAt_succ hi
      have hj : j < l.length := by omega
      have e4 : decide (((j + 1 : Nat) : Int) = 0) = false := decide_eq_false (by omega)
      simp +contextual (maxSteps := 2000000) only [go_sem, Nat.reduceEqDiff, reduceCtorEq, Nat.reduceAdd, Nat.reduceLeDiff, e4, t0, t3, hl.len, hl.iaddr hi, hl.whole hi, lt_true hi, e1, e2, c_findParam _ _ _ _ s1 (hn.take _), c_validParam _ _ (hn.at hi), wrap_pred (show j < 2 ^ 62 from Nat.lt_trans (Nat.lt_succ_self j) (Nat.lt_trans hi hn.len)), hl.iaddr hj, hl.whole hj, c_isSingle, c_byPlace]
      (repeat' (first | refine And.intro ?_ ?_ | intro _)) <;> first | rfl | rw [wrap_next hi hn.len] | exact hu.next (by rw [e3]; simp_all [follows]) | (rw [okSig_not hi (by rw [e3]; simp_all [follows])]) | simp_all
  · rintro T L h' ⟨rfl, t0, t3, hu⟩
    simp +contextual (maxSteps := 2000000) only [go_sem, Nat.reduceEqDiff, reduceCtorEq, Nat.reduceAdd, Nat.reduceLeDiff, t0, t3, hl.len, lt_false, okSig_of hu]
  · simp +contextual (maxSteps := 2000000) only [go_sem, Nat.reduceEqDiff, reduceCtorEq, Nat.reduceAdd, Nat.reduceLeDiff]
    (repeat' (first | refine And.intro ?_ ?_ | intro _)) <;> first | rfl | exact Upto.zero
/-! spec.validSignature -/
def L69_0 : List AStep := [⟨.box 69 (.t 0), (some 1), none, []⟩, ⟨.mov (.c (.bool false)), (some 2), none, []⟩]
theorem v69_0 : VS L69_0.eq_1 := rfl
def L69_1 : List AStep := [⟨.call 113 [(.t 4)], (some 5), none, []⟩, ⟨.mov (.t 5), (some 2), none, []⟩]
theorem v69_1 : VS L69_1.eq_1 := rfl
def L69_2 : List AStep := ⟨.faddr 0 (.t 1), (some 3), none, []⟩ :: ⟨.load 1 false (.t 3), (some 4), none, []⟩ :: L69_1
theorem v69_2 : VS L69_2.eq_1 := rfl
def C69_0 : ACode := .seq (.reg L69_2) .ret
theorem u69_0 : VC C69_0.eq_1 := rfl
def C69_1 : ACode := .seq (.reg L69_0) C69_0
theorem u69_1 : VC C69_1.eq_1 := rfl
def F69 : AFunc := ⟨6, [.tmp 2], C69_1⟩
theorem cF69 : compB Try.prog 69 = some F69 := by kernel_rfl
attribute [local go_sem ↓] u69_0 u69_1 v69_0 v69_1 v69_2
theorem c_validSignature (l : List Param) (pv : CV) (h : H) (hl : SlQ h (.one pv) l) (hn : smQ l) : bm Try.prog 69 [.agg [pv]] h = some (ib (okSig l), h) := by
  refine bm_eq cF69 ?_
  simp +contextual (maxSteps := 2000000) only [go_sem, Nat.reduceEqDiff, reduceCtorEq, Nat.reduceAdd, Nat.reduceLeDiff, F69, c_validParams _ _ _ hl hn]
end Go.Proofs.Ytdalgphpacikkac.Am
