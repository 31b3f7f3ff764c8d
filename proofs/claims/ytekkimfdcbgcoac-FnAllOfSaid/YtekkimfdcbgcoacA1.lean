/- Contracts of the reference: numbers, names, pairs, flat calls and signatures that are valid. -/
import Derived.Test.YtekkimfdcbgcoacDat
namespace Go.Proofs.Ytekkimfdcbgcoac.Am
open Go
set_option maxRecDepth 100000
set_option maxHeartbeats 4000000
set_option linter.unusedSimpArgs false
set_option linter.unusedVariables false
attribute [local go_sem ↓] bv_t bv_c ev_t ev_c put_same put_ne put_none kill_at pro_at lb_same lb_ne start_zero start_succ wpC_seq wpC_reg wpC_cond wpC_block wpC_skip wpC_exit wpC_ret thenQ_normal thenQ_exit thenQ_ret inBlk_normal inBlk_exit inBlk_ret wpS_nil wpS_step wpS_again wpS_guard wpO_mov wpO_load wpO_faddr wpO_nilCheck wpO_pick wpO_build wpO_bin wpO_eqb wpO_eqst wpO_eqnil wpO_not wpO_conv wpO_bytesStr wpO_iaddr wpO_idxStr wpO_field wpO_extract wpO_len wpO_lenStr wpO_cap wpO_min wpO_slice wpO_sliceStr wpO_alloc wpO_box wpO_store wpO_call wpO_callv wpO_mkfn wpO_buildSlice wpO_mkslice wpO_append wpO_appz proA_nil proA_cons tmpX_nil tmpX_tmp tmpX_cell doneB_normal doneB_ret agK_cons agK_nil agK_guard agG_tt agG_ff agG_tf agG_ft agG_undef pureB_load results_one results_two results_nil resBs_cons resBs_nil resB_tmp resB_cell
attribute [local go_sem] kill_v kill_lp_ne kill_lp_same pro_v pro_lp_same pro_lp_ne av_v av_lp optB_some optX_some valX_eq ldX_lp ldX_v faX_lp faX_v ncX_lp ncX_ptr ncX_fn boxK_one boxK_agg stL_some stK_lp_one stK_lp_agg stK_v_one stK_v_agg proM_v proM_lp callG_mk callVG_mk callvK_fn fnG_mk ptrsA_nil ptrsA_cons callH_some whenA_true whenA_false guardH_tt guardH_ff guardH_tf guardH_ft guardH_undef agV_one agV_agg lenO_sl lenStrO_str notO_bool pickO_bool convO_int eqbO_bool eqnilO_sl extractO_tup capO_sl minO_int loadL_one loadL_all storeL_eq fillA_nil fillA_one fillA_agg nat_ge neg_ge nat_lt neg_lt buildO bin_add bin_sub bin_mul bin_eql bin_neq bin_lss bin_leq bin_gtr bin_geq str_eql str_neq str_lss str_leq str_gtr str_geq retK_some endK_mk gcK_same gcK_int gcK_bool tupO_one tupO_agg rdy_self ib ii Option.map_none Option.map_some Option.some.injEq exists_eq_left' exists_eq_left ne_eq not_false_eq_true if_true if_false List.map_cons List.map_nil List.getElem?_cons_zero List.getElem?_cons_succ List.length_cons List.length_nil List.take_succ_cons List.take_zero List.take_nil List.drop_succ_cons List.drop_zero List.drop_nil List.cons_append List.nil_append List.append_nil List.set_cons_zero List.set_cons_succ Nat.zero_add forall_const true_and and_true and_self Bool.false_eq_true false_implies true_implies implies_true Bool.not_true Bool.not_false Bool.not_eq_true' Bool.not_eq_false' beq_self_eq_true Bool.bne_true Bool.bne_false
attribute [local go_sem] lenI lenS lenP lenQ lenB lenL lenT encI_0 encS_0 encP_0 encP_1 encQ_0 encQ_1 encQ_2 encQ_3 encB_0 encB_1 encL_0 encL_1 encT_0 encT_1
attribute [local go_sem low] whenA_bool guardH_bool
/-! spec.inRange -/
def L150_0 : List AStep := [⟨.mov (.c (.bool false)), (some 6), none, []⟩]
theorem v150_0 : VS L150_0.eq_1 := rfl
def L150_1 : List AStep := [⟨.mov (.t 14), (some 6), none, []⟩]
theorem v150_1 : VS L150_1.eq_1 := rfl
def L150_2 : List AStep := ⟨.bin .leq (.t 11) (.t 12), (some 13), (some (10, true)), []⟩ :: ⟨.pick (.t 10) (.t 13) (.c (.bool false)), (some 14), none, []⟩ :: L150_1
theorem v150_2 : VS L150_2.eq_1 := rfl
def L150_3 : List AStep := ⟨.mov (.t 0), (some 11), (some (10, true)), []⟩ :: ⟨.mov (.t 2), (some 12), (some (10, true)), []⟩ :: L150_2
theorem v150_3 : VS L150_3.eq_1 := rfl
def L150_4 : List AStep := ⟨.bin .leq (.t 7) (.t 8), (some 9), none, []⟩ :: ⟨.mov (.t 9), (some 10), none, []⟩ :: L150_3
theorem v150_4 : VS L150_4.eq_1 := rfl
def L150_5 : List AStep := ⟨.mov (.t 1), (some 7), none, []⟩ :: ⟨.mov (.t 0), (some 8), none, []⟩ :: L150_4
theorem v150_5 : VS L150_5.eq_1 := rfl
def C150_0 : ACode := .seq (.reg L150_5) .ret
theorem u150_0 : VC C150_0.eq_1 := rfl
def C150_1 : ACode := .seq (.reg L150_0) C150_0
theorem u150_1 : VC C150_1.eq_1 := rfl
def F150 : AFunc := ⟨15, [.tmp 6], C150_1⟩
theorem cF150 : compB Try.prog 150 = some F150 := by kernel_rfl
attribute [local go_sem ↓] u150_0 u150_1 v150_0 v150_1 v150_2 v150_3 v150_4 v150_5
theorem c_inRange (n lo hi : Int) (h : H) : bm Try.prog 150 [.one (.int .i64 n), .one (.int .i64 lo), .one (.int .i64 hi)] h = some (ib (decide (lo ≤ n) && decide (n ≤ hi)), h) := by
  refine bm_eq cF150 ?_
  simp +contextual (maxSteps := 2000000) only [go_sem, Nat.reduceEqDiff, reduceCtorEq, Nat.reduceAdd, Nat.reduceLeDiff, F150]
  cases decide (lo ≤ n) <;> simp
/-! spec.validNumber -/
def L145_0 : List AStep := [⟨.mov (.c (.bool false)), (some 2), none, []⟩]
theorem v145_0 : VS L145_0.eq_1 := rfl
def L145_1 : List AStep := [⟨.mov (.t 4), (some 2), none, []⟩]
theorem v145_1 : VS L145_1.eq_1 := rfl
def L145_2 : List AStep := ⟨.mov (.t 0), (some 3), none, []⟩ :: ⟨.call 150 [(.t 3), (.c (.int .i64 (-99))), (.c (.int .i64 99))], (some 4), none, []⟩ :: L145_1
theorem v145_2 : VS L145_2.eq_1 := rfl
def C145_0 : ACode := .seq (.reg L145_2) .ret
theorem u145_0 : VC C145_0.eq_1 := rfl
def C145_1 : ACode := .seq (.reg L145_0) C145_0
theorem u145_1 : VC C145_1.eq_1 := rfl
def F145 : AFunc := ⟨5, [.tmp 2], C145_1⟩
theorem cF145 : compB Try.prog 145 = some F145 := by kernel_rfl
attribute [local go_sem ↓] u145_0 u145_1 v145_0 v145_1 v145_2
theorem c_validNumber (n : Int) (h : H) : bm Try.prog 145 [.one (.int .i64 n)] h = some (ib (okNum n), h) := by
  refine bm_eq cF145 ?_
  simp +contextual (maxSteps := 2000000) only [go_sem, Nat.reduceEqDiff, reduceCtorEq, Nat.reduceAdd, Nat.reduceLeDiff, F145, c_inRange, okNum]
/-! spec.validNumbers -/
def L122_0 : List AStep := [⟨.mov (.c (.bool false)), (some 2), none, []⟩]
theorem v122_0 : VS L122_0.eq_1 := rfl
def L122_1 : List AStep := [⟨.mov (.c (.int .i64 0)), (some 3), none, []⟩]
theorem v122_1 : VS L122_1.eq_1 := rfl
def L122_2 : List AStep := [⟨.len (.t 5), (some 6), none, []⟩, ⟨.bin .lss (.t 4) (.t 6), (some 7), none, []⟩]
theorem v122_2 : VS L122_2.eq_1 := rfl
def L122_3 : List AStep := ⟨.mov (.t 3), (some 4), none, []⟩ :: ⟨.mov (.t 0), (some 5), none, []⟩ :: L122_2
theorem v122_3 : VS L122_3.eq_1 := rfl
def L122_4 : List AStep := [⟨.call 145 [(.t 13)], (some 14), none, []⟩, ⟨.not (.t 14), (some 15), none, []⟩]
theorem v122_4 : VS L122_4.eq_1 := rfl
def L122_5 : List AStep := ⟨.iaddr 1 (.t 10) (.t 11), (some 12), none, []⟩ :: ⟨.load 1 false (.t 12), (some 13), none, []⟩ :: L122_4
theorem v122_5 : VS L122_5.eq_1 := rfl
def L122_6 : List AStep := ⟨.mov (.t 0), (some 10), none, []⟩ :: ⟨.mov (.t 3), (some 11), none, []⟩ :: L122_5
theorem v122_6 : VS L122_6.eq_1 := rfl
def L122_7 : List AStep := [⟨.mov (.c (.bool false)), (some 2), none, []⟩]
theorem v122_7 : VS L122_7.eq_1 := rfl
def L122_8 : List AStep := [⟨.mov (.t 9), (some 3), none, []⟩]
theorem v122_8 : VS L122_8.eq_1 := rfl
def L122_9 : List AStep := ⟨.mov (.t 3), (some 8), none, []⟩ :: ⟨.bin .add (.t 8) (.c (.int .i64 1)), (some 9), none, []⟩ :: L122_8
theorem v122_9 : VS L122_9.eq_1 := rfl
def L122_10 : List AStep := [⟨.mov (.c (.bool true)), (some 2), none, []⟩]
theorem v122_10 : VS L122_10.eq_1 := rfl
def C122_0 : ACode := .cond (.t 7) .skip (.exit 0)
theorem u122_0 : VC C122_0.eq_1 := rfl
def C122_1 : ACode := .seq (.reg L122_3) C122_0
theorem u122_1 : VC C122_1.eq_1 := rfl
def C122_2 : ACode := .seq (.reg L122_7) .ret
theorem u122_2 : VC C122_2.eq_1 := rfl
def C122_3 : ACode := .cond (.t 15) C122_2 .skip
theorem u122_3 : VC C122_3.eq_1 := rfl
def C122_4 : ACode := .seq (.reg L122_6) C122_3
theorem u122_4 : VC C122_4.eq_1 := rfl
def C122_5 : ACode := .block 1 C122_4
theorem u122_5 : VC C122_5.eq_1 := rfl
def C122_6 : ACode := .seq C122_5 (.reg L122_9)
theorem u122_6 : VC C122_6.eq_1 := rfl
def C122_7 : ACode := .seq C122_1 C122_6
theorem u122_7 : VC C122_7.eq_1 := rfl
def C122_8 : ACode := .block 0 (.loop C122_7)
theorem u122_8 : VC C122_8.eq_1 := rfl
def C122_9 : ACode := .seq (.reg L122_1) C122_8
theorem u122_9 : VC C122_9.eq_1 := rfl
def C122_10 : ACode := .seq (.reg L122_10) .ret
theorem u122_10 : VC C122_10.eq_1 := rfl
def C122_11 : ACode := .seq C122_9 C122_10
theorem u122_11 : VC C122_11.eq_1 := rfl
def C122_12 : ACode := .seq (.reg L122_0) C122_11
theorem u122_12 : VC C122_12.eq_1 := rfl
def F122 : AFunc := ⟨16, [.tmp 2], C122_12⟩
theorem cF122 : compB Try.prog 122 = some F122 := by kernel_rfl
attribute [local go_sem ↓] u122_0 u122_1 u122_2 u122_3 u122_4 u122_5 u122_6 u122_7 u122_8 u122_9 u122_10 u122_11 u122_12 v122_0 v122_1 v122_2 v122_3 v122_4 v122_5 v122_6 v122_7 v122_8 v122_9 v122_10
theorem c_validNumbers (l : List Int) (v : AV) (h : H) (hl : SlI h v l) (hn : l.length ≤ big) : bm Try.prog 122 [v] h = some (ib (l.all okNum), h) := by
  refine bm_eq cF122 ?_
  simp +contextual (maxSteps := 2000000) only [go_sem, Nat.reduceEqDiff, reduceCtorEq, Nat.reduceAdd, Nat.reduceLeDiff, F122]
  refine wpC_loop (fun i T L h' => h' = h ∧ T 0 = .v v ∧ T 3 = .v (.one (.int .i64 i)) ∧ Pre okNum true l i) l.length ?_ ?_ (Nat.zero_le _) ?_
  · rintro i T L h' hi ⟨rfl, h0, h3, hp⟩
    simp +contextual (maxSteps := 2000000) only [go_sem, Nat.reduceEqDiff, reduceCtorEq, Nat.reduceAdd, Nat.reduceLeDiff, h0, h3, hl.len, hl.iaddr hi, hl.oneO hi, c_validNumber, lt_true hi]
    (repeat' (first | refine And.intro ?_ ?_ | intro _)) <;> first | rfl | rw [wrap_next hi (big_lt hn)] | exact hp.next hi ‹_› | rw [all_stop hi ‹_›]
  · rintro T L h' ⟨rfl, h0, h3, hp⟩
    simp +contextual (maxSteps := 2000000) only [go_sem, Nat.reduceEqDiff, reduceCtorEq, Nat.reduceAdd, Nat.reduceLeDiff, h0, h3, hl.len, lt_false, hp.all]
  · simp +contextual (maxSteps := 2000000) only [go_sem, Nat.reduceEqDiff, reduceCtorEq, Nat.reduceAdd, Nat.reduceLeDiff]
    (repeat' (first | refine And.intro ?_ ?_ | intro _)) <;> first | rfl | exact Pre.zero
/-! spec.pairAt -/
def L116_0 : List AStep := [⟨.mov (.c (.int .i64 0)), (some 4), none, []⟩]
theorem v116_0 : VS L116_0.eq_1 := rfl
def L116_1 : List AStep := [⟨.mov (.c (.int .i64 0)), (some 5), none, []⟩]
theorem v116_1 : VS L116_1.eq_1 := rfl
def L116_2 : List AStep := [⟨.len (.t 7), (some 8), none, []⟩, ⟨.bin .lss (.t 6) (.t 8), (some 9), none, []⟩]
theorem v116_2 : VS L116_2.eq_1 := rfl
def L116_3 : List AStep := ⟨.mov (.t 5), (some 6), none, []⟩ :: ⟨.mov (.t 0), (some 7), none, []⟩ :: L116_2
theorem v116_3 : VS L116_3.eq_1 := rfl
def L116_4 : List AStep := [⟨.bin .eql (.t 16) (.t 17), (some 18), none, []⟩]
theorem v116_4 : VS L116_4.eq_1 := rfl
def L116_5 : List AStep := ⟨.load 1 false (.t 15), (some 16), none, []⟩ :: ⟨.mov (.t 1), (some 17), none, []⟩ :: L116_4
theorem v116_5 : VS L116_5.eq_1 := rfl
def L116_6 : List AStep := ⟨.iaddr 2 (.t 12) (.t 13), (some 14), none, []⟩ :: ⟨.faddr 0 (.t 14), (some 15), none, []⟩ :: L116_5
theorem v116_6 : VS L116_6.eq_1 := rfl
def L116_7 : List AStep := ⟨.mov (.t 0), (some 12), none, []⟩ :: ⟨.mov (.t 5), (some 13), none, []⟩ :: L116_6
theorem v116_7 : VS L116_7.eq_1 := rfl
def L116_8 : List AStep := [⟨.mov (.t 5), (some 19), none, []⟩, ⟨.mov (.t 19), (some 4), none, []⟩]
theorem v116_8 : VS L116_8.eq_1 := rfl
def L116_9 : List AStep := [⟨.mov (.t 11), (some 5), none, []⟩]
theorem v116_9 : VS L116_9.eq_1 := rfl
def L116_10 : List AStep := ⟨.mov (.t 5), (some 10), none, []⟩ :: ⟨.bin .add (.t 10) (.c (.int .i64 1)), (some 11), none, []⟩ :: L116_9
theorem v116_10 : VS L116_10.eq_1 := rfl
def L116_11 : List AStep := [⟨.mov (.c (.int .i64 (-1))), (some 4), none, []⟩]
theorem v116_11 : VS L116_11.eq_1 := rfl
def C116_0 : ACode := .cond (.t 9) .skip (.exit 0)
theorem u116_0 : VC C116_0.eq_1 := rfl
def C116_1 : ACode := .seq (.reg L116_3) C116_0
theorem u116_1 : VC C116_1.eq_1 := rfl
def C116_2 : ACode := .seq (.reg L116_8) .ret
theorem u116_2 : VC C116_2.eq_1 := rfl
def C116_3 : ACode := .cond (.t 18) C116_2 .skip
theorem u116_3 : VC C116_3.eq_1 := rfl
def C116_4 : ACode := .seq (.reg L116_7) C116_3
theorem u116_4 : VC C116_4.eq_1 := rfl
def C116_5 : ACode := .block 1 C116_4
theorem u116_5 : VC C116_5.eq_1 := rfl
def C116_6 : ACode := .seq C116_5 (.reg L116_10)
theorem u116_6 : VC C116_6.eq_1 := rfl
def C116_7 : ACode := .seq C116_1 C116_6
theorem u116_7 : VC C116_7.eq_1 := rfl
def C116_8 : ACode := .block 0 (.loop C116_7)
theorem u116_8 : VC C116_8.eq_1 := rfl
def C116_9 : ACode := .seq (.reg L116_1) C116_8
theorem u116_9 : VC C116_9.eq_1 := rfl
def C116_10 : ACode := .seq (.reg L116_11) .ret
theorem u116_10 : VC C116_10.eq_1 := rfl
def C116_11 : ACode := .seq C116_9 C116_10
theorem u116_11 : VC C116_11.eq_1 := rfl
def C116_12 : ACode := .seq (.reg L116_0) C116_11
theorem u116_12 : VC C116_12.eq_1 := rfl
def F116 : AFunc := ⟨20, [.tmp 4], C116_12⟩
theorem cF116 : compB Try.prog 116 = some F116 := by kernel_rfl
attribute [local go_sem ↓] u116_0 u116_1 u116_2 u116_3 u116_4 u116_5 u116_6 u116_7 u116_8 u116_9 u116_10 u116_11 u116_12 v116_0 v116_1 v116_2 v116_3 v116_4 v116_5 v116_6 v116_7 v116_8 v116_9 v116_10 v116_11
theorem c_pairAt (l : List Pair) (v : AV) (s : ByteArray) (h : H) (hl : SlP h v l) (hn : smP l) : bm Try.prog 116 [v, .one (.str s)] h = some (ii (pairAt l s), h) := by
  refine bm_eq cF116 ?_
  simp +contextual (maxSteps := 2000000) only [go_sem, Nat.reduceEqDiff, reduceCtorEq, Nat.reduceAdd, Nat.reduceLeDiff, F116]
  refine wpC_loop (fun i T L h' => h' = h ∧ T 0 = .v v ∧ T 1 = .v (.one (.str s)) ∧ T 5 = .v (.one (.int .i64 i)) ∧ Pre (fun p => decide (p.name = s)) false l i) l.length ?_ ?_ (Nat.zero_le _) ?_
  · rintro i T L h' hi ⟨rfl, h0, h1, h3, hp⟩
    simp +contextual (maxSteps := 2000000) only [go_sem, Nat.reduceEqDiff, reduceCtorEq, Nat.reduceAdd, Nat.reduceLeDiff, h0, h1, h3, hl.len, hl.iaddr hi, hl.fieldO hi, lt_true hi]
    (repeat' (first | refine And.intro ?_ ?_ | intro _)) <;> first | rfl | rw [wrap_next hi hn.len] | exact hp.next hi ‹_› | rw [pairAt, idx_hit hi hp ‹_›]
  · rintro T L h' ⟨rfl, h0, h1, h3, hp⟩
    simp +contextual (maxSteps := 2000000) only [go_sem, Nat.reduceEqDiff, reduceCtorEq, Nat.reduceAdd, Nat.reduceLeDiff, h0, h1, h3, hl.len, lt_false, pairAt, idx_none hp]
  · simp +contextual (maxSteps := 2000000) only [go_sem, Nat.reduceEqDiff, reduceCtorEq, Nat.reduceAdd, Nat.reduceLeDiff]
    (repeat' (first | refine And.intro ?_ ?_ | intro _)) <;> first | rfl | exact Pre.zero
/-! spec.validName -/
def L146_0 : List AStep := [⟨.mov (.c (.bool false)), (some 2), none, []⟩]
theorem v146_0 : VS L146_0.eq_1 := rfl
def L146_1 : List AStep := [⟨.mov (.c (.int .i64 0)), (some 3), none, []⟩]
theorem v146_1 : VS L146_1.eq_1 := rfl
def L146_2 : List AStep := [⟨.lenStr (.t 5), (some 6), none, []⟩, ⟨.bin .lss (.t 4) (.t 6), (some 7), none, []⟩]
theorem v146_2 : VS L146_2.eq_1 := rfl
def L146_3 : List AStep := ⟨.mov (.t 3), (some 4), none, []⟩ :: ⟨.mov (.t 0), (some 5), none, []⟩ :: L146_2
theorem v146_3 : VS L146_3.eq_1 := rfl
def L146_4 : List AStep := [⟨.bin .gtr (.t 17) (.c (.int .u8 122)), (some 18), (some (14, false)), []⟩, ⟨.pick (.t 14) (.c (.bool true)) (.t 18), (some 19), none, []⟩]
theorem v146_4 : VS L146_4.eq_1 := rfl
def L146_5 : List AStep := ⟨.mov (.t 3), (some 16), (some (14, false)), []⟩ :: ⟨.idxStr (.t 15) (.t 16), (some 17), (some (14, false)), []⟩ :: L146_4
theorem v146_5 : VS L146_5.eq_1 := rfl
def L146_6 : List AStep := ⟨.mov (.t 13), (some 14), none, []⟩ :: ⟨.mov (.t 0), (some 15), (some (14, false)), []⟩ :: L146_5
theorem v146_6 : VS L146_6.eq_1 := rfl
def L146_7 : List AStep := ⟨.idxStr (.t 10) (.t 11), (some 12), none, []⟩ :: ⟨.bin .lss (.t 12) (.c (.int .u8 97)), (some 13), none, []⟩ :: L146_6
theorem v146_7 : VS L146_7.eq_1 := rfl
def L146_8 : List AStep := ⟨.mov (.t 0), (some 10), none, []⟩ :: ⟨.mov (.t 3), (some 11), none, []⟩ :: L146_7
theorem v146_8 : VS L146_8.eq_1 := rfl
def L146_9 : List AStep := [⟨.mov (.c (.bool false)), (some 2), none, []⟩]
theorem v146_9 : VS L146_9.eq_1 := rfl
def L146_10 : List AStep := [⟨.mov (.t 9), (some 3), none, []⟩]
theorem v146_10 : VS L146_10.eq_1 := rfl
def L146_11 : List AStep := ⟨.mov (.t 3), (some 8), none, []⟩ :: ⟨.bin .add (.t 8) (.c (.int .i64 1)), (some 9), none, []⟩ :: L146_10
theorem v146_11 : VS L146_11.eq_1 := rfl
def L146_12 : List AStep := [⟨.call 150 [(.t 21), (.c (.int .i64 1)), (.c (.int .i64 6))], (some 22), none, []⟩, ⟨.mov (.t 22), (some 2), none, []⟩]
theorem v146_12 : VS L146_12.eq_1 := rfl
def L146_13 : List AStep := ⟨.mov (.t 0), (some 20), none, []⟩ :: ⟨.lenStr (.t 20), (some 21), none, []⟩ :: L146_12
theorem v146_13 : VS L146_13.eq_1 := rfl
def C146_0 : ACode := .cond (.t 7) .skip (.exit 0)
theorem u146_0 : VC C146_0.eq_1 := rfl
def C146_1 : ACode := .seq (.reg L146_3) C146_0
theorem u146_1 : VC C146_1.eq_1 := rfl
def C146_2 : ACode := .seq (.reg L146_9) .ret
theorem u146_2 : VC C146_2.eq_1 := rfl
def C146_3 : ACode := .cond (.t 19) C146_2 .skip
theorem u146_3 : VC C146_3.eq_1 := rfl
def C146_4 : ACode := .seq (.reg L146_8) C146_3
theorem u146_4 : VC C146_4.eq_1 := rfl
def C146_5 : ACode := .block 1 C146_4
theorem u146_5 : VC C146_5.eq_1 := rfl
def C146_6 : ACode := .seq C146_5 (.reg L146_11)
theorem u146_6 : VC C146_6.eq_1 := rfl
def C146_7 : ACode := .seq C146_1 C146_6
theorem u146_7 : VC C146_7.eq_1 := rfl
def C146_8 : ACode := .block 0 (.loop C146_7)
theorem u146_8 : VC C146_8.eq_1 := rfl
def C146_9 : ACode := .seq (.reg L146_1) C146_8
theorem u146_9 : VC C146_9.eq_1 := rfl
def C146_10 : ACode := .seq (.reg L146_13) .ret
theorem u146_10 : VC C146_10.eq_1 := rfl
def C146_11 : ACode := .seq C146_9 C146_10
theorem u146_11 : VC C146_11.eq_1 := rfl
def C146_12 : ACode := .seq (.reg L146_0) C146_11
theorem u146_12 : VC C146_12.eq_1 := rfl
def F146 : AFunc := ⟨23, [.tmp 2], C146_12⟩
theorem cF146 : compB Try.prog 146 = some F146 := by kernel_rfl
attribute [local go_sem ↓] u146_0 u146_1 u146_2 u146_3 u146_4 u146_5 u146_6 u146_7 u146_8 u146_9 u146_10 u146_11 u146_12 v146_0 v146_1 v146_2 v146_3 v146_4 v146_5 v146_6 v146_7 v146_8 v146_9 v146_10 v146_11 v146_12 v146_13
theorem c_validName (s : ByteArray) (h : H) (hn : s.size < 2 ^ 62) : bm Try.prog 146 [.one (.str s)] h = some (ib (okName s), h) := by
  refine bm_eq cF146 ?_
  simp +contextual (maxSteps := 2000000) only [go_sem, Nat.reduceEqDiff, reduceCtorEq, Nat.reduceAdd, Nat.reduceLeDiff, F146]
  have hsz : s.data.toList.length = s.size := Array.length_toList
  refine wpC_loop (fun i T L h' => h' = h ∧ T 0 = .v (.one (.str s)) ∧ T 3 = .v (.one (.int .i64 i)) ∧ Pre isLow true s.data.toList i) s.size ?_ ?_ (Nat.zero_le _) ?_
  · rintro i T L h' hi ⟨rfl, h0, h3, hp⟩
    simp +contextual (maxSteps := 2000000) only [go_sem, Nat.reduceEqDiff, reduceCtorEq, Nat.reduceAdd, Nat.reduceLeDiff, h0, h3, idx_at hi, lt_true hi]
    have e : s.data.toList[i]'(by omega) = s.data[i]'hi := Array.getElem_toList _
    have bad : isLow (s.data[i]'hi) = false → okName s = false := fun hx => by
      unfold okName
      rw [all_stop (l := s.data.toList) (i := i) (by omega) (by rw [e]; exact hx)]
      rfl
    have low : isLow (s.data[i]'hi) = (!(decide ((↑(s.data[i]'hi).toNat : Int) < 97)) && !(decide ((↑(s.data[i]'hi).toNat : Int) > 122))) := by
      unfold isLow
      rw [Bool.eq_iff_iff]
      simp
      omega
    (repeat' (first | refine And.intro ?_ ?_ | intro _)) <;> first | rfl | rw [wrap_next hi hn] | exact hp.next (by omega) (by rw [e, low]; simp_all) | rw [bad (by rw [low]; simp_all)]
  · rintro T L h' ⟨rfl, h0, h3, hp⟩
    rw [← hsz] at hp
    simp +contextual (maxSteps := 2000000) only [go_sem, Nat.reduceEqDiff, reduceCtorEq, Nat.reduceAdd, Nat.reduceLeDiff, h0, h3, lt_false, c_inRange, okName, hp.all, Bool.true_and]
  · simp +contextual (maxSteps := 2000000) only [go_sem, Nat.reduceEqDiff, reduceCtorEq, Nat.reduceAdd, Nat.reduceLeDiff]
    (repeat' (first | refine And.intro ?_ ?_ | intro _)) <;> first | rfl | exact Pre.zero
/-! spec.validPairs -/
def L123_0 : List AStep := [⟨.mov (.c (.bool false)), (some 2), none, []⟩]
theorem v123_0 : VS L123_0.eq_1 := rfl
def L123_1 : List AStep := [⟨.mov (.c (.int .i64 0)), (some 3), none, []⟩]
theorem v123_1 : VS L123_1.eq_1 := rfl
def L123_2 : List AStep := [⟨.len (.t 5), (some 6), none, []⟩, ⟨.bin .lss (.t 4) (.t 6), (some 7), none, []⟩]
theorem v123_2 : VS L123_2.eq_1 := rfl
def L123_3 : List AStep := ⟨.mov (.t 3), (some 4), none, []⟩ :: ⟨.mov (.t 0), (some 5), none, []⟩ :: L123_2
theorem v123_3 : VS L123_3.eq_1 := rfl
def L123_4 : List AStep := [⟨.not (.t 23), (some 24), (some (17, false)), []⟩, ⟨.pick (.t 17) (.c (.bool true)) (.t 24), (some 25), none, []⟩]
theorem v123_4 : VS L123_4.eq_1 := rfl
def L123_5 : List AStep := ⟨.load 1 false (.t 21), (some 22), (some (17, false)), []⟩ :: ⟨.call 145 [(.t 22)], (some 23), (some (17, false)), []⟩ :: L123_4
theorem v123_5 : VS L123_5.eq_1 := rfl
def L123_6 : List AStep := ⟨.iaddr 2 (.t 18) (.t 19), (some 20), (some (17, false)), []⟩ :: ⟨.faddr 1 (.t 20), (some 21), (some (17, false)), []⟩ :: L123_5
theorem v123_6 : VS L123_6.eq_1 := rfl
def L123_7 : List AStep := ⟨.mov (.t 0), (some 18), (some (17, false)), []⟩ :: ⟨.mov (.t 3), (some 19), (some (17, false)), []⟩ :: L123_6
theorem v123_7 : VS L123_7.eq_1 := rfl
def L123_8 : List AStep := ⟨.not (.t 15), (some 16), none, []⟩ :: ⟨.mov (.t 16), (some 17), none, []⟩ :: L123_7
theorem v123_8 : VS L123_8.eq_1 := rfl
def L123_9 : List AStep := ⟨.load 1 false (.t 13), (some 14), none, []⟩ :: ⟨.call 146 [(.t 14)], (some 15), none, []⟩ :: L123_8
theorem v123_9 : VS L123_9.eq_1 := rfl
def L123_10 : List AStep := ⟨.iaddr 2 (.t 10) (.t 11), (some 12), none, []⟩ :: ⟨.faddr 0 (.t 12), (some 13), none, []⟩ :: L123_9
theorem v123_10 : VS L123_10.eq_1 := rfl
def L123_11 : List AStep := ⟨.mov (.t 0), (some 10), none, []⟩ :: ⟨.mov (.t 3), (some 11), none, []⟩ :: L123_10
theorem v123_11 : VS L123_11.eq_1 := rfl
def L123_12 : List AStep := [⟨.mov (.c (.bool false)), (some 2), none, []⟩]
theorem v123_12 : VS L123_12.eq_1 := rfl
def L123_13 : List AStep := [⟨.mov (.t 9), (some 3), none, []⟩]
theorem v123_13 : VS L123_13.eq_1 := rfl
def L123_14 : List AStep := ⟨.mov (.t 3), (some 8), none, []⟩ :: ⟨.bin .add (.t 8) (.c (.int .i64 1)), (some 9), none, []⟩ :: L123_13
theorem v123_14 : VS L123_14.eq_1 := rfl
def L123_15 : List AStep := [⟨.mov (.c (.bool true)), (some 2), none, []⟩]
theorem v123_15 : VS L123_15.eq_1 := rfl
def C123_0 : ACode := .cond (.t 7) .skip (.exit 0)
theorem u123_0 : VC C123_0.eq_1 := rfl
def C123_1 : ACode := .seq (.reg L123_3) C123_0
theorem u123_1 : VC C123_1.eq_1 := rfl
def C123_2 : ACode := .seq (.reg L123_12) .ret
theorem u123_2 : VC C123_2.eq_1 := rfl
def C123_3 : ACode := .cond (.t 25) C123_2 .skip
theorem u123_3 : VC C123_3.eq_1 := rfl
def C123_4 : ACode := .seq (.reg L123_11) C123_3
theorem u123_4 : VC C123_4.eq_1 := rfl
def C123_5 : ACode := .block 1 C123_4
theorem u123_5 : VC C123_5.eq_1 := rfl
def C123_6 : ACode := .seq C123_5 (.reg L123_14)
theorem u123_6 : VC C123_6.eq_1 := rfl
def C123_7 : ACode := .seq C123_1 C123_6
theorem u123_7 : VC C123_7.eq_1 := rfl
def C123_8 : ACode := .block 0 (.loop C123_7)
theorem u123_8 : VC C123_8.eq_1 := rfl
def C123_9 : ACode := .seq (.reg L123_1) C123_8
theorem u123_9 : VC C123_9.eq_1 := rfl
def C123_10 : ACode := .seq (.reg L123_15) .ret
theorem u123_10 : VC C123_10.eq_1 := rfl
def C123_11 : ACode := .seq C123_9 C123_10
theorem u123_11 : VC C123_11.eq_1 := rfl
def C123_12 : ACode := .seq (.reg L123_0) C123_11
theorem u123_12 : VC C123_12.eq_1 := rfl
def F123 : AFunc := ⟨26, [.tmp 2], C123_12⟩
theorem cF123 : compB Try.prog 123 = some F123 := by kernel_rfl
attribute [local go_sem ↓] u123_0 u123_1 u123_2 u123_3 u123_4 u123_5 u123_6 u123_7 u123_8 u123_9 u123_10 u123_11 u123_12 v123_0 v123_1 v123_2 v123_3 v123_4 v123_5 v123_6 v123_7 v123_8 v123_9 v123_10 v123_11 v123_12 v123_13 v123_14 v123_15
theorem c_validPairs (l : List Pair) (v : AV) (h : H) (hl : SlP h v l) (hn : smP l) : bm Try.prog 123 [v] h = some (ib (l.all okPair), h) := by
  refine bm_eq cF123 ?_
  simp +contextual (maxSteps := 2000000) only [go_sem, Nat.reduceEqDiff, reduceCtorEq, Nat.reduceAdd, Nat.reduceLeDiff, F123]
  refine wpC_loop (fun i T L h' => h' = h ∧ T 0 = .v v ∧ T 3 = .v (.one (.int .i64 i)) ∧ Pre okPair true l i) l.length ?_ ?_ (Nat.zero_le _) ?_
  · rintro i T L h' hi ⟨rfl, h0, h3, hp⟩
    simp +contextual (maxSteps := 2000000) only [go_sem, Nat.reduceEqDiff, reduceCtorEq, Nat.reduceAdd, Nat.reduceLeDiff, h0, h3, hl.len, hl.iaddr hi, hl.fieldO hi, c_validNumber, c_validName _ _ (hn.at hi), lt_true hi]
    (repeat' (first | refine And.intro ?_ ?_ | intro _)) <;> first | rfl | rw [wrap_next hi hn.len] | exact hp.next hi (by simp [okPair, *]) | rw [all_stop hi (by simp [okPair, *])]
  · rintro T L h' ⟨rfl, h0, h3, hp⟩
    simp +contextual (maxSteps := 2000000) only [go_sem, Nat.reduceEqDiff, reduceCtorEq, Nat.reduceAdd, Nat.reduceLeDiff, h0, h3, hl.len, lt_false, hp.all]
  · simp +contextual (maxSteps := 2000000) only [go_sem, Nat.reduceEqDiff, reduceCtorEq, Nat.reduceAdd, Nat.reduceLeDiff]
    (repeat' (first | refine And.intro ?_ ?_ | intro _)) <;> first | rfl | exact Pre.zero
/-! spec.validFlat -/
def L78_0 : List AStep := [⟨.box 29 (.t 0), (some 1), none, []⟩, ⟨.mov (.c (.bool false)), (some 2), none, []⟩]
theorem v78_0 : VS L78_0.eq_1 := rfl
def L78_1 : List AStep := [⟨.mov (.c (.int .i64 0)), (some 3), none, []⟩]
theorem v78_1 : VS L78_1.eq_1 := rfl
def L78_2 : List AStep := [⟨.bin .lss (.t 4) (.t 7), (some 8), none, []⟩]
theorem v78_2 : VS L78_2.eq_1 := rfl
def L78_3 : List AStep := ⟨.load 1 false (.t 5), (some 6), none, []⟩ :: ⟨.len (.t 6), (some 7), none, []⟩ :: L78_2
theorem v78_3 : VS L78_3.eq_1 := rfl
def L78_4 : List AStep := ⟨.mov (.t 3), (some 4), none, []⟩ :: ⟨.faddr 1 (.t 1), (some 5), none, []⟩ :: L78_3
theorem v78_4 : VS L78_4.eq_1 := rfl
def L78_5 : List AStep := [⟨.call 116 [(.t 14), (.t 20)], (some 21), none, []⟩, ⟨.bin .geq (.t 21) (.c (.int .i64 0)), (some 22), none, []⟩]
theorem v78_5 : VS L78_5.eq_1 := rfl
def L78_6 : List AStep := ⟨.faddr 0 (.t 18), (some 19), none, []⟩ :: ⟨.load 1 false (.t 19), (some 20), none, []⟩ :: L78_5
theorem v78_6 : VS L78_6.eq_1 := rfl
def L78_7 : List AStep := ⟨.mov (.t 3), (some 17), none, []⟩ :: ⟨.iaddr 2 (.t 16) (.t 17), (some 18), none, []⟩ :: L78_6
theorem v78_7 : VS L78_7.eq_1 := rfl
def L78_8 : List AStep := ⟨.faddr 1 (.t 1), (some 15), none, []⟩ :: ⟨.load 1 false (.t 15), (some 16), none, []⟩ :: L78_7
theorem v78_8 : VS L78_8.eq_1 := rfl
def L78_9 : List AStep := ⟨.mov (.t 3), (some 13), none, []⟩ :: ⟨.slice 93 2 (.t 12) none (some (.t 13)) none, (some 14), none, []⟩ :: L78_8
theorem v78_9 : VS L78_9.eq_1 := rfl
def L78_10 : List AStep := ⟨.faddr 1 (.t 1), (some 11), none, []⟩ :: ⟨.load 1 false (.t 11), (some 12), none, []⟩ :: L78_9
theorem v78_10 : VS L78_10.eq_1 := rfl
def L78_11 : List AStep := [⟨.mov (.c (.bool false)), (some 2), none, []⟩]
theorem v78_11 : VS L78_11.eq_1 := rfl
def L78_12 : List AStep := [⟨.mov (.t 10), (some 3), none, []⟩]
theorem v78_12 : VS L78_12.eq_1 := rfl
def L78_13 : List AStep := ⟨.mov (.t 3), (some 9), none, []⟩ :: ⟨.bin .add (.t 9) (.c (.int .i64 1)), (some 10), none, []⟩ :: L78_12
theorem v78_13 : VS L78_13.eq_1 := rfl
def L78_14 : List AStep := [⟨.mov (.t 42), (some 2), none, []⟩]
theorem v78_14 : VS L78_14.eq_1 := rfl
def L78_15 : List AStep := ⟨.bin .leq (.t 40) (.c (.int .i64 8)), (some 41), (some (37, true)), []⟩ :: ⟨.pick (.t 37) (.t 41) (.c (.bool false)), (some 42), none, []⟩ :: L78_14
theorem v78_15 : VS L78_15.eq_1 := rfl
def L78_16 : List AStep := ⟨.load 1 false (.t 38), (some 39), (some (37, true)), []⟩ :: ⟨.len (.t 39), (some 40), (some (37, true)), []⟩ :: L78_15
theorem v78_16 : VS L78_16.eq_1 := rfl
def L78_17 : List AStep := ⟨.mov (.t 36), (some 37), none, []⟩ :: ⟨.faddr 1 (.t 1), (some 38), (some (37, true)), []⟩ :: L78_16
theorem v78_17 : VS L78_17.eq_1 := rfl
def L78_18 : List AStep := ⟨.bin .leq (.t 34) (.c (.int .i64 8)), (some 35), (some (31, true)), []⟩ :: ⟨.pick (.t 31) (.t 35) (.c (.bool false)), (some 36), none, []⟩ :: L78_17
theorem v78_18 : VS L78_18.eq_1 := rfl
def L78_19 : List AStep := ⟨.load 1 false (.t 32), (some 33), (some (31, true)), []⟩ :: ⟨.len (.t 33), (some 34), (some (31, true)), []⟩ :: L78_18
theorem v78_19 : VS L78_19.eq_1 := rfl
def L78_20 : List AStep := ⟨.mov (.t 30), (some 31), none, []⟩ :: ⟨.faddr 0 (.t 1), (some 32), (some (31, true)), []⟩ :: L78_19
theorem v78_20 : VS L78_20.eq_1 := rfl
def L78_21 : List AStep := ⟨.call 123 [(.t 28)], (some 29), (some (26, true)), []⟩ :: ⟨.pick (.t 26) (.t 29) (.c (.bool false)), (some 30), none, []⟩ :: L78_20
theorem v78_21 : VS L78_21.eq_1 := rfl
def L78_22 : List AStep := ⟨.faddr 1 (.t 1), (some 27), (some (26, true)), []⟩ :: ⟨.load 1 false (.t 27), (some 28), (some (26, true)), []⟩ :: L78_21
theorem v78_22 : VS L78_22.eq_1 := rfl
def L78_23 : List AStep := ⟨.call 122 [(.t 24)], (some 25), none, []⟩ :: ⟨.mov (.t 25), (some 26), none, []⟩ :: L78_22
theorem v78_23 : VS L78_23.eq_1 := rfl
def L78_24 : List AStep := ⟨.faddr 0 (.t 1), (some 23), none, []⟩ :: ⟨.load 1 false (.t 23), (some 24), none, []⟩ :: L78_23
theorem v78_24 : VS L78_24.eq_1 := rfl
def C78_0 : ACode := .cond (.t 8) .skip (.exit 0)
theorem u78_0 : VC C78_0.eq_1 := rfl
def C78_1 : ACode := .seq (.reg L78_4) C78_0
theorem u78_1 : VC C78_1.eq_1 := rfl
def C78_2 : ACode := .seq (.reg L78_11) .ret
theorem u78_2 : VC C78_2.eq_1 := rfl
def C78_3 : ACode := .cond (.t 22) C78_2 .skip
theorem u78_3 : VC C78_3.eq_1 := rfl
def C78_4 : ACode := .seq (.reg L78_10) C78_3
theorem u78_4 : VC C78_4.eq_1 := rfl
def C78_5 : ACode := .block 1 C78_4
theorem u78_5 : VC C78_5.eq_1 := rfl
def C78_6 : ACode := .seq C78_5 (.reg L78_13)
theorem u78_6 : VC C78_6.eq_1 := rfl
def C78_7 : ACode := .seq C78_1 C78_6
theorem u78_7 : VC C78_7.eq_1 := rfl
def C78_8 : ACode := .block 0 (.loop C78_7)
theorem u78_8 : VC C78_8.eq_1 := rfl
def C78_9 : ACode := .seq (.reg L78_1) C78_8
theorem u78_9 : VC C78_9.eq_1 := rfl
def C78_10 : ACode := .seq (.reg L78_24) .ret
theorem u78_10 : VC C78_10.eq_1 := rfl
def C78_11 : ACode := .seq C78_9 C78_10
theorem u78_11 : VC C78_11.eq_1 := rfl
def C78_12 : ACode := .seq (.reg L78_0) C78_11
theorem u78_12 : VC C78_12.eq_1 := rfl
def F78 : AFunc := ⟨43, [.tmp 2], C78_12⟩
theorem cF78 : compB Try.prog 78 = some F78 := by kernel_rfl
attribute [local go_sem ↓] u78_0 u78_1 u78_2 u78_3 u78_4 u78_5 u78_6 u78_7 u78_8 u78_9 u78_10 u78_11 u78_12 v78_0 v78_1 v78_2 v78_3 v78_4 v78_5 v78_6 v78_7 v78_8 v78_9 v78_10 v78_11 v78_12 v78_13 v78_14 v78_15 v78_16 v78_17 v78_18 v78_19 v78_20 v78_21 v78_22 v78_23 v78_24
theorem c_validFlat (f : Flat) (pv nv : CV) (h : H) (hp : SlI h (.one pv) f.pl) (hq : SlP h (.one nv) f.nl) (hn : smF f) : bm Try.prog 78 [.agg [pv, nv]] h = some (ib (okFlat f), h) := by
  refine bm_eq cF78 ?_
  simp +contextual (maxSteps := 2000000) only [go_sem, Nat.reduceEqDiff, reduceCtorEq, Nat.reduceAdd, Nat.reduceLeDiff, F78]
  refine wpC_loop (fun i T L h' => h' = h ∧ T 1 = .lp 1 0 ∧ (L 1).2 = [pv, nv] ∧ T 3 = .v (.one (.int .i64 i)) ∧ Upto (newAt Pair.name f.nl) i) f.nl.length ?_ ?_ (Nat.zero_le _) ?_
  · rintro i T L h' hi ⟨rfl, t1, l1, t3, hu⟩
    obtain ⟨v', e1, s1⟩ := hq.takeO (i := i) (by omega) (kd := .i64)
    have e2 : decide (pairAt (f.nl.take i) f.nl[i].name ≥ 0) = !(newAt Pair.name f.nl i) := newAt_ge hi
    simp +contextual (maxSteps := 2000000) only [go_sem, Nat.reduceEqDiff, reduceCtorEq, Nat.reduceAdd, Nat.reduceLeDiff, e2, t1, l1, t3, hq.len, hq.iaddr hi, hq.fieldO hi, lt_true hi, e1, c_pairAt _ _ _ _ s1 (hn.nl.take i)]
    (repeat' (first | refine And.intro ?_ ?_ | intro _)) <;> first | rfl | rw [wrap_next hi hn.nl.len] | exact hu.next (by simp_all) | rw [okFlat, apart_not hi (by simp_all)]; rfl
  · rintro T L h' ⟨rfl, t1, l1, t3, hu⟩
    simp +contextual (maxSteps := 2000000) only [go_sem, Nat.reduceEqDiff, reduceCtorEq, Nat.reduceAdd, Nat.reduceLeDiff, t1, l1, t3, hq.len, hp.len, lt_false, c_validNumbers _ _ _ hp hn.pl, c_validPairs _ _ _ hq hn.nl, okFlat, apart_of hu]
    (repeat' (first | refine And.intro ?_ ?_ | intro _)) <;> first | rfl | simp_all
  · simp +contextual (maxSteps := 2000000) only [go_sem, Nat.reduceEqDiff, reduceCtorEq, Nat.reduceAdd, Nat.reduceLeDiff]
    (repeat' (first | refine And.intro ?_ ?_ | intro _)) <;> first | rfl | exact Upto.zero
/-! spec.byPlace -/
def L101_0 : List AStep := [⟨.box 44 (.t 0), (some 1), none, []⟩, ⟨.mov (.c (.bool false)), (some 2), none, []⟩]
theorem v101_0 : VS L101_0.eq_1 := rfl
def L101_1 : List AStep := [⟨.mov (.t 10), (some 2), none, []⟩]
theorem v101_1 : VS L101_1.eq_1 := rfl
def L101_2 : List AStep := ⟨.bin .eql (.t 8) (.c (.int .i64 1)), (some 9), (some (6, false)), []⟩ :: ⟨.pick (.t 6) (.c (.bool true)) (.t 9), (some 10), none, []⟩ :: L101_1
theorem v101_2 : VS L101_2.eq_1 := rfl
def L101_3 : List AStep := ⟨.faddr 1 (.t 1), (some 7), (some (6, false)), []⟩ :: ⟨.load 1 false (.t 7), (some 8), (some (6, false)), []⟩ :: L101_2
theorem v101_3 : VS L101_3.eq_1 := rfl
def L101_4 : List AStep := ⟨.bin .eql (.t 4) (.c (.int .i64 0)), (some 5), none, []⟩ :: ⟨.mov (.t 5), (some 6), none, []⟩ :: L101_3
theorem v101_4 : VS L101_4.eq_1 := rfl
def L101_5 : List AStep := ⟨.faddr 1 (.t 1), (some 3), none, []⟩ :: ⟨.load 1 false (.t 3), (some 4), none, []⟩ :: L101_4
theorem v101_5 : VS L101_5.eq_1 := rfl
def C101_0 : ACode := .seq (.reg L101_5) .ret
theorem u101_0 : VC C101_0.eq_1 := rfl
def C101_1 : ACode := .seq (.reg L101_0) C101_0
theorem u101_1 : VC C101_1.eq_1 := rfl
def F101 : AFunc := ⟨11, [.tmp 2], C101_1⟩
theorem cF101 : compB Try.prog 101 = some F101 := by kernel_rfl
attribute [local go_sem ↓] u101_0 u101_1 v101_0 v101_1 v101_2 v101_3 v101_4 v101_5
theorem c_byPlace (p : Param) (h : H) : bm Try.prog 101 [.agg (encQ p)] h = some (ib (byPlace p), h) := by
  refine bm_eq cF101 ?_
  simp +contextual (maxSteps := 2000000) only [go_sem, Nat.reduceEqDiff, reduceCtorEq, Nat.reduceAdd, Nat.reduceLeDiff, F101, byPlace]
  cases decide (p.kind = 0) <;> simp
/-! spec.byName -/
def L102_0 : List AStep := [⟨.box 44 (.t 0), (some 1), none, []⟩, ⟨.mov (.c (.bool false)), (some 2), none, []⟩]
theorem v102_0 : VS L102_0.eq_1 := rfl
def L102_1 : List AStep := [⟨.mov (.t 10), (some 2), none, []⟩]
theorem v102_1 : VS L102_1.eq_1 := rfl
def L102_2 : List AStep := ⟨.bin .eql (.t 8) (.c (.int .i64 3)), (some 9), (some (6, false)), []⟩ :: ⟨.pick (.t 6) (.c (.bool true)) (.t 9), (some 10), none, []⟩ :: L102_1
theorem v102_2 : VS L102_2.eq_1 := rfl
def L102_3 : List AStep := ⟨.faddr 1 (.t 1), (some 7), (some (6, false)), []⟩ :: ⟨.load 1 false (.t 7), (some 8), (some (6, false)), []⟩ :: L102_2
theorem v102_3 : VS L102_3.eq_1 := rfl
def L102_4 : List AStep := ⟨.bin .eql (.t 4) (.c (.int .i64 1)), (some 5), none, []⟩ :: ⟨.mov (.t 5), (some 6), none, []⟩ :: L102_3
theorem v102_4 : VS L102_4.eq_1 := rfl
def L102_5 : List AStep := ⟨.faddr 1 (.t 1), (some 3), none, []⟩ :: ⟨.load 1 false (.t 3), (some 4), none, []⟩ :: L102_4
theorem v102_5 : VS L102_5.eq_1 := rfl
def C102_0 : ACode := .seq (.reg L102_5) .ret
theorem u102_0 : VC C102_0.eq_1 := rfl
def C102_1 : ACode := .seq (.reg L102_0) C102_0
theorem u102_1 : VC C102_1.eq_1 := rfl
def F102 : AFunc := ⟨11, [.tmp 2], C102_1⟩
theorem cF102 : compB Try.prog 102 = some F102 := by kernel_rfl
attribute [local go_sem ↓] u102_0 u102_1 v102_0 v102_1 v102_2 v102_3 v102_4 v102_5
theorem c_byName (p : Param) (h : H) : bm Try.prog 102 [.agg (encQ p)] h = some (ib (byName p), h) := by
  refine bm_eq cF102 ?_
  simp +contextual (maxSteps := 2000000) only [go_sem, Nat.reduceEqDiff, reduceCtorEq, Nat.reduceAdd, Nat.reduceLeDiff, F102, byName]
  cases decide (p.kind = 1) <;> simp
/-! spec.isSingle -/
def L53_0 : List AStep := [⟨.box 44 (.t 0), (some 1), none, []⟩, ⟨.mov (.c (.bool false)), (some 2), none, []⟩]
theorem v53_0 : VS L53_0.eq_1 := rfl
def L53_1 : List AStep := [⟨.mov (.t 8), (some 2), none, []⟩]
theorem v53_1 : VS L53_1.eq_1 := rfl
def L53_2 : List AStep := ⟨.call 102 [(.t 6)], (some 7), (some (5, false)), []⟩ :: ⟨.pick (.t 5) (.c (.bool true)) (.t 7), (some 8), none, []⟩ :: L53_1
theorem v53_2 : VS L53_2.eq_1 := rfl
def L53_3 : List AStep := ⟨.mov (.t 4), (some 5), none, []⟩ :: ⟨.load 4 true (.t 1), (some 6), (some (5, false)), []⟩ :: L53_2
theorem v53_3 : VS L53_3.eq_1 := rfl
def L53_4 : List AStep := ⟨.load 4 true (.t 1), (some 3), none, []⟩ :: ⟨.call 101 [(.t 3)], (some 4), none, []⟩ :: L53_3
theorem v53_4 : VS L53_4.eq_1 := rfl
def C53_0 : ACode := .seq (.reg L53_4) .ret
theorem u53_0 : VC C53_0.eq_1 := rfl
def C53_1 : ACode := .seq (.reg L53_0) C53_0
theorem u53_1 : VC C53_1.eq_1 := rfl
def F53 : AFunc := ⟨9, [.tmp 2], C53_1⟩
theorem cF53 : compB Try.prog 53 = some F53 := by kernel_rfl
attribute [local go_sem ↓] u53_0 u53_1 v53_0 v53_1 v53_2 v53_3 v53_4
theorem c_isSingle (p : Param) (h : H) : bm Try.prog 53 [.agg (encQ p)] h = some (ib (single p), h) := by
  refine bm_eq cF53 ?_
  simp +contextual (maxSteps := 2000000) only [go_sem, Nat.reduceEqDiff, reduceCtorEq, Nat.reduceAdd, Nat.reduceLeDiff, F53, c_byPlace, c_byName, single]
  cases byPlace p <;> simp
end Go.Proofs.Ytekkimfdcbgcoac.Am
