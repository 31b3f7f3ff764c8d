/- Contracts of the laws: comparisons. -/
import Derived.Test.YtekkimfdcbgcoabDat
namespace Go.Proofs.Ytekkimfdcbgcoab.Am
open Go
set_option maxRecDepth 100000
set_option maxHeartbeats 4000000
set_option linter.unusedSimpArgs false
set_option linter.unusedVariables false
attribute [local go_sem ↓] bv_t bv_c ev_t ev_c put_same put_ne put_none kill_at pro_at lb_same lb_ne start_zero start_succ wpC_seq wpC_reg wpC_cond wpC_block wpC_skip wpC_exit wpC_ret thenQ_normal thenQ_exit thenQ_ret inBlk_normal inBlk_exit inBlk_ret wpS_nil wpS_step wpS_again wpS_guard wpO_mov wpO_load wpO_faddr wpO_nilCheck wpO_pick wpO_build wpO_bin wpO_eqb wpO_eqst wpO_eqnil wpO_not wpO_conv wpO_bytesStr wpO_iaddr wpO_idxStr wpO_field wpO_extract wpO_len wpO_lenStr wpO_cap wpO_min wpO_slice wpO_sliceStr wpO_alloc wpO_box wpO_store wpO_call wpO_callv wpO_mkfn wpO_buildSlice wpO_mkslice wpO_append wpO_appz proA_nil proA_cons tmpX_nil tmpX_tmp tmpX_cell doneB_normal doneB_ret agK_cons agK_nil agK_guard agG_tt agG_ff agG_tf agG_ft agG_undef pureB_load results_one results_two results_nil resBs_cons resBs_nil resB_tmp resB_cell
attribute [local go_sem] kill_v kill_lp_ne kill_lp_same pro_v pro_lp_same pro_lp_ne av_v av_lp optB_some optX_some valX_eq ldX_lp ldX_v faX_lp faX_v ncX_lp ncX_ptr ncX_fn boxK_one boxK_agg stL_some stK_lp_one stK_lp_agg stK_v_one stK_v_agg proM_v proM_lp callG_mk callVG_mk callvK_fn fnG_mk ptrsA_nil ptrsA_cons callH_some whenA_true whenA_false guardH_tt guardH_ff guardH_tf guardH_ft guardH_undef agV_one agV_agg lenO_sl lenStrO_str notO_bool pickO_bool convO_int eqbO_bool eqnilO_sl extractO_tup capO_sl minO_int loadL_one loadL_all storeL_eq fillA_nil fillA_one fillA_agg nat_ge neg_ge nat_lt neg_lt buildO bin_add bin_sub bin_mul bin_eql bin_neq bin_lss bin_leq bin_gtr bin_geq str_eql str_neq str_lss str_leq str_gtr str_geq retK_some endK_mk gcK_same gcK_int gcK_bool tupO_one tupO_agg rdy_self ib ii Option.map_none Option.map_some Option.some.injEq exists_eq_left' exists_eq_left ne_eq not_false_eq_true if_true if_false List.map_cons List.map_nil List.getElem?_cons_zero List.getElem?_cons_succ List.length_cons List.length_nil List.take_succ_cons List.take_zero List.take_nil List.drop_succ_cons List.drop_zero List.drop_nil List.cons_append List.nil_append List.append_nil List.set_cons_zero List.set_cons_succ Nat.zero_add forall_const true_and and_true and_self Bool.false_eq_true false_implies true_implies implies_true Bool.not_true Bool.not_false Bool.not_eq_true' Bool.not_eq_false' beq_self_eq_true Bool.bne_true Bool.bne_false
attribute [local go_sem] lenI lenS lenP lenQ lenB lenL lenT encI_0 encS_0 encP_0 encP_1 encQ_0 encQ_1 encQ_2 encQ_3 encB_0 encB_1 encL_0 encL_1 encT_0 encT_1
attribute [local go_sem low] whenA_bool guardH_bool
/-! laws.equalInts -/
def L46_0 : List AStep := [⟨.mov (.c (.bool false)), (some 4), none, []⟩]
theorem v46_0 : VS L46_0.eq_1 := rfl
def L46_1 : List AStep := [⟨.bin .neq (.t 7) (.t 9), (some 10), none, []⟩]
theorem v46_1 : VS L46_1.eq_1 := rfl
def L46_2 : List AStep := ⟨.mov (.t 1), (some 8), none, []⟩ :: ⟨.len (.t 8), (some 9), none, []⟩ :: L46_1
theorem v46_2 : VS L46_2.eq_1 := rfl
def L46_3 : List AStep := ⟨.mov (.t 0), (some 6), none, []⟩ :: ⟨.len (.t 6), (some 7), none, []⟩ :: L46_2
theorem v46_3 : VS L46_3.eq_1 := rfl
def L46_4 : List AStep := [⟨.mov (.c (.bool false)), (some 4), none, []⟩]
theorem v46_4 : VS L46_4.eq_1 := rfl
def L46_5 : List AStep := [⟨.mov (.c (.int .i64 0)), (some 5), none, []⟩]
theorem v46_5 : VS L46_5.eq_1 := rfl
def L46_6 : List AStep := [⟨.len (.t 12), (some 13), none, []⟩, ⟨.bin .lss (.t 11) (.t 13), (some 14), none, []⟩]
theorem v46_6 : VS L46_6.eq_1 := rfl
def L46_7 : List AStep := ⟨.mov (.t 5), (some 11), none, []⟩ :: ⟨.mov (.t 0), (some 12), none, []⟩ :: L46_6
theorem v46_7 : VS L46_7.eq_1 := rfl
def L46_8 : List AStep := [⟨.bin .neq (.t 20) (.t 24), (some 25), none, []⟩]
theorem v46_8 : VS L46_8.eq_1 := rfl
def L46_9 : List AStep := ⟨.iaddr 1 (.t 21) (.t 22), (some 23), none, []⟩ :: ⟨.load 1 false (.t 23), (some 24), none, []⟩ :: L46_8
theorem v46_9 : VS L46_9.eq_1 := rfl
def L46_10 : List AStep := ⟨.mov (.t 1), (some 21), none, []⟩ :: ⟨.mov (.t 5), (some 22), none, []⟩ :: L46_9
theorem v46_10 : VS L46_10.eq_1 := rfl
def L46_11 : List AStep := ⟨.iaddr 1 (.t 17) (.t 18), (some 19), none, []⟩ :: ⟨.load 1 false (.t 19), (some 20), none, []⟩ :: L46_10
theorem v46_11 : VS L46_11.eq_1 := rfl
def L46_12 : List AStep := ⟨.mov (.t 0), (some 17), none, []⟩ :: ⟨.mov (.t 5), (some 18), none, []⟩ :: L46_11
theorem v46_12 : VS L46_12.eq_1 := rfl
def L46_13 : List AStep := [⟨.mov (.c (.bool false)), (some 4), none, []⟩]
theorem v46_13 : VS L46_13.eq_1 := rfl
def L46_14 : List AStep := [⟨.mov (.t 16), (some 5), none, []⟩]
theorem v46_14 : VS L46_14.eq_1 := rfl
def L46_15 : List AStep := ⟨.mov (.t 5), (some 15), none, []⟩ :: ⟨.bin .add (.t 15) (.c (.int .i64 1)), (some 16), none, []⟩ :: L46_14
theorem v46_15 : VS L46_15.eq_1 := rfl
def L46_16 : List AStep := [⟨.mov (.c (.bool true)), (some 4), none, []⟩]
theorem v46_16 : VS L46_16.eq_1 := rfl
def C46_0 : ACode := .seq (.reg L46_4) .ret
theorem u46_0 : VC C46_0.eq_1 := rfl
def C46_1 : ACode := .cond (.t 10) C46_0 .skip
theorem u46_1 : VC C46_1.eq_1 := rfl
def C46_2 : ACode := .seq (.reg L46_3) C46_1
theorem u46_2 : VC C46_2.eq_1 := rfl
def C46_3 : ACode := .cond (.t 14) .skip (.exit 0)
theorem u46_3 : VC C46_3.eq_1 := rfl
def C46_4 : ACode := .seq (.reg L46_7) C46_3
theorem u46_4 : VC C46_4.eq_1 := rfl
def C46_5 : ACode := .seq (.reg L46_13) .ret
theorem u46_5 : VC C46_5.eq_1 := rfl
def C46_6 : ACode := .cond (.t 25) C46_5 .skip
theorem u46_6 : VC C46_6.eq_1 := rfl
def C46_7 : ACode := .seq (.reg L46_12) C46_6
theorem u46_7 : VC C46_7.eq_1 := rfl
def C46_8 : ACode := .block 1 C46_7
theorem u46_8 : VC C46_8.eq_1 := rfl
def C46_9 : ACode := .seq C46_8 (.reg L46_15)
theorem u46_9 : VC C46_9.eq_1 := rfl
def C46_10 : ACode := .seq C46_4 C46_9
theorem u46_10 : VC C46_10.eq_1 := rfl
def C46_11 : ACode := .block 0 (.loop C46_10)
theorem u46_11 : VC C46_11.eq_1 := rfl
def C46_12 : ACode := .seq (.reg L46_5) C46_11
theorem u46_12 : VC C46_12.eq_1 := rfl
def C46_13 : ACode := .seq (.reg L46_16) .ret
theorem u46_13 : VC C46_13.eq_1 := rfl
def C46_14 : ACode := .seq C46_12 C46_13
theorem u46_14 : VC C46_14.eq_1 := rfl
def C46_15 : ACode := .seq C46_2 C46_14
theorem u46_15 : VC C46_15.eq_1 := rfl
def C46_16 : ACode := .seq (.reg L46_0) C46_15
theorem u46_16 : VC C46_16.eq_1 := rfl
def F46 : AFunc := ⟨26, [.tmp 4], C46_16⟩
theorem cF46 : compB Try.prog 46 = some F46 := by kernel_rfl
attribute [local go_sem ↓] u46_0 u46_1 u46_2 u46_3 u46_4 u46_5 u46_6 u46_7 u46_8 u46_9 u46_10 u46_11 u46_12 u46_13 u46_14 u46_15 u46_16 v46_0 v46_1 v46_2 v46_3 v46_4 v46_5 v46_6 v46_7 v46_8 v46_9 v46_10 v46_11 v46_12 v46_13 v46_14 v46_15 v46_16
theorem c_equalInts (l m : List Int) (v w : AV) (h : H) (hl : SlI h v l) (hm : SlI h w m) (hn : l.length ≤ big) : bm Try.prog 46 [v, w] h = some (ib (decide (l = m)), h) := by
  refine bm_eq cF46 ?_
  by_cases hlen : l.length = m.length
  case neg =>
    have e1 : decide ((l.length : Int) = (m.length : Int)) = false := decide_eq_false (by omega)
    simp +contextual (maxSteps := 2000000) only [go_sem, Nat.reduceEqDiff, reduceCtorEq, Nat.reduceAdd, Nat.reduceLeDiff, F46, hl.len, hm.len, e1]
    rw [ne_len e1]
  have e1 : decide ((l.length : Int) = (m.length : Int)) = true := decide_eq_true (by omega)
  simp +contextual (maxSteps := 2000000) only [go_sem, Nat.reduceEqDiff, reduceCtorEq, Nat.reduceAdd, Nat.reduceLeDiff, F46, hl.len, hm.len, e1]
  refine wpC_loop (fun i T L h' => h' = h ∧ T 0 = .v v ∧ T 1 = .v w ∧ T 5 = .v (.one (.int .i64 i)) ∧ Upto (eqAt l m) i) l.length ?_ ?_ (Nat.zero_le _) ?_
  · rintro i T L h' hi ⟨rfl, t0, t1, t5, hu⟩
    have him : i < m.length := by omega
    have e2 := eqAt_eq hi him
    simp +contextual (maxSteps := 2000000) only [go_sem, Nat.reduceEqDiff, reduceCtorEq, Nat.reduceAdd, Nat.reduceLeDiff, t0, t1, t5, hl.len, hm.len, hl.iaddr hi, hm.iaddr him, hl.oneO hi, hm.oneO him, lt_true hi]
    (repeat' (first | refine And.intro ?_ ?_ | intro _)) <;> first | rfl | rw [wrap_next hi (big_lt hn)] | (refine hu.next ?_; rw [e2]; (simp_all; done)) | (rw [ne_at (l := l) (m := m) (i := i)]; rw [e2]; (simp_all; done))
  · rintro T L h' ⟨rfl, t0, t1, t5, hu⟩
    simp +contextual (maxSteps := 2000000) only [go_sem, Nat.reduceEqDiff, reduceCtorEq, Nat.reduceAdd, Nat.reduceLeDiff, t0, t1, t5, hl.len, hm.len, lt_false, decide_eq_true (eq_of_upto hlen hu)]
  · simp +contextual (maxSteps := 2000000) only [go_sem, Nat.reduceEqDiff, reduceCtorEq, Nat.reduceAdd, Nat.reduceLeDiff]
    (repeat' (first | refine And.intro ?_ ?_ | intro _)) <;> first | rfl | exact Upto.zero
/-! laws.equalPairs -/
def L73_0 : List AStep := [⟨.mov (.c (.bool false)), (some 4), none, []⟩]
theorem v73_0 : VS L73_0.eq_1 := rfl
def L73_1 : List AStep := [⟨.bin .neq (.t 7) (.t 9), (some 10), none, []⟩]
theorem v73_1 : VS L73_1.eq_1 := rfl
def L73_2 : List AStep := ⟨.mov (.t 1), (some 8), none, []⟩ :: ⟨.len (.t 8), (some 9), none, []⟩ :: L73_1
theorem v73_2 : VS L73_2.eq_1 := rfl
def L73_3 : List AStep := ⟨.mov (.t 0), (some 6), none, []⟩ :: ⟨.len (.t 6), (some 7), none, []⟩ :: L73_2
theorem v73_3 : VS L73_3.eq_1 := rfl
def L73_4 : List AStep := [⟨.mov (.c (.bool false)), (some 4), none, []⟩]
theorem v73_4 : VS L73_4.eq_1 := rfl
def L73_5 : List AStep := [⟨.mov (.c (.int .i64 0)), (some 5), none, []⟩]
theorem v73_5 : VS L73_5.eq_1 := rfl
def L73_6 : List AStep := [⟨.len (.t 12), (some 13), none, []⟩, ⟨.bin .lss (.t 11) (.t 13), (some 14), none, []⟩]
theorem v73_6 : VS L73_6.eq_1 := rfl
def L73_7 : List AStep := ⟨.mov (.t 5), (some 11), none, []⟩ :: ⟨.mov (.t 0), (some 12), none, []⟩ :: L73_6
theorem v73_7 : VS L73_7.eq_1 := rfl
def L73_8 : List AStep := [⟨.eqst true [2, 1] (.t 20) (.t 24), (some 25), none, []⟩]
theorem v73_8 : VS L73_8.eq_1 := rfl
def L73_9 : List AStep := ⟨.iaddr 2 (.t 21) (.t 22), (some 23), none, []⟩ :: ⟨.load 2 true (.t 23), (some 24), none, []⟩ :: L73_8
theorem v73_9 : VS L73_9.eq_1 := rfl
def L73_10 : List AStep := ⟨.mov (.t 1), (some 21), none, []⟩ :: ⟨.mov (.t 5), (some 22), none, []⟩ :: L73_9
theorem v73_10 : VS L73_10.eq_1 := rfl
def L73_11 : List AStep := ⟨.iaddr 2 (.t 17) (.t 18), (some 19), none, []⟩ :: ⟨.load 2 true (.t 19), (some 20), none, []⟩ :: L73_10
theorem v73_11 : VS L73_11.eq_1 := rfl
def L73_12 : List AStep := ⟨.mov (.t 0), (some 17), none, []⟩ :: ⟨.mov (.t 5), (some 18), none, []⟩ :: L73_11
theorem v73_12 : VS L73_12.eq_1 := rfl
def L73_13 : List AStep := [⟨.mov (.c (.bool false)), (some 4), none, []⟩]
theorem v73_13 : VS L73_13.eq_1 := rfl
def L73_14 : List AStep := [⟨.mov (.t 16), (some 5), none, []⟩]
theorem v73_14 : VS L73_14.eq_1 := rfl
def L73_15 : List AStep := ⟨.mov (.t 5), (some 15), none, []⟩ :: ⟨.bin .add (.t 15) (.c (.int .i64 1)), (some 16), none, []⟩ :: L73_14
theorem v73_15 : VS L73_15.eq_1 := rfl
def L73_16 : List AStep := [⟨.mov (.c (.bool true)), (some 4), none, []⟩]
theorem v73_16 : VS L73_16.eq_1 := rfl
def C73_0 : ACode := .seq (.reg L73_4) .ret
theorem u73_0 : VC C73_0.eq_1 := rfl
def C73_1 : ACode := .cond (.t 10) C73_0 .skip
theorem u73_1 : VC C73_1.eq_1 := rfl
def C73_2 : ACode := .seq (.reg L73_3) C73_1
theorem u73_2 : VC C73_2.eq_1 := rfl
def C73_3 : ACode := .cond (.t 14) .skip (.exit 0)
theorem u73_3 : VC C73_3.eq_1 := rfl
def C73_4 : ACode := .seq (.reg L73_7) C73_3
theorem u73_4 : VC C73_4.eq_1 := rfl
def C73_5 : ACode := .seq (.reg L73_13) .ret
theorem u73_5 : VC C73_5.eq_1 := rfl
def C73_6 : ACode := .cond (.t 25) C73_5 .skip
theorem u73_6 : VC C73_6.eq_1 := rfl
def C73_7 : ACode := .seq (.reg L73_12) C73_6
theorem u73_7 : VC C73_7.eq_1 := rfl
def C73_8 : ACode := .block 1 C73_7
theorem u73_8 : VC C73_8.eq_1 := rfl
def C73_9 : ACode := .seq C73_8 (.reg L73_15)
theorem u73_9 : VC C73_9.eq_1 := rfl
def C73_10 : ACode := .seq C73_4 C73_9
theorem u73_10 : VC C73_10.eq_1 := rfl
def C73_11 : ACode := .block 0 (.loop C73_10)
theorem u73_11 : VC C73_11.eq_1 := rfl
def C73_12 : ACode := .seq (.reg L73_5) C73_11
theorem u73_12 : VC C73_12.eq_1 := rfl
def C73_13 : ACode := .seq (.reg L73_16) .ret
theorem u73_13 : VC C73_13.eq_1 := rfl
def C73_14 : ACode := .seq C73_12 C73_13
theorem u73_14 : VC C73_14.eq_1 := rfl
def C73_15 : ACode := .seq C73_2 C73_14
theorem u73_15 : VC C73_15.eq_1 := rfl
def C73_16 : ACode := .seq (.reg L73_0) C73_15
theorem u73_16 : VC C73_16.eq_1 := rfl
def F73 : AFunc := ⟨26, [.tmp 4], C73_16⟩
theorem cF73 : compB Try.prog 73 = some F73 := by kernel_rfl
attribute [local go_sem ↓] u73_0 u73_1 u73_2 u73_3 u73_4 u73_5 u73_6 u73_7 u73_8 u73_9 u73_10 u73_11 u73_12 u73_13 u73_14 u73_15 u73_16 v73_0 v73_1 v73_2 v73_3 v73_4 v73_5 v73_6 v73_7 v73_8 v73_9 v73_10 v73_11 v73_12 v73_13 v73_14 v73_15 v73_16
theorem c_equalPairs (l m : List Pair) (v w : AV) (h : H) (hl : SlP h v l) (hm : SlP h w m) (hn : l.length ≤ big) : bm Try.prog 73 [v, w] h = some (ib (decide (l = m)), h) := by
  refine bm_eq cF73 ?_
  by_cases hlen : l.length = m.length
  case neg =>
    have e1 : decide ((l.length : Int) = (m.length : Int)) = false := decide_eq_false (by omega)
    simp +contextual (maxSteps := 2000000) only [go_sem, Nat.reduceEqDiff, reduceCtorEq, Nat.reduceAdd, Nat.reduceLeDiff, F73, hl.len, hm.len, e1]
    rw [ne_len e1]
  have e1 : decide ((l.length : Int) = (m.length : Int)) = true := decide_eq_true (by omega)
  simp +contextual (maxSteps := 2000000) only [go_sem, Nat.reduceEqDiff, reduceCtorEq, Nat.reduceAdd, Nat.reduceLeDiff, F73, hl.len, hm.len, e1]
  refine wpC_loop (fun i T L h' => h' = h ∧ T 0 = .v v ∧ T 1 = .v w ∧ T 5 = .v (.one (.int .i64 i)) ∧ Upto (eqAt l m) i) l.length ?_ ?_ (Nat.zero_le _) ?_
  · rintro i T L h' hi ⟨rfl, t0, t1, t5, hu⟩
    have him : i < m.length := by omega
    have e2 := eqAt_eq hi him
    simp +contextual (maxSteps := 2000000) only [go_sem, Nat.reduceEqDiff, reduceCtorEq, Nat.reduceAdd, Nat.reduceLeDiff, t0, t1, t5, hl.len, hm.len, hl.iaddr hi, hm.iaddr him, hl.whole hi, hm.whole him, eqP, lt_true hi]
    (repeat' (first | refine And.intro ?_ ?_ | intro _)) <;> first | rfl | rw [wrap_next hi (big_lt hn)] | (refine hu.next ?_; rw [e2]; (simp_all; done)) | (rw [ne_at (l := l) (m := m) (i := i)]; rw [e2]; (simp_all; done))
  · rintro T L h' ⟨rfl, t0, t1, t5, hu⟩
    simp +contextual (maxSteps := 2000000) only [go_sem, Nat.reduceEqDiff, reduceCtorEq, Nat.reduceAdd, Nat.reduceLeDiff, t0, t1, t5, hl.len, hm.len, lt_false, decide_eq_true (eq_of_upto hlen hu)]
  · simp +contextual (maxSteps := 2000000) only [go_sem, Nat.reduceEqDiff, reduceCtorEq, Nat.reduceAdd, Nat.reduceLeDiff]
    (repeat' (first | refine And.intro ?_ ?_ | intro _)) <;> first | rfl | exact Upto.zero
/-! laws.equalProblems -/
def L24_0 : List AStep := [⟨.mov (.c (.bool false)), (some 4), none, []⟩]
theorem v24_0 : VS L24_0.eq_1 := rfl
def L24_1 : List AStep := [⟨.bin .neq (.t 7) (.t 9), (some 10), none, []⟩]
theorem v24_1 : VS L24_1.eq_1 := rfl
def L24_2 : List AStep := ⟨.mov (.t 1), (some 8), none, []⟩ :: ⟨.len (.t 8), (some 9), none, []⟩ :: L24_1
theorem v24_2 : VS L24_2.eq_1 := rfl
def L24_3 : List AStep := ⟨.mov (.t 0), (some 6), none, []⟩ :: ⟨.len (.t 6), (some 7), none, []⟩ :: L24_2
theorem v24_3 : VS L24_3.eq_1 := rfl
def L24_4 : List AStep := [⟨.mov (.c (.bool false)), (some 4), none, []⟩]
theorem v24_4 : VS L24_4.eq_1 := rfl
def L24_5 : List AStep := [⟨.mov (.c (.int .i64 0)), (some 5), none, []⟩]
theorem v24_5 : VS L24_5.eq_1 := rfl
def L24_6 : List AStep := [⟨.len (.t 12), (some 13), none, []⟩, ⟨.bin .lss (.t 11) (.t 13), (some 14), none, []⟩]
theorem v24_6 : VS L24_6.eq_1 := rfl
def L24_7 : List AStep := ⟨.mov (.t 5), (some 11), none, []⟩ :: ⟨.mov (.t 0), (some 12), none, []⟩ :: L24_6
theorem v24_7 : VS L24_7.eq_1 := rfl
def L24_8 : List AStep := [⟨.eqst true [1, 2] (.t 20) (.t 24), (some 25), none, []⟩]
theorem v24_8 : VS L24_8.eq_1 := rfl
def L24_9 : List AStep := ⟨.iaddr 2 (.t 21) (.t 22), (some 23), none, []⟩ :: ⟨.load 2 true (.t 23), (some 24), none, []⟩ :: L24_8
theorem v24_9 : VS L24_9.eq_1 := rfl
def L24_10 : List AStep := ⟨.mov (.t 1), (some 21), none, []⟩ :: ⟨.mov (.t 5), (some 22), none, []⟩ :: L24_9
theorem v24_10 : VS L24_10.eq_1 := rfl
def L24_11 : List AStep := ⟨.iaddr 2 (.t 17) (.t 18), (some 19), none, []⟩ :: ⟨.load 2 true (.t 19), (some 20), none, []⟩ :: L24_10
theorem v24_11 : VS L24_11.eq_1 := rfl
def L24_12 : List AStep := ⟨.mov (.t 0), (some 17), none, []⟩ :: ⟨.mov (.t 5), (some 18), none, []⟩ :: L24_11
theorem v24_12 : VS L24_12.eq_1 := rfl
def L24_13 : List AStep := [⟨.mov (.c (.bool false)), (some 4), none, []⟩]
theorem v24_13 : VS L24_13.eq_1 := rfl
def L24_14 : List AStep := [⟨.mov (.t 16), (some 5), none, []⟩]
theorem v24_14 : VS L24_14.eq_1 := rfl
def L24_15 : List AStep := ⟨.mov (.t 5), (some 15), none, []⟩ :: ⟨.bin .add (.t 15) (.c (.int .i64 1)), (some 16), none, []⟩ :: L24_14
theorem v24_15 : VS L24_15.eq_1 := rfl
def L24_16 : List AStep := [⟨.mov (.c (.bool true)), (some 4), none, []⟩]
theorem v24_16 : VS L24_16.eq_1 := rfl
def C24_0 : ACode := .seq (.reg L24_4) .ret
theorem u24_0 : VC C24_0.eq_1 := rfl
def C24_1 : ACode := .cond (.t 10) C24_0 .skip
theorem u24_1 : VC C24_1.eq_1 := rfl
def C24_2 : ACode := .seq (.reg L24_3) C24_1
theorem u24_2 : VC C24_2.eq_1 := rfl
def C24_3 : ACode := .cond (.t 14) .skip (.exit 0)
theorem u24_3 : VC C24_3.eq_1 := rfl
def C24_4 : ACode := .seq (.reg L24_7) C24_3
theorem u24_4 : VC C24_4.eq_1 := rfl
def C24_5 : ACode := .seq (.reg L24_13) .ret
theorem u24_5 : VC C24_5.eq_1 := rfl
def C24_6 : ACode := .cond (.t 25) C24_5 .skip
theorem u24_6 : VC C24_6.eq_1 := rfl
def C24_7 : ACode := .seq (.reg L24_12) C24_6
theorem u24_7 : VC C24_7.eq_1 := rfl
def C24_8 : ACode := .block 1 C24_7
theorem u24_8 : VC C24_8.eq_1 := rfl
def C24_9 : ACode := .seq C24_8 (.reg L24_15)
theorem u24_9 : VC C24_9.eq_1 := rfl
def C24_10 : ACode := .seq C24_4 C24_9
theorem u24_10 : VC C24_10.eq_1 := rfl
def C24_11 : ACode := .block 0 (.loop C24_10)
theorem u24_11 : VC C24_11.eq_1 := rfl
def C24_12 : ACode := .seq (.reg L24_5) C24_11
theorem u24_12 : VC C24_12.eq_1 := rfl
def C24_13 : ACode := .seq (.reg L24_16) .ret
theorem u24_13 : VC C24_13.eq_1 := rfl
def C24_14 : ACode := .seq C24_12 C24_13
theorem u24_14 : VC C24_14.eq_1 := rfl
def C24_15 : ACode := .seq C24_2 C24_14
theorem u24_15 : VC C24_15.eq_1 := rfl
def C24_16 : ACode := .seq (.reg L24_0) C24_15
theorem u24_16 : VC C24_16.eq_1 := rfl
def F24 : AFunc := ⟨26, [.tmp 4], C24_16⟩
theorem cF24 : compB Try.prog 24 = some F24 := by kernel_rfl
attribute [local go_sem ↓] u24_0 u24_1 u24_2 u24_3 u24_4 u24_5 u24_6 u24_7 u24_8 u24_9 u24_10 u24_11 u24_12 u24_13 u24_14 u24_15 u24_16 v24_0 v24_1 v24_2 v24_3 v24_4 v24_5 v24_6 v24_7 v24_8 v24_9 v24_10 v24_11 v24_12 v24_13 v24_14 v24_15 v24_16
theorem c_equalProblems (l m : List Problem) (v w : AV) (h : H) (hl : SlB h v l) (hm : SlB h w m) (hn : l.length ≤ big) : bm Try.prog 24 [v, w] h = some (ib (decide (l = m)), h) := by
  refine bm_eq cF24 ?_
  by_cases hlen : l.length = m.length
  case neg =>
    have e1 : decide ((l.length : Int) = (m.length : Int)) = false := decide_eq_false (by omega)
    simp +contextual (maxSteps := 2000000) only [go_sem, Nat.reduceEqDiff, reduceCtorEq, Nat.reduceAdd, Nat.reduceLeDiff, F24, hl.len, hm.len, e1]
    rw [ne_len e1]
  have e1 : decide ((l.length : Int) = (m.length : Int)) = true := decide_eq_true (by omega)
  simp +contextual (maxSteps := 2000000) only [go_sem, Nat.reduceEqDiff, reduceCtorEq, Nat.reduceAdd, Nat.reduceLeDiff, F24, hl.len, hm.len, e1]
  refine wpC_loop (fun i T L h' => h' = h ∧ T 0 = .v v ∧ T 1 = .v w ∧ T 5 = .v (.one (.int .i64 i)) ∧ Upto (eqAt l m) i) l.length ?_ ?_ (Nat.zero_le _) ?_
  · rintro i T L h' hi ⟨rfl, t0, t1, t5, hu⟩
    have him : i < m.length := by omega
    have e2 := eqAt_eq hi him
    simp +contextual (maxSteps := 2000000) only [go_sem, Nat.reduceEqDiff, reduceCtorEq, Nat.reduceAdd, Nat.reduceLeDiff, t0, t1, t5, hl.len, hm.len, hl.iaddr hi, hm.iaddr him, hl.whole hi, hm.whole him, eqB, lt_true hi]
    (repeat' (first | refine And.intro ?_ ?_ | intro _)) <;> first | rfl | rw [wrap_next hi (big_lt hn)] | (refine hu.next ?_; rw [e2]; (simp_all; done)) | (rw [ne_at (l := l) (m := m) (i := i)]; rw [e2]; (simp_all; done))
  · rintro T L h' ⟨rfl, t0, t1, t5, hu⟩
    simp +contextual (maxSteps := 2000000) only [go_sem, Nat.reduceEqDiff, reduceCtorEq, Nat.reduceAdd, Nat.reduceLeDiff, t0, t1, t5, hl.len, hm.len, lt_false, decide_eq_true (eq_of_upto hlen hu)]
  · simp +contextual (maxSteps := 2000000) only [go_sem, Nat.reduceEqDiff, reduceCtorEq, Nat.reduceAdd, Nat.reduceLeDiff]
    (repeat' (first | refine And.intro ?_ ?_ | intro _)) <;> first | rfl | exact Upto.zero
end Go.Proofs.Ytekkimfdcbgcoab.Am
