/- Contracts of the laws: comparisons. -/
import Derived.Test.YtekkimfdcbgcoabDat
namespace Go.Proofs.Ytekkimfdcbgcoab.Am
open Go
set_option maxRecDepth 100000
set_option maxHeartbeats 4000000
set_option linter.unusedSimpArgs false
set_option linter.unusedVariables false
attribute [local go_sem ↓] bv_t bv_c ev_t ev_c put_same put_ne put_none kill_at pro_at lb_same lb_ne start_zero start_succ wpC_seq wpC_reg wpC_cond wpC_block wpC_skip wpC_exit wpC_ret thenQ_normal thenQ_exit thenQ_ret inBlk_normal inBlk_exit inBlk_ret wpS_nil wpS_step wpS_again wpS_guard wpO_mov wpO_load wpO_faddr wpO_nilCheck wpO_pick wpO_build wpO_bin wpO_eqb wpO_eqst wpO_eqnil wpO_not wpO_conv wpO_bytesStr wpO_iaddr wpO_idxStr wpO_field wpO_extract wpO_len wpO_lenStr wpO_cap wpO_min wpO_slice wpO_sliceStr wpO_alloc wpO_box wpO_store wpO_call wpO_callv wpO_mkfn wpO_buildSlice wpO_mkslice wpO_append wpO_appz proA_nil proA_cons tmpX_nil tmpX_tmp tmpX_cell doneB_normal doneB_ret agK_cons agK_nil agK_guard agG_tt agG_ff agG_tf agG_ft agG_undef pureB_load results_one results_two results_nil resBs_cons resBs_nil resB_tmp resB_cell
attribute [local go_sem] kill_v kill_lp_ne kill_lp_same pro_v pro_lp_same pro_lp_ne av_v av_lp optB_some optX_some valX_eq ldX_lp ldX_v faX_lp faX_v ncX_lp ncX_ptr ncX_fn boxK_one boxK_agg stL_some stK_lp_one stK_lp_agg stK_v_one stK_v_agg proM_v proM_lp callG_mk callVG_mk callvK_fn fnG_mk ptrsA_nil ptrsA_cons callH_some whenA_true whenA_false guardH_tt guardH_ff guardH_tf guardH_ft guardH_undef agV_one agV_agg lenO_sl lenStrO_str notO_bool pickO_bool convO_int eqbO_bool eqnilO_sl extractO_tup capO_sl minO_int loadL_one loadL_all storeL_eq fillA_nil fillA_one fillA_agg nat_ge neg_ge nat_lt neg_lt buildO bin_add bin_sub bin_mul bin_eql bin_neq bin_lss bin_leq bin_gtr bin_geq str_eql str_neq str_lss str_leq str_gtr str_geq retK_some endK_mk gcK_same gcK_int gcK_bool tupO_one tupO_agg rdy_self ib ii Option.map_none Option.map_some Option.some.injEq exists_eq_left' exists_eq_left ne_eq not_false_eq_true if_true if_false List.map_cons List.map_nil List.getElem?_cons_zero List.getElem?_cons_succ List.length_cons List.length_nil List.take_succ_cons List.take_zero List.take_nil List.drop_succ_cons List.drop_zero List.drop_nil List.cons_append List.nil_append List.append_nil List.set_cons_zero List.set_cons_succ Nat.zero_add forall_const true_and and_true and_self Bool.false_eq_true false_implies true_implies implies_true Bool.not_true Bool.not_false Bool.not_eq_true' Bool.not_eq_false' beq_self_eq_true Bool.bne_true Bool.bne_false
attribute [local go_sem] lenI lenS lenP lenQ lenB lenL lenT encI_0 encS_0 encP_0 encP_1 encQ_0 encQ_1 encQ_2 encQ_3 encB_0 encB_1 encL_0 encL_1 encT_0 encT_1
attribute [local go_sem low] whenA_bool guardH_bool
/-! laws.equalSignature -/
def L15_0 : List AStep := [⟨.mov (.c (.bool false)), (some 4), none, []⟩]
theorem v15_0 : VS L15_0.eq_1 := rfl
def L15_1 : List AStep := ⟨.box 25 (.t 0), (some 2), none, []⟩ :: ⟨.box 25 (.t 1), (some 3), none, []⟩ :: L15_0
theorem v15_1 : VS L15_1.eq_1 := rfl
def L15_2 : List AStep := [⟨.bin .neq (.t 8) (.t 11), (some 12), none, []⟩]
theorem v15_2 : VS L15_2.eq_1 := rfl
def L15_3 : List AStep := ⟨.load 1 false (.t 9), (some 10), none, []⟩ :: ⟨.len (.t 10), (some 11), none, []⟩ :: L15_2
theorem v15_3 : VS L15_3.eq_1 := rfl
def L15_4 : List AStep := ⟨.len (.t 7), (some 8), none, []⟩ :: ⟨.faddr 0 (.t 3), (some 9), none, []⟩ :: L15_3
theorem v15_4 : VS L15_4.eq_1 := rfl
def L15_5 : List AStep := ⟨.faddr 0 (.t 2), (some 6), none, []⟩ :: ⟨.load 1 false (.t 6), (some 7), none, []⟩ :: L15_4
theorem v15_5 : VS L15_5.eq_1 := rfl
def L15_6 : List AStep := [⟨.mov (.c (.bool false)), (some 4), none, []⟩]
theorem v15_6 : VS L15_6.eq_1 := rfl
def L15_7 : List AStep := [⟨.mov (.c (.int .i64 0)), (some 5), none, []⟩]
theorem v15_7 : VS L15_7.eq_1 := rfl
def L15_8 : List AStep := [⟨.bin .lss (.t 13) (.t 16), (some 17), none, []⟩]
theorem v15_8 : VS L15_8.eq_1 := rfl
def L15_9 : List AStep := ⟨.load 1 false (.t 14), (some 15), none, []⟩ :: ⟨.len (.t 15), (some 16), none, []⟩ :: L15_8
theorem v15_9 : VS L15_9.eq_1 := rfl
def L15_10 : List AStep := ⟨.mov (.t 5), (some 13), none, []⟩ :: ⟨.faddr 0 (.t 2), (some 14), none, []⟩ :: L15_9
theorem v15_10 : VS L15_10.eq_1 := rfl
def L15_11 : List AStep := [⟨.eqst true [2, 1, 0, 1] (.t 24) (.t 29), (some 30), none, []⟩]
theorem v15_11 : VS L15_11.eq_1 := rfl
def L15_12 : List AStep := ⟨.iaddr 4 (.t 26) (.t 27), (some 28), none, []⟩ :: ⟨.load 4 true (.t 28), (some 29), none, []⟩ :: L15_11
theorem v15_12 : VS L15_12.eq_1 := rfl
def L15_13 : List AStep := ⟨.load 1 false (.t 25), (some 26), none, []⟩ :: ⟨.mov (.t 5), (some 27), none, []⟩ :: L15_12
theorem v15_13 : VS L15_13.eq_1 := rfl
def L15_14 : List AStep := ⟨.load 4 true (.t 23), (some 24), none, []⟩ :: ⟨.faddr 0 (.t 3), (some 25), none, []⟩ :: L15_13
theorem v15_14 : VS L15_14.eq_1 := rfl
def L15_15 : List AStep := ⟨.mov (.t 5), (some 22), none, []⟩ :: ⟨.iaddr 4 (.t 21) (.t 22), (some 23), none, []⟩ :: L15_14
theorem v15_15 : VS L15_15.eq_1 := rfl
def L15_16 : List AStep := ⟨.faddr 0 (.t 2), (some 20), none, []⟩ :: ⟨.load 1 false (.t 20), (some 21), none, []⟩ :: L15_15
theorem v15_16 : VS L15_16.eq_1 := rfl
def L15_17 : List AStep := [⟨.mov (.c (.bool false)), (some 4), none, []⟩]
theorem v15_17 : VS L15_17.eq_1 := rfl
def L15_18 : List AStep := [⟨.mov (.t 19), (some 5), none, []⟩]
theorem v15_18 : VS L15_18.eq_1 := rfl
def L15_19 : List AStep := ⟨.mov (.t 5), (some 18), none, []⟩ :: ⟨.bin .add (.t 18) (.c (.int .i64 1)), (some 19), none, []⟩ :: L15_18
theorem v15_19 : VS L15_19.eq_1 := rfl
def L15_20 : List AStep := [⟨.mov (.c (.bool true)), (some 4), none, []⟩]
theorem v15_20 : VS L15_20.eq_1 := rfl
def C15_0 : ACode := .seq (.reg L15_6) .ret
theorem u15_0 : VC C15_0.eq_1 := rfl
def C15_1 : ACode := .cond (.t 12) C15_0 .skip
theorem u15_1 : VC C15_1.eq_1 := rfl
def C15_2 : ACode := .seq (.reg L15_5) C15_1
theorem u15_2 : VC C15_2.eq_1 := rfl
def C15_3 : ACode := .cond (.t 17) .skip (.exit 0)
theorem u15_3 : VC C15_3.eq_1 := rfl
def C15_4 : ACode := .seq (.reg L15_10) C15_3
theorem u15_4 : VC C15_4.eq_1 := rfl
def C15_5 : ACode := .seq (.reg L15_17) .ret
theorem u15_5 : VC C15_5.eq_1 := rfl
def C15_6 : ACode := .cond (.t 30) C15_5 .skip
theorem u15_6 : VC C15_6.eq_1 := rfl
def C15_7 : ACode := .seq (.reg L15_16) C15_6
theorem u15_7 : VC C15_7.eq_1 := rfl
def C15_8 : ACode := .block 1 C15_7
theorem u15_8 : VC C15_8.eq_1 := rfl
def C15_9 : ACode := .seq C15_8 (.reg L15_19)
theorem u15_9 : VC C15_9.eq_1 := rfl
def C15_10 : ACode := .seq C15_4 C15_9
theorem u15_10 : VC C15_10.eq_1 := rfl
def C15_11 : ACode := .block 0 (.loop C15_10)
theorem u15_11 : VC C15_11.eq_1 := rfl
def C15_12 : ACode := .seq (.reg L15_7) C15_11
theorem u15_12 : VC C15_12.eq_1 := rfl
def C15_13 : ACode := .seq (.reg L15_20) .ret
theorem u15_13 : VC C15_13.eq_1 := rfl
def C15_14 : ACode := .seq C15_12 C15_13
theorem u15_14 : VC C15_14.eq_1 := rfl
def C15_15 : ACode := .seq C15_2 C15_14
theorem u15_15 : VC C15_15.eq_1 := rfl
def C15_16 : ACode := .seq (.reg L15_1) C15_15
theorem u15_16 : VC C15_16.eq_1 := rfl
def F15 : AFunc := ⟨31, [.tmp 4], C15_16⟩
theorem cF15 : compB Try.prog 15 = some F15 := by kernel_rfl
attribute [local go_sem ↓] u15_0 u15_1 u15_2 u15_3 u15_4 u15_5 u15_6 u15_7 u15_8 u15_9 u15_10 u15_11 u15_12 u15_13 u15_14 u15_15 u15_16 v15_0 v15_1 v15_2 v15_3 v15_4 v15_5 v15_6 v15_7 v15_8 v15_9 v15_10 v15_11 v15_12 v15_13 v15_14 v15_15 v15_16 v15_17 v15_18 v15_19 v15_20
theorem c_equalSignature (l m : List Param) (v w : CV) (h : H) (hl : SlQ h (.one v) l) (hm : SlQ h (.one w) m) (hn : l.length ≤ big) : bm Try.prog 15 [.agg [v], .agg [w]] h = some (ib (decide (l = m)), h) := by
  refine bm_eq cF15 ?_
  by_cases hlen : l.length = m.length
  case neg =>
    have e1 : decide ((l.length : Int) = (m.length : Int)) = false := decide_eq_false (by omega)
    simp +contextual (maxSteps := 2000000) only [go_sem, Nat.reduceEqDiff, reduceCtorEq, Nat.reduceAdd, Nat.reduceLeDiff, F15, hl.len, hm.len, e1]
    rw [ne_len e1]
  have e1 : decide ((l.length : Int) = (m.length : Int)) = true := decide_eq_true (by omega)
  simp +contextual (maxSteps := 2000000) only [go_sem, Nat.reduceEqDiff, reduceCtorEq, Nat.reduceAdd, Nat.reduceLeDiff, F15, hl.len, hm.len, e1]
  refine wpC_loop (fun i T L h' => h' = h ∧ T 2 = .lp 2 0 ∧ T 3 = .lp 3 0 ∧ (L 2).2 = [v] ∧ (L 3).2 = [w] ∧ T 5 = .v (.one (.int .i64 i)) ∧ Upto (eqAt l m) i) l.length ?_ ?_ (Nat.zero_le _) ?_
  · rintro i T L h' hi ⟨rfl, t2, t3, l2, l3, t5, hu⟩
    have him : i < m.length := by omega
    have e2 := eqAt_eq hi him
    simp +contextual (maxSteps := 2000000) only [go_sem, Nat.reduceEqDiff, reduceCtorEq, Nat.reduceAdd, Nat.reduceLeDiff, t2, t3, l2, l3, t5, hl.len, hm.len, hl.iaddr hi, hm.iaddr him, hl.whole hi, hm.whole him, eqQ, lt_true hi]
    (repeat' (first | refine And.intro ?_ ?_ | intro _)) <;> first | rfl | rw [wrap_next hi (big_lt hn)] | (refine hu.next ?_; rw [e2]; (simp_all; done)) | (rw [ne_at (l := l) (m := m) (i := i)]; rw [e2]; (simp_all; done))
  · rintro T L h' ⟨rfl, t2, t3, l2, l3, t5, hu⟩
    simp +contextual (maxSteps := 2000000) only [go_sem, Nat.reduceEqDiff, reduceCtorEq, Nat.reduceAdd, Nat.reduceLeDiff, t2, t3, l2, l3, t5, hl.len, hm.len, lt_false, decide_eq_true (eq_of_upto hlen hu)]
  · simp +contextual (maxSteps := 2000000) only [go_sem, Nat.reduceEqDiff, reduceCtorEq, Nat.reduceAdd, Nat.reduceLeDiff]
    (repeat' (first | refine And.intro ?_ ?_ | intro _)) <;> first | rfl | exact Upto.zero
end Go.Proofs.Ytekkimfdcbgcoab.Am
