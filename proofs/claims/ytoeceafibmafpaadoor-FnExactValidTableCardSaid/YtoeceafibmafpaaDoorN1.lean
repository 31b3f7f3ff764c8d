/- Contracts of the laws on lists whose elements hold slices: equal, marked, held. -/
import Derived.Test.YtoeceafibmafpaaDoorDN
import Derived.Test.YtoeceafibmafpaaDoorL1
import Derived.Test.YtoeceafibmafpaaDoorL3
namespace Go.Proofs.YtoeceafibmafpaaDoor.Am
open Go
set_option maxRecDepth 100000
set_option maxHeartbeats 4000000
set_option linter.unusedSimpArgs false
set_option linter.unusedVariables false
attribute [local go_sem ↓] bv_t bv_c ev_t ev_c put_same put_ne put_none kill_at pro_at lb_same lb_ne start_zero start_succ wpC_seq wpC_reg wpC_cond wpC_block wpC_skip wpC_exit wpC_ret thenQ_normal thenQ_exit thenQ_ret inBlk_normal inBlk_exit inBlk_ret wpS_nil wpS_step wpS_again wpS_guard wpO_mov wpO_load wpO_faddr wpO_nilCheck wpO_pick wpO_build wpO_bin wpO_eqb wpO_eqst wpO_eqnil wpO_not wpO_conv wpO_bytesStr wpO_iaddr wpO_idxStr wpO_field wpO_extract wpO_len wpO_lenStr wpO_cap wpO_min wpO_slice wpO_sliceStr wpO_alloc wpO_box wpO_store wpO_call wpO_callv wpO_mkfn wpO_buildSlice wpO_mkslice wpO_append wpO_appz proA_nil proA_cons tmpX_nil tmpX_tmp tmpX_cell doneB_normal doneB_ret agK_cons agK_nil agK_guard agG_tt agG_ff agG_tf agG_ft agG_undef pureB_load results_one results_two results_nil resBs_cons resBs_nil resB_tmp resB_cell
attribute [local go_sem] kill_v kill_lp_ne kill_lp_same pro_v pro_lp_same pro_lp_ne av_v av_lp optB_some optX_some valX_eq ldX_lp ldX_v faX_lp faX_v ncX_lp ncX_ptr ncX_fn boxK_one boxK_agg stL_some stK_lp_one stK_lp_agg stK_v_one stK_v_agg proM_v proM_lp callG_mk callVG_mk callvK_fn fnG_mk ptrsA_nil ptrsA_cons callH_some whenA_true whenA_false guardH_tt guardH_ff guardH_tf guardH_ft guardH_undef agV_one agV_agg lenO_sl lenStrO_str notO_bool pickO_bool convO_int eqbO_bool eqnilO_sl extractO_tup capO_sl minO_int loadL_one loadL_all storeL_eq fillA_nil fillA_one fillA_agg nat_ge neg_ge nat_lt neg_lt buildO bin_add bin_sub bin_mul bin_eql bin_neq bin_lss bin_leq bin_gtr bin_geq str_eql str_neq str_lss str_leq str_gtr str_geq retK_some endK_mk gcK_same gcK_int gcK_bool tupO_one tupO_agg rdy_self ib ii Option.map_none Option.map_some Option.some.injEq exists_eq_left' exists_eq_left ne_eq not_false_eq_true if_true if_false List.map_cons List.map_nil List.getElem?_cons_zero List.getElem?_cons_succ List.length_cons List.length_nil List.take_succ_cons List.take_zero List.take_nil List.drop_succ_cons List.drop_zero List.drop_nil List.cons_append List.nil_append List.append_nil List.set_cons_zero List.set_cons_succ Nat.zero_add forall_const true_and and_true and_self Bool.false_eq_true false_implies true_implies implies_true Bool.not_true Bool.not_false Bool.not_eq_true' Bool.not_eq_false' beq_self_eq_true Bool.bne_true Bool.bne_false
attribute [local go_sem] lenI lenS lenP lenQ lenB lenL lenT encI_0 encS_0 encP_0 encP_1 encQ_0 encQ_1 encQ_2 encQ_3 encB_0 encB_1 encL_0 encL_1 encT_0 encT_1
attribute [local go_sem low] whenA_bool guardH_bool
attribute [local go_sem] lenC encC_0 encC_1 encC_2 encC_3
attribute [local go_sem] lenV encV_0
attribute [local go_sem] lenW encW_0 encW_1
attribute [local go_sem] loadL_agg
/-! laws.eqFunc -/
def L26_0 : List AStep := [⟨.mov (.c (.bool false)), (some 4), none, []⟩]
theorem v26_0 : VS L26_0.eq_1 := rfl
def L26_1 : List AStep := ⟨.box 48 (.t 0), (some 2), none, []⟩ :: ⟨.box 48 (.t 1), (some 3), none, []⟩ :: L26_0
theorem v26_1 : VS L26_1.eq_1 := rfl
def L26_2 : List AStep := [⟨.bin .neq (.t 6) (.t 8), (some 9), none, []⟩]
theorem v26_2 : VS L26_2.eq_1 := rfl
def L26_3 : List AStep := ⟨.faddr 0 (.t 3), (some 7), none, []⟩ :: ⟨.load 1 false (.t 7), (some 8), none, []⟩ :: L26_2
theorem v26_3 : VS L26_3.eq_1 := rfl
def L26_4 : List AStep := ⟨.faddr 0 (.t 2), (some 5), none, []⟩ :: ⟨.load 1 false (.t 5), (some 6), none, []⟩ :: L26_3
theorem v26_4 : VS L26_4.eq_1 := rfl
def L26_5 : List AStep := [⟨.mov (.c (.bool false)), (some 4), none, []⟩]
theorem v26_5 : VS L26_5.eq_1 := rfl
def L26_6 : List AStep := [⟨.call 18 [(.t 11), (.t 13)], (some 14), none, []⟩, ⟨.not (.t 14), (some 15), none, []⟩]
theorem v26_6 : VS L26_6.eq_1 := rfl
def L26_7 : List AStep := ⟨.faddr 1 (.t 3), (some 12), none, []⟩ :: ⟨.load 1 true (.t 12), (some 13), none, []⟩ :: L26_6
theorem v26_7 : VS L26_7.eq_1 := rfl
def L26_8 : List AStep := ⟨.faddr 1 (.t 2), (some 10), none, []⟩ :: ⟨.load 1 true (.t 10), (some 11), none, []⟩ :: L26_7
theorem v26_8 : VS L26_8.eq_1 := rfl
def L26_9 : List AStep := [⟨.mov (.c (.bool false)), (some 4), none, []⟩]
theorem v26_9 : VS L26_9.eq_1 := rfl
def L26_10 : List AStep := [⟨.mov (.c (.bool true)), (some 4), none, []⟩]
theorem v26_10 : VS L26_10.eq_1 := rfl
def C26_0 : ACode := .seq (.reg L26_5) .ret
theorem u26_0 : VC C26_0.eq_1 := rfl
def C26_1 : ACode := .cond (.t 9) C26_0 .skip
theorem u26_1 : VC C26_1.eq_1 := rfl
def C26_2 : ACode := .seq (.reg L26_4) C26_1
theorem u26_2 : VC C26_2.eq_1 := rfl
def C26_3 : ACode := .seq (.reg L26_9) .ret
theorem u26_3 : VC C26_3.eq_1 := rfl
def C26_4 : ACode := .cond (.t 15) C26_3 .skip
theorem u26_4 : VC C26_4.eq_1 := rfl
def C26_5 : ACode := .seq (.reg L26_8) C26_4
theorem u26_5 : VC C26_5.eq_1 := rfl
def C26_6 : ACode := .seq (.reg L26_10) .ret
theorem u26_6 : VC C26_6.eq_1 := rfl
def C26_7 : ACode := .seq C26_5 C26_6
theorem u26_7 : VC C26_7.eq_1 := rfl
def C26_8 : ACode := .seq C26_2 C26_7
theorem u26_8 : VC C26_8.eq_1 := rfl
def C26_9 : ACode := .seq (.reg L26_1) C26_8
theorem u26_9 : VC C26_9.eq_1 := rfl
def F26 : AFunc := ⟨16, [.tmp 4], C26_9⟩
theorem cF26 : compB Tryd.prog 26 = some F26 := by kernel_rfl
attribute [local go_sem ↓] u26_0 u26_1 u26_2 u26_3 u26_4 u26_5 u26_6 u26_7 u26_8 u26_9 v26_0 v26_1 v26_2 v26_3 v26_4 v26_5 v26_6 v26_7 v26_8 v26_9 v26_10
theorem c_eqFunc (r q : RFunc) (a b : Func) (h : H) (x : AtW 83 h r a) (y : AtW 83 h q b) (k0 : a.params.length ≤ big) : bm Tryd.prog 26 [.agg (encW r), .agg (encW q)] h = some (ib (decide (a = b)), h) := by
  refine bm_eq cF26 ?_
  have e1 : encW r = [.str a.name, r.qv] := by simp only [encW, x.name]
  have e2 : encW q = [.str b.name, q.qv] := by simp only [encW, y.name]
  have ed : decide (a = b) = (decide (a.name = b.name) && decide (a.params = b.params)) := by
    cases a
    cases b
    rw [Bool.eq_iff_iff]
    simp
  rw [e1, e2, ed]
  cases b0 : decide (a.name = b.name) with
  | false => simp +contextual (maxSteps := 2000000) only [go_sem, Nat.reduceEqDiff, reduceCtorEq, Nat.reduceAdd, Nat.reduceLeDiff, F26, c_eqSignature _ _ _ _ _ x.params y.params k0, b0, Bool.true_and, Bool.false_and]
  | true =>
  cases b1 : decide (a.params = b.params) with
  | false => simp +contextual (maxSteps := 2000000) only [go_sem, Nat.reduceEqDiff, reduceCtorEq, Nat.reduceAdd, Nat.reduceLeDiff, F26, c_eqSignature _ _ _ _ _ x.params y.params k0, b0, b1, Bool.true_and, Bool.false_and]
  | true =>
  simp +contextual (maxSteps := 2000000) only [go_sem, Nat.reduceEqDiff, reduceCtorEq, Nat.reduceAdd, Nat.reduceLeDiff, F26, c_eqSignature _ _ _ _ _ x.params y.params k0, b0, b1, Bool.true_and]
/-! laws.eqFuncS -/
def L29_0 : List AStep := [⟨.mov (.c (.bool false)), (some 4), none, []⟩]
theorem v29_0 : VS L29_0.eq_1 := rfl
def L29_1 : List AStep := [⟨.bin .neq (.t 7) (.t 9), (some 10), none, []⟩]
theorem v29_1 : VS L29_1.eq_1 := rfl
def L29_2 : List AStep := ⟨.mov (.t 1), (some 8), none, []⟩ :: ⟨.len (.t 8), (some 9), none, []⟩ :: L29_1
theorem v29_2 : VS L29_2.eq_1 := rfl
def L29_3 : List AStep := ⟨.mov (.t 0), (some 6), none, []⟩ :: ⟨.len (.t 6), (some 7), none, []⟩ :: L29_2
theorem v29_3 : VS L29_3.eq_1 := rfl
def L29_4 : List AStep := [⟨.mov (.c (.bool false)), (some 4), none, []⟩]
theorem v29_4 : VS L29_4.eq_1 := rfl
def L29_5 : List AStep := [⟨.mov (.c (.int .i64 0)), (some 5), none, []⟩]
theorem v29_5 : VS L29_5.eq_1 := rfl
def L29_6 : List AStep := [⟨.len (.t 12), (some 13), none, []⟩, ⟨.bin .lss (.t 11) (.t 13), (some 14), none, []⟩]
theorem v29_6 : VS L29_6.eq_1 := rfl
def L29_7 : List AStep := ⟨.mov (.t 5), (some 11), none, []⟩ :: ⟨.mov (.t 0), (some 12), none, []⟩ :: L29_6
theorem v29_7 : VS L29_7.eq_1 := rfl
def L29_8 : List AStep := [⟨.call 26 [(.t 20), (.t 24)], (some 25), none, []⟩, ⟨.not (.t 25), (some 26), none, []⟩]
theorem v29_8 : VS L29_8.eq_1 := rfl
def L29_9 : List AStep := ⟨.iaddr 2 (.t 21) (.t 22), (some 23), none, []⟩ :: ⟨.load 2 true (.t 23), (some 24), none, []⟩ :: L29_8
theorem v29_9 : VS L29_9.eq_1 := rfl
def L29_10 : List AStep := ⟨.mov (.t 1), (some 21), none, []⟩ :: ⟨.mov (.t 5), (some 22), none, []⟩ :: L29_9
theorem v29_10 : VS L29_10.eq_1 := rfl
def L29_11 : List AStep := ⟨.iaddr 2 (.t 17) (.t 18), (some 19), none, []⟩ :: ⟨.load 2 true (.t 19), (some 20), none, []⟩ :: L29_10
theorem v29_11 : VS L29_11.eq_1 := rfl
def L29_12 : List AStep := ⟨.mov (.t 0), (some 17), none, []⟩ :: ⟨.mov (.t 5), (some 18), none, []⟩ :: L29_11
theorem v29_12 : VS L29_12.eq_1 := rfl
def L29_13 : List AStep := [⟨.mov (.c (.bool false)), (some 4), none, []⟩]
theorem v29_13 : VS L29_13.eq_1 := rfl
def L29_14 : List AStep := [⟨.mov (.t 16), (some 5), none, []⟩]
theorem v29_14 : VS L29_14.eq_1 := rfl
def L29_15 : List AStep := ⟨.mov (.t 5), (some 15), none, []⟩ :: ⟨.bin .add (.t 15) (.c (.int .i64 1)), (some 16), none, []⟩ :: L29_14
theorem v29_15 : VS L29_15.eq_1 := rfl
def L29_16 : List AStep := [⟨.mov (.c (.bool true)), (some 4), none, []⟩]
theorem v29_16 : VS L29_16.eq_1 := rfl
def C29_0 : ACode := .seq (.reg L29_4) .ret
theorem u29_0 : VC C29_0.eq_1 := rfl
def C29_1 : ACode := .cond (.t 10) C29_0 .skip
theorem u29_1 : VC C29_1.eq_1 := rfl
def C29_2 : ACode := .seq (.reg L29_3) C29_1
theorem u29_2 : VC C29_2.eq_1 := rfl
def C29_3 : ACode := .cond (.t 14) .skip (.exit 0)
theorem u29_3 : VC C29_3.eq_1 := rfl
def C29_4 : ACode := .seq (.reg L29_7) C29_3
theorem u29_4 : VC C29_4.eq_1 := rfl
def C29_5 : ACode := .seq (.reg L29_13) .ret
theorem u29_5 : VC C29_5.eq_1 := rfl
def C29_6 : ACode := .cond (.t 26) C29_5 .skip
theorem u29_6 : VC C29_6.eq_1 := rfl
def C29_7 : ACode := .seq (.reg L29_12) C29_6
theorem u29_7 : VC C29_7.eq_1 := rfl
def C29_8 : ACode := .block 1 C29_7
theorem u29_8 : VC C29_8.eq_1 := rfl
def C29_9 : ACode := .seq C29_8 (.reg L29_15)
theorem u29_9 : VC C29_9.eq_1 := rfl
def C29_10 : ACode := .seq C29_4 C29_9
theorem u29_10 : VC C29_10.eq_1 := rfl
def C29_11 : ACode := .block 0 (.loop C29_10)
theorem u29_11 : VC C29_11.eq_1 := rfl
def C29_12 : ACode := .seq (.reg L29_5) C29_11
theorem u29_12 : VC C29_12.eq_1 := rfl
def C29_13 : ACode := .seq (.reg L29_16) .ret
theorem u29_13 : VC C29_13.eq_1 := rfl
def C29_14 : ACode := .seq C29_12 C29_13
theorem u29_14 : VC C29_14.eq_1 := rfl
def C29_15 : ACode := .seq C29_2 C29_14
theorem u29_15 : VC C29_15.eq_1 := rfl
def C29_16 : ACode := .seq (.reg L29_0) C29_15
theorem u29_16 : VC C29_16.eq_1 := rfl
def F29 : AFunc := ⟨27, [.tmp 4], C29_16⟩
theorem cF29 : compB Tryd.prog 29 = some F29 := by kernel_rfl
attribute [local go_sem ↓] u29_0 u29_1 u29_2 u29_3 u29_4 u29_5 u29_6 u29_7 u29_8 u29_9 u29_10 u29_11 u29_12 u29_13 u29_14 u29_15 u29_16 v29_0 v29_1 v29_2 v29_3 v29_4 v29_5 v29_6 v29_7 v29_8 v29_9 v29_10 v29_11 v29_12 v29_13 v29_14 v29_15 v29_16
theorem c_eqFuncS (l m : List Func) (v w : CV) (h : H) (hl : SlW h v l) (hm : SlW h w m) (hn : miniW l) : bm Tryd.prog 29 [.one v, .one w] h = some (ib (decide (l = m)), h) := by
  refine bm_eq cF29 ?_
  obtain ⟨rs, x⟩ := hl.ex
  obtain ⟨qs, y⟩ := hm.ex
  have len1 := x.out.len
  have len2 := y.out.len
  rw [x.len] at len1
  rw [y.len] at len2
  by_cases hlen : l.length = m.length
  case neg =>
    have e1 : decide ((l.length : Int) = (m.length : Int)) = false := decide_eq_false (by omega)
    simp +contextual (maxSteps := 2000000) only [go_sem, Nat.reduceEqDiff, reduceCtorEq, Nat.reduceAdd, Nat.reduceLeDiff, F29, len1, len2, e1]
    rw [ne_len e1]
  have e1 : decide ((l.length : Int) = (m.length : Int)) = true := decide_eq_true (by omega)
  simp +contextual (maxSteps := 2000000) only [go_sem, Nat.reduceEqDiff, reduceCtorEq, Nat.reduceAdd, Nat.reduceLeDiff, F29, len1, len2, e1]
  refine wpC_loop (fun i T L h' => h' = h ∧ T 0 = .v (.one v) ∧ T 1 = .v (.one w) ∧ T 5 = .v (.one (.int .i64 i)) ∧ Upto (eqAt l m) i) l.length ?_ ?_ (Nat.zero_le _) ?_
  · rintro i T L h' hi ⟨rfl, t0, t1, t5, hu⟩
    have him : i < m.length := by omega
    have hi1 : i < rs.length := by rw [x.len]; exact hi
    have hi2 : i < qs.length := by rw [y.len]; exact him
    have e2 := eqAt_eq hi him
    have hw1 := x.out.whole hi1
    have hw2 := y.out.whole hi2
    have ee := c_eqFunc rs[i] qs[i] _ _ h' (x.el i hi1) (y.el i hi2) (by rw [getW_eq hi]; exact Nat.le_trans (hn.params _ (List.getElem_mem hi)) (by decide))
    rw [getW_eq hi, getW_eq him] at ee
    simp +contextual (maxSteps := 2000000) only [go_sem, Nat.reduceEqDiff, reduceCtorEq, Nat.reduceAdd, Nat.reduceLeDiff, t0, t1, t5, len1, len2, x.out.iaddr hi1, y.out.iaddr hi2, hw1, hw2, ee, lt_true hi]
    (repeat' (first | refine And.intro ?_ ?_ | intro _)) <;> first | rfl | rw [wrap_next hi (Nat.lt_of_le_of_lt hn.len (by decide))] | (refine hu.next ?_; rw [e2]; (simp_all; done)) | (rw [ne_at (l := l) (m := m) (i := i)]; rw [e2]; (simp_all; done))
  · rintro T L h' ⟨rfl, t0, t1, t5, hu⟩
    simp +contextual (maxSteps := 2000000) only [go_sem, Nat.reduceEqDiff, reduceCtorEq, Nat.reduceAdd, Nat.reduceLeDiff, t0, t1, t5, len1, len2, lt_false, decide_eq_true (eq_of_upto hlen hu)]
  · simp +contextual (maxSteps := 2000000) only [go_sem, Nat.reduceEqDiff, reduceCtorEq, Nat.reduceAdd, Nat.reduceLeDiff]
    (repeat' (first | refine And.intro ?_ ?_ | intro _)) <;> first | rfl | exact Upto.zero
end Go.Proofs.YtoeceafibmafpaaDoor.Am
