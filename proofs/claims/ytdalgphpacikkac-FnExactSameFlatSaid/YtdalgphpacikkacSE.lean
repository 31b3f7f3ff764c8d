/- Contracts: the same flat calls, of both sides. -/
import Derived.Test.YtdalgphpacikkacA1
import Derived.Test.YtdalgphpacikkacA3
import Derived.Test.YtdalgphpacikkacB1
import Derived.Test.YtdalgphpacikkacSD
namespace Go.Proofs.Ytdalgphpacikkac.Am
open Go
set_option maxRecDepth 100000
set_option maxHeartbeats 4000000
set_option linter.unusedSimpArgs false
set_option linter.unusedVariables false
attribute [local go_sem ↓] bv_t bv_c ev_t ev_c put_same put_ne put_none kill_at pro_at lb_same lb_ne start_zero start_succ wpC_seq wpC_reg wpC_cond wpC_block wpC_skip wpC_exit wpC_ret thenQ_normal thenQ_exit thenQ_ret inBlk_normal inBlk_exit inBlk_ret wpS_nil wpS_step wpS_again wpS_guard wpO_mov wpO_load wpO_faddr wpO_nilCheck wpO_pick wpO_build wpO_bin wpO_eqb wpO_eqst wpO_eqnil wpO_not wpO_conv wpO_bytesStr wpO_iaddr wpO_idxStr wpO_field wpO_extract wpO_len wpO_lenStr wpO_cap wpO_min wpO_slice wpO_sliceStr wpO_alloc wpO_box wpO_store wpO_call wpO_callv wpO_mkfn wpO_buildSlice wpO_mkslice wpO_append wpO_appz proA_nil proA_cons tmpX_nil tmpX_tmp tmpX_cell doneB_normal doneB_ret agK_cons agK_nil agK_guard agG_tt agG_ff agG_tf agG_ft agG_undef pureB_load results_one results_two results_nil resBs_cons resBs_nil resB_tmp resB_cell
attribute [local go_sem] kill_v kill_lp_ne kill_lp_same pro_v pro_lp_same pro_lp_ne av_v av_lp optB_some optX_some valX_eq ldX_lp ldX_v faX_lp faX_v ncX_lp ncX_ptr ncX_fn boxK_one boxK_agg stL_some stK_lp_one stK_lp_agg stK_v_one stK_v_agg proM_v proM_lp callG_mk callVG_mk callvK_fn fnG_mk ptrsA_nil ptrsA_cons callH_some whenA_true whenA_false guardH_tt guardH_ff guardH_tf guardH_ft guardH_undef agV_one agV_agg lenO_sl lenStrO_str notO_bool pickO_bool convO_int eqbO_bool eqnilO_sl extractO_tup capO_sl minO_int loadL_one loadL_all storeL_eq fillA_nil fillA_one fillA_agg nat_ge neg_ge nat_lt neg_lt buildO bin_add bin_sub bin_mul bin_eql bin_neq bin_lss bin_leq bin_gtr bin_geq str_eql str_neq str_lss str_leq str_gtr str_geq retK_some endK_mk gcK_same gcK_int gcK_bool tupO_one tupO_agg rdy_self ib ii Option.map_none Option.map_some Option.some.injEq exists_eq_left' exists_eq_left ne_eq not_false_eq_true if_true if_false List.map_cons List.map_nil List.getElem?_cons_zero List.getElem?_cons_succ List.length_cons List.length_nil List.take_succ_cons List.take_zero List.take_nil List.drop_succ_cons List.drop_zero List.drop_nil List.cons_append List.nil_append List.append_nil List.set_cons_zero List.set_cons_succ Nat.zero_add forall_const true_and and_true and_self Bool.false_eq_true false_implies true_implies implies_true Bool.not_true Bool.not_false Bool.not_eq_true' Bool.not_eq_false' beq_self_eq_true Bool.bne_true Bool.bne_false
attribute [local go_sem] lenI lenS lenP lenQ lenB lenL lenT encI_0 encS_0 encP_0 encP_1 encQ_0 encQ_1 encQ_2 encQ_3 encB_0 encB_1 encL_0 encL_1 encT_0 encT_1
attribute [local go_sem low] whenA_bool guardH_bool
/-- Up to i two lists are the same. -/
def Alike {α : Type} (l m : List α) (i : Nat) : Prop := ∀ j, j < i → l[j]? = m[j]?
theorem Alike.zero {α : Type} {l m : List α} : Alike l m 0 := fun j hj => absurd hj (by omega)
theorem Alike.next {α : Type} [DecidableEq α] {l m : List α} {i : Nat} (h : Alike l m i) (hi : i < l.length) (hj : i < m.length) (e : decide (l[i] = m[i]) = true) : Alike l m (i + 1) := fun j hj' => by
  by_cases e2 : j = i
  · subst e2
    rw [List.getElem?_eq_getElem hi, List.getElem?_eq_getElem hj, of_decide_eq_true e]
  · exact h j (by omega)
theorem Alike.eq {α : Type} {l m : List α} (h : Alike l m l.length) (e : l.length = m.length) : l = m := by
  refine List.ext_getElem? fun j => ?_
  by_cases hj : j < l.length
  · exact h j hj
  · rw [List.getElem?_eq_none (by omega), List.getElem?_eq_none (by omega)]
theorem not_alike {α : Type} [DecidableEq α] {l m : List α} {i : Nat} (hi : i < l.length) (hj : i < m.length) (e : decide (l[i] = m[i]) = false) : ¬ l = m := by
  rintro rfl
  simp at e
theorem len_ne {α : Type} {l m : List α} (e : decide ((l.length : Int) = (m.length : Int)) = false) : ¬ l = m := by
  rintro rfl
  simp at e
theorem len_eq {α : Type} {l m : List α} (e : decide ((l.length : Int) = (m.length : Int)) = true) : l.length = m.length := by have := of_decide_eq_true e; omega
def cmpS (s t : ByteArray) : Int := if sLess s t = true then -1 else if s = t then 0 else 1
theorem cmpS_neg {s t : ByteArray} : decide (cmpS s t < 0) = sLess s t := by
  unfold cmpS
  cases sLess s t with
  | true => rfl
  | false =>
    simp only [Bool.false_eq_true, if_false]
    split <;> rfl
/-! slices.Equal(()int,int) -/
def L81_0 : List AStep := [⟨.mov (.c (.bool false)), (some 4), none, []⟩]
theorem v81_0 : VS L81_0.eq_1 := rfl
def L81_1 : List AStep := [⟨.bin .neq (.t 7) (.t 9), (some 10), none, []⟩]
theorem v81_1 : VS L81_1.eq_1 := rfl
def L81_2 : List AStep := ⟨.mov (.t 1), (some 8), none, []⟩ :: ⟨.len (.t 8), (some 9), none, []⟩ :: L81_1
theorem v81_2 : VS L81_2.eq_1 := rfl
def L81_3 : List AStep := ⟨.mov (.t 0), (some 6), none, []⟩ :: ⟨.len (.t 6), (some 7), none, []⟩ :: L81_2
theorem v81_3 : VS L81_3.eq_1 := rfl
def L81_4 : List AStep := [⟨.mov (.c (.bool false)), (some 4), none, []⟩]
theorem v81_4 : VS L81_4.eq_1 := rfl
def L81_5 : List AStep := [⟨.mov (.c (.int .i64 0)), (some 13), none, []⟩]
theorem v81_5 : VS L81_5.eq_1 := rfl
def L81_6 : List AStep := ⟨.mov (.t 0), (some 11), none, []⟩ :: ⟨.len (.t 11), (some 12), none, []⟩ :: L81_5
theorem v81_6 : VS L81_6.eq_1 := rfl
def L81_7 : List AStep := [⟨.bin .lss (.t 13) (.t 12), (some 14), none, []⟩]
theorem v81_7 : VS L81_7.eq_1 := rfl
def L81_8 : List AStep := [⟨.mov (.t 13), (some 15), none, []⟩, ⟨.mov (.t 15), (some 5), none, []⟩]
theorem v81_8 : VS L81_8.eq_1 := rfl
def L81_9 : List AStep := [⟨.bin .neq (.t 19) (.t 23), (some 24), none, []⟩]
theorem v81_9 : VS L81_9.eq_1 := rfl
def L81_10 : List AStep := ⟨.iaddr 1 (.t 20) (.t 21), (some 22), none, []⟩ :: ⟨.load 1 false (.t 22), (some 23), none, []⟩ :: L81_9
theorem v81_10 : VS L81_10.eq_1 := rfl
def L81_11 : List AStep := ⟨.mov (.t 1), (some 20), none, []⟩ :: ⟨.mov (.t 5), (some 21), none, []⟩ :: L81_10
theorem v81_11 : VS L81_11.eq_1 := rfl
def L81_12 : List AStep := ⟨.iaddr 1 (.t 16) (.t 17), (some 18), none, []⟩ :: ⟨.load 1 false (.t 18), (some 19), none, []⟩ :: L81_11
theorem v81_12 : VS L81_12.eq_1 := rfl
def L81_13 : List AStep := ⟨.mov (.t 0), (some 16), none, []⟩ :: ⟨.mov (.t 5), (some 17), none, []⟩ :: L81_12
theorem v81_13 : VS L81_13.eq_1 := rfl
def L81_14 : List AStep := [⟨.mov (.c (.bool false)), (some 4), none, []⟩]
theorem v81_14 : VS L81_14.eq_1 := rfl
def L81_15 : List AStep := [⟨.bin .add (.t 13) (.c (.int .i64 1)), (some 25), none, []⟩, ⟨.mov (.t 25), (some 13), none, []⟩]
theorem v81_15 : VS L81_15.eq_1 := rfl
def L81_16 : List AStep := [⟨.mov (.c (.bool true)), (some 4), none, []⟩]
theorem v81_16 : VS L81_16.eq_1 := rfl
def C81_0 : ACode := .seq (.reg L81_4) .ret
theorem u81_0 : VC C81_0.eq_1 := rfl
def C81_1 : ACode := .cond (.t 10) C81_0 .skip
theorem u81_1 : VC C81_1.eq_1 := rfl
def C81_2 : ACode := .seq (.reg L81_3) C81_1
theorem u81_2 : VC C81_2.eq_1 := rfl
def C81_3 : ACode := .cond (.t 14) .skip (.exit 0)
theorem u81_3 : VC C81_3.eq_1 := rfl
def C81_4 : ACode := .seq (.reg L81_14) .ret
theorem u81_4 : VC C81_4.eq_1 := rfl
def C81_5 : ACode := .cond (.t 24) C81_4 .skip
theorem u81_5 : VC C81_5.eq_1 := rfl
def C81_6 : ACode := .seq (.reg L81_13) C81_5
theorem u81_6 : VC C81_6.eq_1 := rfl
def C81_7 : ACode := .seq (.reg L81_8) C81_6
theorem u81_7 : VC C81_7.eq_1 := rfl
def C81_8 : ACode := .block 1 C81_7
theorem u81_8 : VC C81_8.eq_1 := rfl
def C81_9 : ACode := .seq C81_8 (.reg L81_15)
theorem u81_9 : VC C81_9.eq_1 := rfl
def C81_10 : ACode := .seq C81_3 C81_9
theorem u81_10 : VC C81_10.eq_1 := rfl
def C81_11 : ACode := .seq (.reg L81_7) C81_10
theorem u81_11 : VC C81_11.eq_1 := rfl
def C81_12 : ACode := .block 0 (.loop C81_11)
theorem u81_12 : VC C81_12.eq_1 := rfl
def C81_13 : ACode := .seq (.reg L81_6) C81_12
theorem u81_13 : VC C81_13.eq_1 := rfl
def C81_14 : ACode := .seq (.reg L81_16) .ret
theorem u81_14 : VC C81_14.eq_1 := rfl
def C81_15 : ACode := .seq C81_13 C81_14
theorem u81_15 : VC C81_15.eq_1 := rfl
def C81_16 : ACode := .seq C81_2 C81_15
theorem u81_16 : VC C81_16.eq_1 := rfl
def C81_17 : ACode := .seq (.reg L81_0) C81_16
theorem u81_17 : VC C81_17.eq_1 := rfl
def F81 : AFunc := ⟨26, [.tmp 4], C81_17⟩
theorem cF81 : compB Try.prog 81 = some F81 := by kernel_rfl
attribute [local go_sem ↓] u81_0 u81_1 u81_2 u81_3 u81_4 u81_5 u81_6 u81_7 u81_8 u81_9 u81_10 u81_11 u81_12 u81_13 u81_14 u81_15 u81_16 u81_17 v81_0 v81_1 v81_2 v81_3 v81_4 v81_5 v81_6 v81_7 v81_8 v81_9 v81_10 v81_11 v81_12 v81_13 v81_14 v81_15 v81_16
theorem c_equalI (l m : List Int) (v w : AV) (h : H) (hl : SlI h v l) (hm : SlI h w m) (hn : l.length ≤ big) : bm Try.prog 81 [v, w] h = some (ib (decide (l = m)), h) := by
  refine bm_eq cF81 ?_
  cases e : decide ((l.length : Int) = (m.length : Int)) with
  | false => simp +contextual (maxSteps := 2000000) only [go_sem, Nat.reduceEqDiff, reduceCtorEq, Nat.reduceAdd, Nat.reduceLeDiff, F81, hl.len, hm.len, e, decide_eq_false (len_ne e)]
  | true =>
  have e' := len_eq e
  simp +contextual (maxSteps := 2000000) only [go_sem, Nat.reduceEqDiff, reduceCtorEq, Nat.reduceAdd, Nat.reduceLeDiff, F81, hl.len, hm.len, e]
  refine wpC_loop (fun i T L h' => h' = h ∧ T 0 = .v v ∧ T 1 = .v w ∧ T 12 = .v (.one (.int .i64 l.length)) ∧ T 13 = .v (.one (.int .i64 i)) ∧ Alike l m i) l.length ?_ ?_ (Nat.zero_le _) ?_
  · rintro i T L h' hi ⟨rfl, t0, t1, t12, t13, ha⟩
    have hj : i < m.length := by omega
    cases b : decide (l[i] = m[i]) with
    | true =>
      simp +contextual (maxSteps := 2000000) only [go_sem, Nat.reduceEqDiff, reduceCtorEq, Nat.reduceAdd, Nat.reduceLeDiff, t0, t1, t12, t13, hl.iaddr hi, hm.iaddr hj, hl.oneO hi, hm.oneO hj, lt_true hi, b]
      exact ⟨by rw [wrap_next hi (big_lt hn)], ha.next hi hj b⟩
    | false =>
      simp +contextual (maxSteps := 2000000) only [go_sem, Nat.reduceEqDiff, reduceCtorEq, Nat.reduceAdd, Nat.reduceLeDiff, t0, t1, t12, t13, hl.iaddr hi, hm.iaddr hj, hl.oneO hi, hm.oneO hj, lt_true hi, b, decide_eq_false (not_alike hi hj b)]
  · rintro T L h' ⟨rfl, t0, t1, t12, t13, ha⟩
    simp +contextual (maxSteps := 2000000) only [go_sem, Nat.reduceEqDiff, reduceCtorEq, Nat.reduceAdd, Nat.reduceLeDiff, t0, t1, t12, t13, lt_false, decide_eq_true (ha.eq e')]
  · simp +contextual (maxSteps := 2000000) only [go_sem, Nat.reduceEqDiff, reduceCtorEq, Nat.reduceAdd, Nat.reduceLeDiff]
    exact ⟨rfl, Alike.zero⟩
/-! slices.Equal(()impl.Pair,impl.Pair) -/
def L82_0 : List AStep := [⟨.mov (.c (.bool false)), (some 4), none, []⟩]
theorem v82_0 : VS L82_0.eq_1 := rfl
def L82_1 : List AStep := [⟨.bin .neq (.t 7) (.t 9), (some 10), none, []⟩]
theorem v82_1 : VS L82_1.eq_1 := rfl
def L82_2 : List AStep := ⟨.mov (.t 1), (some 8), none, []⟩ :: ⟨.len (.t 8), (some 9), none, []⟩ :: L82_1
theorem v82_2 : VS L82_2.eq_1 := rfl
def L82_3 : List AStep := ⟨.mov (.t 0), (some 6), none, []⟩ :: ⟨.len (.t 6), (some 7), none, []⟩ :: L82_2
theorem v82_3 : VS L82_3.eq_1 := rfl
def L82_4 : List AStep := [⟨.mov (.c (.bool false)), (some 4), none, []⟩]
theorem v82_4 : VS L82_4.eq_1 := rfl
def L82_5 : List AStep := [⟨.mov (.c (.int .i64 0)), (some 13), none, []⟩]
theorem v82_5 : VS L82_5.eq_1 := rfl
def L82_6 : List AStep := ⟨.mov (.t 0), (some 11), none, []⟩ :: ⟨.len (.t 11), (some 12), none, []⟩ :: L82_5
theorem v82_6 : VS L82_6.eq_1 := rfl
def L82_7 : List AStep := [⟨.bin .lss (.t 13) (.t 12), (some 14), none, []⟩]
theorem v82_7 : VS L82_7.eq_1 := rfl
def L82_8 : List AStep := [⟨.mov (.t 13), (some 15), none, []⟩, ⟨.mov (.t 15), (some 5), none, []⟩]
theorem v82_8 : VS L82_8.eq_1 := rfl
def L82_9 : List AStep := [⟨.eqst true [2, 1] (.t 19) (.t 23), (some 24), none, []⟩]
theorem v82_9 : VS L82_9.eq_1 := rfl
def L82_10 : List AStep := ⟨.iaddr 2 (.t 20) (.t 21), (some 22), none, []⟩ :: ⟨.load 2 true (.t 22), (some 23), none, []⟩ :: L82_9
theorem v82_10 : VS L82_10.eq_1 := rfl
def L82_11 : List AStep := ⟨.mov (.t 1), (some 20), none, []⟩ :: ⟨.mov (.t 5), (some 21), none, []⟩ :: L82_10
theorem v82_11 : VS L82_11.eq_1 := rfl
def L82_12 : List AStep := ⟨.iaddr 2 (.t 16) (.t 17), (some 18), none, []⟩ :: ⟨.load 2 true (.t 18), (some 19), none, []⟩ :: L82_11
theorem v82_12 : VS L82_12.eq_1 := rfl
def L82_13 : List AStep := ⟨.mov (.t 0), (some 16), none, []⟩ :: ⟨.mov (.t 5), (some 17), none, []⟩ :: L82_12
theorem v82_13 : VS L82_13.eq_1 := rfl
def L82_14 : List AStep := [⟨.mov (.c (.bool false)), (some 4), none, []⟩]
theorem v82_14 : VS L82_14.eq_1 := rfl
def L82_15 : List AStep := [⟨.bin .add (.t 13) (.c (.int .i64 1)), (some 25), none, []⟩, ⟨.mov (.t 25), (some 13), none, []⟩]
theorem v82_15 : VS L82_15.eq_1 := rfl
def L82_16 : List AStep := [⟨.mov (.c (.bool true)), (some 4), none, []⟩]
theorem v82_16 : VS L82_16.eq_1 := rfl
def C82_0 : ACode := .seq (.reg L82_4) .ret
theorem u82_0 : VC C82_0.eq_1 := rfl
def C82_1 : ACode := .cond (.t 10) C82_0 .skip
theorem u82_1 : VC C82_1.eq_1 := rfl
def C82_2 : ACode := .seq (.reg L82_3) C82_1
theorem u82_2 : VC C82_2.eq_1 := rfl
def C82_3 : ACode := .cond (.t 14) .skip (.exit 0)
theorem u82_3 : VC C82_3.eq_1 := rfl
def C82_4 : ACode := .seq (.reg L82_14) .ret
theorem u82_4 : VC C82_4.eq_1 := rfl
def C82_5 : ACode := .cond (.t 24) C82_4 .skip
theorem u82_5 : VC C82_5.eq_1 := rfl
def C82_6 : ACode := .seq (.reg L82_13) C82_5
theorem u82_6 : VC C82_6.eq_1 := rfl
def C82_7 : ACode := .seq (.reg L82_8) C82_6
theorem u82_7 : VC C82_7.eq_1 := rfl
def C82_8 : ACode := .block 1 C82_7
theorem u82_8 : VC C82_8.eq_1 := rfl
def C82_9 : ACode := .seq C82_8 (.reg L82_15)
theorem u82_9 : VC C82_9.eq_1 := rfl
def C82_10 : ACode := .seq C82_3 C82_9
theorem u82_10 : VC C82_10.eq_1 := rfl
def C82_11 : ACode := .seq (.reg L82_7) C82_10
theorem u82_11 : VC C82_11.eq_1 := rfl
def C82_12 : ACode := .block 0 (.loop C82_11)
theorem u82_12 : VC C82_12.eq_1 := rfl
def C82_13 : ACode := .seq (.reg L82_6) C82_12
theorem u82_13 : VC C82_13.eq_1 := rfl
def C82_14 : ACode := .seq (.reg L82_16) .ret
theorem u82_14 : VC C82_14.eq_1 := rfl
def C82_15 : ACode := .seq C82_13 C82_14
theorem u82_15 : VC C82_15.eq_1 := rfl
def C82_16 : ACode := .seq C82_2 C82_15
theorem u82_16 : VC C82_16.eq_1 := rfl
def C82_17 : ACode := .seq (.reg L82_0) C82_16
theorem u82_17 : VC C82_17.eq_1 := rfl
def F82 : AFunc := ⟨26, [.tmp 4], C82_17⟩
theorem cF82 : compB Try.prog 82 = some F82 := by kernel_rfl
attribute [local go_sem ↓] u82_0 u82_1 u82_2 u82_3 u82_4 u82_5 u82_6 u82_7 u82_8 u82_9 u82_10 u82_11 u82_12 u82_13 u82_14 u82_15 u82_16 u82_17 v82_0 v82_1 v82_2 v82_3 v82_4 v82_5 v82_6 v82_7 v82_8 v82_9 v82_10 v82_11 v82_12 v82_13 v82_14 v82_15 v82_16
theorem c_equalP (l m : List Pair) (v w : AV) (h : H) (hl : SlP h v l) (hm : SlP h w m) (hn : l.length ≤ big) : bm Try.prog 82 [v, w] h = some (ib (decide (l = m)), h) := by
  refine bm_eq cF82 ?_
  cases e : decide ((l.length : Int) = (m.length : Int)) with
  | false => simp +contextual (maxSteps := 2000000) only [go_sem, Nat.reduceEqDiff, reduceCtorEq, Nat.reduceAdd, Nat.reduceLeDiff, F82, hl.len, hm.len, e, decide_eq_false (len_ne e)]
  | true =>
  have e' := len_eq e
  simp +contextual (maxSteps := 2000000) only [go_sem, Nat.reduceEqDiff, reduceCtorEq, Nat.reduceAdd, Nat.reduceLeDiff, F82, hl.len, hm.len, e]
  refine wpC_loop (fun i T L h' => h' = h ∧ T 0 = .v v ∧ T 1 = .v w ∧ T 12 = .v (.one (.int .i64 l.length)) ∧ T 13 = .v (.one (.int .i64 i)) ∧ Alike l m i) l.length ?_ ?_ (Nat.zero_le _) ?_
  · rintro i T L h' hi ⟨rfl, t0, t1, t12, t13, ha⟩
    have hj : i < m.length := by omega
    cases b : decide (l[i] = m[i]) with
    | true =>
      simp +contextual (maxSteps := 2000000) only [go_sem, Nat.reduceEqDiff, reduceCtorEq, Nat.reduceAdd, Nat.reduceLeDiff, t0, t1, t12, t13, hl.iaddr hi, hm.iaddr hj, hl.whole hi, hm.whole hj, lt_true hi, eqP, b]
      exact ⟨by rw [wrap_next hi (big_lt hn)], ha.next hi hj b⟩
    | false =>
      simp +contextual (maxSteps := 2000000) only [go_sem, Nat.reduceEqDiff, reduceCtorEq, Nat.reduceAdd, Nat.reduceLeDiff, t0, t1, t12, t13, hl.iaddr hi, hm.iaddr hj, hl.whole hi, hm.whole hj, lt_true hi, eqP, b, decide_eq_false (not_alike hi hj b)]
  · rintro T L h' ⟨rfl, t0, t1, t12, t13, ha⟩
    simp +contextual (maxSteps := 2000000) only [go_sem, Nat.reduceEqDiff, reduceCtorEq, Nat.reduceAdd, Nat.reduceLeDiff, t0, t1, t12, t13, lt_false, decide_eq_true (ha.eq e')]
  · simp +contextual (maxSteps := 2000000) only [go_sem, Nat.reduceEqDiff, reduceCtorEq, Nat.reduceAdd, Nat.reduceLeDiff]
    exact ⟨rfl, Alike.zero⟩
/-! cmp.isNaN(string) -/
def L153_0 : List AStep := [⟨.mov (.c (.bool false)), (some 2), none, []⟩]
theorem v153_0 : VS L153_0.eq_1 := rfl
def L153_1 : List AStep := [⟨.bin .neq (.t 3) (.t 4), (some 5), none, []⟩, ⟨.mov (.t 5), (some 2), none, []⟩]
theorem v153_1 : VS L153_1.eq_1 := rfl
def L153_2 : List AStep := ⟨.mov (.t 0), (some 3), none, []⟩ :: ⟨.mov (.t 0), (some 4), none, []⟩ :: L153_1
theorem v153_2 : VS L153_2.eq_1 := rfl
def C153_0 : ACode := .seq (.reg L153_2) .ret
theorem u153_0 : VC C153_0.eq_1 := rfl
def C153_1 : ACode := .seq (.reg L153_0) C153_0
theorem u153_1 : VC C153_1.eq_1 := rfl
def F153 : AFunc := ⟨6, [.tmp 2], C153_1⟩
theorem cF153 : compB Try.prog 153 = some F153 := by kernel_rfl
attribute [local go_sem ↓] u153_0 u153_1 v153_0 v153_1 v153_2
theorem c_isNaN (s : ByteArray) (h : H) : bm Try.prog 153 [.one (.str s)] h = some (ib false, h) := by
  refine bm_eq cF153 ?_
  simp +contextual (maxSteps := 2000000) only [go_sem, Nat.reduceEqDiff, reduceCtorEq, Nat.reduceAdd, Nat.reduceLeDiff, F153, decide_true]
/-! cmp.Compare(string) -/
def L124_0 : List AStep := [⟨.mov (.c (.int .i64 0)), (some 4), none, []⟩]
theorem v124_0 : VS L124_0.eq_1 := rfl
def L124_1 : List AStep := [⟨.mov (.t 8), (some 5), none, []⟩]
theorem v124_1 : VS L124_1.eq_1 := rfl
def L124_2 : List AStep := ⟨.mov (.t 0), (some 7), none, []⟩ :: ⟨.call 153 [(.t 7)], (some 8), none, []⟩ :: L124_1
theorem v124_2 : VS L124_2.eq_1 := rfl
def L124_3 : List AStep := [⟨.mov (.t 10), (some 6), none, []⟩]
theorem v124_3 : VS L124_3.eq_1 := rfl
def L124_4 : List AStep := ⟨.mov (.t 1), (some 9), none, []⟩ :: ⟨.call 153 [(.t 9)], (some 10), none, []⟩ :: L124_3
theorem v124_4 : VS L124_4.eq_1 := rfl
def L124_5 : List AStep := [⟨.mov (.t 5), (some 11), none, []⟩]
theorem v124_5 : VS L124_5.eq_1 := rfl
def L124_6 : List AStep := [⟨.mov (.t 6), (some 12), none, []⟩]
theorem v124_6 : VS L124_6.eq_1 := rfl
def L124_7 : List AStep := [⟨.mov (.c (.int .i64 0)), (some 4), none, []⟩]
theorem v124_7 : VS L124_7.eq_1 := rfl
def L124_8 : List AStep := [⟨.mov (.c (.int .i64 (-1))), (some 4), none, []⟩]
theorem v124_8 : VS L124_8.eq_1 := rfl
def L124_9 : List AStep := [⟨.mov (.t 6), (some 13), none, []⟩]
theorem v124_9 : VS L124_9.eq_1 := rfl
def L124_10 : List AStep := [⟨.mov (.c (.int .i64 1)), (some 4), none, []⟩]
theorem v124_10 : VS L124_10.eq_1 := rfl
def L124_11 : List AStep := [⟨.bin .lss (.t 14) (.t 15), (some 16), none, []⟩]
theorem v124_11 : VS L124_11.eq_1 := rfl
def L124_12 : List AStep := ⟨.mov (.t 0), (some 14), none, []⟩ :: ⟨.mov (.t 1), (some 15), none, []⟩ :: L124_11
theorem v124_12 : VS L124_12.eq_1 := rfl
def L124_13 : List AStep := [⟨.mov (.c (.int .i64 (-1))), (some 4), none, []⟩]
theorem v124_13 : VS L124_13.eq_1 := rfl
def L124_14 : List AStep := [⟨.bin .gtr (.t 17) (.t 18), (some 19), none, []⟩]
theorem v124_14 : VS L124_14.eq_1 := rfl
def L124_15 : List AStep := ⟨.mov (.t 0), (some 17), none, []⟩ :: ⟨.mov (.t 1), (some 18), none, []⟩ :: L124_14
theorem v124_15 : VS L124_15.eq_1 := rfl
def L124_16 : List AStep := [⟨.mov (.c (.int .i64 1)), (some 4), none, []⟩]
theorem v124_16 : VS L124_16.eq_1 := rfl
def L124_17 : List AStep := [⟨.mov (.c (.int .i64 0)), (some 4), none, []⟩]
theorem v124_17 : VS L124_17.eq_1 := rfl
def C124_0 : ACode := .seq (.reg L124_7) .ret
theorem u124_0 : VC C124_0.eq_1 := rfl
def C124_1 : ACode := .cond (.t 12) C124_0 .skip
theorem u124_1 : VC C124_1.eq_1 := rfl
def C124_2 : ACode := .seq (.reg L124_6) C124_1
theorem u124_2 : VC C124_2.eq_1 := rfl
def C124_3 : ACode := .seq (.reg L124_8) .ret
theorem u124_3 : VC C124_3.eq_1 := rfl
def C124_4 : ACode := .seq C124_2 C124_3
theorem u124_4 : VC C124_4.eq_1 := rfl
def C124_5 : ACode := .cond (.t 11) C124_4 .skip
theorem u124_5 : VC C124_5.eq_1 := rfl
def C124_6 : ACode := .seq (.reg L124_5) C124_5
theorem u124_6 : VC C124_6.eq_1 := rfl
def C124_7 : ACode := .seq (.reg L124_10) .ret
theorem u124_7 : VC C124_7.eq_1 := rfl
def C124_8 : ACode := .cond (.t 13) C124_7 .skip
theorem u124_8 : VC C124_8.eq_1 := rfl
def C124_9 : ACode := .seq (.reg L124_9) C124_8
theorem u124_9 : VC C124_9.eq_1 := rfl
def C124_10 : ACode := .seq (.reg L124_13) .ret
theorem u124_10 : VC C124_10.eq_1 := rfl
def C124_11 : ACode := .cond (.t 16) C124_10 .skip
theorem u124_11 : VC C124_11.eq_1 := rfl
def C124_12 : ACode := .seq (.reg L124_12) C124_11
theorem u124_12 : VC C124_12.eq_1 := rfl
def C124_13 : ACode := .seq (.reg L124_16) .ret
theorem u124_13 : VC C124_13.eq_1 := rfl
def C124_14 : ACode := .cond (.t 19) C124_13 .skip
theorem u124_14 : VC C124_14.eq_1 := rfl
def C124_15 : ACode := .seq (.reg L124_15) C124_14
theorem u124_15 : VC C124_15.eq_1 := rfl
def C124_16 : ACode := .seq (.reg L124_17) .ret
theorem u124_16 : VC C124_16.eq_1 := rfl
def C124_17 : ACode := .seq C124_15 C124_16
theorem u124_17 : VC C124_17.eq_1 := rfl
def C124_18 : ACode := .seq C124_12 C124_17
theorem u124_18 : VC C124_18.eq_1 := rfl
def C124_19 : ACode := .seq C124_9 C124_18
theorem u124_19 : VC C124_19.eq_1 := rfl
def C124_20 : ACode := .seq C124_6 C124_19
theorem u124_20 : VC C124_20.eq_1 := rfl
def C124_21 : ACode := .seq (.reg L124_4) C124_20
theorem u124_21 : VC C124_21.eq_1 := rfl
def C124_22 : ACode := .seq (.reg L124_2) C124_21
theorem u124_22 : VC C124_22.eq_1 := rfl
def C124_23 : ACode := .seq (.reg L124_0) C124_22
theorem u124_23 : VC C124_23.eq_1 := rfl
def F124 : AFunc := ⟨20, [.tmp 4], C124_23⟩
theorem cF124 : compB Try.prog 124 = some F124 := by kernel_rfl
attribute [local go_sem ↓] u124_0 u124_1 u124_2 u124_3 u124_4 u124_5 u124_6 u124_7 u124_8 u124_9 u124_10 u124_11 u124_12 u124_13 u124_14 u124_15 u124_16 u124_17 u124_18 u124_19 u124_20 u124_21 u124_22 u124_23 v124_0 v124_1 v124_2 v124_3 v124_4 v124_5 v124_6 v124_7 v124_8 v124_9 v124_10 v124_11 v124_12 v124_13 v124_14 v124_15 v124_16 v124_17
theorem c_compare (s t : ByteArray) (h : H) : bm Try.prog 124 [.one (.str s), .one (.str t)] h = some (ii (cmpS s t), h) := by
  refine bm_eq cF124 ?_
  unfold cmpS
  cases h1 : sLess s t with
  | true => simp +contextual (maxSteps := 2000000) only [go_sem, Nat.reduceEqDiff, reduceCtorEq, Nat.reduceAdd, Nat.reduceLeDiff, F124, c_isNaN, h1]
  | false =>
  cases h2 : decide (s = t) with
  | true =>
    obtain rfl := of_decide_eq_true h2
    simp +contextual (maxSteps := 2000000) only [go_sem, Nat.reduceEqDiff, reduceCtorEq, Nat.reduceAdd, Nat.reduceLeDiff, F124, c_isNaN, h1, decide_true, Bool.or_true]
  | false => simp +contextual (maxSteps := 2000000) only [go_sem, Nat.reduceEqDiff, reduceCtorEq, Nat.reduceAdd, Nat.reduceLeDiff, F124, c_isNaN, h1, of_decide_eq_false h2, decide_false, Bool.or_false]
/-! impl.byName$1 -/
def L123_0 : List AStep := [⟨.mov (.c (.int .i64 0)), (some 4), none, []⟩]
theorem v123_0 : VS L123_0.eq_1 := rfl
def L123_1 : List AStep := ⟨.box 106 (.t 0), (some 2), none, []⟩ :: ⟨.box 106 (.t 1), (some 3), none, []⟩ :: L123_0
theorem v123_1 : VS L123_1.eq_1 := rfl
def L123_2 : List AStep := [⟨.call 124 [(.t 6), (.t 8)], (some 9), none, []⟩, ⟨.mov (.t 9), (some 4), none, []⟩]
theorem v123_2 : VS L123_2.eq_1 := rfl
def L123_3 : List AStep := ⟨.faddr 0 (.t 3), (some 7), none, []⟩ :: ⟨.load 1 false (.t 7), (some 8), none, []⟩ :: L123_2
theorem v123_3 : VS L123_3.eq_1 := rfl
def L123_4 : List AStep := ⟨.faddr 0 (.t 2), (some 5), none, []⟩ :: ⟨.load 1 false (.t 5), (some 6), none, []⟩ :: L123_3
theorem v123_4 : VS L123_4.eq_1 := rfl
def C123_0 : ACode := .seq (.reg L123_4) .ret
theorem u123_0 : VC C123_0.eq_1 := rfl
def C123_1 : ACode := .seq (.reg L123_1) C123_0
theorem u123_1 : VC C123_1.eq_1 := rfl
def F123 : AFunc := ⟨10, [.tmp 4], C123_1⟩
theorem cF123 : compB Try.prog 123 = some F123 := by kernel_rfl
attribute [local go_sem ↓] u123_0 u123_1 v123_0 v123_1 v123_2 v123_3 v123_4
theorem c_byName1 (p q : Pair) (h : H) : bm Try.prog 123 [.agg (encP p), .agg (encP q)] h = some (ii (cmpS p.name q.name), h) := by
  refine bm_eq cF123 ?_
  simp +contextual (maxSteps := 2000000) only [go_sem, Nat.reduceEqDiff, reduceCtorEq, Nat.reduceAdd, Nat.reduceLeDiff, F123, c_compare]
/-! slices.insertionSortCmpFunc(impl.Pair) -/
def L170_0 : List AStep := [⟨.mov (.t 11), (some 8), none, []⟩]
theorem v170_0 : VS L170_0.eq_1 := rfl
def L170_1 : List AStep := ⟨.mov (.t 1), (some 10), none, []⟩ :: ⟨.bin .add (.t 10) (.c (.int .i64 1)), (some 11), none, []⟩ :: L170_0
theorem v170_1 : VS L170_1.eq_1 := rfl
def L170_2 : List AStep := [⟨.bin .lss (.t 12) (.t 13), (some 14), none, []⟩]
theorem v170_2 : VS L170_2.eq_1 := rfl
def L170_3 : List AStep := ⟨.mov (.t 8), (some 12), none, []⟩ :: ⟨.mov (.t 2), (some 13), none, []⟩ :: L170_2
theorem v170_3 : VS L170_3.eq_1 := rfl
def L170_4 : List AStep := [⟨.mov (.t 8), (some 17), none, []⟩, ⟨.mov (.t 17), (some 9), none, []⟩]
theorem v170_4 : VS L170_4.eq_1 := rfl
def L170_5 : List AStep := [⟨.pick (.t 21) (.t 33) (.c (.bool false)), (some 34), none, []⟩]
theorem v170_5 : VS L170_5.eq_1 := rfl
def L170_6 : List AStep := ⟨.callv (.t 22) [(.t 26), (.t 31)], (some 32), (some (21, true)), []⟩ :: ⟨.bin .lss (.t 32) (.c (.int .i64 0)), (some 33), (some (21, true)), []⟩ :: L170_5
theorem v170_6 : VS L170_6.eq_1 := rfl
def L170_7 : List AStep := ⟨.iaddr 2 (.t 27) (.t 29), (some 30), (some (21, true)), []⟩ :: ⟨.load 2 true (.t 30), (some 31), (some (21, true)), []⟩ :: L170_6
theorem v170_7 : VS L170_7.eq_1 := rfl
def L170_8 : List AStep := ⟨.mov (.t 9), (some 28), (some (21, true)), []⟩ :: ⟨.bin .sub (.t 28) (.c (.int .i64 1)), (some 29), (some (21, true)), []⟩ :: L170_7
theorem v170_8 : VS L170_8.eq_1 := rfl
def L170_9 : List AStep := ⟨.load 2 true (.t 25), (some 26), (some (21, true)), []⟩ :: ⟨.mov (.t 0), (some 27), (some (21, true)), []⟩ :: L170_8
theorem v170_9 : VS L170_9.eq_1 := rfl
def L170_10 : List AStep := ⟨.mov (.t 9), (some 24), (some (21, true)), []⟩ :: ⟨.iaddr 2 (.t 23) (.t 24), (some 25), (some (21, true)), []⟩ :: L170_9
theorem v170_10 : VS L170_10.eq_1 := rfl
def L170_11 : List AStep := ⟨.mov (.t 3), (some 22), (some (21, true)), []⟩ :: ⟨.mov (.t 0), (some 23), (some (21, true)), []⟩ :: L170_10
theorem v170_11 : VS L170_11.eq_1 := rfl
def L170_12 : List AStep := ⟨.bin .gtr (.t 18) (.t 19), (some 20), none, []⟩ :: ⟨.mov (.t 20), (some 21), none, []⟩ :: L170_11
theorem v170_12 : VS L170_12.eq_1 := rfl
def L170_13 : List AStep := ⟨.mov (.t 9), (some 18), none, []⟩ :: ⟨.mov (.t 1), (some 19), none, []⟩ :: L170_12
theorem v170_13 : VS L170_13.eq_1 := rfl
def L170_14 : List AStep := [⟨.iaddr 2 (.t 39) (.t 41), (some 52), none, []⟩, ⟨.store 2 (.t 52) (.t 50), none, none, []⟩]
theorem v170_14 : VS L170_14.eq_1 := rfl
def L170_15 : List AStep := ⟨.iaddr 2 (.t 37) (.t 38), (some 51), none, []⟩ :: ⟨.store 2 (.t 51) (.t 46), none, none, []⟩ :: L170_14
theorem v170_15 : VS L170_15.eq_1 := rfl
def L170_16 : List AStep := ⟨.iaddr 2 (.t 47) (.t 48), (some 49), none, []⟩ :: ⟨.load 2 true (.t 49), (some 50), none, []⟩ :: L170_15
theorem v170_16 : VS L170_16.eq_1 := rfl
def L170_17 : List AStep := ⟨.mov (.t 0), (some 47), none, []⟩ :: ⟨.mov (.t 9), (some 48), none, []⟩ :: L170_16
theorem v170_17 : VS L170_17.eq_1 := rfl
def L170_18 : List AStep := ⟨.iaddr 2 (.t 42) (.t 44), (some 45), none, []⟩ :: ⟨.load 2 true (.t 45), (some 46), none, []⟩ :: L170_17
theorem v170_18 : VS L170_18.eq_1 := rfl
def L170_19 : List AStep := ⟨.mov (.t 9), (some 43), none, []⟩ :: ⟨.bin .sub (.t 43) (.c (.int .i64 1)), (some 44), none, []⟩ :: L170_18
theorem v170_19 : VS L170_19.eq_1 := rfl
def L170_20 : List AStep := ⟨.bin .sub (.t 40) (.c (.int .i64 1)), (some 41), none, []⟩ :: ⟨.mov (.t 0), (some 42), none, []⟩ :: L170_19
theorem v170_20 : VS L170_20.eq_1 := rfl
def L170_21 : List AStep := ⟨.mov (.t 0), (some 39), none, []⟩ :: ⟨.mov (.t 9), (some 40), none, []⟩ :: L170_20
theorem v170_21 : VS L170_21.eq_1 := rfl
def L170_22 : List AStep := ⟨.mov (.t 0), (some 37), none, []⟩ :: ⟨.mov (.t 9), (some 38), none, []⟩ :: L170_21
theorem v170_22 : VS L170_22.eq_1 := rfl
def L170_23 : List AStep := [⟨.mov (.t 36), (some 9), none, []⟩]
theorem v170_23 : VS L170_23.eq_1 := rfl
def L170_24 : List AStep := ⟨.mov (.t 9), (some 35), none, []⟩ :: ⟨.bin .sub (.t 35) (.c (.int .i64 1)), (some 36), none, []⟩ :: L170_23
theorem v170_24 : VS L170_24.eq_1 := rfl
def L170_25 : List AStep := [⟨.mov (.t 16), (some 8), none, []⟩]
theorem v170_25 : VS L170_25.eq_1 := rfl
def L170_26 : List AStep := ⟨.mov (.t 8), (some 15), none, []⟩ :: ⟨.bin .add (.t 15) (.c (.int .i64 1)), (some 16), none, []⟩ :: L170_25
theorem v170_26 : VS L170_26.eq_1 := rfl
def C170_0 : ACode := .cond (.t 14) .skip (.exit 0)
theorem u170_0 : VC C170_0.eq_1 := rfl
def C170_1 : ACode := .seq (.reg L170_3) C170_0
theorem u170_1 : VC C170_1.eq_1 := rfl
def C170_2 : ACode := .cond (.t 34) .skip (.exit 2)
theorem u170_2 : VC C170_2.eq_1 := rfl
def C170_3 : ACode := .seq (.reg L170_13) C170_2
theorem u170_3 : VC C170_3.eq_1 := rfl
def C170_4 : ACode := .block 3 (.reg L170_22)
theorem u170_4 : VC C170_4.eq_1 := rfl
def C170_5 : ACode := .seq C170_4 (.reg L170_24)
theorem u170_5 : VC C170_5.eq_1 := rfl
def C170_6 : ACode := .seq C170_3 C170_5
theorem u170_6 : VC C170_6.eq_1 := rfl
def C170_7 : ACode := .block 2 (.loop C170_6)
theorem u170_7 : VC C170_7.eq_1 := rfl
def C170_8 : ACode := .seq (.reg L170_4) C170_7
theorem u170_8 : VC C170_8.eq_1 := rfl
def C170_9 : ACode := .block 1 C170_8
theorem u170_9 : VC C170_9.eq_1 := rfl
def C170_10 : ACode := .seq C170_9 (.reg L170_26)
theorem u170_10 : VC C170_10.eq_1 := rfl
def C170_11 : ACode := .seq C170_1 C170_10
theorem u170_11 : VC C170_11.eq_1 := rfl
def C170_12 : ACode := .block 0 (.loop C170_11)
theorem u170_12 : VC C170_12.eq_1 := rfl
def C170_13 : ACode := .seq (.reg L170_1) C170_12
theorem u170_13 : VC C170_13.eq_1 := rfl
def F170 : AFunc := ⟨53, [], C170_13⟩
theorem cF170 : compB Try.prog 170 = some F170 := by kernel_rfl
attribute [local go_sem ↓] u170_0 u170_1 u170_2 u170_3 u170_4 u170_5 u170_6 u170_7 u170_8 u170_9 u170_10 u170_11 u170_12 u170_13 v170_0 v170_1 v170_2 v170_3 v170_4 v170_5 v170_6 v170_7 v170_8 v170_9 v170_10 v170_11 v170_12 v170_13 v170_14 v170_15 v170_16 v170_17 v170_18 v170_19 v170_20 v170_21 v170_22 v170_23 v170_24 v170_25 v170_26
theorem c_insP (l : List Pair) (v : AV) (h0 h : H) (g0 : Grow h0 h) (n0 : NwP h0 h v l) (hn : l.length ≤ 12) :
    callK (bm Try.prog 170 [v, .one (.int .i64 0), .one (.int .i64 l.length), .one (.fn 123 [])] h) fun _ h' => Grow h0 h' ∧ NwP h0 h' v (isort ltP l) := by
  refine bm_of cF170 ?_
  simp +contextual (maxSteps := 2000000) only [go_sem, Nat.reduceEqDiff, reduceCtorEq, Nat.reduceAdd, Nat.reduceLeDiff, F170]
  refine wpC_loop (fun i T L h' => Grow h0 h' ∧ T 0 = .v v ∧ T 1 = .v (.one (.int .i64 0)) ∧ T 2 = .v (.one (.int .i64 l.length)) ∧ T 3 = .v (.one (.fn 123 [])) ∧ T 8 = .v (.one (.int .i64 ((i + 1 : Nat) : Int))) ∧ NwP h0 h' v (sortT ltP l (i + 1))) (l.length - 1) ?_ ?_ (Nat.zero_le _) ?_
  · rintro i T L h' hi ⟨g, t0, t1, t2, t3, t8, no⟩
    have hi1 : i + 1 < l.length := by omega
    have outer : ∀ (h2 : H) (cur : List Pair) (j : Nat), NwP h0 h2 v cur → bub ltP cur j = bub ltP (sortT ltP l (i + 1)) (i + 1) → bub ltP cur j = cur → NwP h0 h2 v (sortT ltP l (i + 1 + 1)) := fun h2 cur j no e1 e2 => by
      rw [sortT, ← e1, e2]
      exact no
    simp +contextual (maxSteps := 2000000) only [go_sem, Nat.reduceEqDiff, reduceCtorEq, Nat.reduceAdd, Nat.reduceLeDiff, t0, t1, t2, t3, t8, lt_true hi1]
    refine wpC_loop (fun k T L h2 => Grow h0 h2 ∧ T 0 = .v v ∧ T 1 = .v (.one (.int .i64 0)) ∧ T 2 = .v (.one (.int .i64 l.length)) ∧ T 3 = .v (.one (.fn 123 [])) ∧ T 8 = .v (.one (.int .i64 ((i + 1 : Nat) : Int))) ∧ T 9 = .v (.one (.int .i64 ((i + 1 - k : Nat) : Int))) ∧
      ∃ cur, NwP h0 h2 v cur ∧ cur.length = l.length ∧ bub ltP cur (i + 1 - k) = bub ltP (sortT ltP l (i + 1)) (i + 1)) (i + 1) ?_ ?_ (Nat.zero_le _) ?_
    · rintro k T L h2 hk ⟨g, t0, t1, t2, t3, t8, t9, cur, no, hc, e⟩
      obtain ⟨j, hj⟩ : ∃ j, i + 1 - k = j + 1 := ⟨i - k, by omega⟩
      rw [hj] at t9 e
      have hj1 : j + 1 < cur.length := by omega
      have hj0 : j < cur.length := by omega
      have a1 : (((j + 1 : Nat) : Int) - 1) = (j : Int) := by omega
      have a2 : (IntKind.i64).wrap (j : Int) = (j : Int) := wrap_nat (by omega)
      have a3 : decide (((j + 1 : Nat) : Int) > 0) = true := decide_eq_true (by omega)
      have sl := no.sl lenP
      cases b : sLess cur[j + 1].name cur[j].name with
      | false =>
        simp +contextual (maxSteps := 2000000) only [go_sem, Nat.reduceEqDiff, reduceCtorEq, Nat.reduceAdd, Nat.reduceLeDiff, t0, t1, t2, t3, t8, t9, a1, a2, a3, sl.iaddr hj1, sl.iaddr hj0, sl.whole hj1, sl.whole hj0, c_byName1, cmpS_neg, b]
        exact ⟨g, by rw [wrap_next hi1 (by omega)], outer _ cur (j + 1) no e (bub_stop hj1 b)⟩
      | true =>
        simp +contextual (maxSteps := 2000000) only [go_sem, Nat.reduceEqDiff, reduceCtorEq, Nat.reduceAdd, Nat.reduceLeDiff, t0, t1, t2, t3, t8, t9, a1, a2, a3, sl.iaddr hj1, sl.iaddr hj0, sl.whole hj1, sl.whole hj0, c_byName1, cmpS_neg, b]
        refine wp_setE lenP no hj1 rfl rfl g ?_
        intro h3 g3 n3 s3
        simp +contextual (maxSteps := 2000000) only [go_sem, Nat.reduceEqDiff, reduceCtorEq, Nat.reduceAdd, Nat.reduceLeDiff, t0, t1, t2, t3, t8, t9, a1, a2, a3, n3.iaddr (show j < (cur.set (j + 1) cur[j]).length by simp; omega)]
        refine wp_setE lenP n3 (show j < (cur.set (j + 1) cur[j]).length by simp; omega) rfl rfl g3 ?_
        intro h4 g4 n4 s4
        simp +contextual (maxSteps := 2000000) only [go_sem, Nat.reduceEqDiff, reduceCtorEq, Nat.reduceAdd, Nat.reduceLeDiff, t0, t1, t2, t3, t8, t9, a1, a2]
        exact ⟨g4, by congr 3; omega, _, n4, by simp [hc], by rw [← e, bub_less hj1 b, show i + 1 - (k + 1) = j by omega]⟩
    · rintro T L h2 ⟨g, t0, t1, t2, t3, t8, t9, cur, no, hc, e⟩
      rw [Nat.sub_self] at t9 e
      have hz : decide (((0 : Nat) : Int) > 0) = false := rfl
      simp +contextual (maxSteps := 2000000) only [go_sem, Nat.reduceEqDiff, reduceCtorEq, Nat.reduceAdd, Nat.reduceLeDiff, t0, t1, t2, t3, t8, t9, hz]
      exact ⟨g, by rw [wrap_next hi1 (by omega)], outer _ cur 0 no e bub_zero⟩
    · simp +contextual (maxSteps := 2000000) only [go_sem, Nat.reduceEqDiff, reduceCtorEq, Nat.reduceAdd, Nat.reduceLeDiff, t0, t1, t2, t3, t8]
      exact ⟨g, rfl, _, no, sortT_len, rfl⟩
  · rintro T L h' ⟨g, t0, t1, t2, t3, t8, no⟩
    have hx : decide (((l.length - 1 + 1 : Nat) : Int) < (l.length : Int)) = false := decide_eq_false (by omega)
    simp +contextual (maxSteps := 2000000) only [go_sem, Nat.reduceEqDiff, reduceCtorEq, Nat.reduceAdd, Nat.reduceLeDiff, t0, t1, t2, t3, t8, hx]
    have e : sortT ltP l (l.length - 1 + 1) = isort ltP l := by
      cases l with
      | nil => exact sortT_one
      | cons a r => rfl
    rw [e] at no
    exact gcK_of ⟨g, no⟩ fun _ gg => ⟨g0, no.back n0 gg⟩
  · simp +contextual (maxSteps := 2000000) only [go_sem, Nat.reduceEqDiff, reduceCtorEq, Nat.reduceAdd, Nat.reduceLeDiff]
    exact ⟨g0, rfl, by rw [sortT_one]; exact n0⟩
theorem optB_idx {s : ByteArray} {j : Nat} {k : IntKind} {d : Option Nat} {T : Tb} {L : Lb} {h : H} {K : Post} (hj : j < s.size) (hk : ∀ b : Int, K (T.put d (.v (.one (.int .u8 b)))) L (rdy h)) : optB (idxStrO (.one (.str s)) (.one (.int k (j : Int)))) d T L h K := by
  have e : idxStrO (.one (.str s)) (.one (.int k (j : Int))) = some (.one (.int .u8 (s[j].toNat : Int))) := by
    simp only [idxStrO, Int.toNat_natCast]
    rw [if_pos (by omega), getElem?_pos s j hj]
  rw [e, optB_some]
  exact hk _
theorem u64_nat {n : Nat} (hn : n ≤ 12) : IntKind.u64.wrap (n : Int) = n := by
  simp [IntKind.wrap, IntKind.bits, IntKind.signed]
  omega
theorem u8_nat {n : Nat} (hn : n ≤ 12) : IntKind.u8.wrap (n : Int) = n := by
  simp [IntKind.wrap, IntKind.bits, IntKind.signed]
  omega
/-! math/bits.Len64 -/
def L179_0 : List AStep := [⟨.mov (.c (.int .i64 0)), (some 2), none, []⟩]
theorem v179_0 : VS L179_0.eq_1 := rfl
def L179_1 : List AStep := [⟨.mov (.t 0), (some 3), none, []⟩, ⟨.bin .geq (.t 3) (.c (.int .u64 4294967296)), (some 4), none, []⟩]
theorem v179_1 : VS L179_1.eq_1 := rfl
def L179_2 : List AStep := [⟨.mov (.t 6), (some 0), none, []⟩]
theorem v179_2 : VS L179_2.eq_1 := rfl
def L179_3 : List AStep := ⟨.mov (.t 0), (some 5), none, []⟩ :: ⟨.bin .shr (.t 5) (.c (.int .u64 32)), (some 6), none, []⟩ :: L179_2
theorem v179_3 : VS L179_3.eq_1 := rfl
def L179_4 : List AStep := [⟨.mov (.c (.int .i64 32)), (some 2), none, []⟩]
theorem v179_4 : VS L179_4.eq_1 := rfl
def L179_5 : List AStep := [⟨.mov (.t 0), (some 7), none, []⟩, ⟨.bin .geq (.t 7) (.c (.int .u64 65536)), (some 8), none, []⟩]
theorem v179_5 : VS L179_5.eq_1 := rfl
def L179_6 : List AStep := [⟨.mov (.t 10), (some 0), none, []⟩]
theorem v179_6 : VS L179_6.eq_1 := rfl
def L179_7 : List AStep := ⟨.mov (.t 0), (some 9), none, []⟩ :: ⟨.bin .shr (.t 9) (.c (.int .u64 16)), (some 10), none, []⟩ :: L179_6
theorem v179_7 : VS L179_7.eq_1 := rfl
def L179_8 : List AStep := [⟨.mov (.t 12), (some 2), none, []⟩]
theorem v179_8 : VS L179_8.eq_1 := rfl
def L179_9 : List AStep := ⟨.mov (.t 2), (some 11), none, []⟩ :: ⟨.bin .add (.t 11) (.c (.int .i64 16)), (some 12), none, []⟩ :: L179_8
theorem v179_9 : VS L179_9.eq_1 := rfl
def L179_10 : List AStep := [⟨.mov (.t 0), (some 13), none, []⟩, ⟨.bin .geq (.t 13) (.c (.int .u64 256)), (some 14), none, []⟩]
theorem v179_10 : VS L179_10.eq_1 := rfl
def L179_11 : List AStep := [⟨.mov (.t 16), (some 0), none, []⟩]
theorem v179_11 : VS L179_11.eq_1 := rfl
def L179_12 : List AStep := ⟨.mov (.t 0), (some 15), none, []⟩ :: ⟨.bin .shr (.t 15) (.c (.int .u64 8)), (some 16), none, []⟩ :: L179_11
theorem v179_12 : VS L179_12.eq_1 := rfl
def L179_13 : List AStep := [⟨.mov (.t 18), (some 2), none, []⟩]
theorem v179_13 : VS L179_13.eq_1 := rfl
def L179_14 : List AStep := ⟨.mov (.t 2), (some 17), none, []⟩ :: ⟨.bin .add (.t 17) (.c (.int .i64 8)), (some 18), none, []⟩ :: L179_13
theorem v179_14 : VS L179_14.eq_1 := rfl
def L179_15 : List AStep := [⟨.mov (.t 24), (some 2), none, []⟩]
theorem v179_15 : VS L179_15.eq_1 := rfl
def L179_16 : List AStep := ⟨.conv .i64 (.t 22), (some 23), none, []⟩ :: ⟨.bin .add (.t 19) (.t 23), (some 24), none, []⟩ :: L179_15
theorem v179_16 : VS L179_16.eq_1 := rfl
def L179_17 : List AStep := ⟨.conv .u8 (.t 20), (some 21), none, []⟩ :: ⟨.idxStr (.c (.str (strOfNums [0, 1, 2, 2, 3, 3, 3, 3, 4, 4, 4, 4, 4, 4, 4, 4, 5, 5, 5, 5, 5, 5, 5, 5, 5, 5, 5, 5, 5, 5, 5, 5, 6, 6, 6, 6, 6, 6, 6, 6, 6, 6, 6, 6, 6, 6, 6, 6, 6, 6, 6, 6, 6, 6, 6, 6, 6, 6, 6, 6, 6, 6, 6, 6, 7, 7, 7, 7, 7, 7, 7, 7, 7, 7, 7, 7, 7, 7, 7, 7, 7, 7, 7, 7, 7, 7, 7, 7, 7, 7, 7, 7, 7, 7, 7, 7, 7, 7, 7, 7, 7, 7, 7, 7, 7, 7, 7, 7, 7, 7, 7, 7, 7, 7, 7, 7, 7, 7, 7, 7, 7, 7, 7, 7, 7, 7, 7, 7, 8, 8, 8, 8, 8, 8, 8, 8, 8, 8, 8, 8, 8, 8, 8, 8, 8, 8, 8, 8, 8, 8, 8, 8, 8, 8, 8, 8, 8, 8, 8, 8, 8, 8, 8, 8, 8, 8, 8, 8, 8, 8, 8, 8, 8, 8, 8, 8, 8, 8, 8, 8, 8, 8, 8, 8, 8, 8, 8, 8, 8, 8, 8, 8, 8, 8, 8, 8, 8, 8, 8, 8, 8, 8, 8, 8, 8, 8, 8, 8, 8, 8, 8, 8, 8, 8, 8, 8, 8, 8, 8, 8, 8, 8, 8, 8, 8, 8, 8, 8, 8, 8, 8, 8, 8, 8, 8, 8, 8, 8, 8, 8, 8, 8, 8, 8, 8, 8, 8, 8, 8, 8, 8, 8, 8, 8, 8, 8]))) (.t 21), (some 22), none, []⟩ :: L179_16
theorem v179_17 : VS L179_17.eq_1 := rfl
def L179_18 : List AStep := ⟨.mov (.t 2), (some 19), none, []⟩ :: ⟨.mov (.t 0), (some 20), none, []⟩ :: L179_17
theorem v179_18 : VS L179_18.eq_1 := rfl
def C179_0 : ACode := .seq (.reg L179_3) (.reg L179_4)
theorem u179_0 : VC C179_0.eq_1 := rfl
def C179_1 : ACode := .cond (.t 4) C179_0 .skip
theorem u179_1 : VC C179_1.eq_1 := rfl
def C179_2 : ACode := .seq (.reg L179_1) C179_1
theorem u179_2 : VC C179_2.eq_1 := rfl
def C179_3 : ACode := .seq (.reg L179_7) (.reg L179_9)
theorem u179_3 : VC C179_3.eq_1 := rfl
def C179_4 : ACode := .cond (.t 8) C179_3 .skip
theorem u179_4 : VC C179_4.eq_1 := rfl
def C179_5 : ACode := .seq (.reg L179_5) C179_4
theorem u179_5 : VC C179_5.eq_1 := rfl
def C179_6 : ACode := .seq (.reg L179_12) (.reg L179_14)
theorem u179_6 : VC C179_6.eq_1 := rfl
def C179_7 : ACode := .cond (.t 14) C179_6 .skip
theorem u179_7 : VC C179_7.eq_1 := rfl
def C179_8 : ACode := .seq (.reg L179_10) C179_7
theorem u179_8 : VC C179_8.eq_1 := rfl
def C179_9 : ACode := .seq (.reg L179_18) .ret
theorem u179_9 : VC C179_9.eq_1 := rfl
def C179_10 : ACode := .seq C179_8 C179_9
theorem u179_10 : VC C179_10.eq_1 := rfl
def C179_11 : ACode := .seq C179_5 C179_10
theorem u179_11 : VC C179_11.eq_1 := rfl
def C179_12 : ACode := .seq C179_2 C179_11
theorem u179_12 : VC C179_12.eq_1 := rfl
def C179_13 : ACode := .seq (.reg L179_0) C179_12
theorem u179_13 : VC C179_13.eq_1 := rfl
def F179 : AFunc := ⟨25, [.tmp 2], C179_13⟩
theorem cF179 : compB Try.prog 179 = some F179 := by kernel_rfl
attribute [local go_sem ↓] u179_0 u179_1 u179_2 u179_3 u179_4 u179_5 u179_6 u179_7 u179_8 u179_9 u179_10 u179_11 u179_12 u179_13 v179_0 v179_1 v179_2 v179_3 v179_4 v179_5 v179_6 v179_7 v179_8 v179_9 v179_10 v179_11 v179_12 v179_13 v179_14 v179_15 v179_16 v179_17 v179_18
theorem c_len64 (n : Nat) (h : H) (hn : n ≤ 12) : callK (bm Try.prog 179 [.one (.int .u64 n)] h) fun r h' => h' = h ∧ ∃ m, r = ii m := by
  refine bm_of cF179 ?_
  have e1 : decide ((n : Int) ≥ 4294967296) = false := decide_eq_false (by omega)
  have e2 : decide ((n : Int) ≥ 65536) = false := decide_eq_false (by omega)
  have e3 : decide ((n : Int) ≥ 256) = false := decide_eq_false (by omega)
  have e4 := u8_nat hn
  simp +contextual (maxSteps := 2000000) only [go_sem, Nat.reduceEqDiff, reduceCtorEq, Nat.reduceAdd, Nat.reduceLeDiff, F179, e1, e2, e3, e4]
  refine optB_idx (Nat.lt_of_le_of_lt hn (by decide)) fun b => ?_
  simp +contextual (maxSteps := 2000000) only [go_sem, Nat.reduceEqDiff, reduceCtorEq, Nat.reduceAdd, Nat.reduceLeDiff]
  exact ⟨_, rfl⟩
/-! math/bits.Len -/
def L152_0 : List AStep := [⟨.mov (.c (.int .i64 0)), (some 2), none, []⟩]
theorem v152_0 : VS L152_0.eq_1 := rfl
def L152_1 : List AStep := [⟨.call 178 [(.t 4)], (some 5), none, []⟩, ⟨.mov (.t 5), (some 2), none, []⟩]
theorem v152_1 : VS L152_1.eq_1 := rfl
def L152_2 : List AStep := ⟨.mov (.t 0), (some 3), none, []⟩ :: ⟨.conv .u32 (.t 3), (some 4), none, []⟩ :: L152_1
theorem v152_2 : VS L152_2.eq_1 := rfl
def L152_3 : List AStep := [⟨.mov (.t 7), (some 2), none, []⟩]
theorem v152_3 : VS L152_3.eq_1 := rfl
def L152_4 : List AStep := ⟨.mov (.t 0), (some 6), none, []⟩ :: ⟨.call 179 [(.t 6)], (some 7), none, []⟩ :: L152_3
theorem v152_4 : VS L152_4.eq_1 := rfl
def C152_0 : ACode := .seq (.reg L152_2) .ret
theorem u152_0 : VC C152_0.eq_1 := rfl
def C152_1 : ACode := .cond (.c (.bool false)) C152_0 .skip
theorem u152_1 : VC C152_1.eq_1 := rfl
def C152_2 : ACode := .seq (.reg L152_4) .ret
theorem u152_2 : VC C152_2.eq_1 := rfl
def C152_3 : ACode := .seq C152_1 C152_2
theorem u152_3 : VC C152_3.eq_1 := rfl
def C152_4 : ACode := .seq (.reg L152_0) C152_3
theorem u152_4 : VC C152_4.eq_1 := rfl
def F152 : AFunc := ⟨8, [.tmp 2], C152_4⟩
theorem cF152 : compB Try.prog 152 = some F152 := by kernel_rfl
attribute [local go_sem ↓] u152_0 u152_1 u152_2 u152_3 u152_4 v152_0 v152_1 v152_2 v152_3 v152_4
theorem c_bitsLen (n : Nat) (h : H) (hn : n ≤ 12) : callK (bm Try.prog 152 [.one (.int .u64 n)] h) fun r h' => h' = h ∧ ∃ m, r = ii m := by
  refine bm_of cF152 ?_
  simp +contextual (maxSteps := 2000000) only [go_sem, Nat.reduceEqDiff, reduceCtorEq, Nat.reduceAdd, Nat.reduceLeDiff, F152]
  refine wp_call (c_len64 n h hn) ?_
  rintro r h1 ⟨rfl, m, rfl⟩
  simp +contextual (maxSteps := 2000000) only [go_sem, Nat.reduceEqDiff, reduceCtorEq, Nat.reduceAdd, Nat.reduceLeDiff]
  exact ⟨_, rfl⟩
/-! slices.pdqsortCmpFunc(impl.Pair) -/
def L151_0 : List AStep := [⟨.mov (.c (.bool true)), (some 10), none, []⟩]
theorem v151_0 : VS L151_0.eq_1 := rfl
def L151_1 : List AStep := [⟨.mov (.c (.bool true)), (some 11), none, []⟩]
theorem v151_1 : VS L151_1.eq_1 := rfl
def L151_2 : List AStep := [⟨.bin .sub (.t 21) (.t 22), (some 23), none, []⟩, ⟨.mov (.t 23), (some 12), none, []⟩]
theorem v151_2 : VS L151_2.eq_1 := rfl
def L151_3 : List AStep := ⟨.mov (.t 2), (some 21), none, []⟩ :: ⟨.mov (.t 1), (some 22), none, []⟩ :: L151_2
theorem v151_3 : VS L151_3.eq_1 := rfl
def L151_4 : List AStep := [⟨.mov (.t 12), (some 24), none, []⟩, ⟨.bin .leq (.t 24) (.c (.int .i64 12)), (some 25), none, []⟩]
theorem v151_4 : VS L151_4.eq_1 := rfl
def L151_5 : List AStep := [⟨.call 170 [(.t 26), (.t 27), (.t 28), (.t 29)], (some 30), none, []⟩]
theorem v151_5 : VS L151_5.eq_1 := rfl
def L151_6 : List AStep := ⟨.mov (.t 2), (some 28), none, []⟩ :: ⟨.mov (.t 4), (some 29), none, []⟩ :: L151_5
theorem v151_6 : VS L151_6.eq_1 := rfl
def L151_7 : List AStep := ⟨.mov (.t 0), (some 26), none, []⟩ :: ⟨.mov (.t 1), (some 27), none, []⟩ :: L151_6
theorem v151_7 : VS L151_7.eq_1 := rfl
def L151_8 : List AStep := [⟨.mov (.t 3), (some 31), none, []⟩, ⟨.bin .eql (.t 31) (.c (.int .i64 0)), (some 32), none, []⟩]
theorem v151_8 : VS L151_8.eq_1 := rfl
def L151_9 : List AStep := [⟨.call 171 [(.t 33), (.t 34), (.t 35), (.t 36)], (some 37), none, []⟩]
theorem v151_9 : VS L151_9.eq_1 := rfl
def L151_10 : List AStep := ⟨.mov (.t 2), (some 35), none, []⟩ :: ⟨.mov (.t 4), (some 36), none, []⟩ :: L151_9
theorem v151_10 : VS L151_10.eq_1 := rfl
def L151_11 : List AStep := ⟨.mov (.t 0), (some 33), none, []⟩ :: ⟨.mov (.t 1), (some 34), none, []⟩ :: L151_10
theorem v151_11 : VS L151_11.eq_1 := rfl
def L151_12 : List AStep := [⟨.mov (.t 10), (some 38), none, []⟩, ⟨.not (.t 38), (some 39), none, []⟩]
theorem v151_12 : VS L151_12.eq_1 := rfl
def L151_13 : List AStep := [⟨.call 172 [(.t 40), (.t 41), (.t 42), (.t 43)], (some 44), none, []⟩]
theorem v151_13 : VS L151_13.eq_1 := rfl
def L151_14 : List AStep := ⟨.mov (.t 2), (some 42), none, []⟩ :: ⟨.mov (.t 4), (some 43), none, []⟩ :: L151_13
theorem v151_14 : VS L151_14.eq_1 := rfl
def L151_15 : List AStep := ⟨.mov (.t 0), (some 40), none, []⟩ :: ⟨.mov (.t 1), (some 41), none, []⟩ :: L151_14
theorem v151_15 : VS L151_15.eq_1 := rfl
def L151_16 : List AStep := [⟨.mov (.t 46), (some 3), none, []⟩]
theorem v151_16 : VS L151_16.eq_1 := rfl
def L151_17 : List AStep := ⟨.mov (.t 3), (some 45), none, []⟩ :: ⟨.bin .sub (.t 45) (.c (.int .i64 1)), (some 46), none, []⟩ :: L151_16
theorem v151_17 : VS L151_17.eq_1 := rfl
def L151_18 : List AStep := [⟨.mov (.t 53), (some 13), none, []⟩, ⟨.mov (.t 54), (some 14), none, []⟩]
theorem v151_18 : VS L151_18.eq_1 := rfl
def L151_19 : List AStep := ⟨.extract (.t 47) 0, (some 53), none, []⟩ :: ⟨.extract (.t 47) 1, (some 54), none, []⟩ :: L151_18
theorem v151_19 : VS L151_19.eq_1 := rfl
def L151_20 : List AStep := ⟨.call 173 [(.t 48), (.t 49), (.t 50), (.t 51)], (some 52), none, []⟩ :: ⟨.mov (.t 52), (some 47), none, []⟩ :: L151_19
theorem v151_20 : VS L151_20.eq_1 := rfl
def L151_21 : List AStep := ⟨.mov (.t 2), (some 50), none, []⟩ :: ⟨.mov (.t 4), (some 51), none, []⟩ :: L151_20
theorem v151_21 : VS L151_21.eq_1 := rfl
def L151_22 : List AStep := ⟨.mov (.t 0), (some 48), none, []⟩ :: ⟨.mov (.t 1), (some 49), none, []⟩ :: L151_21
theorem v151_22 : VS L151_22.eq_1 := rfl
def L151_23 : List AStep := [⟨.mov (.t 14), (some 55), none, []⟩, ⟨.bin .eql (.t 55) (.c (.int .i64 2)), (some 56), none, []⟩]
theorem v151_23 : VS L151_23.eq_1 := rfl
def L151_24 : List AStep := [⟨.call 174 [(.t 57), (.t 58), (.t 59), (.t 60)], (some 61), none, []⟩]
theorem v151_24 : VS L151_24.eq_1 := rfl
def L151_25 : List AStep := ⟨.mov (.t 2), (some 59), none, []⟩ :: ⟨.mov (.t 4), (some 60), none, []⟩ :: L151_24
theorem v151_25 : VS L151_25.eq_1 := rfl
def L151_26 : List AStep := ⟨.mov (.t 0), (some 57), none, []⟩ :: ⟨.mov (.t 1), (some 58), none, []⟩ :: L151_25
theorem v151_26 : VS L151_26.eq_1 := rfl
def L151_27 : List AStep := [⟨.mov (.t 67), (some 13), none, []⟩]
theorem v151_27 : VS L151_27.eq_1 := rfl
def L151_28 : List AStep := ⟨.bin .sub (.t 64) (.t 65), (some 66), none, []⟩ :: ⟨.bin .sub (.t 63) (.t 66), (some 67), none, []⟩ :: L151_27
theorem v151_28 : VS L151_28.eq_1 := rfl
def L151_29 : List AStep := ⟨.mov (.t 13), (some 64), none, []⟩ :: ⟨.mov (.t 1), (some 65), none, []⟩ :: L151_28
theorem v151_29 : VS L151_29.eq_1 := rfl
def L151_30 : List AStep := ⟨.mov (.t 2), (some 62), none, []⟩ :: ⟨.bin .sub (.t 62) (.c (.int .i64 1)), (some 63), none, []⟩ :: L151_29
theorem v151_30 : VS L151_30.eq_1 := rfl
def L151_31 : List AStep := [⟨.mov (.c (.int .i64 1)), (some 14), none, []⟩]
theorem v151_31 : VS L151_31.eq_1 := rfl
def L151_32 : List AStep := [⟨.bin .eql (.t 73) (.c (.int .i64 1)), (some 74), (some (72, true)), []⟩, ⟨.pick (.t 72) (.t 74) (.c (.bool false)), (some 75), none, []⟩]
theorem v151_32 : VS L151_32.eq_1 := rfl
def L151_33 : List AStep := ⟨.mov (.t 71), (some 72), none, []⟩ :: ⟨.mov (.t 14), (some 73), (some (72, true)), []⟩ :: L151_32
theorem v151_33 : VS L151_33.eq_1 := rfl
def L151_34 : List AStep := ⟨.mov (.t 11), (some 70), (some (69, true)), []⟩ :: ⟨.pick (.t 69) (.t 70) (.c (.bool false)), (some 71), none, []⟩ :: L151_33
theorem v151_34 : VS L151_34.eq_1 := rfl
def L151_35 : List AStep := ⟨.mov (.t 10), (some 68), none, []⟩ :: ⟨.mov (.t 68), (some 69), none, []⟩ :: L151_34
theorem v151_35 : VS L151_35.eq_1 := rfl
def L151_36 : List AStep := [⟨.call 175 [(.t 76), (.t 77), (.t 78), (.t 79)], (some 80), none, []⟩]
theorem v151_36 : VS L151_36.eq_1 := rfl
def L151_37 : List AStep := ⟨.mov (.t 2), (some 78), none, []⟩ :: ⟨.mov (.t 4), (some 79), none, []⟩ :: L151_36
theorem v151_37 : VS L151_37.eq_1 := rfl
def L151_38 : List AStep := ⟨.mov (.t 0), (some 76), none, []⟩ :: ⟨.mov (.t 1), (some 77), none, []⟩ :: L151_37
theorem v151_38 : VS L151_38.eq_1 := rfl
def L151_39 : List AStep := [⟨.pick (.t 83) (.t 96) (.c (.bool false)), (some 97), none, []⟩]
theorem v151_39 : VS L151_39.eq_1 := rfl
def L151_40 : List AStep := ⟨.bin .lss (.t 94) (.c (.int .i64 0)), (some 95), (some (83, true)), []⟩ :: ⟨.not (.t 95), (some 96), (some (83, true)), []⟩ :: L151_39
theorem v151_40 : VS L151_40.eq_1 := rfl
def L151_41 : List AStep := ⟨.load 2 true (.t 92), (some 93), (some (83, true)), []⟩ :: ⟨.callv (.t 84) [(.t 89), (.t 93)], (some 94), (some (83, true)), []⟩ :: L151_40
theorem v151_41 : VS L151_41.eq_1 := rfl
def L151_42 : List AStep := ⟨.mov (.t 13), (some 91), (some (83, true)), []⟩ :: ⟨.iaddr 2 (.t 90) (.t 91), (some 92), (some (83, true)), []⟩ :: L151_41
theorem v151_42 : VS L151_42.eq_1 := rfl
def L151_43 : List AStep := ⟨.load 2 true (.t 88), (some 89), (some (83, true)), []⟩ :: ⟨.mov (.t 0), (some 90), (some (83, true)), []⟩ :: L151_42
theorem v151_43 : VS L151_43.eq_1 := rfl
def L151_44 : List AStep := ⟨.bin .sub (.t 86) (.c (.int .i64 1)), (some 87), (some (83, true)), []⟩ :: ⟨.iaddr 2 (.t 85) (.t 87), (some 88), (some (83, true)), []⟩ :: L151_43
theorem v151_44 : VS L151_44.eq_1 := rfl
def L151_45 : List AStep := ⟨.mov (.t 0), (some 85), (some (83, true)), []⟩ :: ⟨.mov (.t 1), (some 86), (some (83, true)), []⟩ :: L151_44
theorem v151_45 : VS L151_45.eq_1 := rfl
def L151_46 : List AStep := ⟨.mov (.t 82), (some 83), none, []⟩ :: ⟨.mov (.t 4), (some 84), (some (83, true)), []⟩ :: L151_45
theorem v151_46 : VS L151_46.eq_1 := rfl
def L151_47 : List AStep := ⟨.mov (.t 1), (some 81), none, []⟩ :: ⟨.bin .gtr (.t 81) (.c (.int .i64 0)), (some 82), none, []⟩ :: L151_46
theorem v151_47 : VS L151_47.eq_1 := rfl
def L151_48 : List AStep := [⟨.mov (.t 103), (some 15), none, []⟩]
theorem v151_48 : VS L151_48.eq_1 := rfl
def L151_49 : List AStep := ⟨.mov (.t 4), (some 102), none, []⟩ :: ⟨.call 176 [(.t 98), (.t 99), (.t 100), (.t 101), (.t 102)], (some 103), none, []⟩ :: L151_48
theorem v151_49 : VS L151_49.eq_1 := rfl
def L151_50 : List AStep := ⟨.mov (.t 2), (some 100), none, []⟩ :: ⟨.mov (.t 13), (some 101), none, []⟩ :: L151_49
theorem v151_50 : VS L151_50.eq_1 := rfl
def L151_51 : List AStep := ⟨.mov (.t 0), (some 98), none, []⟩ :: ⟨.mov (.t 1), (some 99), none, []⟩ :: L151_50
theorem v151_51 : VS L151_51.eq_1 := rfl
def L151_52 : List AStep := [⟨.mov (.t 15), (some 104), none, []⟩, ⟨.mov (.t 104), (some 1), none, []⟩]
theorem v151_52 : VS L151_52.eq_1 := rfl
def L151_53 : List AStep := [⟨.mov (.t 113), (some 17), none, []⟩]
theorem v151_53 : VS L151_53.eq_1 := rfl
def L151_54 : List AStep := ⟨.extract (.t 105) 1, (some 113), none, []⟩ :: ⟨.mov (.t 112), (some 16), none, []⟩ :: L151_53
theorem v151_54 : VS L151_54.eq_1 := rfl
def L151_55 : List AStep := ⟨.mov (.t 111), (some 105), none, []⟩ :: ⟨.extract (.t 105) 0, (some 112), none, []⟩ :: L151_54
theorem v151_55 : VS L151_55.eq_1 := rfl
def L151_56 : List AStep := ⟨.mov (.t 4), (some 110), none, []⟩ :: ⟨.call 177 [(.t 106), (.t 107), (.t 108), (.t 109), (.t 110)], (some 111), none, []⟩ :: L151_55
theorem v151_56 : VS L151_56.eq_1 := rfl
def L151_57 : List AStep := ⟨.mov (.t 2), (some 108), none, []⟩ :: ⟨.mov (.t 13), (some 109), none, []⟩ :: L151_56
theorem v151_57 : VS L151_57.eq_1 := rfl
def L151_58 : List AStep := ⟨.mov (.t 0), (some 106), none, []⟩ :: ⟨.mov (.t 1), (some 107), none, []⟩ :: L151_57
theorem v151_58 : VS L151_58.eq_1 := rfl
def L151_59 : List AStep := [⟨.mov (.t 17), (some 114), none, []⟩, ⟨.mov (.t 114), (some 11), none, []⟩]
theorem v151_59 : VS L151_59.eq_1 := rfl
def L151_60 : List AStep := [⟨.mov (.t 117), (some 18), none, []⟩, ⟨.mov (.t 120), (some 19), none, []⟩]
theorem v151_60 : VS L151_60.eq_1 := rfl
def L151_61 : List AStep := ⟨.mov (.t 16), (some 119), none, []⟩ :: ⟨.bin .sub (.t 118) (.t 119), (some 120), none, []⟩ :: L151_60
theorem v151_61 : VS L151_61.eq_1 := rfl
def L151_62 : List AStep := ⟨.bin .sub (.t 115) (.t 116), (some 117), none, []⟩ :: ⟨.mov (.t 2), (some 118), none, []⟩ :: L151_61
theorem v151_62 : VS L151_62.eq_1 := rfl
def L151_63 : List AStep := ⟨.mov (.t 16), (some 115), none, []⟩ :: ⟨.mov (.t 1), (some 116), none, []⟩ :: L151_62
theorem v151_63 : VS L151_63.eq_1 := rfl
def L151_64 : List AStep := [⟨.mov (.t 122), (some 20), none, []⟩]
theorem v151_64 : VS L151_64.eq_1 := rfl
def L151_65 : List AStep := ⟨.mov (.t 12), (some 121), none, []⟩ :: ⟨.bin .quo (.t 121) (.c (.int .i64 8)), (some 122), none, []⟩ :: L151_64
theorem v151_65 : VS L151_65.eq_1 := rfl
def L151_66 : List AStep := [⟨.bin .lss (.t 123) (.t 124), (some 125), none, []⟩]
theorem v151_66 : VS L151_66.eq_1 := rfl
def L151_67 : List AStep := ⟨.mov (.t 18), (some 123), none, []⟩ :: ⟨.mov (.t 19), (some 124), none, []⟩ :: L151_66
theorem v151_67 : VS L151_67.eq_1 := rfl
def L151_68 : List AStep := [⟨.bin .geq (.t 126) (.t 127), (some 128), none, []⟩, ⟨.mov (.t 128), (some 10), none, []⟩]
theorem v151_68 : VS L151_68.eq_1 := rfl
def L151_69 : List AStep := ⟨.mov (.t 18), (some 126), none, []⟩ :: ⟨.mov (.t 20), (some 127), none, []⟩ :: L151_68
theorem v151_69 : VS L151_69.eq_1 := rfl
def L151_70 : List AStep := [⟨.mov (.t 4), (some 133), none, []⟩, ⟨.call 151 [(.t 129), (.t 130), (.t 131), (.t 132), (.t 133)], (some 134), none, []⟩]
theorem v151_70 : VS L151_70.eq_1 := rfl
def L151_71 : List AStep := ⟨.mov (.t 16), (some 131), none, []⟩ :: ⟨.mov (.t 3), (some 132), none, []⟩ :: L151_70
theorem v151_71 : VS L151_71.eq_1 := rfl
def L151_72 : List AStep := ⟨.mov (.t 0), (some 129), none, []⟩ :: ⟨.mov (.t 1), (some 130), none, []⟩ :: L151_71
theorem v151_72 : VS L151_72.eq_1 := rfl
def L151_73 : List AStep := [⟨.mov (.t 136), (some 1), none, []⟩]
theorem v151_73 : VS L151_73.eq_1 := rfl
def L151_74 : List AStep := ⟨.mov (.t 16), (some 135), none, []⟩ :: ⟨.bin .add (.t 135) (.c (.int .i64 1)), (some 136), none, []⟩ :: L151_73
theorem v151_74 : VS L151_74.eq_1 := rfl
def L151_75 : List AStep := [⟨.bin .geq (.t 137) (.t 138), (some 139), none, []⟩, ⟨.mov (.t 139), (some 10), none, []⟩]
theorem v151_75 : VS L151_75.eq_1 := rfl
def L151_76 : List AStep := ⟨.mov (.t 19), (some 137), none, []⟩ :: ⟨.mov (.t 20), (some 138), none, []⟩ :: L151_75
theorem v151_76 : VS L151_76.eq_1 := rfl
def L151_77 : List AStep := [⟨.call 151 [(.t 140), (.t 142), (.t 143), (.t 144), (.t 145)], (some 146), none, []⟩]
theorem v151_77 : VS L151_77.eq_1 := rfl
def L151_78 : List AStep := ⟨.mov (.t 3), (some 144), none, []⟩ :: ⟨.mov (.t 4), (some 145), none, []⟩ :: L151_77
theorem v151_78 : VS L151_78.eq_1 := rfl
def L151_79 : List AStep := ⟨.bin .add (.t 141) (.c (.int .i64 1)), (some 142), none, []⟩ :: ⟨.mov (.t 2), (some 143), none, []⟩ :: L151_78
theorem v151_79 : VS L151_79.eq_1 := rfl
def L151_80 : List AStep := ⟨.mov (.t 0), (some 140), none, []⟩ :: ⟨.mov (.t 16), (some 141), none, []⟩ :: L151_79
theorem v151_80 : VS L151_80.eq_1 := rfl
def L151_81 : List AStep := [⟨.mov (.t 16), (some 147), none, []⟩, ⟨.mov (.t 147), (some 2), none, []⟩]
theorem v151_81 : VS L151_81.eq_1 := rfl
def C151_0 : ACode := .seq (.reg L151_7) .ret
theorem u151_0 : VC C151_0.eq_1 := rfl
def C151_1 : ACode := .cond (.t 25) C151_0 .skip
theorem u151_1 : VC C151_1.eq_1 := rfl
def C151_2 : ACode := .seq (.reg L151_4) C151_1
theorem u151_2 : VC C151_2.eq_1 := rfl
def C151_3 : ACode := .seq (.reg L151_11) .ret
theorem u151_3 : VC C151_3.eq_1 := rfl
def C151_4 : ACode := .cond (.t 32) C151_3 .skip
theorem u151_4 : VC C151_4.eq_1 := rfl
def C151_5 : ACode := .seq (.reg L151_8) C151_4
theorem u151_5 : VC C151_5.eq_1 := rfl
def C151_6 : ACode := .seq (.reg L151_15) (.reg L151_17)
theorem u151_6 : VC C151_6.eq_1 := rfl
def C151_7 : ACode := .cond (.t 39) C151_6 .skip
theorem u151_7 : VC C151_7.eq_1 := rfl
def C151_8 : ACode := .seq (.reg L151_12) C151_7
theorem u151_8 : VC C151_8.eq_1 := rfl
def C151_9 : ACode := .seq (.reg L151_30) (.reg L151_31)
theorem u151_9 : VC C151_9.eq_1 := rfl
def C151_10 : ACode := .seq (.reg L151_26) C151_9
theorem u151_10 : VC C151_10.eq_1 := rfl
def C151_11 : ACode := .cond (.t 56) C151_10 .skip
theorem u151_11 : VC C151_11.eq_1 := rfl
def C151_12 : ACode := .seq (.reg L151_23) C151_11
theorem u151_12 : VC C151_12.eq_1 := rfl
def C151_13 : ACode := .cond (.t 80) .ret .skip
theorem u151_13 : VC C151_13.eq_1 := rfl
def C151_14 : ACode := .seq (.reg L151_38) C151_13
theorem u151_14 : VC C151_14.eq_1 := rfl
def C151_15 : ACode := .cond (.t 75) C151_14 .skip
theorem u151_15 : VC C151_15.eq_1 := rfl
def C151_16 : ACode := .seq (.reg L151_35) C151_15
theorem u151_16 : VC C151_16.eq_1 := rfl
def C151_17 : ACode := .seq (.reg L151_52) (.exit 1)
theorem u151_17 : VC C151_17.eq_1 := rfl
def C151_18 : ACode := .seq (.reg L151_51) C151_17
theorem u151_18 : VC C151_18.eq_1 := rfl
def C151_19 : ACode := .cond (.t 97) C151_18 .skip
theorem u151_19 : VC C151_19.eq_1 := rfl
def C151_20 : ACode := .seq (.reg L151_47) C151_19
theorem u151_20 : VC C151_20.eq_1 := rfl
def C151_21 : ACode := .seq (.reg L151_72) (.reg L151_74)
theorem u151_21 : VC C151_21.eq_1 := rfl
def C151_22 : ACode := .seq (.reg L151_69) C151_21
theorem u151_22 : VC C151_22.eq_1 := rfl
def C151_23 : ACode := .seq (.reg L151_80) (.reg L151_81)
theorem u151_23 : VC C151_23.eq_1 := rfl
def C151_24 : ACode := .seq (.reg L151_76) C151_23
theorem u151_24 : VC C151_24.eq_1 := rfl
def C151_25 : ACode := .cond (.t 125) C151_22 C151_24
theorem u151_25 : VC C151_25.eq_1 := rfl
def C151_26 : ACode := .seq (.reg L151_67) C151_25
theorem u151_26 : VC C151_26.eq_1 := rfl
def C151_27 : ACode := .seq (.reg L151_65) C151_26
theorem u151_27 : VC C151_27.eq_1 := rfl
def C151_28 : ACode := .seq (.reg L151_63) C151_27
theorem u151_28 : VC C151_28.eq_1 := rfl
def C151_29 : ACode := .seq (.reg L151_59) C151_28
theorem u151_29 : VC C151_29.eq_1 := rfl
def C151_30 : ACode := .seq (.reg L151_58) C151_29
theorem u151_30 : VC C151_30.eq_1 := rfl
def C151_31 : ACode := .seq C151_20 C151_30
theorem u151_31 : VC C151_31.eq_1 := rfl
def C151_32 : ACode := .seq C151_16 C151_31
theorem u151_32 : VC C151_32.eq_1 := rfl
def C151_33 : ACode := .seq C151_12 C151_32
theorem u151_33 : VC C151_33.eq_1 := rfl
def C151_34 : ACode := .seq (.reg L151_22) C151_33
theorem u151_34 : VC C151_34.eq_1 := rfl
def C151_35 : ACode := .seq C151_8 C151_34
theorem u151_35 : VC C151_35.eq_1 := rfl
def C151_36 : ACode := .seq C151_5 C151_35
theorem u151_36 : VC C151_36.eq_1 := rfl
def C151_37 : ACode := .seq C151_2 C151_36
theorem u151_37 : VC C151_37.eq_1 := rfl
def C151_38 : ACode := .seq (.reg L151_3) C151_37
theorem u151_38 : VC C151_38.eq_1 := rfl
def C151_39 : ACode := .block 1 C151_38
theorem u151_39 : VC C151_39.eq_1 := rfl
def C151_40 : ACode := .block 0 (.loop C151_39)
theorem u151_40 : VC C151_40.eq_1 := rfl
def C151_41 : ACode := .seq (.reg L151_1) C151_40
theorem u151_41 : VC C151_41.eq_1 := rfl
def C151_42 : ACode := .seq (.reg L151_0) C151_41
theorem u151_42 : VC C151_42.eq_1 := rfl
def F151 : AFunc := ⟨148, [], C151_42⟩
theorem cF151 : compB Try.prog 151 = some F151 := by kernel_rfl
attribute [local go_sem ↓] u151_0 u151_1 u151_2 u151_3 u151_4 u151_5 u151_6 u151_7 u151_8 u151_9 u151_10 u151_11 u151_12 u151_13 u151_14 u151_15 u151_16 u151_17 u151_18 u151_19 u151_20 u151_21 u151_22 u151_23 u151_24 u151_25 u151_26 u151_27 u151_28 u151_29 u151_30 u151_31 u151_32 u151_33 u151_34 u151_35 u151_36 u151_37 u151_38 u151_39 u151_40 u151_41 u151_42 v151_0 v151_1 v151_2 v151_3 v151_4 v151_5 v151_6 v151_7 v151_8 v151_9 v151_10 v151_11 v151_12 v151_13 v151_14 v151_15 v151_16 v151_17 v151_18 v151_19 v151_20 v151_21 v151_22 v151_23 v151_24 v151_25 v151_26 v151_27 v151_28 v151_29 v151_30 v151_31 v151_32 v151_33 v151_34 v151_35 v151_36 v151_37 v151_38 v151_39 v151_40 v151_41 v151_42 v151_43 v151_44 v151_45 v151_46 v151_47 v151_48 v151_49 v151_50 v151_51 v151_52 v151_53 v151_54 v151_55 v151_56 v151_57 v151_58 v151_59 v151_60 v151_61 v151_62 v151_63 v151_64 v151_65 v151_66 v151_67 v151_68 v151_69 v151_70 v151_71 v151_72 v151_73 v151_74 v151_75 v151_76 v151_77 v151_78 v151_79 v151_80 v151_81
theorem c_pdqP (l : List Pair) (v : AV) (m : Int) (h0 h : H) (g0 : Grow h0 h) (n0 : NwP h0 h v l) (hn : l.length ≤ 12) :
    callK (bm Try.prog 151 [v, .one (.int .i64 0), .one (.int .i64 l.length), .one (.int .i64 m), .one (.fn 123 [])] h) fun _ h' => Grow h0 h' ∧ NwP h0 h' v (isort ltP l) := by
  refine bm_of cF151 ?_
  have e1 : IntKind.i64.wrap ((l.length : Int) - 0) = l.length := by rw [Int.sub_zero]; exact wrap_nat (by omega)
  have e2 : decide ((l.length : Int) ≤ 12) = true := decide_eq_true (by omega)
  simp +contextual (maxSteps := 2000000) only [go_sem, Nat.reduceEqDiff, reduceCtorEq, Nat.reduceAdd, Nat.reduceLeDiff, F151]
  refine wpC_loop (fun i T L h' => i = 0 ∧ h' = h ∧ T 0 = .v v ∧ T 1 = .v (.one (.int .i64 0)) ∧ T 2 = .v (.one (.int .i64 l.length)) ∧ T 4 = .v (.one (.fn 123 []))) 1 ?_ ?_ (Nat.zero_le _) ?_
  · rintro i T L h' hi ⟨rfl, rfl, t0, t1, t2, t4⟩
    simp +contextual (maxSteps := 2000000) only [go_sem, Nat.reduceEqDiff, reduceCtorEq, Nat.reduceAdd, Nat.reduceLeDiff, t0, t1, t2, t4, e1, e2]
    refine wp_call (c_insP l v h0 h' g0 n0 hn) ?_
    rintro r h1 ⟨g1, n1⟩
    simp +contextual (maxSteps := 2000000) only [go_sem, Nat.reduceEqDiff, reduceCtorEq, Nat.reduceAdd, Nat.reduceLeDiff]
    exact gcK_of ⟨g1, n1⟩ fun _ gg => ⟨g0, n1.back n0 gg⟩
  · rintro T L h' ⟨e, _⟩
    exact absurd e (by decide)
  · simp +contextual (maxSteps := 2000000) only [go_sem, Nat.reduceEqDiff, reduceCtorEq, Nat.reduceAdd, Nat.reduceLeDiff]
/-! slices.SortFunc(()impl.Pair,impl.Pair) -/
def L122_0 : List AStep := [⟨.mov (.t 6), (some 4), none, []⟩]
theorem v122_0 : VS L122_0.eq_1 := rfl
def L122_1 : List AStep := ⟨.mov (.t 0), (some 5), none, []⟩ :: ⟨.len (.t 5), (some 6), none, []⟩ :: L122_0
theorem v122_1 : VS L122_1.eq_1 := rfl
def L122_2 : List AStep := [⟨.call 151 [(.t 7), (.c (.int .i64 0)), (.t 8), (.t 11), (.t 12)], (some 13), none, []⟩]
theorem v122_2 : VS L122_2.eq_1 := rfl
def L122_3 : List AStep := ⟨.call 152 [(.t 10)], (some 11), none, []⟩ :: ⟨.mov (.t 1), (some 12), none, []⟩ :: L122_2
theorem v122_3 : VS L122_3.eq_1 := rfl
def L122_4 : List AStep := ⟨.mov (.t 4), (some 9), none, []⟩ :: ⟨.conv .u64 (.t 9), (some 10), none, []⟩ :: L122_3
theorem v122_4 : VS L122_4.eq_1 := rfl
def L122_5 : List AStep := ⟨.mov (.t 0), (some 7), none, []⟩ :: ⟨.mov (.t 4), (some 8), none, []⟩ :: L122_4
theorem v122_5 : VS L122_5.eq_1 := rfl
def C122_0 : ACode := .seq (.reg L122_1) (.reg L122_5)
theorem u122_0 : VC C122_0.eq_1 := rfl
def F122 : AFunc := ⟨14, [], C122_0⟩
theorem cF122 : compB Try.prog 122 = some F122 := by kernel_rfl
attribute [local go_sem ↓] u122_0 v122_0 v122_1 v122_2 v122_3 v122_4 v122_5
theorem c_sortP (l : List Pair) (v : AV) (h0 h : H) (g0 : Grow h0 h) (n0 : NwP h0 h v l) (hn : l.length ≤ 12) :
    callK (bm Try.prog 122 [v, .one (.fn 123 [])] h) fun _ h' => Grow h0 h' ∧ NwP h0 h' v (isort ltP l) := by
  refine bm_of cF122 ?_
  have e1 := u64_nat hn
  simp +contextual (maxSteps := 2000000) only [go_sem, Nat.reduceEqDiff, reduceCtorEq, Nat.reduceAdd, Nat.reduceLeDiff, F122, n0.length, e1]
  refine wp_call (c_bitsLen l.length h hn) ?_
  rintro r h1 ⟨rfl, m, rfl⟩
  simp +contextual (maxSteps := 2000000) only [go_sem, Nat.reduceEqDiff, reduceCtorEq, Nat.reduceAdd, Nat.reduceLeDiff]
  refine wp_call (c_pdqP l v m h0 h1 g0 n0 hn) ?_
  rintro r h2 ⟨g2, n2⟩
  simp +contextual (maxSteps := 2000000) only [go_sem, Nat.reduceEqDiff, reduceCtorEq, Nat.reduceAdd, Nat.reduceLeDiff]
  exact gcK_of ⟨g2, n2⟩ fun _ gg => ⟨g0, n2.back n0 gg⟩
/-! impl.byName -/
def L83_0 : List AStep := [⟨.mov (.c (.sl none 0 (some 0))), (some 2), none, []⟩]
theorem v83_0 : VS L83_0.eq_1 := rfl
def L83_1 : List AStep := [⟨.mov (.t 5), (some 3), none, []⟩]
theorem v83_1 : VS L83_1.eq_1 := rfl
def L83_2 : List AStep := ⟨.mov (.t 0), (some 4), none, []⟩ :: ⟨.call 102 [(.t 4)], (some 5), none, []⟩ :: L83_1
theorem v83_2 : VS L83_2.eq_1 := rfl
def L83_3 : List AStep := [⟨.mov (.t 3), (some 6), none, []⟩, ⟨.call 122 [(.t 6), (.c (.fn 123 []))], (some 7), none, []⟩]
theorem v83_3 : VS L83_3.eq_1 := rfl
def L83_4 : List AStep := [⟨.mov (.t 3), (some 8), none, []⟩, ⟨.mov (.t 8), (some 2), none, []⟩]
theorem v83_4 : VS L83_4.eq_1 := rfl
def C83_0 : ACode := .seq (.reg L83_4) .ret
theorem u83_0 : VC C83_0.eq_1 := rfl
def C83_1 : ACode := .seq (.reg L83_3) C83_0
theorem u83_1 : VC C83_1.eq_1 := rfl
def C83_2 : ACode := .seq (.reg L83_2) C83_1
theorem u83_2 : VC C83_2.eq_1 := rfl
def C83_3 : ACode := .seq (.reg L83_0) C83_2
theorem u83_3 : VC C83_3.eq_1 := rfl
def F83 : AFunc := ⟨9, [.tmp 2], C83_3⟩
theorem cF83 : compB Try.prog 83 = some F83 := by kernel_rfl
attribute [local go_sem ↓] u83_0 u83_1 u83_2 u83_3 v83_0 v83_1 v83_2 v83_3 v83_4
theorem k_byName (l : List Pair) (v : AV) (h : H) (hl : SlP h v l) (hn : l.length ≤ 12) : callK (bm Try.prog 83 [v] h) fun r h' => Grow h h' ∧ NwP h h' r (isort ltP l) := by
  refine bm_of cF83 ?_
  simp +contextual (maxSteps := 2000000) only [go_sem, Nat.reduceEqDiff, reduceCtorEq, Nat.reduceAdd, Nat.reduceLeDiff, F83]
  refine wp_call (c_cloneP l v h hl (Nat.le_trans hn (by decide))) ?_
  rintro r h1 ⟨g1, n1⟩
  simp +contextual (maxSteps := 2000000) only [go_sem, Nat.reduceEqDiff, reduceCtorEq, Nat.reduceAdd, Nat.reduceLeDiff]
  refine wp_call (c_sortP l r h h1 g1 n1 hn) ?_
  rintro r2 h2 ⟨g2, n2⟩
  simp +contextual (maxSteps := 2000000) only [go_sem, Nat.reduceEqDiff, reduceCtorEq, Nat.reduceAdd, Nat.reduceLeDiff]
  exact gcK_of ⟨g2, n2⟩ (fun hs _ => ⟨Grow.refl h, n2.scalar hs h⟩)
/-! spec.sameFlat -/
def L80_0 : List AStep := [⟨.mov (.c (.bool false)), (some 4), none, []⟩]
theorem v80_0 : VS L80_0.eq_1 := rfl
def L80_1 : List AStep := ⟨.box 33 (.t 0), (some 2), none, []⟩ :: ⟨.box 33 (.t 1), (some 3), none, []⟩ :: L80_0
theorem v80_1 : VS L80_1.eq_1 := rfl
def L80_2 : List AStep := [⟨.bin .neq (.t 18) (.t 21), (some 22), (some (15, false)), []⟩, ⟨.pick (.t 15) (.c (.bool true)) (.t 22), (some 23), none, []⟩]
theorem v80_2 : VS L80_2.eq_1 := rfl
def L80_3 : List AStep := ⟨.load 1 false (.t 19), (some 20), (some (15, false)), []⟩ :: ⟨.len (.t 20), (some 21), (some (15, false)), []⟩ :: L80_2
theorem v80_3 : VS L80_3.eq_1 := rfl
def L80_4 : List AStep := ⟨.len (.t 17), (some 18), (some (15, false)), []⟩ :: ⟨.faddr 1 (.t 3), (some 19), (some (15, false)), []⟩ :: L80_3
theorem v80_4 : VS L80_4.eq_1 := rfl
def L80_5 : List AStep := ⟨.faddr 1 (.t 2), (some 16), (some (15, false)), []⟩ :: ⟨.load 1 false (.t 16), (some 17), (some (15, false)), []⟩ :: L80_4
theorem v80_5 : VS L80_5.eq_1 := rfl
def L80_6 : List AStep := ⟨.bin .neq (.t 10) (.t 13), (some 14), none, []⟩ :: ⟨.mov (.t 14), (some 15), none, []⟩ :: L80_5
theorem v80_6 : VS L80_6.eq_1 := rfl
def L80_7 : List AStep := ⟨.load 1 false (.t 11), (some 12), none, []⟩ :: ⟨.len (.t 12), (some 13), none, []⟩ :: L80_6
theorem v80_7 : VS L80_7.eq_1 := rfl
def L80_8 : List AStep := ⟨.len (.t 9), (some 10), none, []⟩ :: ⟨.faddr 0 (.t 3), (some 11), none, []⟩ :: L80_7
theorem v80_8 : VS L80_8.eq_1 := rfl
def L80_9 : List AStep := ⟨.faddr 0 (.t 2), (some 8), none, []⟩ :: ⟨.load 1 false (.t 8), (some 9), none, []⟩ :: L80_8
theorem v80_9 : VS L80_9.eq_1 := rfl
def L80_10 : List AStep := [⟨.mov (.c (.bool false)), (some 4), none, []⟩]
theorem v80_10 : VS L80_10.eq_1 := rfl
def L80_11 : List AStep := [⟨.mov (.c (.int .i64 0)), (some 5), none, []⟩]
theorem v80_11 : VS L80_11.eq_1 := rfl
def L80_12 : List AStep := [⟨.bin .lss (.t 24) (.t 27), (some 28), none, []⟩]
theorem v80_12 : VS L80_12.eq_1 := rfl
def L80_13 : List AStep := ⟨.load 1 false (.t 25), (some 26), none, []⟩ :: ⟨.len (.t 26), (some 27), none, []⟩ :: L80_12
theorem v80_13 : VS L80_13.eq_1 := rfl
def L80_14 : List AStep := ⟨.mov (.t 5), (some 24), none, []⟩ :: ⟨.faddr 0 (.t 2), (some 25), none, []⟩ :: L80_13
theorem v80_14 : VS L80_14.eq_1 := rfl
def L80_15 : List AStep := [⟨.bin .neq (.t 35) (.t 40), (some 41), none, []⟩]
theorem v80_15 : VS L80_15.eq_1 := rfl
def L80_16 : List AStep := ⟨.iaddr 1 (.t 37) (.t 38), (some 39), none, []⟩ :: ⟨.load 1 false (.t 39), (some 40), none, []⟩ :: L80_15
theorem v80_16 : VS L80_16.eq_1 := rfl
def L80_17 : List AStep := ⟨.load 1 false (.t 36), (some 37), none, []⟩ :: ⟨.mov (.t 5), (some 38), none, []⟩ :: L80_16
theorem v80_17 : VS L80_17.eq_1 := rfl
def L80_18 : List AStep := ⟨.load 1 false (.t 34), (some 35), none, []⟩ :: ⟨.faddr 0 (.t 3), (some 36), none, []⟩ :: L80_17
theorem v80_18 : VS L80_18.eq_1 := rfl
def L80_19 : List AStep := ⟨.mov (.t 5), (some 33), none, []⟩ :: ⟨.iaddr 1 (.t 32) (.t 33), (some 34), none, []⟩ :: L80_18
theorem v80_19 : VS L80_19.eq_1 := rfl
def L80_20 : List AStep := ⟨.faddr 0 (.t 2), (some 31), none, []⟩ :: ⟨.load 1 false (.t 31), (some 32), none, []⟩ :: L80_19
theorem v80_20 : VS L80_20.eq_1 := rfl
def L80_21 : List AStep := [⟨.mov (.c (.bool false)), (some 4), none, []⟩]
theorem v80_21 : VS L80_21.eq_1 := rfl
def L80_22 : List AStep := [⟨.mov (.t 30), (some 5), none, []⟩]
theorem v80_22 : VS L80_22.eq_1 := rfl
def L80_23 : List AStep := ⟨.mov (.t 5), (some 29), none, []⟩ :: ⟨.bin .add (.t 29) (.c (.int .i64 1)), (some 30), none, []⟩ :: L80_22
theorem v80_23 : VS L80_23.eq_1 := rfl
def L80_24 : List AStep := [⟨.mov (.c (.int .i64 0)), (some 6), none, []⟩]
theorem v80_24 : VS L80_24.eq_1 := rfl
def L80_25 : List AStep := [⟨.bin .lss (.t 42) (.t 45), (some 46), none, []⟩]
theorem v80_25 : VS L80_25.eq_1 := rfl
def L80_26 : List AStep := ⟨.load 1 false (.t 43), (some 44), none, []⟩ :: ⟨.len (.t 44), (some 45), none, []⟩ :: L80_25
theorem v80_26 : VS L80_26.eq_1 := rfl
def L80_27 : List AStep := ⟨.mov (.t 6), (some 42), none, []⟩ :: ⟨.faddr 1 (.t 2), (some 43), none, []⟩ :: L80_26
theorem v80_27 : VS L80_27.eq_1 := rfl
def L80_28 : List AStep := [⟨.call 88 [(.t 50), (.t 56)], (some 57), none, []⟩, ⟨.mov (.t 57), (some 7), none, []⟩]
theorem v80_28 : VS L80_28.eq_1 := rfl
def L80_29 : List AStep := ⟨.faddr 0 (.t 54), (some 55), none, []⟩ :: ⟨.load 1 false (.t 55), (some 56), none, []⟩ :: L80_28
theorem v80_29 : VS L80_29.eq_1 := rfl
def L80_30 : List AStep := ⟨.mov (.t 6), (some 53), none, []⟩ :: ⟨.iaddr 2 (.t 52) (.t 53), (some 54), none, []⟩ :: L80_29
theorem v80_30 : VS L80_30.eq_1 := rfl
def L80_31 : List AStep := ⟨.faddr 1 (.t 2), (some 51), none, []⟩ :: ⟨.load 1 false (.t 51), (some 52), none, []⟩ :: L80_30
theorem v80_31 : VS L80_31.eq_1 := rfl
def L80_32 : List AStep := ⟨.faddr 1 (.t 3), (some 49), none, []⟩ :: ⟨.load 1 false (.t 49), (some 50), none, []⟩ :: L80_31
theorem v80_32 : VS L80_32.eq_1 := rfl
def L80_33 : List AStep := [⟨.pick (.t 60) (.c (.bool true)) (.t 71), (some 72), none, []⟩]
theorem v80_33 : VS L80_33.eq_1 := rfl
def L80_34 : List AStep := ⟨.load 2 true (.t 69), (some 70), (some (60, false)), []⟩ :: ⟨.eqst true [2, 1] (.t 65) (.t 70), (some 71), (some (60, false)), []⟩ :: L80_33
theorem v80_34 : VS L80_34.eq_1 := rfl
def L80_35 : List AStep := ⟨.mov (.t 6), (some 68), (some (60, false)), []⟩ :: ⟨.iaddr 2 (.t 67) (.t 68), (some 69), (some (60, false)), []⟩ :: L80_34
theorem v80_35 : VS L80_35.eq_1 := rfl
def L80_36 : List AStep := ⟨.faddr 1 (.t 2), (some 66), (some (60, false)), []⟩ :: ⟨.load 1 false (.t 66), (some 67), (some (60, false)), []⟩ :: L80_35
theorem v80_36 : VS L80_36.eq_1 := rfl
def L80_37 : List AStep := ⟨.iaddr 2 (.t 62) (.t 63), (some 64), (some (60, false)), []⟩ :: ⟨.load 2 true (.t 64), (some 65), (some (60, false)), []⟩ :: L80_36
theorem v80_37 : VS L80_37.eq_1 := rfl
def L80_38 : List AStep := ⟨.load 1 false (.t 61), (some 62), (some (60, false)), []⟩ :: ⟨.mov (.t 7), (some 63), (some (60, false)), []⟩ :: L80_37
theorem v80_38 : VS L80_38.eq_1 := rfl
def L80_39 : List AStep := ⟨.mov (.t 59), (some 60), none, []⟩ :: ⟨.faddr 1 (.t 3), (some 61), (some (60, false)), []⟩ :: L80_38
theorem v80_39 : VS L80_39.eq_1 := rfl
def L80_40 : List AStep := ⟨.mov (.t 7), (some 58), none, []⟩ :: ⟨.bin .lss (.t 58) (.c (.int .i64 0)), (some 59), none, []⟩ :: L80_39
theorem v80_40 : VS L80_40.eq_1 := rfl
def L80_41 : List AStep := [⟨.mov (.c (.bool false)), (some 4), none, []⟩]
theorem v80_41 : VS L80_41.eq_1 := rfl
def L80_42 : List AStep := [⟨.mov (.t 48), (some 6), none, []⟩]
theorem v80_42 : VS L80_42.eq_1 := rfl
def L80_43 : List AStep := ⟨.mov (.t 6), (some 47), none, []⟩ :: ⟨.bin .add (.t 47) (.c (.int .i64 1)), (some 48), none, []⟩ :: L80_42
theorem v80_43 : VS L80_43.eq_1 := rfl
def L80_44 : List AStep := [⟨.mov (.c (.bool true)), (some 4), none, []⟩]
theorem v80_44 : VS L80_44.eq_1 := rfl
def C80_0 : ACode := .seq (.reg L80_10) .ret
theorem u80_0 : VC C80_0.eq_1 := rfl
def C80_1 : ACode := .cond (.t 23) C80_0 .skip
theorem u80_1 : VC C80_1.eq_1 := rfl
def C80_2 : ACode := .seq (.reg L80_9) C80_1
theorem u80_2 : VC C80_2.eq_1 := rfl
def C80_3 : ACode := .cond (.t 28) .skip (.exit 0)
theorem u80_3 : VC C80_3.eq_1 := rfl
def C80_4 : ACode := .seq (.reg L80_14) C80_3
theorem u80_4 : VC C80_4.eq_1 := rfl
def C80_5 : ACode := .seq (.reg L80_21) .ret
theorem u80_5 : VC C80_5.eq_1 := rfl
def C80_6 : ACode := .cond (.t 41) C80_5 .skip
theorem u80_6 : VC C80_6.eq_1 := rfl
def C80_7 : ACode := .seq (.reg L80_20) C80_6
theorem u80_7 : VC C80_7.eq_1 := rfl
def C80_8 : ACode := .block 1 C80_7
theorem u80_8 : VC C80_8.eq_1 := rfl
def C80_9 : ACode := .seq C80_8 (.reg L80_23)
theorem u80_9 : VC C80_9.eq_1 := rfl
def C80_10 : ACode := .seq C80_4 C80_9
theorem u80_10 : VC C80_10.eq_1 := rfl
def C80_11 : ACode := .block 0 (.loop C80_10)
theorem u80_11 : VC C80_11.eq_1 := rfl
def C80_12 : ACode := .seq (.reg L80_11) C80_11
theorem u80_12 : VC C80_12.eq_1 := rfl
def C80_13 : ACode := .cond (.t 46) .skip (.exit 2)
theorem u80_13 : VC C80_13.eq_1 := rfl
def C80_14 : ACode := .seq (.reg L80_27) C80_13
theorem u80_14 : VC C80_14.eq_1 := rfl
def C80_15 : ACode := .seq (.reg L80_41) .ret
theorem u80_15 : VC C80_15.eq_1 := rfl
def C80_16 : ACode := .cond (.t 72) C80_15 .skip
theorem u80_16 : VC C80_16.eq_1 := rfl
def C80_17 : ACode := .seq (.reg L80_40) C80_16
theorem u80_17 : VC C80_17.eq_1 := rfl
def C80_18 : ACode := .seq (.reg L80_32) C80_17
theorem u80_18 : VC C80_18.eq_1 := rfl
def C80_19 : ACode := .block 3 C80_18
theorem u80_19 : VC C80_19.eq_1 := rfl
def C80_20 : ACode := .seq C80_19 (.reg L80_43)
theorem u80_20 : VC C80_20.eq_1 := rfl
def C80_21 : ACode := .seq C80_14 C80_20
theorem u80_21 : VC C80_21.eq_1 := rfl
def C80_22 : ACode := .block 2 (.loop C80_21)
theorem u80_22 : VC C80_22.eq_1 := rfl
def C80_23 : ACode := .seq (.reg L80_24) C80_22
theorem u80_23 : VC C80_23.eq_1 := rfl
def C80_24 : ACode := .seq (.reg L80_44) .ret
theorem u80_24 : VC C80_24.eq_1 := rfl
def C80_25 : ACode := .seq C80_23 C80_24
theorem u80_25 : VC C80_25.eq_1 := rfl
def C80_26 : ACode := .seq C80_12 C80_25
theorem u80_26 : VC C80_26.eq_1 := rfl
def C80_27 : ACode := .seq C80_2 C80_26
theorem u80_27 : VC C80_27.eq_1 := rfl
def C80_28 : ACode := .seq (.reg L80_1) C80_27
theorem u80_28 : VC C80_28.eq_1 := rfl
def F80 : AFunc := ⟨73, [.tmp 4], C80_28⟩
theorem cF80 : compB Try.prog 80 = some F80 := by kernel_rfl
attribute [local go_sem ↓] u80_0 u80_1 u80_2 u80_3 u80_4 u80_5 u80_6 u80_7 u80_8 u80_9 u80_10 u80_11 u80_12 u80_13 u80_14 u80_15 u80_16 u80_17 u80_18 u80_19 u80_20 u80_21 u80_22 u80_23 u80_24 u80_25 u80_26 u80_27 u80_28 v80_0 v80_1 v80_2 v80_3 v80_4 v80_5 v80_6 v80_7 v80_8 v80_9 v80_10 v80_11 v80_12 v80_13 v80_14 v80_15 v80_16 v80_17 v80_18 v80_19 v80_20 v80_21 v80_22 v80_23 v80_24 v80_25 v80_26 v80_27 v80_28 v80_29 v80_30 v80_31 v80_32 v80_33 v80_34 v80_35 v80_36 v80_37 v80_38 v80_39 v80_40 v80_41 v80_42 v80_43 v80_44
theorem c_sameFlat (f g : Flat) (p n p' n' : CV) (h : H) (hf : SlF h p n f) (hg : SlF h p' n' g) (mf : smF f) (mg : smF g) : bm Try.prog 80 [.agg [p, n], .agg [p', n']] h = some (ib (sameS f g), h) := by
  refine bm_eq cF80 ?_
  unfold sameS sameNm
  cases e1 : decide ((f.pl.length : Int) = (g.pl.length : Int)) with
  | false => simp +contextual (maxSteps := 2000000) only [go_sem, Nat.reduceEqDiff, reduceCtorEq, Nat.reduceAdd, Nat.reduceLeDiff, F80, hf.pl.len, hg.pl.len, e1, decide_eq_false (len_ne e1), Bool.false_and]
  | true =>
  cases e2 : decide ((f.nl.length : Int) = (g.nl.length : Int)) with
  | false => simp +contextual (maxSteps := 2000000) only [go_sem, Nat.reduceEqDiff, reduceCtorEq, Nat.reduceAdd, Nat.reduceLeDiff, F80, hf.pl.len, hg.pl.len, hf.nl.len, hg.nl.len, e1, e2, Bool.false_and, Bool.and_false]
  | true =>
  have q1 := len_eq e1
  have q2 := len_eq e2
  simp +contextual (maxSteps := 2000000) only [go_sem, Nat.reduceEqDiff, reduceCtorEq, Nat.reduceAdd, Nat.reduceLeDiff, F80, hf.pl.len, hg.pl.len, hf.nl.len, hg.nl.len, e1, e2, Bool.true_and]
  refine wpC_loop (fun i T L h' => h' = h ∧ T 2 = .lp 2 0 ∧ (L 2).2 = [p, n] ∧ T 3 = .lp 3 0 ∧ (L 3).2 = [p', n'] ∧ T 5 = .v (.one (.int .i64 i)) ∧ Alike f.pl g.pl i) f.pl.length ?_ ?_ (Nat.zero_le _) ?_
  · rintro i T L h' hi ⟨rfl, t2, l2, t3, l3, t5, ha⟩
    have hj : i < g.pl.length := by omega
    cases b : decide (f.pl[i] = g.pl[i]) with
    | true =>
      simp +contextual (maxSteps := 2000000) only [go_sem, Nat.reduceEqDiff, reduceCtorEq, Nat.reduceAdd, Nat.reduceLeDiff, t2, l2, t3, l3, t5, hf.pl.len, hf.pl.iaddr hi, hg.pl.iaddr hj, hf.pl.oneO hi, hg.pl.oneO hj, lt_true hi, b]
      exact ⟨by rw [wrap_next hi (big_lt mf.1)], ha.next hi hj b⟩
    | false =>
      simp +contextual (maxSteps := 2000000) only [go_sem, Nat.reduceEqDiff, reduceCtorEq, Nat.reduceAdd, Nat.reduceLeDiff, t2, l2, t3, l3, t5, hf.pl.len, hf.pl.iaddr hi, hg.pl.iaddr hj, hf.pl.oneO hi, hg.pl.oneO hj, lt_true hi, b, decide_eq_false (not_alike hi hj b), Bool.false_and]
  · rintro T L h' ⟨rfl, t2, l2, t3, l3, t5, ha⟩
    have e0 := ha.eq q1
    simp +contextual (maxSteps := 2000000) only [go_sem, Nat.reduceEqDiff, reduceCtorEq, Nat.reduceAdd, Nat.reduceLeDiff, t2, l2, t3, l3, t5, hf.pl.len, lt_false]
    refine wpC_loop (fun i T L h2 => h2 = h' ∧ T 2 = .lp 2 0 ∧ (L 2).2 = [p, n] ∧ T 3 = .lp 3 0 ∧ (L 3).2 = [p', n'] ∧ T 6 = .v (.one (.int .i64 i)) ∧ Pre (inB g.nl) true f.nl i) f.nl.length ?_ ?_ (Nat.zero_le _) ?_
    · rintro i T L h2 hi ⟨rfl, t2, l2, t3, l3, t6, hp⟩
      have hf0 := hf.nl.fieldO (off := 0) hi (by omega)
      have c0 := c_pairAt g.nl (.one n') f.nl[i].name h2 hg.nl mg.nl
      rcases idx_cases (fun q : Pair => decide (q.name = f.nl[i].name)) g.nl with e | ⟨j, hj, e, _⟩ <;> (replace e := (show pairAt g.nl f.nl[i].name = _ from e))
      · have b : inB g.nl f.nl[i] = false := by
          unfold inB
          rw [e]
          split <;> simp
        have b2 : f.nl.all (inB g.nl) = false := List.all_eq_false.2 ⟨_, List.getElem_mem hi, by simp [b]⟩
        simp +contextual (maxSteps := 2000000) only [go_sem, Nat.reduceEqDiff, reduceCtorEq, Nat.reduceAdd, Nat.reduceLeDiff, t2, l2, t3, l3, t6, hf.nl.len, hf.nl.iaddr hi, hf.nl.fieldO hi, lt_true hi, c0, e, b2, Bool.and_false]
      · have b : inB g.nl f.nl[i] = decide (g.nl[j] = f.nl[i]) := by
          unfold inB
          rw [e, Int.toNat_natCast, List.getElem?_eq_getElem hj]
          simp
        cases b1 : decide (g.nl[j] = f.nl[i]) with
        | true =>
          simp +contextual (maxSteps := 2000000) only [go_sem, Nat.reduceEqDiff, reduceCtorEq, Nat.reduceAdd, Nat.reduceLeDiff, t2, l2, t3, l3, t6, hf.nl.len, hf.nl.iaddr hi, hf.nl.fieldO hi, hf.nl.whole hi, lt_true hi, c0, e, hg.nl.iaddr hj, hg.nl.whole hj, eqP, b1]
          exact ⟨by rw [wrap_next hi (big_lt mf.2.1)], hp.next hi (by rw [b, b1])⟩
        | false =>
          have b2 : f.nl.all (inB g.nl) = false := List.all_eq_false.2 ⟨_, List.getElem_mem hi, by simp [b, b1]⟩
          simp +contextual (maxSteps := 2000000) only [go_sem, Nat.reduceEqDiff, reduceCtorEq, Nat.reduceAdd, Nat.reduceLeDiff, t2, l2, t3, l3, t6, hf.nl.len, hf.nl.iaddr hi, hf.nl.fieldO hi, hf.nl.whole hi, lt_true hi, c0, e, hg.nl.iaddr hj, hg.nl.whole hj, eqP, b1, b2, Bool.and_false]
    · rintro T L h2 ⟨rfl, t2, l2, t3, l3, t6, hp⟩
      simp +contextual (maxSteps := 2000000) only [go_sem, Nat.reduceEqDiff, reduceCtorEq, Nat.reduceAdd, Nat.reduceLeDiff, t2, l2, t3, l3, t6, hf.nl.len, lt_false, decide_eq_true e0, hp.all, Bool.and_self]
    · simp +contextual (maxSteps := 2000000) only [go_sem, Nat.reduceEqDiff, reduceCtorEq, Nat.reduceAdd, Nat.reduceLeDiff, t2, l2, t3, l3]
      exact ⟨rfl, Pre.zero⟩
  · simp +contextual (maxSteps := 2000000) only [go_sem, Nat.reduceEqDiff, reduceCtorEq, Nat.reduceAdd, Nat.reduceLeDiff]
    exact ⟨rfl, Alike.zero⟩
/-! spec.SameFlat -/
def L33_0 : List AStep := [⟨.mov (.c (.bool false)), (some 4), none, []⟩]
theorem v33_0 : VS L33_0.eq_1 := rfl
def L33_1 : List AStep := ⟨.box 33 (.t 0), (some 2), none, []⟩ :: ⟨.box 33 (.t 1), (some 3), none, []⟩ :: L33_0
theorem v33_1 : VS L33_1.eq_1 := rfl
def L33_2 : List AStep := [⟨.pick (.t 11) (.t 14) (.c (.bool false)), (some 15), none, []⟩, ⟨.mov (.t 15), (some 4), none, []⟩]
theorem v33_2 : VS L33_2.eq_1 := rfl
def L33_3 : List AStep := ⟨.load 2 true (.t 3), (some 13), (some (11, true)), []⟩ :: ⟨.call 80 [(.t 12), (.t 13)], (some 14), (some (11, true)), []⟩ :: L33_2
theorem v33_3 : VS L33_3.eq_1 := rfl
def L33_4 : List AStep := ⟨.mov (.t 10), (some 11), none, []⟩ :: ⟨.load 2 true (.t 2), (some 12), (some (11, true)), []⟩ :: L33_3
theorem v33_4 : VS L33_4.eq_1 := rfl
def L33_5 : List AStep := ⟨.call 41 [(.t 8)], (some 9), (some (7, true)), []⟩ :: ⟨.pick (.t 7) (.t 9) (.c (.bool false)), (some 10), none, []⟩ :: L33_4
theorem v33_5 : VS L33_5.eq_1 := rfl
def L33_6 : List AStep := ⟨.mov (.t 6), (some 7), none, []⟩ :: ⟨.load 2 true (.t 3), (some 8), (some (7, true)), []⟩ :: L33_5
theorem v33_6 : VS L33_6.eq_1 := rfl
def L33_7 : List AStep := ⟨.load 2 true (.t 2), (some 5), none, []⟩ :: ⟨.call 41 [(.t 5)], (some 6), none, []⟩ :: L33_6
theorem v33_7 : VS L33_7.eq_1 := rfl
def C33_0 : ACode := .seq (.reg L33_7) .ret
theorem u33_0 : VC C33_0.eq_1 := rfl
def C33_1 : ACode := .seq (.reg L33_1) C33_0
theorem u33_1 : VC C33_1.eq_1 := rfl
def F33 : AFunc := ⟨16, [.tmp 4], C33_1⟩
theorem cF33 : compB Try.prog 33 = some F33 := by kernel_rfl
attribute [local go_sem ↓] u33_0 u33_1 v33_0 v33_1 v33_2 v33_3 v33_4 v33_5 v33_6 v33_7
theorem k_sSameFlat (f g : Flat) (p n p' n' : CV) (h : H) (hf : SlF h p n f) (hg : SlF h p' n' g) (mf : miniF f) (mg : miniF g) : bm Try.prog 33 [.agg [p, n], .agg [p', n']] h = some (ib (sameF f g), h) := by
  refine bm_eq cF33 ?_
  rw [sameF_eq]
  cases b1 : okFlat f with
  | false => simp +contextual (maxSteps := 2000000) only [go_sem, Nat.reduceEqDiff, reduceCtorEq, Nat.reduceAdd, Nat.reduceLeDiff, F33, c_validFlat _ _ _ _ hf.pl hf.nl mf.sm, b1, Bool.false_and]
  | true =>
  cases b2 : okFlat g with
  | false => simp +contextual (maxSteps := 2000000) only [go_sem, Nat.reduceEqDiff, reduceCtorEq, Nat.reduceAdd, Nat.reduceLeDiff, F33, c_validFlat _ _ _ _ hf.pl hf.nl mf.sm, b1, c_validFlat _ _ _ _ hg.pl hg.nl mg.sm, b2, Bool.false_and, Bool.true_and]
  | true => simp +contextual (maxSteps := 2000000) only [go_sem, Nat.reduceEqDiff, reduceCtorEq, Nat.reduceAdd, Nat.reduceLeDiff, F33, c_validFlat _ _ _ _ hf.pl hf.nl mf.sm, b1, c_validFlat _ _ _ _ hg.pl hg.nl mg.sm, b2, c_sameFlat _ _ _ _ _ _ _ hf hg mf.sm mg.sm, Bool.true_and]
/-! impl.SameFlat -/
def L34_0 : List AStep := [⟨.mov (.c (.bool false)), (some 4), none, []⟩]
theorem v34_0 : VS L34_0.eq_1 := rfl
def L34_1 : List AStep := ⟨.box 33 (.t 0), (some 2), none, []⟩ :: ⟨.box 33 (.t 1), (some 3), none, []⟩ :: L34_0
theorem v34_1 : VS L34_1.eq_1 := rfl
def L34_2 : List AStep := [⟨.mov (.t 26), (some 4), none, []⟩]
theorem v34_2 : VS L34_2.eq_1 := rfl
def L34_3 : List AStep := ⟨.call 82 [(.t 21), (.t 24)], (some 25), (some (18, true)), []⟩ :: ⟨.pick (.t 18) (.t 25) (.c (.bool false)), (some 26), none, []⟩ :: L34_2
theorem v34_3 : VS L34_3.eq_1 := rfl
def L34_4 : List AStep := ⟨.call 83 [(.t 20)], (some 21), (some (18, true)), [(.load 1 false (.t 22), (some 23), (some (18, true)))]⟩ :: ⟨.call 83 [(.t 23)], (some 24), (some (18, true)), []⟩ :: L34_3
theorem v34_4 : VS L34_4.eq_1 := rfl
def L34_5 : List AStep := ⟨.faddr 1 (.t 3), (some 22), (some (18, true)), []⟩ :: ⟨.load 1 false (.t 22), (some 23), (some (18, true)), []⟩ :: L34_4
theorem v34_5 : VS L34_5.eq_1 := rfl
def L34_6 : List AStep := ⟨.faddr 1 (.t 2), (some 19), (some (18, true)), []⟩ :: ⟨.load 1 false (.t 19), (some 20), (some (18, true)), []⟩ :: L34_5
theorem v34_6 : VS L34_6.eq_1 := rfl
def L34_7 : List AStep := ⟨.pick (.t 11) (.t 16) (.c (.bool false)), (some 17), none, []⟩ :: ⟨.mov (.t 17), (some 18), none, []⟩ :: L34_6
theorem v34_7 : VS L34_7.eq_1 := rfl
def L34_8 : List AStep := ⟨.load 1 false (.t 14), (some 15), (some (11, true)), []⟩ :: ⟨.call 81 [(.t 13), (.t 15)], (some 16), (some (11, true)), []⟩ :: L34_7
theorem v34_8 : VS L34_8.eq_1 := rfl
def L34_9 : List AStep := ⟨.load 1 false (.t 12), (some 13), (some (11, true)), []⟩ :: ⟨.faddr 0 (.t 3), (some 14), (some (11, true)), []⟩ :: L34_8
theorem v34_9 : VS L34_9.eq_1 := rfl
def L34_10 : List AStep := ⟨.mov (.t 10), (some 11), none, []⟩ :: ⟨.faddr 0 (.t 2), (some 12), (some (11, true)), []⟩ :: L34_9
theorem v34_10 : VS L34_10.eq_1 := rfl
def L34_11 : List AStep := ⟨.call 48 [(.t 8)], (some 9), (some (7, true)), []⟩ :: ⟨.pick (.t 7) (.t 9) (.c (.bool false)), (some 10), none, []⟩ :: L34_10
theorem v34_11 : VS L34_11.eq_1 := rfl
def L34_12 : List AStep := ⟨.mov (.t 6), (some 7), none, []⟩ :: ⟨.load 2 true (.t 3), (some 8), (some (7, true)), []⟩ :: L34_11
theorem v34_12 : VS L34_12.eq_1 := rfl
def L34_13 : List AStep := ⟨.load 2 true (.t 2), (some 5), none, []⟩ :: ⟨.call 48 [(.t 5)], (some 6), none, []⟩ :: L34_12
theorem v34_13 : VS L34_13.eq_1 := rfl
def C34_0 : ACode := .seq (.reg L34_13) .ret
theorem u34_0 : VC C34_0.eq_1 := rfl
def C34_1 : ACode := .seq (.reg L34_1) C34_0
theorem u34_1 : VC C34_1.eq_1 := rfl
def F34 : AFunc := ⟨27, [.tmp 4], C34_1⟩
theorem cF34 : compB Try.prog 34 = some F34 := by kernel_rfl
attribute [local go_sem ↓] u34_0 u34_1 v34_0 v34_1 v34_2 v34_3 v34_4 v34_5 v34_6 v34_7 v34_8 v34_9 v34_10 v34_11 v34_12 v34_13
theorem k_iSameFlat (f g : Flat) (p n p' n' : CV) (h : H) (hf : SlF h p n f) (hg : SlF h p' n' g) (mf : miniF f) (mg : miniF g) : bm Try.prog 34 [.agg [p, n], .agg [p', n']] h = some (ib (sameF f g), h) := by
  refine bm_eq cF34 ?_
  unfold sameF
  cases b1 : okFlat f with
  | false => simp +contextual (maxSteps := 2000000) only [go_sem, Nat.reduceEqDiff, reduceCtorEq, Nat.reduceAdd, Nat.reduceLeDiff, F34, c_ValidFlat _ _ _ _ hf.pl hf.nl mf.sm, b1, Bool.false_and]
  | true =>
  cases b2 : okFlat g with
  | false => simp +contextual (maxSteps := 2000000) only [go_sem, Nat.reduceEqDiff, reduceCtorEq, Nat.reduceAdd, Nat.reduceLeDiff, F34, c_ValidFlat _ _ _ _ hf.pl hf.nl mf.sm, b1, c_ValidFlat _ _ _ _ hg.pl hg.nl mg.sm, b2, Bool.false_and, Bool.true_and]
  | true =>
  have k1 := (okFlat_sm b1).2.1
  have k2 := (okFlat_sm b2).2.1
  have e0 := c_equalI f.pl g.pl (.one p) (.one p') h hf.pl hg.pl mf.sm.pl
  cases b3 : decide (f.pl = g.pl) with
  | false => simp +contextual (maxSteps := 2000000) only [go_sem, Nat.reduceEqDiff, reduceCtorEq, Nat.reduceAdd, Nat.reduceLeDiff, F34, c_ValidFlat _ _ _ _ hf.pl hf.nl mf.sm, b1, c_ValidFlat _ _ _ _ hg.pl hg.nl mg.sm, b2, e0, b3, Bool.true_and, Bool.false_and]
  | true =>
  simp +contextual (maxSteps := 2000000) only [go_sem, Nat.reduceEqDiff, reduceCtorEq, Nat.reduceAdd, Nat.reduceLeDiff, F34, c_ValidFlat _ _ _ _ hf.pl hf.nl mf.sm, b1, c_ValidFlat _ _ _ _ hg.pl hg.nl mg.sm, b2, e0, b3, Bool.true_and]
  refine wp_call (k_byName f.nl (.one n) h hf.nl (by omega)) ?_
  rintro r1 h1 ⟨g1, n1⟩
  simp +contextual (maxSteps := 2000000) only [go_sem, Nat.reduceEqDiff, reduceCtorEq, Nat.reduceAdd, Nat.reduceLeDiff]
  refine wp_call (k_byName g.nl (.one n') h1 (hg.nl.grow g1) (by omega)) ?_
  rintro r2 h2 ⟨g2, n2⟩
  have e1 := c_equalP (isort ltP f.nl) (isort ltP g.nl) r1 r2 h2 ((n1.sl lenP).grow g2) (n2.sl lenP) (by rw [isort_len]; exact Nat.le_trans k1 (by decide))
  simp +contextual (maxSteps := 2000000) only [go_sem, Nat.reduceEqDiff, reduceCtorEq, Nat.reduceAdd, Nat.reduceLeDiff, e1]
  exact gcR_of (g1.trans g2) rfl ⟨rfl, rfl⟩
end Go.Proofs.Ytdalgphpacikkac.Am
