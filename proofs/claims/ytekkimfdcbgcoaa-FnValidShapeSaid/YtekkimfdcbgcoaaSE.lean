/- Contracts: the same flat calls, of both sides. -/
import Derived.Test.YtekkimfdcbgcoaaA1
import Derived.Test.YtekkimfdcbgcoaaA3
import Derived.Test.YtekkimfdcbgcoaaB1
import Derived.Test.YtekkimfdcbgcoaaSD
namespace Go.Proofs.Ytekkimfdcbgcoaa.Am
open Go
set_option maxRecDepth 100000
set_option maxHeartbeats 4000000
set_option linter.unusedSimpArgs false
set_option linter.unusedVariables false
attribute [local go_sem ↓] bv_t bv_c ev_t ev_c put_same put_ne put_none kill_at pro_at lb_same lb_ne start_zero start_succ wpC_seq wpC_reg wpC_cond wpC_block wpC_skip wpC_exit wpC_ret thenQ_normal thenQ_exit thenQ_ret inBlk_normal inBlk_exit inBlk_ret wpS_nil wpS_step wpS_again wpS_guard wpO_mov wpO_load wpO_faddr wpO_nilCheck wpO_pick wpO_build wpO_bin wpO_eqb wpO_eqst wpO_eqnil wpO_not wpO_conv wpO_bytesStr wpO_iaddr wpO_idxStr wpO_field wpO_extract wpO_len wpO_lenStr wpO_cap wpO_min wpO_slice wpO_sliceStr wpO_alloc wpO_box wpO_store wpO_call wpO_callv wpO_mkfn wpO_buildSlice wpO_mkslice wpO_append wpO_appz proA_nil proA_cons tmpX_nil tmpX_tmp tmpX_cell doneB_normal doneB_ret agK_cons agK_nil agK_guard agG_tt agG_ff agG_tf agG_ft agG_undef pureB_load results_one results_two results_nil resBs_cons resBs_nil resB_tmp resB_cell
attribute [local go_sem] kill_v kill_lp_ne kill_lp_same pro_v pro_lp_same pro_lp_ne av_v av_lp optB_some optX_some valX_eq ldX_lp ldX_v faX_lp faX_v ncX_lp ncX_ptr ncX_fn boxK_one boxK_agg stL_some stK_lp_one stK_lp_agg stK_v_one stK_v_agg proM_v proM_lp callG_mk callVG_mk callvK_fn fnG_mk ptrsA_nil ptrsA_cons callH_some whenA_true whenA_false guardH_tt guardH_ff guardH_tf guardH_ft guardH_undef agV_one agV_agg lenO_sl lenStrO_str notO_bool pickO_bool convO_int eqbO_bool eqnilO_sl extractO_tup capO_sl minO_int loadL_one loadL_all storeL_eq fillA_nil fillA_one fillA_agg nat_ge neg_ge nat_lt neg_lt buildO bin_add bin_sub bin_mul bin_eql bin_neq bin_lss bin_leq bin_gtr bin_geq str_eql str_neq str_lss str_leq str_gtr str_geq retK_some endK_mk gcK_same gcK_int gcK_bool tupO_one tupO_agg rdy_self ib ii Option.map_none Option.map_some Option.some.injEq exists_eq_left' exists_eq_left ne_eq not_false_eq_true if_true if_false List.map_cons List.map_nil List.getElem?_cons_zero List.getElem?_cons_succ List.length_cons List.length_nil List.take_succ_cons List.take_zero List.take_nil List.drop_succ_cons List.drop_zero List.drop_nil List.cons_append List.nil_append List.append_nil List.set_cons_zero List.set_cons_succ Nat.zero_add forall_const true_and and_true and_self Bool.false_eq_true false_implies true_implies implies_true Bool.not_true Bool.not_false Bool.not_eq_true' Bool.not_eq_false' beq_self_eq_true Bool.bne_true Bool.bne_false
attribute [local go_sem] lenI lenS lenP lenQ lenB lenL lenT encI_0 encS_0 encP_0 encP_1 encQ_0 encQ_1 encQ_2 encQ_3 encB_0 encB_1 encL_0 encL_1 encT_0 encT_1
attribute [local go_sem low] whenA_bool guardH_bool
/-- Up to i two lists are the same. -/
def Alike {α : Type} (l m : List α) (i : Nat) : Prop := ∀ j, j < i → l[j]? = m[j]?
theorem Alike.zero {α : Type} {l m : List α} : Alike l m 0 := fun j hj => absurd hj (by omega)
theorem Alike.next {α : Type} [DecidableEq α] {l m : List α} {i : Nat} (h : Alike l m i) (hi : i < l.length) (hj : i < m.length) (e : decide (l[i] = m[i]) = true) : Alike l m (i + 1) := fun j hj' => by
  by_cases e2 : j = i
  · subst e2
    rw [List.getElem?_eq_getElem hi, List.getElem?_eq_getElem hj, of_decide_eq_true e]
  · exact h j (by omega)
theorem Alike.eq {α : Type} {l m : List α} (h : Alike l m l.length) (e : l.length = m.length) : l = m := by
  refine List.ext_getElem? fun j => ?_
  by_cases hj : j < l.length
  · exact h j hj
  · rw [List.getElem?_eq_none (by omega), List.getElem?_eq_none (by omega)]
theorem not_alike {α : Type} [DecidableEq α] {l m : List α} {i : Nat} (hi : i < l.length) (hj : i < m.length) (e : decide (l[i] = m[i]) = false) : ¬ l = m := by
  rintro rfl
  simp at e
theorem len_ne {α : Type} {l m : List α} (e : decide ((l.length : Int) = (m.length : Int)) = false) : ¬ l = m := by
  rintro rfl
  simp at e
theorem len_eq {α : Type} {l m : List α} (e : decide ((l.length : Int) = (m.length : Int)) = true) : l.length = m.length := by have := of_decide_eq_true e; omega
def cmpS (s t : ByteArray) : Int := if sLess s t = true then -1 else if s = t then 0 else 1
theorem cmpS_neg {s t : ByteArray} : decide (cmpS s t < 0) = sLess s t := by
  unfold cmpS
  cases sLess s t with
  | true => rfl
  | false =>
    simp only [Bool.false_eq_true, if_false]
    split <;> rfl
/-! slices.Equal(()int,int) -/
def L74_0 : List AStep := [⟨.mov (.c (.bool false)), (some 4), none, []⟩]
theorem v74_0 : VS L74_0.eq_1 := rfl
def L74_1 : List AStep := [⟨.bin .neq (.t 7) (.t 9), (some 10), none, []⟩]
theorem v74_1 : VS L74_1.eq_1 := rfl
def L74_2 : List AStep := ⟨.mov (.t 1), (some 8), none, []⟩ :: ⟨.len (.t 8), (some 9), none, []⟩ :: L74_1
theorem v74_2 : VS L74_2.eq_1 := rfl
def L74_3 : List AStep := ⟨.mov (.t 0), (some 6), none, []⟩ :: ⟨.len (.t 6), (some 7), none, []⟩ :: L74_2
theorem v74_3 : VS L74_3.eq_1 := rfl
def L74_4 : List AStep := [⟨.mov (.c (.bool false)), (some 4), none, []⟩]
theorem v74_4 : VS L74_4.eq_1 := rfl
def L74_5 : List AStep := [⟨.mov (.c (.int .i64 0)), (some 13), none, []⟩]
theorem v74_5 : VS L74_5.eq_1 := rfl
def L74_6 : List AStep := ⟨.mov (.t 0), (some 11), none, []⟩ :: ⟨.len (.t 11), (some 12), none, []⟩ :: L74_5
theorem v74_6 : VS L74_6.eq_1 := rfl
def L74_7 : List AStep := [⟨.bin .lss (.t 13) (.t 12), (some 14), none, []⟩]
theorem v74_7 : VS L74_7.eq_1 := rfl
def L74_8 : List AStep := [⟨.mov (.t 13), (some 15), none, []⟩, ⟨.mov (.t 15), (some 5), none, []⟩]
theorem v74_8 : VS L74_8.eq_1 := rfl
def L74_9 : List AStep := [⟨.bin .neq (.t 19) (.t 23), (some 24), none, []⟩]
theorem v74_9 : VS L74_9.eq_1 := rfl
def L74_10 : List AStep := ⟨.iaddr 1 (.t 20) (.t 21), (some 22), none, []⟩ :: ⟨.load 1 false (.t 22), (some 23), none, []⟩ :: L74_9
theorem v74_10 : VS L74_10.eq_1 := rfl
def L74_11 : List AStep := ⟨.mov (.t 1), (some 20), none, []⟩ :: ⟨.mov (.t 5), (some 21), none, []⟩ :: L74_10
theorem v74_11 : VS L74_11.eq_1 := rfl
def L74_12 : List AStep := ⟨.iaddr 1 (.t 16) (.t 17), (some 18), none, []⟩ :: ⟨.load 1 false (.t 18), (some 19), none, []⟩ :: L74_11
theorem v74_12 : VS L74_12.eq_1 := rfl
def L74_13 : List AStep := ⟨.mov (.t 0), (some 16), none, []⟩ :: ⟨.mov (.t 5), (some 17), none, []⟩ :: L74_12
theorem v74_13 : VS L74_13.eq_1 := rfl
def L74_14 : List AStep := [⟨.mov (.c (.bool false)), (some 4), none, []⟩]
theorem v74_14 : VS L74_14.eq_1 := rfl
def L74_15 : List AStep := [⟨.bin .add (.t 13) (.c (.int .i64 1)), (some 25), none, []⟩, ⟨.mov (.t 25), (some 13), none, []⟩]
theorem v74_15 : VS L74_15.eq_1 := rfl
def L74_16 : List AStep := [⟨.mov (.c (.bool true)), (some 4), none, []⟩]
theorem v74_16 : VS L74_16.eq_1 := rfl
def C74_0 : ACode := .seq (.reg L74_4) .ret
theorem u74_0 : VC C74_0.eq_1 := rfl
def C74_1 : ACode := .cond (.t 10) C74_0 .skip
theorem u74_1 : VC C74_1.eq_1 := rfl
def C74_2 : ACode := .seq (.reg L74_3) C74_1
theorem u74_2 : VC C74_2.eq_1 := rfl
def C74_3 : ACode := .cond (.t 14) .skip (.exit 0)
theorem u74_3 : VC C74_3.eq_1 := rfl
def C74_4 : ACode := .seq (.reg L74_14) .ret
theorem u74_4 : VC C74_4.eq_1 := rfl
def C74_5 : ACode := .cond (.t 24) C74_4 .skip
theorem u74_5 : VC C74_5.eq_1 := rfl
def C74_6 : ACode := .seq (.reg L74_13) C74_5
theorem u74_6 : VC C74_6.eq_1 := rfl
def C74_7 : ACode := .seq (.reg L74_8) C74_6
theorem u74_7 : VC C74_7.eq_1 := rfl
def C74_8 : ACode := .block 1 C74_7
theorem u74_8 : VC C74_8.eq_1 := rfl
def C74_9 : ACode := .seq C74_8 (.reg L74_15)
theorem u74_9 : VC C74_9.eq_1 := rfl
def C74_10 : ACode := .seq C74_3 C74_9
theorem u74_10 : VC C74_10.eq_1 := rfl
def C74_11 : ACode := .seq (.reg L74_7) C74_10
theorem u74_11 : VC C74_11.eq_1 := rfl
def C74_12 : ACode := .block 0 (.loop C74_11)
theorem u74_12 : VC C74_12.eq_1 := rfl
def C74_13 : ACode := .seq (.reg L74_6) C74_12
theorem u74_13 : VC C74_13.eq_1 := rfl
def C74_14 : ACode := .seq (.reg L74_16) .ret
theorem u74_14 : VC C74_14.eq_1 := rfl
def C74_15 : ACode := .seq C74_13 C74_14
theorem u74_15 : VC C74_15.eq_1 := rfl
def C74_16 : ACode := .seq C74_2 C74_15
theorem u74_16 : VC C74_16.eq_1 := rfl
def C74_17 : ACode := .seq (.reg L74_0) C74_16
theorem u74_17 : VC C74_17.eq_1 := rfl
def F74 : AFunc := ⟨26, [.tmp 4], C74_17⟩
theorem cF74 : compB Try.prog 74 = some F74 := by kernel_rfl
attribute [local go_sem ↓] u74_0 u74_1 u74_2 u74_3 u74_4 u74_5 u74_6 u74_7 u74_8 u74_9 u74_10 u74_11 u74_12 u74_13 u74_14 u74_15 u74_16 u74_17 v74_0 v74_1 v74_2 v74_3 v74_4 v74_5 v74_6 v74_7 v74_8 v74_9 v74_10 v74_11 v74_12 v74_13 v74_14 v74_15 v74_16
theorem c_equalI (l m : List Int) (v w : AV) (h : H) (hl : SlI h v l) (hm : SlI h w m) (hn : l.length ≤ big) : bm Try.prog 74 [v, w] h = some (ib (decide (l = m)), h) := by
  refine bm_eq cF74 ?_
  cases e : decide ((l.length : Int) = (m.length : Int)) with
  | false => simp +contextual (maxSteps := 2000000) only [go_sem, Nat.reduceEqDiff, reduceCtorEq, Nat.reduceAdd, Nat.reduceLeDiff, F74, hl.len, hm.len, e, decide_eq_false (len_ne e)]
  | true =>
  have e' := len_eq e
  simp +contextual (maxSteps := 2000000) only [go_sem, Nat.reduceEqDiff, reduceCtorEq, Nat.reduceAdd, Nat.reduceLeDiff, F74, hl.len, hm.len, e]
  refine wpC_loop (fun i T L h' => h' = h ∧ T 0 = .v v ∧ T 1 = .v w ∧ T 12 = .v (.one (.int .i64 l.length)) ∧ T 13 = .v (.one (.int .i64 i)) ∧ Alike l m i) l.length ?_ ?_ (Nat.zero_le _) ?_
  · rintro i T L h' hi ⟨rfl, t0, t1, t12, t13, ha⟩
    have hj : i < m.length := by omega
    cases b : decide (l[i] = m[i]) with
    | true =>
      simp +contextual (maxSteps := 2000000) only [go_sem, Nat.reduceEqDiff, reduceCtorEq, Nat.reduceAdd, Nat.reduceLeDiff, t0, t1, t12, t13, hl.iaddr hi, hm.iaddr hj, hl.oneO hi, hm.oneO hj, lt_true hi, b]
      exact ⟨by rw [wrap_next hi (big_lt hn)], ha.next hi hj b⟩
    | false =>
      simp +contextual (maxSteps := 2000000) only [go_sem, Nat.reduceEqDiff, reduceCtorEq, Nat.reduceAdd, Nat.reduceLeDiff, t0, t1, t12, t13, hl.iaddr hi, hm.iaddr hj, hl.oneO hi, hm.oneO hj, lt_true hi, b, decide_eq_false (not_alike hi hj b)]
  · rintro T L h' ⟨rfl, t0, t1, t12, t13, ha⟩
    simp +contextual (maxSteps := 2000000) only [go_sem, Nat.reduceEqDiff, reduceCtorEq, Nat.reduceAdd, Nat.reduceLeDiff, t0, t1, t12, t13, lt_false, decide_eq_true (ha.eq e')]
  · simp +contextual (maxSteps := 2000000) only [go_sem, Nat.reduceEqDiff, reduceCtorEq, Nat.reduceAdd, Nat.reduceLeDiff]
    exact ⟨rfl, Alike.zero⟩
/-! slices.Equal(()impl.Pair,impl.Pair) -/
def L75_0 : List AStep := [⟨.mov (.c (.bool false)), (some 4), none, []⟩]
theorem v75_0 : VS L75_0.eq_1 := rfl
def L75_1 : List AStep := [⟨.bin .neq (.t 7) (.t 9), (some 10), none, []⟩]
theorem v75_1 : VS L75_1.eq_1 := rfl
def L75_2 : List AStep := ⟨.mov (.t 1), (some 8), none, []⟩ :: ⟨.len (.t 8), (some 9), none, []⟩ :: L75_1
theorem v75_2 : VS L75_2.eq_1 := rfl
def L75_3 : List AStep := ⟨.mov (.t 0), (some 6), none, []⟩ :: ⟨.len (.t 6), (some 7), none, []⟩ :: L75_2
theorem v75_3 : VS L75_3.eq_1 := rfl
def L75_4 : List AStep := [⟨.mov (.c (.bool false)), (some 4), none, []⟩]
theorem v75_4 : VS L75_4.eq_1 := rfl
def L75_5 : List AStep := [⟨.mov (.c (.int .i64 0)), (some 13), none, []⟩]
theorem v75_5 : VS L75_5.eq_1 := rfl
def L75_6 : List AStep := ⟨.mov (.t 0), (some 11), none, []⟩ :: ⟨.len (.t 11), (some 12), none, []⟩ :: L75_5
theorem v75_6 : VS L75_6.eq_1 := rfl
def L75_7 : List AStep := [⟨.bin .lss (.t 13) (.t 12), (some 14), none, []⟩]
theorem v75_7 : VS L75_7.eq_1 := rfl
def L75_8 : List AStep := [⟨.mov (.t 13), (some 15), none, []⟩, ⟨.mov (.t 15), (some 5), none, []⟩]
theorem v75_8 : VS L75_8.eq_1 := rfl
def L75_9 : List AStep := [⟨.eqst true [2, 1] (.t 19) (.t 23), (some 24), none, []⟩]
theorem v75_9 : VS L75_9.eq_1 := rfl
def L75_10 : List AStep := ⟨.iaddr 2 (.t 20) (.t 21), (some 22), none, []⟩ :: ⟨.load 2 true (.t 22), (some 23), none, []⟩ :: L75_9
theorem v75_10 : VS L75_10.eq_1 := rfl
def L75_11 : List AStep := ⟨.mov (.t 1), (some 20), none, []⟩ :: ⟨.mov (.t 5), (some 21), none, []⟩ :: L75_10
theorem v75_11 : VS L75_11.eq_1 := rfl
def L75_12 : List AStep := ⟨.iaddr 2 (.t 16) (.t 17), (some 18), none, []⟩ :: ⟨.load 2 true (.t 18), (some 19), none, []⟩ :: L75_11
theorem v75_12 : VS L75_12.eq_1 := rfl
def L75_13 : List AStep := ⟨.mov (.t 0), (some 16), none, []⟩ :: ⟨.mov (.t 5), (some 17), none, []⟩ :: L75_12
theorem v75_13 : VS L75_13.eq_1 := rfl
def L75_14 : List AStep := [⟨.mov (.c (.bool false)), (some 4), none, []⟩]
theorem v75_14 : VS L75_14.eq_1 := rfl
def L75_15 : List AStep := [⟨.bin .add (.t 13) (.c (.int .i64 1)), (some 25), none, []⟩, ⟨.mov (.t 25), (some 13), none, []⟩]
theorem v75_15 : VS L75_15.eq_1 := rfl
def L75_16 : List AStep := [⟨.mov (.c (.bool true)), (some 4), none, []⟩]
theorem v75_16 : VS L75_16.eq_1 := rfl
def C75_0 : ACode := .seq (.reg L75_4) .ret
theorem u75_0 : VC C75_0.eq_1 := rfl
def C75_1 : ACode := .cond (.t 10) C75_0 .skip
theorem u75_1 : VC C75_1.eq_1 := rfl
def C75_2 : ACode := .seq (.reg L75_3) C75_1
theorem u75_2 : VC C75_2.eq_1 := rfl
def C75_3 : ACode := .cond (.t 14) .skip (.exit 0)
theorem u75_3 : VC C75_3.eq_1 := rfl
def C75_4 : ACode := .seq (.reg L75_14) .ret
theorem u75_4 : VC C75_4.eq_1 := rfl
def C75_5 : ACode := .cond (.t 24) C75_4 .skip
theorem u75_5 : VC C75_5.eq_1 := rfl
def C75_6 : ACode := .seq (.reg L75_13) C75_5
theorem u75_6 : VC C75_6.eq_1 := rfl
def C75_7 : ACode := .seq (.reg L75_8) C75_6
theorem u75_7 : VC C75_7.eq_1 := rfl
def C75_8 : ACode := .block 1 C75_7
theorem u75_8 : VC C75_8.eq_1 := rfl
def C75_9 : ACode := .seq C75_8 (.reg L75_15)
theorem u75_9 : VC C75_9.eq_1 := rfl
def C75_10 : ACode := .seq C75_3 C75_9
theorem u75_10 : VC C75_10.eq_1 := rfl
def C75_11 : ACode := .seq (.reg L75_7) C75_10
theorem u75_11 : VC C75_11.eq_1 := rfl
def C75_12 : ACode := .block 0 (.loop C75_11)
theorem u75_12 : VC C75_12.eq_1 := rfl
def C75_13 : ACode := .seq (.reg L75_6) C75_12
theorem u75_13 : VC C75_13.eq_1 := rfl
def C75_14 : ACode := .seq (.reg L75_16) .ret
theorem u75_14 : VC C75_14.eq_1 := rfl
def C75_15 : ACode := .seq C75_13 C75_14
theorem u75_15 : VC C75_15.eq_1 := rfl
def C75_16 : ACode := .seq C75_2 C75_15
theorem u75_16 : VC C75_16.eq_1 := rfl
def C75_17 : ACode := .seq (.reg L75_0) C75_16
theorem u75_17 : VC C75_17.eq_1 := rfl
def F75 : AFunc := ⟨26, [.tmp 4], C75_17⟩
theorem cF75 : compB Try.prog 75 = some F75 := by kernel_rfl
attribute [local go_sem ↓] u75_0 u75_1 u75_2 u75_3 u75_4 u75_5 u75_6 u75_7 u75_8 u75_9 u75_10 u75_11 u75_12 u75_13 u75_14 u75_15 u75_16 u75_17 v75_0 v75_1 v75_2 v75_3 v75_4 v75_5 v75_6 v75_7 v75_8 v75_9 v75_10 v75_11 v75_12 v75_13 v75_14 v75_15 v75_16
theorem c_equalP (l m : List Pair) (v w : AV) (h : H) (hl : SlP h v l) (hm : SlP h w m) (hn : l.length ≤ big) : bm Try.prog 75 [v, w] h = some (ib (decide (l = m)), h) := by
  refine bm_eq cF75 ?_
  cases e : decide ((l.length : Int) = (m.length : Int)) with
  | false => simp +contextual (maxSteps := 2000000) only [go_sem, Nat.reduceEqDiff, reduceCtorEq, Nat.reduceAdd, Nat.reduceLeDiff, F75, hl.len, hm.len, e, decide_eq_false (len_ne e)]
  | true =>
  have e' := len_eq e
  simp +contextual (maxSteps := 2000000) only [go_sem, Nat.reduceEqDiff, reduceCtorEq, Nat.reduceAdd, Nat.reduceLeDiff, F75, hl.len, hm.len, e]
  refine wpC_loop (fun i T L h' => h' = h ∧ T 0 = .v v ∧ T 1 = .v w ∧ T 12 = .v (.one (.int .i64 l.length)) ∧ T 13 = .v (.one (.int .i64 i)) ∧ Alike l m i) l.length ?_ ?_ (Nat.zero_le _) ?_
  · rintro i T L h' hi ⟨rfl, t0, t1, t12, t13, ha⟩
    have hj : i < m.length := by omega
    cases b : decide (l[i] = m[i]) with
    | true =>
      simp +contextual (maxSteps := 2000000) only [go_sem, Nat.reduceEqDiff, reduceCtorEq, Nat.reduceAdd, Nat.reduceLeDiff, t0, t1, t12, t13, hl.iaddr hi, hm.iaddr hj, hl.whole hi, hm.whole hj, lt_true hi, eqP, b]
      exact ⟨by rw [wrap_next hi (big_lt hn)], ha.next hi hj b⟩
    | false =>
      simp +contextual (maxSteps := 2000000) only [go_sem, Nat.reduceEqDiff, reduceCtorEq, Nat.reduceAdd, Nat.reduceLeDiff, t0, t1, t12, t13, hl.iaddr hi, hm.iaddr hj, hl.whole hi, hm.whole hj, lt_true hi, eqP, b, decide_eq_false (not_alike hi hj b)]
  · rintro T L h' ⟨rfl, t0, t1, t12, t13, ha⟩
    simp +contextual (maxSteps := 2000000) only [go_sem, Nat.reduceEqDiff, reduceCtorEq, Nat.reduceAdd, Nat.reduceLeDiff, t0, t1, t12, t13, lt_false, decide_eq_true (ha.eq e')]
  · simp +contextual (maxSteps := 2000000) only [go_sem, Nat.reduceEqDiff, reduceCtorEq, Nat.reduceAdd, Nat.reduceLeDiff]
    exact ⟨rfl, Alike.zero⟩
/-! cmp.isNaN(string) -/
def L156_0 : List AStep := [⟨.mov (.c (.bool false)), (some 2), none, []⟩]
theorem v156_0 : VS L156_0.eq_1 := rfl
def L156_1 : List AStep := [⟨.bin .neq (.t 3) (.t 4), (some 5), none, []⟩, ⟨.mov (.t 5), (some 2), none, []⟩]
theorem v156_1 : VS L156_1.eq_1 := rfl
def L156_2 : List AStep := ⟨.mov (.t 0), (some 3), none, []⟩ :: ⟨.mov (.t 0), (some 4), none, []⟩ :: L156_1
theorem v156_2 : VS L156_2.eq_1 := rfl
def C156_0 : ACode := .seq (.reg L156_2) .ret
theorem u156_0 : VC C156_0.eq_1 := rfl
def C156_1 : ACode := .seq (.reg L156_0) C156_0
theorem u156_1 : VC C156_1.eq_1 := rfl
def F156 : AFunc := ⟨6, [.tmp 2], C156_1⟩
theorem cF156 : compB Try.prog 156 = some F156 := by kernel_rfl
attribute [local go_sem ↓] u156_0 u156_1 v156_0 v156_1 v156_2
theorem c_isNaN (s : ByteArray) (h : H) : bm Try.prog 156 [.one (.str s)] h = some (ib false, h) := by
  refine bm_eq cF156 ?_
  simp +contextual (maxSteps := 2000000) only [go_sem, Nat.reduceEqDiff, reduceCtorEq, Nat.reduceAdd, Nat.reduceLeDiff, F156, decide_true]
/-! cmp.Compare(string) -/
def L130_0 : List AStep := [⟨.mov (.c (.int .i64 0)), (some 4), none, []⟩]
theorem v130_0 : VS L130_0.eq_1 := rfl
def L130_1 : List AStep := [⟨.mov (.t 8), (some 5), none, []⟩]
theorem v130_1 : VS L130_1.eq_1 := rfl
def L130_2 : List AStep := ⟨.mov (.t 0), (some 7), none, []⟩ :: ⟨.call 156 [(.t 7)], (some 8), none, []⟩ :: L130_1
theorem v130_2 : VS L130_2.eq_1 := rfl
def L130_3 : List AStep := [⟨.mov (.t 10), (some 6), none, []⟩]
theorem v130_3 : VS L130_3.eq_1 := rfl
def L130_4 : List AStep := ⟨.mov (.t 1), (some 9), none, []⟩ :: ⟨.call 156 [(.t 9)], (some 10), none, []⟩ :: L130_3
theorem v130_4 : VS L130_4.eq_1 := rfl
def L130_5 : List AStep := [⟨.mov (.t 5), (some 11), none, []⟩]
theorem v130_5 : VS L130_5.eq_1 := rfl
def L130_6 : List AStep := [⟨.mov (.t 6), (some 12), none, []⟩]
theorem v130_6 : VS L130_6.eq_1 := rfl
def L130_7 : List AStep := [⟨.mov (.c (.int .i64 0)), (some 4), none, []⟩]
theorem v130_7 : VS L130_7.eq_1 := rfl
def L130_8 : List AStep := [⟨.mov (.c (.int .i64 (-1))), (some 4), none, []⟩]
theorem v130_8 : VS L130_8.eq_1 := rfl
def L130_9 : List AStep := [⟨.mov (.t 6), (some 13), none, []⟩]
theorem v130_9 : VS L130_9.eq_1 := rfl
def L130_10 : List AStep := [⟨.mov (.c (.int .i64 1)), (some 4), none, []⟩]
theorem v130_10 : VS L130_10.eq_1 := rfl
def L130_11 : List AStep := [⟨.bin .lss (.t 14) (.t 15), (some 16), none, []⟩]
theorem v130_11 : VS L130_11.eq_1 := rfl
def L130_12 : List AStep := ⟨.mov (.t 0), (some 14), none, []⟩ :: ⟨.mov (.t 1), (some 15), none, []⟩ :: L130_11
theorem v130_12 : VS L130_12.eq_1 := rfl
def L130_13 : List AStep := [⟨.mov (.c (.int .i64 (-1))), (some 4), none, []⟩]
theorem v130_13 : VS L130_13.eq_1 := rfl
def L130_14 : List AStep := [⟨.bin .gtr (.t 17) (.t 18), (some 19), none, []⟩]
theorem v130_14 : VS L130_14.eq_1 := rfl
def L130_15 : List AStep := ⟨.mov (.t 0), (some 17), none, []⟩ :: ⟨.mov (.t 1), (some 18), none, []⟩ :: L130_14
theorem v130_15 : VS L130_15.eq_1 := rfl
def L130_16 : List AStep := [⟨.mov (.c (.int .i64 1)), (some 4), none, []⟩]
theorem v130_16 : VS L130_16.eq_1 := rfl
def L130_17 : List AStep := [⟨.mov (.c (.int .i64 0)), (some 4), none, []⟩]
theorem v130_17 : VS L130_17.eq_1 := rfl
def C130_0 : ACode := .seq (.reg L130_7) .ret
theorem u130_0 : VC C130_0.eq_1 := rfl
def C130_1 : ACode := .cond (.t 12) C130_0 .skip
theorem u130_1 : VC C130_1.eq_1 := rfl
def C130_2 : ACode := .seq (.reg L130_6) C130_1
theorem u130_2 : VC C130_2.eq_1 := rfl
def C130_3 : ACode := .seq (.reg L130_8) .ret
theorem u130_3 : VC C130_3.eq_1 := rfl
def C130_4 : ACode := .seq C130_2 C130_3
theorem u130_4 : VC C130_4.eq_1 := rfl
def C130_5 : ACode := .cond (.t 11) C130_4 .skip
theorem u130_5 : VC C130_5.eq_1 := rfl
def C130_6 : ACode := .seq (.reg L130_5) C130_5
theorem u130_6 : VC C130_6.eq_1 := rfl
def C130_7 : ACode := .seq (.reg L130_10) .ret
theorem u130_7 : VC C130_7.eq_1 := rfl
def C130_8 : ACode := .cond (.t 13) C130_7 .skip
theorem u130_8 : VC C130_8.eq_1 := rfl
def C130_9 : ACode := .seq (.reg L130_9) C130_8
theorem u130_9 : VC C130_9.eq_1 := rfl
def C130_10 : ACode := .seq (.reg L130_13) .ret
theorem u130_10 : VC C130_10.eq_1 := rfl
def C130_11 : ACode := .cond (.t 16) C130_10 .skip
theorem u130_11 : VC C130_11.eq_1 := rfl
def C130_12 : ACode := .seq (.reg L130_12) C130_11
theorem u130_12 : VC C130_12.eq_1 := rfl
def C130_13 : ACode := .seq (.reg L130_16) .ret
theorem u130_13 : VC C130_13.eq_1 := rfl
def C130_14 : ACode := .cond (.t 19) C130_13 .skip
theorem u130_14 : VC C130_14.eq_1 := rfl
def C130_15 : ACode := .seq (.reg L130_15) C130_14
theorem u130_15 : VC C130_15.eq_1 := rfl
def C130_16 : ACode := .seq (.reg L130_17) .ret
theorem u130_16 : VC C130_16.eq_1 := rfl
def C130_17 : ACode := .seq C130_15 C130_16
theorem u130_17 : VC C130_17.eq_1 := rfl
def C130_18 : ACode := .seq C130_12 C130_17
theorem u130_18 : VC C130_18.eq_1 := rfl
def C130_19 : ACode := .seq C130_9 C130_18
theorem u130_19 : VC C130_19.eq_1 := rfl
def C130_20 : ACode := .seq C130_6 C130_19
theorem u130_20 : VC C130_20.eq_1 := rfl
def C130_21 : ACode := .seq (.reg L130_4) C130_20
theorem u130_21 : VC C130_21.eq_1 := rfl
def C130_22 : ACode := .seq (.reg L130_2) C130_21
theorem u130_22 : VC C130_22.eq_1 := rfl
def C130_23 : ACode := .seq (.reg L130_0) C130_22
theorem u130_23 : VC C130_23.eq_1 := rfl
def F130 : AFunc := ⟨20, [.tmp 4], C130_23⟩
theorem cF130 : compB Try.prog 130 = some F130 := by kernel_rfl
attribute [local go_sem ↓] u130_0 u130_1 u130_2 u130_3 u130_4 u130_5 u130_6 u130_7 u130_8 u130_9 u130_10 u130_11 u130_12 u130_13 u130_14 u130_15 u130_16 u130_17 u130_18 u130_19 u130_20 u130_21 u130_22 u130_23 v130_0 v130_1 v130_2 v130_3 v130_4 v130_5 v130_6 v130_7 v130_8 v130_9 v130_10 v130_11 v130_12 v130_13 v130_14 v130_15 v130_16 v130_17
theorem c_compare (s t : ByteArray) (h : H) : bm Try.prog 130 [.one (.str s), .one (.str t)] h = some (ii (cmpS s t), h) := by
  refine bm_eq cF130 ?_
  unfold cmpS
  cases h1 : sLess s t with
  | true => simp +contextual (maxSteps := 2000000) only [go_sem, Nat.reduceEqDiff, reduceCtorEq, Nat.reduceAdd, Nat.reduceLeDiff, F130, c_isNaN, h1]
  | false =>
  cases h2 : decide (s = t) with
  | true =>
    obtain rfl := of_decide_eq_true h2
    simp +contextual (maxSteps := 2000000) only [go_sem, Nat.reduceEqDiff, reduceCtorEq, Nat.reduceAdd, Nat.reduceLeDiff, F130, c_isNaN, h1, decide_true, Bool.or_true]
  | false => simp +contextual (maxSteps := 2000000) only [go_sem, Nat.reduceEqDiff, reduceCtorEq, Nat.reduceAdd, Nat.reduceLeDiff, F130, c_isNaN, h1, of_decide_eq_false h2, decide_false, Bool.or_false]
/-! impl.byName$1 -/
def L129_0 : List AStep := [⟨.mov (.c (.int .i64 0)), (some 4), none, []⟩]
theorem v129_0 : VS L129_0.eq_1 := rfl
def L129_1 : List AStep := ⟨.box 53 (.t 0), (some 2), none, []⟩ :: ⟨.box 53 (.t 1), (some 3), none, []⟩ :: L129_0
theorem v129_1 : VS L129_1.eq_1 := rfl
def L129_2 : List AStep := [⟨.call 130 [(.t 6), (.t 8)], (some 9), none, []⟩, ⟨.mov (.t 9), (some 4), none, []⟩]
theorem v129_2 : VS L129_2.eq_1 := rfl
def L129_3 : List AStep := ⟨.faddr 0 (.t 3), (some 7), none, []⟩ :: ⟨.load 1 false (.t 7), (some 8), none, []⟩ :: L129_2
theorem v129_3 : VS L129_3.eq_1 := rfl
def L129_4 : List AStep := ⟨.faddr 0 (.t 2), (some 5), none, []⟩ :: ⟨.load 1 false (.t 5), (some 6), none, []⟩ :: L129_3
theorem v129_4 : VS L129_4.eq_1 := rfl
def C129_0 : ACode := .seq (.reg L129_4) .ret
theorem u129_0 : VC C129_0.eq_1 := rfl
def C129_1 : ACode := .seq (.reg L129_1) C129_0
theorem u129_1 : VC C129_1.eq_1 := rfl
def F129 : AFunc := ⟨10, [.tmp 4], C129_1⟩
theorem cF129 : compB Try.prog 129 = some F129 := by kernel_rfl
attribute [local go_sem ↓] u129_0 u129_1 v129_0 v129_1 v129_2 v129_3 v129_4
theorem c_byName1 (p q : Pair) (h : H) : bm Try.prog 129 [.agg (encP p), .agg (encP q)] h = some (ii (cmpS p.name q.name), h) := by
  refine bm_eq cF129 ?_
  simp +contextual (maxSteps := 2000000) only [go_sem, Nat.reduceEqDiff, reduceCtorEq, Nat.reduceAdd, Nat.reduceLeDiff, F129, c_compare]
/-! slices.insertionSortCmpFunc(impl.Pair) -/
def L164_0 : List AStep := [⟨.mov (.t 11), (some 8), none, []⟩]
theorem v164_0 : VS L164_0.eq_1 := rfl
def L164_1 : List AStep := ⟨.mov (.t 1), (some 10), none, []⟩ :: ⟨.bin .add (.t 10) (.c (.int .i64 1)), (some 11), none, []⟩ :: L164_0
theorem v164_1 : VS L164_1.eq_1 := rfl
def L164_2 : List AStep := [⟨.bin .lss (.t 12) (.t 13), (some 14), none, []⟩]
theorem v164_2 : VS L164_2.eq_1 := rfl
def L164_3 : List AStep := ⟨.mov (.t 8), (some 12), none, []⟩ :: ⟨.mov (.t 2), (some 13), none, []⟩ :: L164_2
theorem v164_3 : VS L164_3.eq_1 := rfl
def L164_4 : List AStep := [⟨.mov (.t 8), (some 17), none, []⟩, ⟨.mov (.t 17), (some 9), none, []⟩]
theorem v164_4 : VS L164_4.eq_1 := rfl
def L164_5 : List AStep := [⟨.pick (.t 21) (.t 33) (.c (.bool false)), (some 34), none, []⟩]
theorem v164_5 : VS L164_5.eq_1 := rfl
def L164_6 : List AStep := ⟨.callv (.t 22) [(.t 26), (.t 31)], (some 32), (some (21, true)), []⟩ :: ⟨.bin .lss (.t 32) (.c (.int .i64 0)), (some 33), (some (21, true)), []⟩ :: L164_5
theorem v164_6 : VS L164_6.eq_1 := rfl
def L164_7 : List AStep := ⟨.iaddr 2 (.t 27) (.t 29), (some 30), (some (21, true)), []⟩ :: ⟨.load 2 true (.t 30), (some 31), (some (21, true)), []⟩ :: L164_6
theorem v164_7 : VS L164_7.eq_1 := rfl
def L164_8 : List AStep := ⟨.mov (.t 9), (some 28), (some (21, true)), []⟩ :: ⟨.bin .sub (.t 28) (.c (.int .i64 1)), (some 29), (some (21, true)), []⟩ :: L164_7
theorem v164_8 : VS L164_8.eq_1 := rfl
def L164_9 : List AStep := ⟨.load 2 true (.t 25), (some 26), (some (21, true)), []⟩ :: ⟨.mov (.t 0), (some 27), (some (21, true)), []⟩ :: L164_8
theorem v164_9 : VS L164_9.eq_1 := rfl
def L164_10 : List AStep := ⟨.mov (.t 9), (some 24), (some (21, true)), []⟩ :: ⟨.iaddr 2 (.t 23) (.t 24), (some 25), (some (21, true)), []⟩ :: L164_9
theorem v164_10 : VS L164_10.eq_1 := rfl
def L164_11 : List AStep := ⟨.mov (.t 3), (some 22), (some (21, true)), []⟩ :: ⟨.mov (.t 0), (some 23), (some (21, true)), []⟩ :: L164_10
theorem v164_11 : VS L164_11.eq_1 := rfl
def L164_12 : List AStep := ⟨.bin .gtr (.t 18) (.t 19), (some 20), none, []⟩ :: ⟨.mov (.t 20), (some 21), none, []⟩ :: L164_11
theorem v164_12 : VS L164_12.eq_1 := rfl
def L164_13 : List AStep := ⟨.mov (.t 9), (some 18), none, []⟩ :: ⟨.mov (.t 1), (some 19), none, []⟩ :: L164_12
theorem v164_13 : VS L164_13.eq_1 := rfl
def L164_14 : List AStep := [⟨.iaddr 2 (.t 39) (.t 41), (some 52), none, []⟩, ⟨.store 2 (.t 52) (.t 50), none, none, []⟩]
theorem v164_14 : VS L164_14.eq_1 := rfl
def L164_15 : List AStep := ⟨.iaddr 2 (.t 37) (.t 38), (some 51), none, []⟩ :: ⟨.store 2 (.t 51) (.t 46), none, none, []⟩ :: L164_14
theorem v164_15 : VS L164_15.eq_1 := rfl
def L164_16 : List AStep := ⟨.iaddr 2 (.t 47) (.t 48), (some 49), none, []⟩ :: ⟨.load 2 true (.t 49), (some 50), none, []⟩ :: L164_15
theorem v164_16 : VS L164_16.eq_1 := rfl
def L164_17 : List AStep := ⟨.mov (.t 0), (some 47), none, []⟩ :: ⟨.mov (.t 9), (some 48), none, []⟩ :: L164_16
theorem v164_17 : VS L164_17.eq_1 := rfl
def L164_18 : List AStep := ⟨.iaddr 2 (.t 42) (.t 44), (some 45), none, []⟩ :: ⟨.load 2 true (.t 45), (some 46), none, []⟩ :: L164_17
theorem v164_18 : VS L164_18.eq_1 := rfl
def L164_19 : List AStep := ⟨.mov (.t 9), (some 43), none, []⟩ :: ⟨.bin .sub (.t 43) (.c (.int .i64 1)), (some 44), none, []⟩ :: L164_18
theorem v164_19 : VS L164_19.eq_1 := rfl
def L164_20 : List AStep := ⟨.bin .sub (.t 40) (.c (.int .i64 1)), (some 41), none, []⟩ :: ⟨.mov (.t 0), (some 42), none, []⟩ :: L164_19
theorem v164_20 : VS L164_20.eq_1 := rfl
def L164_21 : List AStep := ⟨.mov (.t 0), (some 39), none, []⟩ :: ⟨.mov (.t 9), (some 40), none, []⟩ :: L164_20
theorem v164_21 : VS L164_21.eq_1 := rfl
def L164_22 : List AStep := ⟨.mov (.t 0), (some 37), none, []⟩ :: ⟨.mov (.t 9), (some 38), none, []⟩ :: L164_21
theorem v164_22 : VS L164_22.eq_1 := rfl
def L164_23 : List AStep := [⟨.mov (.t 36), (some 9), none, []⟩]
theorem v164_23 : VS L164_23.eq_1 := rfl
def L164_24 : List AStep := ⟨.mov (.t 9), (some 35), none, []⟩ :: ⟨.bin .sub (.t 35) (.c (.int .i64 1)), (some 36), none, []⟩ :: L164_23
theorem v164_24 : VS L164_24.eq_1 := rfl
def L164_25 : List AStep := [⟨.mov (.t 16), (some 8), none, []⟩]
theorem v164_25 : VS L164_25.eq_1 := rfl
def L164_26 : List AStep := ⟨.mov (.t 8), (some 15), none, []⟩ :: ⟨.bin .add (.t 15) (.c (.int .i64 1)), (some 16), none, []⟩ :: L164_25
theorem v164_26 : VS L164_26.eq_1 := rfl
def C164_0 : ACode := .cond (.t 14) .skip (.exit 0)
theorem u164_0 : VC C164_0.eq_1 := rfl
def C164_1 : ACode := .seq (.reg L164_3) C164_0
theorem u164_1 : VC C164_1.eq_1 := rfl
def C164_2 : ACode := .cond (.t 34) .skip (.exit 2)
theorem u164_2 : VC C164_2.eq_1 := rfl
def C164_3 : ACode := .seq (.reg L164_13) C164_2
theorem u164_3 : VC C164_3.eq_1 := rfl
def C164_4 : ACode := .block 3 (.reg L164_22)
theorem u164_4 : VC C164_4.eq_1 := rfl
def C164_5 : ACode := .seq C164_4 (.reg L164_24)
theorem u164_5 : VC C164_5.eq_1 := rfl
def C164_6 : ACode := .seq C164_3 C164_5
theorem u164_6 : VC C164_6.eq_1 := rfl
def C164_7 : ACode := .block 2 (.loop C164_6)
theorem u164_7 : VC C164_7.eq_1 := rfl
def C164_8 : ACode := .seq (.reg L164_4) C164_7
theorem u164_8 : VC C164_8.eq_1 := rfl
def C164_9 : ACode := .block 1 C164_8
theorem u164_9 : VC C164_9.eq_1 := rfl
def C164_10 : ACode := .seq C164_9 (.reg L164_26)
theorem u164_10 : VC C164_10.eq_1 := rfl
def C164_11 : ACode := .seq C164_1 C164_10
theorem u164_11 : VC C164_11.eq_1 := rfl
def C164_12 : ACode := .block 0 (.loop C164_11)
theorem u164_12 : VC C164_12.eq_1 := rfl
def C164_13 : ACode := .seq (.reg L164_1) C164_12
theorem u164_13 : VC C164_13.eq_1 := rfl
def F164 : AFunc := ⟨53, [], C164_13⟩
theorem cF164 : compB Try.prog 164 = some F164 := by kernel_rfl
attribute [local go_sem ↓] u164_0 u164_1 u164_2 u164_3 u164_4 u164_5 u164_6 u164_7 u164_8 u164_9 u164_10 u164_11 u164_12 u164_13 v164_0 v164_1 v164_2 v164_3 v164_4 v164_5 v164_6 v164_7 v164_8 v164_9 v164_10 v164_11 v164_12 v164_13 v164_14 v164_15 v164_16 v164_17 v164_18 v164_19 v164_20 v164_21 v164_22 v164_23 v164_24 v164_25 v164_26
theorem c_insP (l : List Pair) (v : AV) (h0 h : H) (g0 : Grow h0 h) (n0 : NwP h0 h v l) (hn : l.length ≤ 12) :
    callK (bm Try.prog 164 [v, .one (.int .i64 0), .one (.int .i64 l.length), .one (.fn 129 [])] h) fun _ h' => Grow h0 h' ∧ NwP h0 h' v (isort ltP l) := by
  refine bm_of cF164 ?_
  simp +contextual (maxSteps := 2000000) only [go_sem, Nat.reduceEqDiff, reduceCtorEq, Nat.reduceAdd, Nat.reduceLeDiff, F164]
  refine wpC_loop (fun i T L h' => Grow h0 h' ∧ T 0 = .v v ∧ T 1 = .v (.one (.int .i64 0)) ∧ T 2 = .v (.one (.int .i64 l.length)) ∧ T 3 = .v (.one (.fn 129 [])) ∧ T 8 = .v (.one (.int .i64 ((i + 1 : Nat) : Int))) ∧ NwP h0 h' v (sortT ltP l (i + 1))) (l.length - 1) ?_ ?_ (Nat.zero_le _) ?_
  · rintro i T L h' hi ⟨g, t0, t1, t2, t3, t8, no⟩
    have hi1 : i + 1 < l.length := by omega
    have outer : ∀ (h2 : H) (cur : List Pair) (j : Nat), NwP h0 h2 v cur → bub ltP cur j = bub ltP (sortT ltP l (i + 1)) (i + 1) → bub ltP cur j = cur → NwP h0 h2 v (sortT ltP l (i + 1 + 1)) := fun h2 cur j no e1 e2 => by
      rw [sortT, ← e1, e2]
      exact no
    simp +contextual (maxSteps := 2000000) only [go_sem, Nat.reduceEqDiff, reduceCtorEq, Nat.reduceAdd, Nat.reduceLeDiff, t0, t1, t2, t3, t8, lt_true hi1]
    refine wpC_loop (fun k T L h2 => Grow h0 h2 ∧ T 0 = .v v ∧ T 1 = .v (.one (.int .i64 0)) ∧ T 2 = .v (.one (.int .i64 l.length)) ∧ T 3 = .v (.one (.fn 129 [])) ∧ T 8 = .v (.one (.int .i64 ((i + 1 : Nat) : Int))) ∧ T 9 = .v (.one (.int .i64 ((i + 1 - k : Nat) : Int))) ∧
      ∃ cur, NwP h0 h2 v cur ∧ cur.length = l.length ∧ bub ltP cur (i + 1 - k) = bub ltP (sortT ltP l (i + 1)) (i + 1)) (i + 1) ?_ ?_ (Nat.zero_le _) ?_
    · rintro k T L h2 hk ⟨g, t0, t1, t2, t3, t8, t9, cur, no, hc, e⟩
      obtain ⟨j, hj⟩ : ∃ j, i + 1 - k = j + 1 := ⟨i - k, by omega⟩
      rw [hj] at t9 e
      have hj1 : j + 1 < cur.length := by omega
      have hj0 : j < cur.length := by omega
      have a1 : (((j + 1 : Nat) : Int) - 1) = (j : Int) := by omega
      have a2 : (IntKind.i64).wrap (j : Int) = (j : Int) := wrap_nat (by omega)
      have a3 : decide (((j + 1 : Nat) : Int) > 0) = true := decide_eq_true (by omega)
      have sl := no.sl lenP
      cases b : sLess cur[j + 1].name cur[j].name with
      | false =>
        simp +contextual (maxSteps := 2000000) only [go_sem, Nat.reduceEqDiff, reduceCtorEq, Nat.reduceAdd, Nat.reduceLeDiff, t0, t1, t2, t3, t8, t9, a1, a2, a3, sl.iaddr hj1, sl.iaddr hj0, sl.whole hj1, sl.whole hj0, c_byName1, cmpS_neg, b]
        exact ⟨g, by rw [wrap_next hi1 (by omega)], outer _ cur (j + 1) no e (bub_stop hj1 b)⟩
      | true =>
        simp +contextual (maxSteps := 2000000) only [go_sem, Nat.reduceEqDiff, reduceCtorEq, Nat.reduceAdd, Nat.reduceLeDiff, t0, t1, t2, t3, t8, t9, a1, a2, a3, sl.iaddr hj1, sl.iaddr hj0, sl.whole hj1, sl.whole hj0, c_byName1, cmpS_neg, b]
        refine wp_setE lenP no hj1 rfl rfl g ?_
        intro h3 g3 n3 s3
        simp +contextual (maxSteps := 2000000) only [go_sem, Nat.reduceEqDiff, reduceCtorEq, Nat.reduceAdd, Nat.reduceLeDiff, t0, t1, t2, t3, t8, t9, a1, a2, a3, n3.iaddr (show j < (cur.set (j + 1) cur[j]).length by simp; omega)]
        refine wp_setE lenP n3 (show j < (cur.set (j + 1) cur[j]).length by simp; omega) rfl rfl g3 ?_
        intro h4 g4 n4 s4
        simp +contextual (maxSteps := 2000000) only [go_sem, Nat.reduceEqDiff, reduceCtorEq, Nat.reduceAdd, Nat.reduceLeDiff, t0, t1, t2, t3, t8, t9, a1, a2]
        exact ⟨g4, by congr 3; omega, _, n4, by simp [hc], by rw [← e, bub_less hj1 b, show i + 1 - (k + 1) = j by omega]⟩
    · rintro T L h2 ⟨g, t0, t1, t2, t3, t8, t9, cur, no, hc, e⟩
      rw [Nat.sub_self] at t9 e
      have hz : decide (((0 : Nat) : Int) > 0) = false := rfl
      simp +contextual (maxSteps := 2000000) only [go_sem, Nat.reduceEqDiff, reduceCtorEq, Nat.reduceAdd, Nat.reduceLeDiff, t0, t1, t2, t3, t8, t9, hz]
      exact ⟨g, by rw [wrap_next hi1 (by omega)], outer _ cur 0 no e bub_zero⟩
    · simp +contextual (maxSteps := 2000000) only [go_sem, Nat.reduceEqDiff, reduceCtorEq, Nat.reduceAdd, Nat.reduceLeDiff, t0, t1, t2, t3, t8]
      exact ⟨g, rfl, _, no, sortT_len, rfl⟩
  · rintro T L h' ⟨g, t0, t1, t2, t3, t8, no⟩
    have hx : decide (((l.length - 1 + 1 : Nat) : Int) < (l.length : Int)) = false := decide_eq_false (by omega)
    simp +contextual (maxSteps := 2000000) only [go_sem, Nat.reduceEqDiff, reduceCtorEq, Nat.reduceAdd, Nat.reduceLeDiff, t0, t1, t2, t3, t8, hx]
    have e : sortT ltP l (l.length - 1 + 1) = isort ltP l := by
      cases l with
      | nil => exact sortT_one
      | cons a r => rfl
    rw [e] at no
    exact gcK_of ⟨g, no⟩ fun _ gg => ⟨g0, no.back n0 gg⟩
  · simp +contextual (maxSteps := 2000000) only [go_sem, Nat.reduceEqDiff, reduceCtorEq, Nat.reduceAdd, Nat.reduceLeDiff]
    exact ⟨g0, rfl, by rw [sortT_one]; exact n0⟩
theorem optB_idx {s : ByteArray} {j : Nat} {k : IntKind} {d : Option Nat} {T : Tb} {L : Lb} {h : H} {K : Post} (hj : j < s.size) (hk : ∀ b : Int, K (T.put d (.v (.one (.int .u8 b)))) L (rdy h)) : optB (idxStrO (.one (.str s)) (.one (.int k (j : Int)))) d T L h K := by
  have e : idxStrO (.one (.str s)) (.one (.int k (j : Int))) = some (.one (.int .u8 (s[j].toNat : Int))) := by
    simp only [idxStrO, Int.toNat_natCast]
    rw [if_pos (by omega), getElem?_pos s j hj]
  rw [e, optB_some]
  exact hk _
theorem u64_nat {n : Nat} (hn : n ≤ 12) : IntKind.u64.wrap (n : Int) = n := by
  simp [IntKind.wrap, IntKind.bits, IntKind.signed]
  omega
theorem u8_nat {n : Nat} (hn : n ≤ 12) : IntKind.u8.wrap (n : Int) = n := by
  simp [IntKind.wrap, IntKind.bits, IntKind.signed]
  omega
/-! math/bits.Len64 -/
def L173_0 : List AStep := [⟨.mov (.c (.int .i64 0)), (some 2), none, []⟩]
theorem v173_0 : VS L173_0.eq_1 := rfl
def L173_1 : List AStep := [⟨.mov (.t 0), (some 3), none, []⟩, ⟨.bin .geq (.t 3) (.c (.int .u64 4294967296)), (some 4), none, []⟩]
theorem v173_1 : VS L173_1.eq_1 := rfl
def L173_2 : List AStep := [⟨.mov (.t 6), (some 0), none, []⟩]
theorem v173_2 : VS L173_2.eq_1 := rfl
def L173_3 : List AStep := ⟨.mov (.t 0), (some 5), none, []⟩ :: ⟨.bin .shr (.t 5) (.c (.int .u64 32)), (some 6), none, []⟩ :: L173_2
theorem v173_3 : VS L173_3.eq_1 := rfl
def L173_4 : List AStep := [⟨.mov (.c (.int .i64 32)), (some 2), none, []⟩]
theorem v173_4 : VS L173_4.eq_1 := rfl
def L173_5 : List AStep := [⟨.mov (.t 0), (some 7), none, []⟩, ⟨.bin .geq (.t 7) (.c (.int .u64 65536)), (some 8), none, []⟩]
theorem v173_5 : VS L173_5.eq_1 := rfl
def L173_6 : List AStep := [⟨.mov (.t 10), (some 0), none, []⟩]
theorem v173_6 : VS L173_6.eq_1 := rfl
def L173_7 : List AStep := ⟨.mov (.t 0), (some 9), none, []⟩ :: ⟨.bin .shr (.t 9) (.c (.int .u64 16)), (some 10), none, []⟩ :: L173_6
theorem v173_7 : VS L173_7.eq_1 := rfl
def L173_8 : List AStep := [⟨.mov (.t 12), (some 2), none, []⟩]
theorem v173_8 : VS L173_8.eq_1 := rfl
def L173_9 : List AStep := ⟨.mov (.t 2), (some 11), none, []⟩ :: ⟨.bin .add (.t 11) (.c (.int .i64 16)), (some 12), none, []⟩ :: L173_8
theorem v173_9 : VS L173_9.eq_1 := rfl
def L173_10 : List AStep := [⟨.mov (.t 0), (some 13), none, []⟩, ⟨.bin .geq (.t 13) (.c (.int .u64 256)), (some 14), none, []⟩]
theorem v173_10 : VS L173_10.eq_1 := rfl
def L173_11 : List AStep := [⟨.mov (.t 16), (some 0), none, []⟩]
theorem v173_11 : VS L173_11.eq_1 := rfl
def L173_12 : List AStep := ⟨.mov (.t 0), (some 15), none, []⟩ :: ⟨.bin .shr (.t 15) (.c (.int .u64 8)), (some 16), none, []⟩ :: L173_11
theorem v173_12 : VS L173_12.eq_1 := rfl
def L173_13 : List AStep := [⟨.mov (.t 18), (some 2), none, []⟩]
theorem v173_13 : VS L173_13.eq_1 := rfl
def L173_14 : List AStep := ⟨.mov (.t 2), (some 17), none, []⟩ :: ⟨.bin .add (.t 17) (.c (.int .i64 8)), (some 18), none, []⟩ :: L173_13
theorem v173_14 : VS L173_14.eq_1 := rfl
def L173_15 : List AStep := [⟨.mov (.t 24), (some 2), none, []⟩]
theorem v173_15 : VS L173_15.eq_1 := rfl
def L173_16 : List AStep := ⟨.conv .i64 (.t 22), (some 23), none, []⟩ :: ⟨.bin .add (.t 19) (.t 23), (some 24), none, []⟩ :: L173_15
theorem v173_16 : VS L173_16.eq_1 := rfl
def L173_17 : List AStep := ⟨.conv .u8 (.t 20), (some 21), none, []⟩ :: ⟨.idxStr (.c (.str (strOfNums [0, 1, 2, 2, 3, 3, 3, 3, 4, 4, 4, 4, 4, 4, 4, 4, 5, 5, 5, 5, 5, 5, 5, 5, 5, 5, 5, 5, 5, 5, 5, 5, 6, 6, 6, 6, 6, 6, 6, 6, 6, 6, 6, 6, 6, 6, 6, 6, 6, 6, 6, 6, 6, 6, 6, 6, 6, 6, 6, 6, 6, 6, 6, 6, 7, 7, 7, 7, 7, 7, 7, 7, 7, 7, 7, 7, 7, 7, 7, 7, 7, 7, 7, 7, 7, 7, 7, 7, 7, 7, 7, 7, 7, 7, 7, 7, 7, 7, 7, 7, 7, 7, 7, 7, 7, 7, 7, 7, 7, 7, 7, 7, 7, 7, 7, 7, 7, 7, 7, 7, 7, 7, 7, 7, 7, 7, 7, 7, 8, 8, 8, 8, 8, 8, 8, 8, 8, 8, 8, 8, 8, 8, 8, 8, 8, 8, 8, 8, 8, 8, 8, 8, 8, 8, 8, 8, 8, 8, 8, 8, 8, 8, 8, 8, 8, 8, 8, 8, 8, 8, 8, 8, 8, 8, 8, 8, 8, 8, 8, 8, 8, 8, 8, 8, 8, 8, 8, 8, 8, 8, 8, 8, 8, 8, 8, 8, 8, 8, 8, 8, 8, 8, 8, 8, 8, 8, 8, 8, 8, 8, 8, 8, 8, 8, 8, 8, 8, 8, 8, 8, 8, 8, 8, 8, 8, 8, 8, 8, 8, 8, 8, 8, 8, 8, 8, 8, 8, 8, 8, 8, 8, 8, 8, 8, 8, 8, 8, 8, 8, 8, 8, 8, 8, 8, 8, 8]))) (.t 21), (some 22), none, []⟩ :: L173_16
theorem v173_17 : VS L173_17.eq_1 := rfl
def L173_18 : List AStep := ⟨.mov (.t 2), (some 19), none, []⟩ :: ⟨.mov (.t 0), (some 20), none, []⟩ :: L173_17
theorem v173_18 : VS L173_18.eq_1 := rfl
def C173_0 : ACode := .seq (.reg L173_3) (.reg L173_4)
theorem u173_0 : VC C173_0.eq_1 := rfl
def C173_1 : ACode := .cond (.t 4) C173_0 .skip
theorem u173_1 : VC C173_1.eq_1 := rfl
def C173_2 : ACode := .seq (.reg L173_1) C173_1
theorem u173_2 : VC C173_2.eq_1 := rfl
def C173_3 : ACode := .seq (.reg L173_7) (.reg L173_9)
theorem u173_3 : VC C173_3.eq_1 := rfl
def C173_4 : ACode := .cond (.t 8) C173_3 .skip
theorem u173_4 : VC C173_4.eq_1 := rfl
def C173_5 : ACode := .seq (.reg L173_5) C173_4
theorem u173_5 : VC C173_5.eq_1 := rfl
def C173_6 : ACode := .seq (.reg L173_12) (.reg L173_14)
theorem u173_6 : VC C173_6.eq_1 := rfl
def C173_7 : ACode := .cond (.t 14) C173_6 .skip
theorem u173_7 : VC C173_7.eq_1 := rfl
def C173_8 : ACode := .seq (.reg L173_10) C173_7
theorem u173_8 : VC C173_8.eq_1 := rfl
def C173_9 : ACode := .seq (.reg L173_18) .ret
theorem u173_9 : VC C173_9.eq_1 := rfl
def C173_10 : ACode := .seq C173_8 C173_9
theorem u173_10 : VC C173_10.eq_1 := rfl
def C173_11 : ACode := .seq C173_5 C173_10
theorem u173_11 : VC C173_11.eq_1 := rfl
def C173_12 : ACode := .seq C173_2 C173_11
theorem u173_12 : VC C173_12.eq_1 := rfl
def C173_13 : ACode := .seq (.reg L173_0) C173_12
theorem u173_13 : VC C173_13.eq_1 := rfl
def F173 : AFunc := ⟨25, [.tmp 2], C173_13⟩
theorem cF173 : compB Try.prog 173 = some F173 := by kernel_rfl
attribute [local go_sem ↓] u173_0 u173_1 u173_2 u173_3 u173_4 u173_5 u173_6 u173_7 u173_8 u173_9 u173_10 u173_11 u173_12 u173_13 v173_0 v173_1 v173_2 v173_3 v173_4 v173_5 v173_6 v173_7 v173_8 v173_9 v173_10 v173_11 v173_12 v173_13 v173_14 v173_15 v173_16 v173_17 v173_18
theorem c_len64 (n : Nat) (h : H) (hn : n ≤ 12) : callK (bm Try.prog 173 [.one (.int .u64 n)] h) fun r h' => h' = h ∧ ∃ m, r = ii m := by
  refine bm_of cF173 ?_
  have e1 : decide ((n : Int) ≥ 4294967296) = false := decide_eq_false (by omega)
  have e2 : decide ((n : Int) ≥ 65536) = false := decide_eq_false (by omega)
  have e3 : decide ((n : Int) ≥ 256) = false := decide_eq_false (by omega)
  have e4 := u8_nat hn
  simp +contextual (maxSteps := 2000000) only [go_sem, Nat.reduceEqDiff, reduceCtorEq, Nat.reduceAdd, Nat.reduceLeDiff, F173, e1, e2, e3, e4]
  refine optB_idx (Nat.lt_of_le_of_lt hn (by decide)) fun b => ?_
  simp +contextual (maxSteps := 2000000) only [go_sem, Nat.reduceEqDiff, reduceCtorEq, Nat.reduceAdd, Nat.reduceLeDiff]
  exact ⟨_, rfl⟩
/-! math/bits.Len -/
def L155_0 : List AStep := [⟨.mov (.c (.int .i64 0)), (some 2), none, []⟩]
theorem v155_0 : VS L155_0.eq_1 := rfl
def L155_1 : List AStep := [⟨.call 172 [(.t 4)], (some 5), none, []⟩, ⟨.mov (.t 5), (some 2), none, []⟩]
theorem v155_1 : VS L155_1.eq_1 := rfl
def L155_2 : List AStep := ⟨.mov (.t 0), (some 3), none, []⟩ :: ⟨.conv .u32 (.t 3), (some 4), none, []⟩ :: L155_1
theorem v155_2 : VS L155_2.eq_1 := rfl
def L155_3 : List AStep := [⟨.mov (.t 7), (some 2), none, []⟩]
theorem v155_3 : VS L155_3.eq_1 := rfl
def L155_4 : List AStep := ⟨.mov (.t 0), (some 6), none, []⟩ :: ⟨.call 173 [(.t 6)], (some 7), none, []⟩ :: L155_3
theorem v155_4 : VS L155_4.eq_1 := rfl
def C155_0 : ACode := .seq (.reg L155_2) .ret
theorem u155_0 : VC C155_0.eq_1 := rfl
def C155_1 : ACode := .cond (.c (.bool false)) C155_0 .skip
theorem u155_1 : VC C155_1.eq_1 := rfl
def C155_2 : ACode := .seq (.reg L155_4) .ret
theorem u155_2 : VC C155_2.eq_1 := rfl
def C155_3 : ACode := .seq C155_1 C155_2
theorem u155_3 : VC C155_3.eq_1 := rfl
def C155_4 : ACode := .seq (.reg L155_0) C155_3
theorem u155_4 : VC C155_4.eq_1 := rfl
def F155 : AFunc := ⟨8, [.tmp 2], C155_4⟩
theorem cF155 : compB Try.prog 155 = some F155 := by kernel_rfl
attribute [local go_sem ↓] u155_0 u155_1 u155_2 u155_3 u155_4 v155_0 v155_1 v155_2 v155_3 v155_4
theorem c_bitsLen (n : Nat) (h : H) (hn : n ≤ 12) : callK (bm Try.prog 155 [.one (.int .u64 n)] h) fun r h' => h' = h ∧ ∃ m, r = ii m := by
  refine bm_of cF155 ?_
  simp +contextual (maxSteps := 2000000) only [go_sem, Nat.reduceEqDiff, reduceCtorEq, Nat.reduceAdd, Nat.reduceLeDiff, F155]
  refine wp_call (c_len64 n h hn) ?_
  rintro r h1 ⟨rfl, m, rfl⟩
  simp +contextual (maxSteps := 2000000) only [go_sem, Nat.reduceEqDiff, reduceCtorEq, Nat.reduceAdd, Nat.reduceLeDiff]
  exact ⟨_, rfl⟩
/-! slices.pdqsortCmpFunc(impl.Pair) -/
def L154_0 : List AStep := [⟨.mov (.c (.bool true)), (some 10), none, []⟩]
theorem v154_0 : VS L154_0.eq_1 := rfl
def L154_1 : List AStep := [⟨.mov (.c (.bool true)), (some 11), none, []⟩]
theorem v154_1 : VS L154_1.eq_1 := rfl
def L154_2 : List AStep := [⟨.bin .sub (.t 21) (.t 22), (some 23), none, []⟩, ⟨.mov (.t 23), (some 12), none, []⟩]
theorem v154_2 : VS L154_2.eq_1 := rfl
def L154_3 : List AStep := ⟨.mov (.t 2), (some 21), none, []⟩ :: ⟨.mov (.t 1), (some 22), none, []⟩ :: L154_2
theorem v154_3 : VS L154_3.eq_1 := rfl
def L154_4 : List AStep := [⟨.mov (.t 12), (some 24), none, []⟩, ⟨.bin .leq (.t 24) (.c (.int .i64 12)), (some 25), none, []⟩]
theorem v154_4 : VS L154_4.eq_1 := rfl
def L154_5 : List AStep := [⟨.call 164 [(.t 26), (.t 27), (.t 28), (.t 29)], (some 30), none, []⟩]
theorem v154_5 : VS L154_5.eq_1 := rfl
def L154_6 : List AStep := ⟨.mov (.t 2), (some 28), none, []⟩ :: ⟨.mov (.t 4), (some 29), none, []⟩ :: L154_5
theorem v154_6 : VS L154_6.eq_1 := rfl
def L154_7 : List AStep := ⟨.mov (.t 0), (some 26), none, []⟩ :: ⟨.mov (.t 1), (some 27), none, []⟩ :: L154_6
theorem v154_7 : VS L154_7.eq_1 := rfl
def L154_8 : List AStep := [⟨.mov (.t 3), (some 31), none, []⟩, ⟨.bin .eql (.t 31) (.c (.int .i64 0)), (some 32), none, []⟩]
theorem v154_8 : VS L154_8.eq_1 := rfl
def L154_9 : List AStep := [⟨.call 165 [(.t 33), (.t 34), (.t 35), (.t 36)], (some 37), none, []⟩]
theorem v154_9 : VS L154_9.eq_1 := rfl
def L154_10 : List AStep := ⟨.mov (.t 2), (some 35), none, []⟩ :: ⟨.mov (.t 4), (some 36), none, []⟩ :: L154_9
theorem v154_10 : VS L154_10.eq_1 := rfl
def L154_11 : List AStep := ⟨.mov (.t 0), (some 33), none, []⟩ :: ⟨.mov (.t 1), (some 34), none, []⟩ :: L154_10
theorem v154_11 : VS L154_11.eq_1 := rfl
def L154_12 : List AStep := [⟨.mov (.t 10), (some 38), none, []⟩, ⟨.not (.t 38), (some 39), none, []⟩]
theorem v154_12 : VS L154_12.eq_1 := rfl
def L154_13 : List AStep := [⟨.call 166 [(.t 40), (.t 41), (.t 42), (.t 43)], (some 44), none, []⟩]
theorem v154_13 : VS L154_13.eq_1 := rfl
def L154_14 : List AStep := ⟨.mov (.t 2), (some 42), none, []⟩ :: ⟨.mov (.t 4), (some 43), none, []⟩ :: L154_13
theorem v154_14 : VS L154_14.eq_1 := rfl
def L154_15 : List AStep := ⟨.mov (.t 0), (some 40), none, []⟩ :: ⟨.mov (.t 1), (some 41), none, []⟩ :: L154_14
theorem v154_15 : VS L154_15.eq_1 := rfl
def L154_16 : List AStep := [⟨.mov (.t 46), (some 3), none, []⟩]
theorem v154_16 : VS L154_16.eq_1 := rfl
def L154_17 : List AStep := ⟨.mov (.t 3), (some 45), none, []⟩ :: ⟨.bin .sub (.t 45) (.c (.int .i64 1)), (some 46), none, []⟩ :: L154_16
theorem v154_17 : VS L154_17.eq_1 := rfl
def L154_18 : List AStep := [⟨.mov (.t 53), (some 13), none, []⟩, ⟨.mov (.t 54), (some 14), none, []⟩]
theorem v154_18 : VS L154_18.eq_1 := rfl
def L154_19 : List AStep := ⟨.extract (.t 47) 0, (some 53), none, []⟩ :: ⟨.extract (.t 47) 1, (some 54), none, []⟩ :: L154_18
theorem v154_19 : VS L154_19.eq_1 := rfl
def L154_20 : List AStep := ⟨.call 167 [(.t 48), (.t 49), (.t 50), (.t 51)], (some 52), none, []⟩ :: ⟨.mov (.t 52), (some 47), none, []⟩ :: L154_19
theorem v154_20 : VS L154_20.eq_1 := rfl
def L154_21 : List AStep := ⟨.mov (.t 2), (some 50), none, []⟩ :: ⟨.mov (.t 4), (some 51), none, []⟩ :: L154_20
theorem v154_21 : VS L154_21.eq_1 := rfl
def L154_22 : List AStep := ⟨.mov (.t 0), (some 48), none, []⟩ :: ⟨.mov (.t 1), (some 49), none, []⟩ :: L154_21
theorem v154_22 : VS L154_22.eq_1 := rfl
def L154_23 : List AStep := [⟨.mov (.t 14), (some 55), none, []⟩, ⟨.bin .eql (.t 55) (.c (.int .i64 2)), (some 56), none, []⟩]
theorem v154_23 : VS L154_23.eq_1 := rfl
def L154_24 : List AStep := [⟨.call 168 [(.t 57), (.t 58), (.t 59), (.t 60)], (some 61), none, []⟩]
theorem v154_24 : VS L154_24.eq_1 := rfl
def L154_25 : List AStep := ⟨.mov (.t 2), (some 59), none, []⟩ :: ⟨.mov (.t 4), (some 60), none, []⟩ :: L154_24
theorem v154_25 : VS L154_25.eq_1 := rfl
def L154_26 : List AStep := ⟨.mov (.t 0), (some 57), none, []⟩ :: ⟨.mov (.t 1), (some 58), none, []⟩ :: L154_25
theorem v154_26 : VS L154_26.eq_1 := rfl
def L154_27 : List AStep := [⟨.mov (.t 67), (some 13), none, []⟩]
theorem v154_27 : VS L154_27.eq_1 := rfl
def L154_28 : List AStep := ⟨.bin .sub (.t 64) (.t 65), (some 66), none, []⟩ :: ⟨.bin .sub (.t 63) (.t 66), (some 67), none, []⟩ :: L154_27
theorem v154_28 : VS L154_28.eq_1 := rfl
def L154_29 : List AStep := ⟨.mov (.t 13), (some 64), none, []⟩ :: ⟨.mov (.t 1), (some 65), none, []⟩ :: L154_28
theorem v154_29 : VS L154_29.eq_1 := rfl
def L154_30 : List AStep := ⟨.mov (.t 2), (some 62), none, []⟩ :: ⟨.bin .sub (.t 62) (.c (.int .i64 1)), (some 63), none, []⟩ :: L154_29
theorem v154_30 : VS L154_30.eq_1 := rfl
def L154_31 : List AStep := [⟨.mov (.c (.int .i64 1)), (some 14), none, []⟩]
theorem v154_31 : VS L154_31.eq_1 := rfl
def L154_32 : List AStep := [⟨.bin .eql (.t 73) (.c (.int .i64 1)), (some 74), (some (72, true)), []⟩, ⟨.pick (.t 72) (.t 74) (.c (.bool false)), (some 75), none, []⟩]
theorem v154_32 : VS L154_32.eq_1 := rfl
def L154_33 : List AStep := ⟨.mov (.t 71), (some 72), none, []⟩ :: ⟨.mov (.t 14), (some 73), (some (72, true)), []⟩ :: L154_32
theorem v154_33 : VS L154_33.eq_1 := rfl
def L154_34 : List AStep := ⟨.mov (.t 11), (some 70), (some (69, true)), []⟩ :: ⟨.pick (.t 69) (.t 70) (.c (.bool false)), (some 71), none, []⟩ :: L154_33
theorem v154_34 : VS L154_34.eq_1 := rfl
def L154_35 : List AStep := ⟨.mov (.t 10), (some 68), none, []⟩ :: ⟨.mov (.t 68), (some 69), none, []⟩ :: L154_34
theorem v154_35 : VS L154_35.eq_1 := rfl
def L154_36 : List AStep := [⟨.call 169 [(.t 76), (.t 77), (.t 78), (.t 79)], (some 80), none, []⟩]
theorem v154_36 : VS L154_36.eq_1 := rfl
def L154_37 : List AStep := ⟨.mov (.t 2), (some 78), none, []⟩ :: ⟨.mov (.t 4), (some 79), none, []⟩ :: L154_36
theorem v154_37 : VS L154_37.eq_1 := rfl
def L154_38 : List AStep := ⟨.mov (.t 0), (some 76), none, []⟩ :: ⟨.mov (.t 1), (some 77), none, []⟩ :: L154_37
theorem v154_38 : VS L154_38.eq_1 := rfl
def L154_39 : List AStep := [⟨.pick (.t 83) (.t 96) (.c (.bool false)), (some 97), none, []⟩]
theorem v154_39 : VS L154_39.eq_1 := rfl
def L154_40 : List AStep := ⟨.bin .lss (.t 94) (.c (.int .i64 0)), (some 95), (some (83, true)), []⟩ :: ⟨.not (.t 95), (some 96), (some (83, true)), []⟩ :: L154_39
theorem v154_40 : VS L154_40.eq_1 := rfl
def L154_41 : List AStep := ⟨.load 2 true (.t 92), (some 93), (some (83, true)), []⟩ :: ⟨.callv (.t 84) [(.t 89), (.t 93)], (some 94), (some (83, true)), []⟩ :: L154_40
theorem v154_41 : VS L154_41.eq_1 := rfl
def L154_42 : List AStep := ⟨.mov (.t 13), (some 91), (some (83, true)), []⟩ :: ⟨.iaddr 2 (.t 90) (.t 91), (some 92), (some (83, true)), []⟩ :: L154_41
theorem v154_42 : VS L154_42.eq_1 := rfl
def L154_43 : List AStep := ⟨.load 2 true (.t 88), (some 89), (some (83, true)), []⟩ :: ⟨.mov (.t 0), (some 90), (some (83, true)), []⟩ :: L154_42
theorem v154_43 : VS L154_43.eq_1 := rfl
def L154_44 : List AStep := ⟨.bin .sub (.t 86) (.c (.int .i64 1)), (some 87), (some (83, true)), []⟩ :: ⟨.iaddr 2 (.t 85) (.t 87), (some 88), (some (83, true)), []⟩ :: L154_43
theorem v154_44 : VS L154_44.eq_1 := rfl
def L154_45 : List AStep := ⟨.mov (.t 0), (some 85), (some (83, true)), []⟩ :: ⟨.mov (.t 1), (some 86), (some (83, true)), []⟩ :: L154_44
theorem v154_45 : VS L154_45.eq_1 := rfl
def L154_46 : List AStep := ⟨.mov (.t 82), (some 83), none, []⟩ :: ⟨.mov (.t 4), (some 84), (some (83, true)), []⟩ :: L154_45
theorem v154_46 : VS L154_46.eq_1 := rfl
def L154_47 : List AStep := ⟨.mov (.t 1), (some 81), none, []⟩ :: ⟨.bin .gtr (.t 81) (.c (.int .i64 0)), (some 82), none, []⟩ :: L154_46
theorem v154_47 : VS L154_47.eq_1 := rfl
def L154_48 : List AStep := [⟨.mov (.t 103), (some 15), none, []⟩]
theorem v154_48 : VS L154_48.eq_1 := rfl
def L154_49 : List AStep := ⟨.mov (.t 4), (some 102), none, []⟩ :: ⟨.call 170 [(.t 98), (.t 99), (.t 100), (.t 101), (.t 102)], (some 103), none, []⟩ :: L154_48
theorem v154_49 : VS L154_49.eq_1 := rfl
def L154_50 : List AStep := ⟨.mov (.t 2), (some 100), none, []⟩ :: ⟨.mov (.t 13), (some 101), none, []⟩ :: L154_49
theorem v154_50 : VS L154_50.eq_1 := rfl
def L154_51 : List AStep := ⟨.mov (.t 0), (some 98), none, []⟩ :: ⟨.mov (.t 1), (some 99), none, []⟩ :: L154_50
theorem v154_51 : VS L154_51.eq_1 := rfl
def L154_52 : List AStep := [⟨.mov (.t 15), (some 104), none, []⟩, ⟨.mov (.t 104), (some 1), none, []⟩]
theorem v154_52 : VS L154_52.eq_1 := rfl
def L154_53 : List AStep := [⟨.mov (.t 113), (some 17), none, []⟩]
theorem v154_53 : VS L154_53.eq_1 := rfl
def L154_54 : List AStep := ⟨.extract (.t 105) 1, (some 113), none, []⟩ :: ⟨.mov (.t 112), (some 16), none, []⟩ :: L154_53
theorem v154_54 : VS L154_54.eq_1 := rfl
def L154_55 : List AStep := ⟨.mov (.t 111), (some 105), none, []⟩ :: ⟨.extract (.t 105) 0, (some 112), none, []⟩ :: L154_54
theorem v154_55 : VS L154_55.eq_1 := rfl
def L154_56 : List AStep := ⟨.mov (.t 4), (some 110), none, []⟩ :: ⟨.call 171 [(.t 106), (.t 107), (.t 108), (.t 109), (.t 110)], (some 111), none, []⟩ :: L154_55
theorem v154_56 : VS L154_56.eq_1 := rfl
def L154_57 : List AStep := ⟨.mov (.t 2), (some 108), none, []⟩ :: ⟨.mov (.t 13), (some 109), none, []⟩ :: L154_56
theorem v154_57 : VS L154_57.eq_1 := rfl
def L154_58 : List AStep := ⟨.mov (.t 0), (some 106), none, []⟩ :: ⟨.mov (.t 1), (some 107), none, []⟩ :: L154_57
theorem v154_58 : VS L154_58.eq_1 := rfl
def L154_59 : List AStep := [⟨.mov (.t 17), (some 114), none, []⟩, ⟨.mov (.t 114), (some 11), none, []⟩]
theorem v154_59 : VS L154_59.eq_1 := rfl
def L154_60 : List AStep := [⟨.mov (.t 117), (some 18), none, []⟩, ⟨.mov (.t 120), (some 19), none, []⟩]
theorem v154_60 : VS L154_60.eq_1 := rfl
def L154_61 : List AStep := ⟨.mov (.t 16), (some 119), none, []⟩ :: ⟨.bin .sub (.t 118) (.t 119), (some 120), none, []⟩ :: L154_60
theorem v154_61 : VS L154_61.eq_1 := rfl
def L154_62 : List AStep := ⟨.bin .sub (.t 115) (.t 116), (some 117), none, []⟩ :: ⟨.mov (.t 2), (some 118), none, []⟩ :: L154_61
theorem v154_62 : VS L154_62.eq_1 := rfl
def L154_63 : List AStep := ⟨.mov (.t 16), (some 115), none, []⟩ :: ⟨.mov (.t 1), (some 116), none, []⟩ :: L154_62
theorem v154_63 : VS L154_63.eq_1 := rfl
def L154_64 : List AStep := [⟨.mov (.t 122), (some 20), none, []⟩]
theorem v154_64 : VS L154_64.eq_1 := rfl
def L154_65 : List AStep := ⟨.mov (.t 12), (some 121), none, []⟩ :: ⟨.bin .quo (.t 121) (.c (.int .i64 8)), (some 122), none, []⟩ :: L154_64
theorem v154_65 : VS L154_65.eq_1 := rfl
def L154_66 : List AStep := [⟨.bin .lss (.t 123) (.t 124), (some 125), none, []⟩]
theorem v154_66 : VS L154_66.eq_1 := rfl
def L154_67 : List AStep := ⟨.mov (.t 18), (some 123), none, []⟩ :: ⟨.mov (.t 19), (some 124), none, []⟩ :: L154_66
theorem v154_67 : VS L154_67.eq_1 := rfl
def L154_68 : List AStep := [⟨.bin .geq (.t 126) (.t 127), (some 128), none, []⟩, ⟨.mov (.t 128), (some 10), none, []⟩]
theorem v154_68 : VS L154_68.eq_1 := rfl
def L154_69 : List AStep := ⟨.mov (.t 18), (some 126), none, []⟩ :: ⟨.mov (.t 20), (some 127), none, []⟩ :: L154_68
theorem v154_69 : VS L154_69.eq_1 := rfl
def L154_70 : List AStep := [⟨.mov (.t 4), (some 133), none, []⟩, ⟨.call 154 [(.t 129), (.t 130), (.t 131), (.t 132), (.t 133)], (some 134), none, []⟩]
theorem v154_70 : VS L154_70.eq_1 := rfl
def L154_71 : List AStep := ⟨.mov (.t 16), (some 131), none, []⟩ :: ⟨.mov (.t 3), (some 132), none, []⟩ :: L154_70
theorem v154_71 : VS L154_71.eq_1 := rfl
def L154_72 : List AStep := ⟨.mov (.t 0), (some 129), none, []⟩ :: ⟨.mov (.t 1), (some 130), none, []⟩ :: L154_71
theorem v154_72 : VS L154_72.eq_1 := rfl
def L154_73 : List AStep := [⟨.mov (.t 136), (some 1), none, []⟩]
theorem v154_73 : VS L154_73.eq_1 := rfl
def L154_74 : List AStep := ⟨.mov (.t 16), (some 135), none, []⟩ :: ⟨.bin .add (.t 135) (.c (.int .i64 1)), (some 136), none, []⟩ :: L154_73
theorem v154_74 : VS L154_74.eq_1 := rfl
def L154_75 : List AStep := [⟨.bin .geq (.t 137) (.t 138), (some 139), none, []⟩, ⟨.mov (.t 139), (some 10), none, []⟩]
theorem v154_75 : VS L154_75.eq_1 := rfl
def L154_76 : List AStep := ⟨.mov (.t 19), (some 137), none, []⟩ :: ⟨.mov (.t 20), (some 138), none, []⟩ :: L154_75
theorem v154_76 : VS L154_76.eq_1 := rfl
def L154_77 : List AStep := [⟨.call 154 [(.t 140), (.t 142), (.t 143), (.t 144), (.t 145)], (some 146), none, []⟩]
theorem v154_77 : VS L154_77.eq_1 := rfl
def L154_78 : List AStep := ⟨.mov (.t 3), (some 144), none, []⟩ :: ⟨.mov (.t 4), (some 145), none, []⟩ :: L154_77
theorem v154_78 : VS L154_78.eq_1 := rfl
def L154_79 : List AStep := ⟨.bin .add (.t 141) (.c (.int .i64 1)), (some 142), none, []⟩ :: ⟨.mov (.t 2), (some 143), none, []⟩ :: L154_78
theorem v154_79 : VS L154_79.eq_1 := rfl
def L154_80 : List AStep := ⟨.mov (.t 0), (some 140), none, []⟩ :: ⟨.mov (.t 16), (some 141), none, []⟩ :: L154_79
theorem v154_80 : VS L154_80.eq_1 := rfl
def L154_81 : List AStep := [⟨.mov (.t 16), (some 147), none, []⟩, ⟨.mov (.t 147), (some 2), none, []⟩]
theorem v154_81 : VS L154_81.eq_1 := rfl
def C154_0 : ACode := .seq (.reg L154_7) .ret
theorem u154_0 : VC C154_0.eq_1 := rfl
def C154_1 : ACode := .cond (.t 25) C154_0 .skip
theorem u154_1 : VC C154_1.eq_1 := rfl
def C154_2 : ACode := .seq (.reg L154_4) C154_1
theorem u154_2 : VC C154_2.eq_1 := rfl
def C154_3 : ACode := .seq (.reg L154_11) .ret
theorem u154_3 : VC C154_3.eq_1 := rfl
def C154_4 : ACode := .cond (.t 32) C154_3 .skip
theorem u154_4 : VC C154_4.eq_1 := rfl
def C154_5 : ACode := .seq (.reg L154_8) C154_4
theorem u154_5 : VC C154_5.eq_1 := rfl
def C154_6 : ACode := .seq (.reg L154_15) (.reg L154_17)
theorem u154_6 : VC C154_6.eq_1 := rfl
def C154_7 : ACode := .cond (.t 39) C154_6 .skip
theorem u154_7 : VC C154_7.eq_1 := rfl
def C154_8 : ACode := .seq (.reg L154_12) C154_7
theorem u154_8 : VC C154_8.eq_1 := rfl
def C154_9 : ACode := .seq (.reg L154_30) (.reg L154_31)
theorem u154_9 : VC C154_9.eq_1 := rfl
def C154_10 : ACode := .seq (.reg L154_26) C154_9
theorem u154_10 : VC C154_10.eq_1 := rfl
def C154_11 : ACode := .cond (.t 56) C154_10 .skip
theorem u154_11 : VC C154_11.eq_1 := rfl
def C154_12 : ACode := .seq (.reg L154_23) C154_11
theorem u154_12 : VC C154_12.eq_1 := rfl
def C154_13 : ACode := .cond (.t 80) .ret .skip
theorem u154_13 : VC C154_13.eq_1 := rfl
def C154_14 : ACode := .seq (.reg L154_38) C154_13
theorem u154_14 : VC C154_14.eq_1 := rfl
def C154_15 : ACode := .cond (.t 75) C154_14 .skip
theorem u154_15 : VC C154_15.eq_1 := rfl
def C154_16 : ACode := .seq (.reg L154_35) C154_15
theorem u154_16 : VC C154_16.eq_1 := rfl
def C154_17 : ACode := .seq (.reg L154_52) (.exit 1)
theorem u154_17 : VC C154_17.eq_1 := rfl
def C154_18 : ACode := .seq (.reg L154_51) C154_17
theorem u154_18 : VC C154_18.eq_1 := rfl
def C154_19 : ACode := .cond (.t 97) C154_18 .skip
theorem u154_19 : VC C154_19.eq_1 := rfl
def C154_20 : ACode := .seq (.reg L154_47) C154_19
theorem u154_20 : VC C154_20.eq_1 := rfl
def C154_21 : ACode := .seq (.reg L154_72) (.reg L154_74)
theorem u154_21 : VC C154_21.eq_1 := rfl
def C154_22 : ACode := .seq (.reg L154_69) C154_21
theorem u154_22 : VC C154_22.eq_1 := rfl
def C154_23 : ACode := .seq (.reg L154_80) (.reg L154_81)
theorem u154_23 : VC C154_23.eq_1 := rfl
def C154_24 : ACode := .seq (.reg L154_76) C154_23
theorem u154_24 : VC C154_24.eq_1 := rfl
def C154_25 : ACode := .cond (.t 125) C154_22 C154_24
theorem u154_25 : VC C154_25.eq_1 := rfl
def C154_26 : ACode := .seq (.reg L154_67) C154_25
theorem u154_26 : VC C154_26.eq_1 := rfl
def C154_27 : ACode := .seq (.reg L154_65) C154_26
theorem u154_27 : VC C154_27.eq_1 := rfl
def C154_28 : ACode := .seq (.reg L154_63) C154_27
theorem u154_28 : VC C154_28.eq_1 := rfl
def C154_29 : ACode := .seq (.reg L154_59) C154_28
theorem u154_29 : VC C154_29.eq_1 := rfl
def C154_30 : ACode := .seq (.reg L154_58) C154_29
theorem u154_30 : VC C154_30.eq_1 := rfl
def C154_31 : ACode := .seq C154_20 C154_30
theorem u154_31 : VC C154_31.eq_1 := rfl
def C154_32 : ACode := .seq C154_16 C154_31
theorem u154_32 : VC C154_32.eq_1 := rfl
def C154_33 : ACode := .seq C154_12 C154_32
theorem u154_33 : VC C154_33.eq_1 := rfl
def C154_34 : ACode := .seq (.reg L154_22) C154_33
theorem u154_34 : VC C154_34.eq_1 := rfl
def C154_35 : ACode := .seq C154_8 C154_34
theorem u154_35 : VC C154_35.eq_1 := rfl
def C154_36 : ACode := .seq C154_5 C154_35
theorem u154_36 : VC C154_36.eq_1 := rfl
def C154_37 : ACode := .seq C154_2 C154_36
theorem u154_37 : VC C154_37.eq_1 := rfl
def C154_38 : ACode := .seq (.reg L154_3) C154_37
theorem u154_38 : VC C154_38.eq_1 := rfl
def C154_39 : ACode := .block 1 C154_38
theorem u154_39 : VC C154_39.eq_1 := rfl
def C154_40 : ACode := .block 0 (.loop C154_39)
theorem u154_40 : VC C154_40.eq_1 := rfl
def C154_41 : ACode := .seq (.reg L154_1) C154_40
theorem u154_41 : VC C154_41.eq_1 := rfl
def C154_42 : ACode := .seq (.reg L154_0) C154_41
theorem u154_42 : VC C154_42.eq_1 := rfl
def F154 : AFunc := ⟨148, [], C154_42⟩
theorem cF154 : compB Try.prog 154 = some F154 := by kernel_rfl
attribute [local go_sem ↓] u154_0 u154_1 u154_2 u154_3 u154_4 u154_5 u154_6 u154_7 u154_8 u154_9 u154_10 u154_11 u154_12 u154_13 u154_14 u154_15 u154_16 u154_17 u154_18 u154_19 u154_20 u154_21 u154_22 u154_23 u154_24 u154_25 u154_26 u154_27 u154_28 u154_29 u154_30 u154_31 u154_32 u154_33 u154_34 u154_35 u154_36 u154_37 u154_38 u154_39 u154_40 u154_41 u154_42 v154_0 v154_1 v154_2 v154_3 v154_4 v154_5 v154_6 v154_7 v154_8 v154_9 v154_10 v154_11 v154_12 v154_13 v154_14 v154_15 v154_16 v154_17 v154_18 v154_19 v154_20 v154_21 v154_22 v154_23 v154_24 v154_25 v154_26 v154_27 v154_28 v154_29 v154_30 v154_31 v154_32 v154_33 v154_34 v154_35 v154_36 v154_37 v154_38 v154_39 v154_40 v154_41 v154_42 v154_43 v154_44 v154_45 v154_46 v154_47 v154_48 v154_49 v154_50 v154_51 v154_52 v154_53 v154_54 v154_55 v154_56 v154_57 v154_58 v154_59 v154_60 v154_61 v154_62 v154_63 v154_64 v154_65 v154_66 v154_67 v154_68 v154_69 v154_70 v154_71 v154_72 v154_73 v154_74 v154_75 v154_76 v154_77 v154_78 v154_79 v154_80 v154_81
theorem c_pdqP (l : List Pair) (v : AV) (m : Int) (h0 h : H) (g0 : Grow h0 h) (n0 : NwP h0 h v l) (hn : l.length ≤ 12) :
    callK (bm Try.prog 154 [v, .one (.int .i64 0), .one (.int .i64 l.length), .one (.int .i64 m), .one (.fn 129 [])] h) fun _ h' => Grow h0 h' ∧ NwP h0 h' v (isort ltP l) := by
  refine bm_of cF154 ?_
  have e1 : IntKind.i64.wrap ((l.length : Int) - 0) = l.length := by rw [Int.sub_zero]; exact wrap_nat (by omega)
  have e2 : decide ((l.length : Int) ≤ 12) = true := decide_eq_true (by omega)
  simp +contextual (maxSteps := 2000000) only [go_sem, Nat.reduceEqDiff, reduceCtorEq, Nat.reduceAdd, Nat.reduceLeDiff, F154]
  refine wpC_loop (fun i T L h' => i = 0 ∧ h' = h ∧ T 0 = .v v ∧ T 1 = .v (.one (.int .i64 0)) ∧ T 2 = .v (.one (.int .i64 l.length)) ∧ T 4 = .v (.one (.fn 129 []))) 1 ?_ ?_ (Nat.zero_le _) ?_
  · rintro i T L h' hi ⟨rfl, rfl, t0, t1, t2, t4⟩
    simp +contextual (maxSteps := 2000000) only [go_sem, Nat.reduceEqDiff, reduceCtorEq, Nat.reduceAdd, Nat.reduceLeDiff, t0, t1, t2, t4, e1, e2]
    refine wp_call (c_insP l v h0 h' g0 n0 hn) ?_
    rintro r h1 ⟨g1, n1⟩
    simp +contextual (maxSteps := 2000000) only [go_sem, Nat.reduceEqDiff, reduceCtorEq, Nat.reduceAdd, Nat.reduceLeDiff]
    exact gcK_of ⟨g1, n1⟩ fun _ gg => ⟨g0, n1.back n0 gg⟩
  · rintro T L h' ⟨e, _⟩
    exact absurd e (by decide)
  · simp +contextual (maxSteps := 2000000) only [go_sem, Nat.reduceEqDiff, reduceCtorEq, Nat.reduceAdd, Nat.reduceLeDiff]
/-! slices.SortFunc(()impl.Pair,impl.Pair) -/
def L128_0 : List AStep := [⟨.mov (.t 6), (some 4), none, []⟩]
theorem v128_0 : VS L128_0.eq_1 := rfl
def L128_1 : List AStep := ⟨.mov (.t 0), (some 5), none, []⟩ :: ⟨.len (.t 5), (some 6), none, []⟩ :: L128_0
theorem v128_1 : VS L128_1.eq_1 := rfl
def L128_2 : List AStep := [⟨.call 154 [(.t 7), (.c (.int .i64 0)), (.t 8), (.t 11), (.t 12)], (some 13), none, []⟩]
theorem v128_2 : VS L128_2.eq_1 := rfl
def L128_3 : List AStep := ⟨.call 155 [(.t 10)], (some 11), none, []⟩ :: ⟨.mov (.t 1), (some 12), none, []⟩ :: L128_2
theorem v128_3 : VS L128_3.eq_1 := rfl
def L128_4 : List AStep := ⟨.mov (.t 4), (some 9), none, []⟩ :: ⟨.conv .u64 (.t 9), (some 10), none, []⟩ :: L128_3
theorem v128_4 : VS L128_4.eq_1 := rfl
def L128_5 : List AStep := ⟨.mov (.t 0), (some 7), none, []⟩ :: ⟨.mov (.t 4), (some 8), none, []⟩ :: L128_4
theorem v128_5 : VS L128_5.eq_1 := rfl
def C128_0 : ACode := .seq (.reg L128_1) (.reg L128_5)
theorem u128_0 : VC C128_0.eq_1 := rfl
def F128 : AFunc := ⟨14, [], C128_0⟩
theorem cF128 : compB Try.prog 128 = some F128 := by kernel_rfl
attribute [local go_sem ↓] u128_0 v128_0 v128_1 v128_2 v128_3 v128_4 v128_5
theorem c_sortP (l : List Pair) (v : AV) (h0 h : H) (g0 : Grow h0 h) (n0 : NwP h0 h v l) (hn : l.length ≤ 12) :
    callK (bm Try.prog 128 [v, .one (.fn 129 [])] h) fun _ h' => Grow h0 h' ∧ NwP h0 h' v (isort ltP l) := by
  refine bm_of cF128 ?_
  have e1 := u64_nat hn
  simp +contextual (maxSteps := 2000000) only [go_sem, Nat.reduceEqDiff, reduceCtorEq, Nat.reduceAdd, Nat.reduceLeDiff, F128, n0.length, e1]
  refine wp_call (c_bitsLen l.length h hn) ?_
  rintro r h1 ⟨rfl, m, rfl⟩
  simp +contextual (maxSteps := 2000000) only [go_sem, Nat.reduceEqDiff, reduceCtorEq, Nat.reduceAdd, Nat.reduceLeDiff]
  refine wp_call (c_pdqP l v m h0 h1 g0 n0 hn) ?_
  rintro r h2 ⟨g2, n2⟩
  simp +contextual (maxSteps := 2000000) only [go_sem, Nat.reduceEqDiff, reduceCtorEq, Nat.reduceAdd, Nat.reduceLeDiff]
  exact gcK_of ⟨g2, n2⟩ fun _ gg => ⟨g0, n2.back n0 gg⟩
/-! impl.byName -/
def L72_0 : List AStep := [⟨.mov (.c (.sl none 0 (some 0))), (some 2), none, []⟩]
theorem v72_0 : VS L72_0.eq_1 := rfl
def L72_1 : List AStep := [⟨.mov (.t 5), (some 3), none, []⟩]
theorem v72_1 : VS L72_1.eq_1 := rfl
def L72_2 : List AStep := ⟨.mov (.t 0), (some 4), none, []⟩ :: ⟨.call 111 [(.t 4)], (some 5), none, []⟩ :: L72_1
theorem v72_2 : VS L72_2.eq_1 := rfl
def L72_3 : List AStep := [⟨.mov (.t 3), (some 6), none, []⟩, ⟨.call 128 [(.t 6), (.c (.fn 129 []))], (some 7), none, []⟩]
theorem v72_3 : VS L72_3.eq_1 := rfl
def L72_4 : List AStep := [⟨.mov (.t 3), (some 8), none, []⟩, ⟨.mov (.t 8), (some 2), none, []⟩]
theorem v72_4 : VS L72_4.eq_1 := rfl
def C72_0 : ACode := .seq (.reg L72_4) .ret
theorem u72_0 : VC C72_0.eq_1 := rfl
def C72_1 : ACode := .seq (.reg L72_3) C72_0
theorem u72_1 : VC C72_1.eq_1 := rfl
def C72_2 : ACode := .seq (.reg L72_2) C72_1
theorem u72_2 : VC C72_2.eq_1 := rfl
def C72_3 : ACode := .seq (.reg L72_0) C72_2
theorem u72_3 : VC C72_3.eq_1 := rfl
def F72 : AFunc := ⟨9, [.tmp 2], C72_3⟩
theorem cF72 : compB Try.prog 72 = some F72 := by kernel_rfl
attribute [local go_sem ↓] u72_0 u72_1 u72_2 u72_3 v72_0 v72_1 v72_2 v72_3 v72_4
theorem k_byName (l : List Pair) (v : AV) (h : H) (hl : SlP h v l) (hn : l.length ≤ 12) : callK (bm Try.prog 72 [v] h) fun r h' => Grow h h' ∧ NwP h h' r (isort ltP l) := by
  refine bm_of cF72 ?_
  simp +contextual (maxSteps := 2000000) only [go_sem, Nat.reduceEqDiff, reduceCtorEq, Nat.reduceAdd, Nat.reduceLeDiff, F72]
  refine wp_call (c_cloneP l v h hl (Nat.le_trans hn (by decide))) ?_
  rintro r h1 ⟨g1, n1⟩
  simp +contextual (maxSteps := 2000000) only [go_sem, Nat.reduceEqDiff, reduceCtorEq, Nat.reduceAdd, Nat.reduceLeDiff]
  refine wp_call (c_sortP l r h h1 g1 n1 hn) ?_
  rintro r2 h2 ⟨g2, n2⟩
  simp +contextual (maxSteps := 2000000) only [go_sem, Nat.reduceEqDiff, reduceCtorEq, Nat.reduceAdd, Nat.reduceLeDiff]
  exact gcK_of ⟨g2, n2⟩ (fun hs _ => ⟨Grow.refl h, n2.scalar hs h⟩)
/-! spec.sameFlat -/
def L77_0 : List AStep := [⟨.mov (.c (.bool false)), (some 4), none, []⟩]
theorem v77_0 : VS L77_0.eq_1 := rfl
def L77_1 : List AStep := ⟨.box 27 (.t 0), (some 2), none, []⟩ :: ⟨.box 27 (.t 1), (some 3), none, []⟩ :: L77_0
theorem v77_1 : VS L77_1.eq_1 := rfl
def L77_2 : List AStep := [⟨.bin .neq (.t 18) (.t 21), (some 22), (some (15, false)), []⟩, ⟨.pick (.t 15) (.c (.bool true)) (.t 22), (some 23), none, []⟩]
theorem v77_2 : VS L77_2.eq_1 := rfl
def L77_3 : List AStep := ⟨.load 1 false (.t 19), (some 20), (some (15, false)), []⟩ :: ⟨.len (.t 20), (some 21), (some (15, false)), []⟩ :: L77_2
theorem v77_3 : VS L77_3.eq_1 := rfl
def L77_4 : List AStep := ⟨.len (.t 17), (some 18), (some (15, false)), []⟩ :: ⟨.faddr 1 (.t 3), (some 19), (some (15, false)), []⟩ :: L77_3
theorem v77_4 : VS L77_4.eq_1 := rfl
def L77_5 : List AStep := ⟨.faddr 1 (.t 2), (some 16), (some (15, false)), []⟩ :: ⟨.load 1 false (.t 16), (some 17), (some (15, false)), []⟩ :: L77_4
theorem v77_5 : VS L77_5.eq_1 := rfl
def L77_6 : List AStep := ⟨.bin .neq (.t 10) (.t 13), (some 14), none, []⟩ :: ⟨.mov (.t 14), (some 15), none, []⟩ :: L77_5
theorem v77_6 : VS L77_6.eq_1 := rfl
def L77_7 : List AStep := ⟨.load 1 false (.t 11), (some 12), none, []⟩ :: ⟨.len (.t 12), (some 13), none, []⟩ :: L77_6
theorem v77_7 : VS L77_7.eq_1 := rfl
def L77_8 : List AStep := ⟨.len (.t 9), (some 10), none, []⟩ :: ⟨.faddr 0 (.t 3), (some 11), none, []⟩ :: L77_7
theorem v77_8 : VS L77_8.eq_1 := rfl
def L77_9 : List AStep := ⟨.faddr 0 (.t 2), (some 8), none, []⟩ :: ⟨.load 1 false (.t 8), (some 9), none, []⟩ :: L77_8
theorem v77_9 : VS L77_9.eq_1 := rfl
def L77_10 : List AStep := [⟨.mov (.c (.bool false)), (some 4), none, []⟩]
theorem v77_10 : VS L77_10.eq_1 := rfl
def L77_11 : List AStep := [⟨.mov (.c (.int .i64 0)), (some 5), none, []⟩]
theorem v77_11 : VS L77_11.eq_1 := rfl
def L77_12 : List AStep := [⟨.bin .lss (.t 24) (.t 27), (some 28), none, []⟩]
theorem v77_12 : VS L77_12.eq_1 := rfl
def L77_13 : List AStep := ⟨.load 1 false (.t 25), (some 26), none, []⟩ :: ⟨.len (.t 26), (some 27), none, []⟩ :: L77_12
theorem v77_13 : VS L77_13.eq_1 := rfl
def L77_14 : List AStep := ⟨.mov (.t 5), (some 24), none, []⟩ :: ⟨.faddr 0 (.t 2), (some 25), none, []⟩ :: L77_13
theorem v77_14 : VS L77_14.eq_1 := rfl
def L77_15 : List AStep := [⟨.bin .neq (.t 35) (.t 40), (some 41), none, []⟩]
theorem v77_15 : VS L77_15.eq_1 := rfl
def L77_16 : List AStep := ⟨.iaddr 1 (.t 37) (.t 38), (some 39), none, []⟩ :: ⟨.load 1 false (.t 39), (some 40), none, []⟩ :: L77_15
theorem v77_16 : VS L77_16.eq_1 := rfl
def L77_17 : List AStep := ⟨.load 1 false (.t 36), (some 37), none, []⟩ :: ⟨.mov (.t 5), (some 38), none, []⟩ :: L77_16
theorem v77_17 : VS L77_17.eq_1 := rfl
def L77_18 : List AStep := ⟨.load 1 false (.t 34), (some 35), none, []⟩ :: ⟨.faddr 0 (.t 3), (some 36), none, []⟩ :: L77_17
theorem v77_18 : VS L77_18.eq_1 := rfl
def L77_19 : List AStep := ⟨.mov (.t 5), (some 33), none, []⟩ :: ⟨.iaddr 1 (.t 32) (.t 33), (some 34), none, []⟩ :: L77_18
theorem v77_19 : VS L77_19.eq_1 := rfl
def L77_20 : List AStep := ⟨.faddr 0 (.t 2), (some 31), none, []⟩ :: ⟨.load 1 false (.t 31), (some 32), none, []⟩ :: L77_19
theorem v77_20 : VS L77_20.eq_1 := rfl
def L77_21 : List AStep := [⟨.mov (.c (.bool false)), (some 4), none, []⟩]
theorem v77_21 : VS L77_21.eq_1 := rfl
def L77_22 : List AStep := [⟨.mov (.t 30), (some 5), none, []⟩]
theorem v77_22 : VS L77_22.eq_1 := rfl
def L77_23 : List AStep := ⟨.mov (.t 5), (some 29), none, []⟩ :: ⟨.bin .add (.t 29) (.c (.int .i64 1)), (some 30), none, []⟩ :: L77_22
theorem v77_23 : VS L77_23.eq_1 := rfl
def L77_24 : List AStep := [⟨.mov (.c (.int .i64 0)), (some 6), none, []⟩]
theorem v77_24 : VS L77_24.eq_1 := rfl
def L77_25 : List AStep := [⟨.bin .lss (.t 42) (.t 45), (some 46), none, []⟩]
theorem v77_25 : VS L77_25.eq_1 := rfl
def L77_26 : List AStep := ⟨.load 1 false (.t 43), (some 44), none, []⟩ :: ⟨.len (.t 44), (some 45), none, []⟩ :: L77_25
theorem v77_26 : VS L77_26.eq_1 := rfl
def L77_27 : List AStep := ⟨.mov (.t 6), (some 42), none, []⟩ :: ⟨.faddr 1 (.t 2), (some 43), none, []⟩ :: L77_26
theorem v77_27 : VS L77_27.eq_1 := rfl
def L77_28 : List AStep := [⟨.call 114 [(.t 50), (.t 56)], (some 57), none, []⟩, ⟨.mov (.t 57), (some 7), none, []⟩]
theorem v77_28 : VS L77_28.eq_1 := rfl
def L77_29 : List AStep := ⟨.faddr 0 (.t 54), (some 55), none, []⟩ :: ⟨.load 1 false (.t 55), (some 56), none, []⟩ :: L77_28
theorem v77_29 : VS L77_29.eq_1 := rfl
def L77_30 : List AStep := ⟨.mov (.t 6), (some 53), none, []⟩ :: ⟨.iaddr 2 (.t 52) (.t 53), (some 54), none, []⟩ :: L77_29
theorem v77_30 : VS L77_30.eq_1 := rfl
def L77_31 : List AStep := ⟨.faddr 1 (.t 2), (some 51), none, []⟩ :: ⟨.load 1 false (.t 51), (some 52), none, []⟩ :: L77_30
theorem v77_31 : VS L77_31.eq_1 := rfl
def L77_32 : List AStep := ⟨.faddr 1 (.t 3), (some 49), none, []⟩ :: ⟨.load 1 false (.t 49), (some 50), none, []⟩ :: L77_31
theorem v77_32 : VS L77_32.eq_1 := rfl
def L77_33 : List AStep := [⟨.pick (.t 60) (.c (.bool true)) (.t 71), (some 72), none, []⟩]
theorem v77_33 : VS L77_33.eq_1 := rfl
def L77_34 : List AStep := ⟨.load 2 true (.t 69), (some 70), (some (60, false)), []⟩ :: ⟨.eqst true [2, 1] (.t 65) (.t 70), (some 71), (some (60, false)), []⟩ :: L77_33
theorem v77_34 : VS L77_34.eq_1 := rfl
def L77_35 : List AStep := ⟨.mov (.t 6), (some 68), (some (60, false)), []⟩ :: ⟨.iaddr 2 (.t 67) (.t 68), (some 69), (some (60, false)), []⟩ :: L77_34
theorem v77_35 : VS L77_35.eq_1 := rfl
def L77_36 : List AStep := ⟨.faddr 1 (.t 2), (some 66), (some (60, false)), []⟩ :: ⟨.load 1 false (.t 66), (some 67), (some (60, false)), []⟩ :: L77_35
theorem v77_36 : VS L77_36.eq_1 := rfl
def L77_37 : List AStep := ⟨.iaddr 2 (.t 62) (.t 63), (some 64), (some (60, false)), []⟩ :: ⟨.load 2 true (.t 64), (some 65), (some (60, false)), []⟩ :: L77_36
theorem v77_37 : VS L77_37.eq_1 := rfl
def L77_38 : List AStep := ⟨.load 1 false (.t 61), (some 62), (some (60, false)), []⟩ :: ⟨.mov (.t 7), (some 63), (some (60, false)), []⟩ :: L77_37
theorem v77_38 : VS L77_38.eq_1 := rfl
def L77_39 : List AStep := ⟨.mov (.t 59), (some 60), none, []⟩ :: ⟨.faddr 1 (.t 3), (some 61), (some (60, false)), []⟩ :: L77_38
theorem v77_39 : VS L77_39.eq_1 := rfl
def L77_40 : List AStep := ⟨.mov (.t 7), (some 58), none, []⟩ :: ⟨.bin .lss (.t 58) (.c (.int .i64 0)), (some 59), none, []⟩ :: L77_39
theorem v77_40 : VS L77_40.eq_1 := rfl
def L77_41 : List AStep := [⟨.mov (.c (.bool false)), (some 4), none, []⟩]
theorem v77_41 : VS L77_41.eq_1 := rfl
def L77_42 : List AStep := [⟨.mov (.t 48), (some 6), none, []⟩]
theorem v77_42 : VS L77_42.eq_1 := rfl
def L77_43 : List AStep := ⟨.mov (.t 6), (some 47), none, []⟩ :: ⟨.bin .add (.t 47) (.c (.int .i64 1)), (some 48), none, []⟩ :: L77_42
theorem v77_43 : VS L77_43.eq_1 := rfl
def L77_44 : List AStep := [⟨.mov (.c (.bool true)), (some 4), none, []⟩]
theorem v77_44 : VS L77_44.eq_1 := rfl
def C77_0 : ACode := .seq (.reg L77_10) .ret
theorem u77_0 : VC C77_0.eq_1 := rfl
def C77_1 : ACode := .cond (.t 23) C77_0 .skip
theorem u77_1 : VC C77_1.eq_1 := rfl
def C77_2 : ACode := .seq (.reg L77_9) C77_1
theorem u77_2 : VC C77_2.eq_1 := rfl
def C77_3 : ACode := .cond (.t 28) .skip (.exit 0)
theorem u77_3 : VC C77_3.eq_1 := rfl
def C77_4 : ACode := .seq (.reg L77_14) C77_3
theorem u77_4 : VC C77_4.eq_1 := rfl
def C77_5 : ACode := .seq (.reg L77_21) .ret
theorem u77_5 : VC C77_5.eq_1 := rfl
def C77_6 : ACode := .cond (.t 41) C77_5 .skip
theorem u77_6 : VC C77_6.eq_1 := rfl
def C77_7 : ACode := .seq (.reg L77_20) C77_6
theorem u77_7 : VC C77_7.eq_1 := rfl
def C77_8 : ACode := .block 1 C77_7
theorem u77_8 : VC C77_8.eq_1 := rfl
def C77_9 : ACode := .seq C77_8 (.reg L77_23)
theorem u77_9 : VC C77_9.eq_1 := rfl
def C77_10 : ACode := .seq C77_4 C77_9
theorem u77_10 : VC C77_10.eq_1 := rfl
def C77_11 : ACode := .block 0 (.loop C77_10)
theorem u77_11 : VC C77_11.eq_1 := rfl
def C77_12 : ACode := .seq (.reg L77_11) C77_11
theorem u77_12 : VC C77_12.eq_1 := rfl
def C77_13 : ACode := .cond (.t 46) .skip (.exit 2)
theorem u77_13 : VC C77_13.eq_1 := rfl
def C77_14 : ACode := .seq (.reg L77_27) C77_13
theorem u77_14 : VC C77_14.eq_1 := rfl
def C77_15 : ACode := .seq (.reg L77_41) .ret
theorem u77_15 : VC C77_15.eq_1 := rfl
def C77_16 : ACode := .cond (.t 72) C77_15 .skip
theorem u77_16 : VC C77_16.eq_1 := rfl
def C77_17 : ACode := .seq (.reg L77_40) C77_16
theorem u77_17 : VC C77_17.eq_1 := rfl
def C77_18 : ACode := .seq (.reg L77_32) C77_17
theorem u77_18 : VC C77_18.eq_1 := rfl
def C77_19 : ACode := .block 3 C77_18
theorem u77_19 : VC C77_19.eq_1 := rfl
def C77_20 : ACode := .seq C77_19 (.reg L77_43)
theorem u77_20 : VC C77_20.eq_1 := rfl
def C77_21 : ACode := .seq C77_14 C77_20
theorem u77_21 : VC C77_21.eq_1 := rfl
def C77_22 : ACode := .block 2 (.loop C77_21)
theorem u77_22 : VC C77_22.eq_1 := rfl
def C77_23 : ACode := .seq (.reg L77_24) C77_22
theorem u77_23 : VC C77_23.eq_1 := rfl
def C77_24 : ACode := .seq (.reg L77_44) .ret
theorem u77_24 : VC C77_24.eq_1 := rfl
def C77_25 : ACode := .seq C77_23 C77_24
theorem u77_25 : VC C77_25.eq_1 := rfl
def C77_26 : ACode := .seq C77_12 C77_25
theorem u77_26 : VC C77_26.eq_1 := rfl
def C77_27 : ACode := .seq C77_2 C77_26
theorem u77_27 : VC C77_27.eq_1 := rfl
def C77_28 : ACode := .seq (.reg L77_1) C77_27
theorem u77_28 : VC C77_28.eq_1 := rfl
def F77 : AFunc := ⟨73, [.tmp 4], C77_28⟩
theorem cF77 : compB Try.prog 77 = some F77 := by kernel_rfl
attribute [local go_sem ↓] u77_0 u77_1 u77_2 u77_3 u77_4 u77_5 u77_6 u77_7 u77_8 u77_9 u77_10 u77_11 u77_12 u77_13 u77_14 u77_15 u77_16 u77_17 u77_18 u77_19 u77_20 u77_21 u77_22 u77_23 u77_24 u77_25 u77_26 u77_27 u77_28 v77_0 v77_1 v77_2 v77_3 v77_4 v77_5 v77_6 v77_7 v77_8 v77_9 v77_10 v77_11 v77_12 v77_13 v77_14 v77_15 v77_16 v77_17 v77_18 v77_19 v77_20 v77_21 v77_22 v77_23 v77_24 v77_25 v77_26 v77_27 v77_28 v77_29 v77_30 v77_31 v77_32 v77_33 v77_34 v77_35 v77_36 v77_37 v77_38 v77_39 v77_40 v77_41 v77_42 v77_43 v77_44
theorem c_sameFlat (f g : Flat) (p n p' n' : CV) (h : H) (hf : SlF h p n f) (hg : SlF h p' n' g) (mf : smF f) (mg : smF g) : bm Try.prog 77 [.agg [p, n], .agg [p', n']] h = some (ib (sameS f g), h) := by
  refine bm_eq cF77 ?_
  unfold sameS sameNm
  cases e1 : decide ((f.pl.length : Int) = (g.pl.length : Int)) with
  | false => simp +contextual (maxSteps := 2000000) only [go_sem, Nat.reduceEqDiff, reduceCtorEq, Nat.reduceAdd, Nat.reduceLeDiff, F77, hf.pl.len, hg.pl.len, e1, decide_eq_false (len_ne e1), Bool.false_and]
  | true =>
  cases e2 : decide ((f.nl.length : Int) = (g.nl.length : Int)) with
  | false => simp +contextual (maxSteps := 2000000) only [go_sem, Nat.reduceEqDiff, reduceCtorEq, Nat.reduceAdd, Nat.reduceLeDiff, F77, hf.pl.len, hg.pl.len, hf.nl.len, hg.nl.len, e1, e2, Bool.false_and, Bool.and_false]
  | true =>
  have q1 := len_eq e1
  have q2 := len_eq e2
  simp +contextual (maxSteps := 2000000) only [go_sem, Nat.reduceEqDiff, reduceCtorEq, Nat.reduceAdd, Nat.reduceLeDiff, F77, hf.pl.len, hg.pl.len, hf.nl.len, hg.nl.len, e1, e2, Bool.true_and]
  refine wpC_loop (fun i T L h' => h' = h ∧ T 2 = .lp 2 0 ∧ (L 2).2 = [p, n] ∧ T 3 = .lp 3 0 ∧ (L 3).2 = [p', n'] ∧ T 5 = .v (.one (.int .i64 i)) ∧ Alike f.pl g.pl i) f.pl.length ?_ ?_ (Nat.zero_le _) ?_
  · rintro i T L h' hi ⟨rfl, t2, l2, t3, l3, t5, ha⟩
    have hj : i < g.pl.length := by omega
    cases b : decide (f.pl[i] = g.pl[i]) with
    | true =>
      simp +contextual (maxSteps := 2000000) only [go_sem, Nat.reduceEqDiff, reduceCtorEq, Nat.reduceAdd, Nat.reduceLeDiff, t2, l2, t3, l3, t5, hf.pl.len, hf.pl.iaddr hi, hg.pl.iaddr hj, hf.pl.oneO hi, hg.pl.oneO hj, lt_true hi, b]
      exact ⟨by rw [wrap_next hi (big_lt mf.1)], ha.next hi hj b⟩
    | false =>
      simp +contextual (maxSteps := 2000000) only [go_sem, Nat.reduceEqDiff, reduceCtorEq, Nat.reduceAdd, Nat.reduceLeDiff, t2, l2, t3, l3, t5, hf.pl.len, hf.pl.iaddr hi, hg.pl.iaddr hj, hf.pl.oneO hi, hg.pl.oneO hj, lt_true hi, b, decide_eq_false (not_alike hi hj b), Bool.false_and]
  · rintro T L h' ⟨rfl, t2, l2, t3, l3, t5, ha⟩
    have e0 := ha.eq q1
    simp +contextual (maxSteps := 2000000) only [go_sem, Nat.reduceEqDiff, reduceCtorEq, Nat.reduceAdd, Nat.reduceLeDiff, t2, l2, t3, l3, t5, hf.pl.len, lt_false]
    refine wpC_loop (fun i T L h2 => h2 = h' ∧ T 2 = .lp 2 0 ∧ (L 2).2 = [p, n] ∧ T 3 = .lp 3 0 ∧ (L 3).2 = [p', n'] ∧ T 6 = .v (.one (.int .i64 i)) ∧ Pre (inB g.nl) true f.nl i) f.nl.length ?_ ?_ (Nat.zero_le _) ?_
    · rintro i T L h2 hi ⟨rfl, t2, l2, t3, l3, t6, hp⟩
      have hf0 := hf.nl.fieldO (off := 0) hi (by omega)
      have c0 := c_pairAt g.nl (.one n') f.nl[i].name h2 hg.nl mg.nl
      rcases idx_cases (fun q : Pair => decide (q.name = f.nl[i].name)) g.nl with e | ⟨j, hj, e, _⟩ <;> (replace e := (show pairAt g.nl f.nl[i].name = _ from e))
      · have b : inB g.nl f.nl[i] = false := by
          unfold inB
          rw [e]
          split <;> simp
        have b2 : f.nl.all (inB g.nl) = false := List.all_eq_false.2 ⟨_, List.getElem_mem hi, by simp [b]⟩
        simp +contextual (maxSteps := 2000000) only [go_sem, Nat.reduceEqDiff, reduceCtorEq, Nat.reduceAdd, Nat.reduceLeDiff, t2, l2, t3, l3, t6, hf.nl.len, hf.nl.iaddr hi, hf.nl.fieldO hi, lt_true hi, c0, e, b2, Bool.and_false]
      · have b : inB g.nl f.nl[i] = decide (g.nl[j] = f.nl[i]) := by
          unfold inB
          rw [e, Int.toNat_natCast, List.getElem?_eq_getElem hj]
          simp
        cases b1 : decide (g.nl[j] = f.nl[i]) with
        | true =>
          simp +contextual (maxSteps := 2000000) only [go_sem, Nat.reduceEqDiff, reduceCtorEq, Nat.reduceAdd, Nat.reduceLeDiff, t2, l2, t3, l3, t6, hf.nl.len, hf.nl.iaddr hi, hf.nl.fieldO hi, hf.nl.whole hi, lt_true hi, c0, e, hg.nl.iaddr hj, hg.nl.whole hj, eqP, b1]
          exact ⟨by rw [wrap_next hi (big_lt mf.2.1)], hp.next hi (by rw [b, b1])⟩
        | false =>
          have b2 : f.nl.all (inB g.nl) = false := List.all_eq_false.2 ⟨_, List.getElem_mem hi, by simp [b, b1]⟩
          simp +contextual (maxSteps := 2000000) only [go_sem, Nat.reduceEqDiff, reduceCtorEq, Nat.reduceAdd, Nat.reduceLeDiff, t2, l2, t3, l3, t6, hf.nl.len, hf.nl.iaddr hi, hf.nl.fieldO hi, hf.nl.whole hi, lt_true hi, c0, e, hg.nl.iaddr hj, hg.nl.whole hj, eqP, b1, b2, Bool.and_false]
    · rintro T L h2 ⟨rfl, t2, l2, t3, l3, t6, hp⟩
      simp +contextual (maxSteps := 2000000) only [go_sem, Nat.reduceEqDiff, reduceCtorEq, Nat.reduceAdd, Nat.reduceLeDiff, t2, l2, t3, l3, t6, hf.nl.len, lt_false, decide_eq_true e0, hp.all, Bool.and_self]
    · simp +contextual (maxSteps := 2000000) only [go_sem, Nat.reduceEqDiff, reduceCtorEq, Nat.reduceAdd, Nat.reduceLeDiff, t2, l2, t3, l3]
      exact ⟨rfl, Pre.zero⟩
  · simp +contextual (maxSteps := 2000000) only [go_sem, Nat.reduceEqDiff, reduceCtorEq, Nat.reduceAdd, Nat.reduceLeDiff]
    exact ⟨rfl, Alike.zero⟩
/-! spec.SameFlat -/
def L27_0 : List AStep := [⟨.mov (.c (.bool false)), (some 4), none, []⟩]
theorem v27_0 : VS L27_0.eq_1 := rfl
def L27_1 : List AStep := ⟨.box 27 (.t 0), (some 2), none, []⟩ :: ⟨.box 27 (.t 1), (some 3), none, []⟩ :: L27_0
theorem v27_1 : VS L27_1.eq_1 := rfl
def L27_2 : List AStep := [⟨.pick (.t 11) (.t 14) (.c (.bool false)), (some 15), none, []⟩, ⟨.mov (.t 15), (some 4), none, []⟩]
theorem v27_2 : VS L27_2.eq_1 := rfl
def L27_3 : List AStep := ⟨.load 2 true (.t 3), (some 13), (some (11, true)), []⟩ :: ⟨.call 77 [(.t 12), (.t 13)], (some 14), (some (11, true)), []⟩ :: L27_2
theorem v27_3 : VS L27_3.eq_1 := rfl
def L27_4 : List AStep := ⟨.mov (.t 10), (some 11), none, []⟩ :: ⟨.load 2 true (.t 2), (some 12), (some (11, true)), []⟩ :: L27_3
theorem v27_4 : VS L27_4.eq_1 := rfl
def L27_5 : List AStep := ⟨.call 58 [(.t 8)], (some 9), (some (7, true)), []⟩ :: ⟨.pick (.t 7) (.t 9) (.c (.bool false)), (some 10), none, []⟩ :: L27_4
theorem v27_5 : VS L27_5.eq_1 := rfl
def L27_6 : List AStep := ⟨.mov (.t 6), (some 7), none, []⟩ :: ⟨.load 2 true (.t 3), (some 8), (some (7, true)), []⟩ :: L27_5
theorem v27_6 : VS L27_6.eq_1 := rfl
def L27_7 : List AStep := ⟨.load 2 true (.t 2), (some 5), none, []⟩ :: ⟨.call 58 [(.t 5)], (some 6), none, []⟩ :: L27_6
theorem v27_7 : VS L27_7.eq_1 := rfl
def C27_0 : ACode := .seq (.reg L27_7) .ret
theorem u27_0 : VC C27_0.eq_1 := rfl
def C27_1 : ACode := .seq (.reg L27_1) C27_0
theorem u27_1 : VC C27_1.eq_1 := rfl
def F27 : AFunc := ⟨16, [.tmp 4], C27_1⟩
theorem cF27 : compB Try.prog 27 = some F27 := by kernel_rfl
attribute [local go_sem ↓] u27_0 u27_1 v27_0 v27_1 v27_2 v27_3 v27_4 v27_5 v27_6 v27_7
theorem k_sSameFlat (f g : Flat) (p n p' n' : CV) (h : H) (hf : SlF h p n f) (hg : SlF h p' n' g) (mf : miniF f) (mg : miniF g) : bm Try.prog 27 [.agg [p, n], .agg [p', n']] h = some (ib (sameF f g), h) := by
  refine bm_eq cF27 ?_
  rw [sameF_eq]
  cases b1 : okFlat f with
  | false => simp +contextual (maxSteps := 2000000) only [go_sem, Nat.reduceEqDiff, reduceCtorEq, Nat.reduceAdd, Nat.reduceLeDiff, F27, c_validFlat _ _ _ _ hf.pl hf.nl mf.sm, b1, Bool.false_and]
  | true =>
  cases b2 : okFlat g with
  | false => simp +contextual (maxSteps := 2000000) only [go_sem, Nat.reduceEqDiff, reduceCtorEq, Nat.reduceAdd, Nat.reduceLeDiff, F27, c_validFlat _ _ _ _ hf.pl hf.nl mf.sm, b1, c_validFlat _ _ _ _ hg.pl hg.nl mg.sm, b2, Bool.false_and, Bool.true_and]
  | true => simp +contextual (maxSteps := 2000000) only [go_sem, Nat.reduceEqDiff, reduceCtorEq, Nat.reduceAdd, Nat.reduceLeDiff, F27, c_validFlat _ _ _ _ hf.pl hf.nl mf.sm, b1, c_validFlat _ _ _ _ hg.pl hg.nl mg.sm, b2, c_sameFlat _ _ _ _ _ _ _ hf hg mf.sm mg.sm, Bool.true_and]
/-! impl.SameFlat -/
def L25_0 : List AStep := [⟨.mov (.c (.bool false)), (some 4), none, []⟩]
theorem v25_0 : VS L25_0.eq_1 := rfl
def L25_1 : List AStep := ⟨.box 27 (.t 0), (some 2), none, []⟩ :: ⟨.box 27 (.t 1), (some 3), none, []⟩ :: L25_0
theorem v25_1 : VS L25_1.eq_1 := rfl
def L25_2 : List AStep := [⟨.mov (.t 26), (some 4), none, []⟩]
theorem v25_2 : VS L25_2.eq_1 := rfl
def L25_3 : List AStep := ⟨.call 75 [(.t 21), (.t 24)], (some 25), (some (18, true)), []⟩ :: ⟨.pick (.t 18) (.t 25) (.c (.bool false)), (some 26), none, []⟩ :: L25_2
theorem v25_3 : VS L25_3.eq_1 := rfl
def L25_4 : List AStep := ⟨.call 72 [(.t 20)], (some 21), (some (18, true)), [(.load 1 false (.t 22), (some 23), (some (18, true)))]⟩ :: ⟨.call 72 [(.t 23)], (some 24), (some (18, true)), []⟩ :: L25_3
theorem v25_4 : VS L25_4.eq_1 := rfl
def L25_5 : List AStep := ⟨.faddr 1 (.t 3), (some 22), (some (18, true)), []⟩ :: ⟨.load 1 false (.t 22), (some 23), (some (18, true)), []⟩ :: L25_4
theorem v25_5 : VS L25_5.eq_1 := rfl
def L25_6 : List AStep := ⟨.faddr 1 (.t 2), (some 19), (some (18, true)), []⟩ :: ⟨.load 1 false (.t 19), (some 20), (some (18, true)), []⟩ :: L25_5
theorem v25_6 : VS L25_6.eq_1 := rfl
def L25_7 : List AStep := ⟨.pick (.t 11) (.t 16) (.c (.bool false)), (some 17), none, []⟩ :: ⟨.mov (.t 17), (some 18), none, []⟩ :: L25_6
theorem v25_7 : VS L25_7.eq_1 := rfl
def L25_8 : List AStep := ⟨.load 1 false (.t 14), (some 15), (some (11, true)), []⟩ :: ⟨.call 74 [(.t 13), (.t 15)], (some 16), (some (11, true)), []⟩ :: L25_7
theorem v25_8 : VS L25_8.eq_1 := rfl
def L25_9 : List AStep := ⟨.load 1 false (.t 12), (some 13), (some (11, true)), []⟩ :: ⟨.faddr 0 (.t 3), (some 14), (some (11, true)), []⟩ :: L25_8
theorem v25_9 : VS L25_9.eq_1 := rfl
def L25_10 : List AStep := ⟨.mov (.t 10), (some 11), none, []⟩ :: ⟨.faddr 0 (.t 2), (some 12), (some (11, true)), []⟩ :: L25_9
theorem v25_10 : VS L25_10.eq_1 := rfl
def L25_11 : List AStep := ⟨.call 17 [(.t 8)], (some 9), (some (7, true)), []⟩ :: ⟨.pick (.t 7) (.t 9) (.c (.bool false)), (some 10), none, []⟩ :: L25_10
theorem v25_11 : VS L25_11.eq_1 := rfl
def L25_12 : List AStep := ⟨.mov (.t 6), (some 7), none, []⟩ :: ⟨.load 2 true (.t 3), (some 8), (some (7, true)), []⟩ :: L25_11
theorem v25_12 : VS L25_12.eq_1 := rfl
def L25_13 : List AStep := ⟨.load 2 true (.t 2), (some 5), none, []⟩ :: ⟨.call 17 [(.t 5)], (some 6), none, []⟩ :: L25_12
theorem v25_13 : VS L25_13.eq_1 := rfl
def C25_0 : ACode := .seq (.reg L25_13) .ret
theorem u25_0 : VC C25_0.eq_1 := rfl
def C25_1 : ACode := .seq (.reg L25_1) C25_0
theorem u25_1 : VC C25_1.eq_1 := rfl
def F25 : AFunc := ⟨27, [.tmp 4], C25_1⟩
theorem cF25 : compB Try.prog 25 = some F25 := by kernel_rfl
attribute [local go_sem ↓] u25_0 u25_1 v25_0 v25_1 v25_2 v25_3 v25_4 v25_5 v25_6 v25_7 v25_8 v25_9 v25_10 v25_11 v25_12 v25_13
theorem k_iSameFlat (f g : Flat) (p n p' n' : CV) (h : H) (hf : SlF h p n f) (hg : SlF h p' n' g) (mf : miniF f) (mg : miniF g) : bm Try.prog 25 [.agg [p, n], .agg [p', n']] h = some (ib (sameF f g), h) := by
  refine bm_eq cF25 ?_
  unfold sameF
  cases b1 : okFlat f with
  | false => simp +contextual (maxSteps := 2000000) only [go_sem, Nat.reduceEqDiff, reduceCtorEq, Nat.reduceAdd, Nat.reduceLeDiff, F25, c_ValidFlat _ _ _ _ hf.pl hf.nl mf.sm, b1, Bool.false_and]
  | true =>
  cases b2 : okFlat g with
  | false => simp +contextual (maxSteps := 2000000) only [go_sem, Nat.reduceEqDiff, reduceCtorEq, Nat.reduceAdd, Nat.reduceLeDiff, F25, c_ValidFlat _ _ _ _ hf.pl hf.nl mf.sm, b1, c_ValidFlat _ _ _ _ hg.pl hg.nl mg.sm, b2, Bool.false_and, Bool.true_and]
  | true =>
  have k1 := (okFlat_sm b1).2.1
  have k2 := (okFlat_sm b2).2.1
  have e0 := c_equalI f.pl g.pl (.one p) (.one p') h hf.pl hg.pl mf.sm.pl
  cases b3 : decide (f.pl = g.pl) with
  | false => simp +contextual (maxSteps := 2000000) only [go_sem, Nat.reduceEqDiff, reduceCtorEq, Nat.reduceAdd, Nat.reduceLeDiff, F25, c_ValidFlat _ _ _ _ hf.pl hf.nl mf.sm, b1, c_ValidFlat _ _ _ _ hg.pl hg.nl mg.sm, b2, e0, b3, Bool.true_and, Bool.false_and]
  | true =>
  simp +contextual (maxSteps := 2000000) only [go_sem, Nat.reduceEqDiff, reduceCtorEq, Nat.reduceAdd, Nat.reduceLeDiff, F25, c_ValidFlat _ _ _ _ hf.pl hf.nl mf.sm, b1, c_ValidFlat _ _ _ _ hg.pl hg.nl mg.sm, b2, e0, b3, Bool.true_and]
  refine wp_call (k_byName f.nl (.one n) h hf.nl (by omega)) ?_
  rintro r1 h1 ⟨g1, n1⟩
  simp +contextual (maxSteps := 2000000) only [go_sem, Nat.reduceEqDiff, reduceCtorEq, Nat.reduceAdd, Nat.reduceLeDiff]
  refine wp_call (k_byName g.nl (.one n') h1 (hg.nl.grow g1) (by omega)) ?_
  rintro r2 h2 ⟨g2, n2⟩
  have e1 := c_equalP (isort ltP f.nl) (isort ltP g.nl) r1 r2 h2 ((n1.sl lenP).grow g2) (n2.sl lenP) (by rw [isort_len]; exact Nat.le_trans k1 (by decide))
  simp +contextual (maxSteps := 2000000) only [go_sem, Nat.reduceEqDiff, reduceCtorEq, Nat.reduceAdd, Nat.reduceLeDiff, e1]
  exact gcR_of (g1.trans g2) rfl ⟨rfl, rfl⟩
end Go.Proofs.Ytekkimfdcbgcoaa.Am
