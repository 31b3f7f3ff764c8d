/- Contracts: the counts of values by place that a signature takes, of both sides. -/
import Derived.Test.YtdalgphpacikkacA2
import Derived.Test.YtdalgphpacikkacA4
import Derived.Test.YtdalgphpacikkacHS
import Derived.Test.YtdalgphpacikkacSE
namespace Go.Proofs.Ytdalgphpacikkac.Am
open Go
set_option maxRecDepth 100000
set_option maxHeartbeats 4000000
set_option linter.unusedSimpArgs false
set_option linter.unusedVariables false
attribute [local go_sem ↓] bv_t bv_c ev_t ev_c put_same put_ne put_none kill_at pro_at lb_same lb_ne start_zero start_succ wpC_seq wpC_reg wpC_cond wpC_block wpC_skip wpC_exit wpC_ret thenQ_normal thenQ_exit thenQ_ret inBlk_normal inBlk_exit inBlk_ret wpS_nil wpS_step wpS_again wpS_guard wpO_mov wpO_load wpO_faddr wpO_nilCheck wpO_pick wpO_build wpO_bin wpO_eqb wpO_eqst wpO_eqnil wpO_not wpO_conv wpO_bytesStr wpO_iaddr wpO_idxStr wpO_field wpO_extract wpO_len wpO_lenStr wpO_cap wpO_min wpO_slice wpO_sliceStr wpO_alloc wpO_box wpO_store wpO_call wpO_callv wpO_mkfn wpO_buildSlice wpO_mkslice wpO_append wpO_appz proA_nil proA_cons tmpX_nil tmpX_tmp tmpX_cell doneB_normal doneB_ret agK_cons agK_nil agK_guard agG_tt agG_ff agG_tf agG_ft agG_undef pureB_load results_one results_two results_nil resBs_cons resBs_nil resB_tmp resB_cell
attribute [local go_sem] kill_v kill_lp_ne kill_lp_same pro_v pro_lp_same pro_lp_ne av_v av_lp optB_some optX_some valX_eq ldX_lp ldX_v faX_lp faX_v ncX_lp ncX_ptr ncX_fn boxK_one boxK_agg stL_some stK_lp_one stK_lp_agg stK_v_one stK_v_agg proM_v proM_lp callG_mk callVG_mk callvK_fn fnG_mk ptrsA_nil ptrsA_cons callH_some whenA_true whenA_false guardH_tt guardH_ff guardH_tf guardH_ft guardH_undef agV_one agV_agg lenO_sl lenStrO_str notO_bool pickO_bool convO_int eqbO_bool eqnilO_sl extractO_tup capO_sl minO_int loadL_one loadL_all storeL_eq fillA_nil fillA_one fillA_agg nat_ge neg_ge nat_lt neg_lt buildO bin_add bin_sub bin_mul bin_eql bin_neq bin_lss bin_leq bin_gtr bin_geq str_eql str_neq str_lss str_leq str_gtr str_geq retK_some endK_mk gcK_same gcK_int gcK_bool tupO_one tupO_agg rdy_self ib ii Option.map_none Option.map_some Option.some.injEq exists_eq_left' exists_eq_left ne_eq not_false_eq_true if_true if_false List.map_cons List.map_nil List.getElem?_cons_zero List.getElem?_cons_succ List.length_cons List.length_nil List.take_succ_cons List.take_zero List.take_nil List.drop_succ_cons List.drop_zero List.drop_nil List.cons_append List.nil_append List.append_nil List.set_cons_zero List.set_cons_succ Nat.zero_add forall_const true_and and_true and_self Bool.false_eq_true false_implies true_implies implies_true Bool.not_true Bool.not_false Bool.not_eq_true' Bool.not_eq_false' beq_self_eq_true Bool.bne_true Bool.bne_false
attribute [local go_sem] lenI lenS lenP lenQ lenB lenL lenT encI_0 encS_0 encP_0 encP_1 encQ_0 encQ_1 encQ_2 encQ_3 encB_0 encB_1 encL_0 encL_1 encT_0 encT_1
attribute [local go_sem low] whenA_bool guardH_bool
/-- No parameter that must be by place comes behind the m-th value. -/
def lateAt (l : List Param) (m i : Nat) : Bool := match l[i]? with | some p => decide (i < m) || !(decide (p.kind = 0) && !p.has) | none => true
def lateOk (l : List Param) (m : Nat) : Bool := (List.range l.length).all (lateAt l m)
theorem lateAt_eq {l : List Param} {m i : Nat} (hi : i < l.length) : lateAt l m i = (decide (i < m) || !(decide (l[i].kind = 0) && !l[i].has)) := by
  unfold lateAt
  rw [List.getElem?_eq_getElem hi]
theorem lateOk_not {l : List Param} {m i : Nat} (hi : i < l.length) (h : lateAt l m i = false) : lateOk l m = false := List.all_eq_false.2 ⟨i, List.mem_range.2 hi, by simp [h]⟩
theorem lateOk_of {l : List Param} {m i : Nat} (hi : l.length ≤ i) (h : Upto (lateAt l m) i) : lateOk l m = true := List.all_eq_true.2 fun j hj => h.out j (by have := List.mem_range.1 hj; omega)
theorem late_first {l : List Param} {m : Nat} : Upto (lateAt l m) m := ⟨fun j hj => by
  unfold lateAt
  split
  · rw [decide_eq_true hj]; rfl
  · rfl⟩
def manyC (l : List Param) (n : Int) : Bool := decide (n > (l.countP byPlace : Int)) && decide (kindAt l 2 < 0)
def inC (n : Int) : Bool := decide (0 ≤ n) && decide (n ≤ 8)
def takesC (l : List Param) (n : Int) : Bool := okSig l && (inC n && (!manyC l n && lateOk l n.toNat))
/-! spec.takesCount -/
def L125_0 : List AStep := [⟨.box 69 (.t 0), (some 2), none, []⟩, ⟨.mov (.c (.bool false)), (some 4), none, []⟩]
theorem v125_0 : VS L125_0.eq_1 := rfl
def L125_1 : List AStep := [⟨.bin .lss (.t 13) (.c (.int .i64 0)), (some 14), (some (10, true)), []⟩, ⟨.pick (.t 10) (.t 14) (.c (.bool false)), (some 15), none, []⟩]
theorem v125_1 : VS L125_1.eq_1 := rfl
def L125_2 : List AStep := ⟨.load 1 false (.t 11), (some 12), (some (10, true)), []⟩ :: ⟨.call 155 [(.t 12), (.c (.int .i64 2))], (some 13), (some (10, true)), []⟩ :: L125_1
theorem v125_2 : VS L125_2.eq_1 := rfl
def L125_3 : List AStep := ⟨.mov (.t 9), (some 10), none, []⟩ :: ⟨.faddr 0 (.t 2), (some 11), (some (10, true)), []⟩ :: L125_2
theorem v125_3 : VS L125_3.eq_1 := rfl
def L125_4 : List AStep := ⟨.call 154 [(.t 7)], (some 8), none, []⟩ :: ⟨.bin .gtr (.t 6) (.t 8), (some 9), none, []⟩ :: L125_3
theorem v125_4 : VS L125_4.eq_1 := rfl
def L125_5 : List AStep := ⟨.mov (.t 1), (some 6), none, []⟩ :: ⟨.load 1 true (.t 2), (some 7), none, []⟩ :: L125_4
theorem v125_5 : VS L125_5.eq_1 := rfl
def L125_6 : List AStep := [⟨.mov (.c (.bool false)), (some 4), none, []⟩]
theorem v125_6 : VS L125_6.eq_1 := rfl
def L125_7 : List AStep := [⟨.mov (.t 1), (some 16), none, []⟩, ⟨.mov (.t 16), (some 5), none, []⟩]
theorem v125_7 : VS L125_7.eq_1 := rfl
def L125_8 : List AStep := [⟨.bin .lss (.t 17) (.t 20), (some 21), none, []⟩]
theorem v125_8 : VS L125_8.eq_1 := rfl
def L125_9 : List AStep := ⟨.load 1 false (.t 18), (some 19), none, []⟩ :: ⟨.len (.t 19), (some 20), none, []⟩ :: L125_8
theorem v125_9 : VS L125_9.eq_1 := rfl
def L125_10 : List AStep := ⟨.mov (.t 5), (some 17), none, []⟩ :: ⟨.faddr 0 (.t 2), (some 18), none, []⟩ :: L125_9
theorem v125_10 : VS L125_10.eq_1 := rfl
def L125_11 : List AStep := [⟨.not (.t 37), (some 38), (some (31, true)), []⟩, ⟨.pick (.t 31) (.t 38) (.c (.bool false)), (some 39), none, []⟩]
theorem v125_11 : VS L125_11.eq_1 := rfl
def L125_12 : List AStep := ⟨.faddr 2 (.t 35), (some 36), (some (31, true)), []⟩ :: ⟨.load 1 false (.t 36), (some 37), (some (31, true)), []⟩ :: L125_11
theorem v125_12 : VS L125_12.eq_1 := rfl
def L125_13 : List AStep := ⟨.mov (.t 5), (some 34), (some (31, true)), []⟩ :: ⟨.iaddr 4 (.t 33) (.t 34), (some 35), (some (31, true)), []⟩ :: L125_12
theorem v125_13 : VS L125_13.eq_1 := rfl
def L125_14 : List AStep := ⟨.faddr 0 (.t 2), (some 32), (some (31, true)), []⟩ :: ⟨.load 1 false (.t 32), (some 33), (some (31, true)), []⟩ :: L125_13
theorem v125_14 : VS L125_14.eq_1 := rfl
def L125_15 : List AStep := ⟨.bin .eql (.t 29) (.c (.int .i64 0)), (some 30), none, []⟩ :: ⟨.mov (.t 30), (some 31), none, []⟩ :: L125_14
theorem v125_15 : VS L125_15.eq_1 := rfl
def L125_16 : List AStep := ⟨.faddr 1 (.t 27), (some 28), none, []⟩ :: ⟨.load 1 false (.t 28), (some 29), none, []⟩ :: L125_15
theorem v125_16 : VS L125_16.eq_1 := rfl
def L125_17 : List AStep := ⟨.mov (.t 5), (some 26), none, []⟩ :: ⟨.iaddr 4 (.t 25) (.t 26), (some 27), none, []⟩ :: L125_16
theorem v125_17 : VS L125_17.eq_1 := rfl
def L125_18 : List AStep := ⟨.faddr 0 (.t 2), (some 24), none, []⟩ :: ⟨.load 1 false (.t 24), (some 25), none, []⟩ :: L125_17
theorem v125_18 : VS L125_18.eq_1 := rfl
def L125_19 : List AStep := [⟨.mov (.c (.bool false)), (some 4), none, []⟩]
theorem v125_19 : VS L125_19.eq_1 := rfl
def L125_20 : List AStep := [⟨.mov (.t 23), (some 5), none, []⟩]
theorem v125_20 : VS L125_20.eq_1 := rfl
def L125_21 : List AStep := ⟨.mov (.t 5), (some 22), none, []⟩ :: ⟨.bin .add (.t 22) (.c (.int .i64 1)), (some 23), none, []⟩ :: L125_20
theorem v125_21 : VS L125_21.eq_1 := rfl
def L125_22 : List AStep := [⟨.mov (.c (.bool true)), (some 4), none, []⟩]
theorem v125_22 : VS L125_22.eq_1 := rfl
def C125_0 : ACode := .seq (.reg L125_6) .ret
theorem u125_0 : VC C125_0.eq_1 := rfl
def C125_1 : ACode := .cond (.t 15) C125_0 .skip
theorem u125_1 : VC C125_1.eq_1 := rfl
def C125_2 : ACode := .seq (.reg L125_5) C125_1
theorem u125_2 : VC C125_2.eq_1 := rfl
def C125_3 : ACode := .cond (.t 21) .skip (.exit 0)
theorem u125_3 : VC C125_3.eq_1 := rfl
def C125_4 : ACode := .seq (.reg L125_10) C125_3
theorem u125_4 : VC C125_4.eq_1 := rfl
def C125_5 : ACode := .seq (.reg L125_19) .ret
theorem u125_5 : VC C125_5.eq_1 := rfl
def C125_6 : ACode := .cond (.t 39) C125_5 .skip
theorem u125_6 : VC C125_6.eq_1 := rfl
def C125_7 : ACode := .seq (.reg L125_18) C125_6
theorem u125_7 : VC C125_7.eq_1 := rfl
def C125_8 : ACode := .block 1 C125_7
theorem u125_8 : VC C125_8.eq_1 := rfl
def C125_9 : ACode := .seq C125_8 (.reg L125_21)
theorem u125_9 : VC C125_9.eq_1 := rfl
def C125_10 : ACode := .seq C125_4 C125_9
theorem u125_10 : VC C125_10.eq_1 := rfl
def C125_11 : ACode := .block 0 (.loop C125_10)
theorem u125_11 : VC C125_11.eq_1 := rfl
def C125_12 : ACode := .seq (.reg L125_7) C125_11
theorem u125_12 : VC C125_12.eq_1 := rfl
def C125_13 : ACode := .seq (.reg L125_22) .ret
theorem u125_13 : VC C125_13.eq_1 := rfl
def C125_14 : ACode := .seq C125_12 C125_13
theorem u125_14 : VC C125_14.eq_1 := rfl
def C125_15 : ACode := .seq C125_2 C125_14
theorem u125_15 : VC C125_15.eq_1 := rfl
def C125_16 : ACode := .seq (.reg L125_0) C125_15
theorem u125_16 : VC C125_16.eq_1 := rfl
def F125 : AFunc := ⟨40, [.tmp 4], C125_16⟩
theorem cF125 : compB Try.prog 125 = some F125 := by kernel_rfl
attribute [local go_sem ↓] u125_0 u125_1 u125_2 u125_3 u125_4 u125_5 u125_6 u125_7 u125_8 u125_9 u125_10 u125_11 u125_12 u125_13 u125_14 u125_15 u125_16 v125_0 v125_1 v125_2 v125_3 v125_4 v125_5 v125_6 v125_7 v125_8 v125_9 v125_10 v125_11 v125_12 v125_13 v125_14 v125_15 v125_16 v125_17 v125_18 v125_19 v125_20 v125_21 v125_22
theorem c_takesCount (l : List Param) (q : CV) (m : Nat) (h : H) (hl : SlQ h (.one q) l) (hn : smQ l) (hm : m ≤ 8) : bm Try.prog 125 [.agg [q], .one (.int .i64 m)] h = some (ib (!manyC l m && lateOk l m), h) := by
  refine bm_eq cF125 ?_
  have e0 : manyC l m = (decide ((m : Int) > (l.countP byPlace : Int)) && decide (kindAt l 2 < 0)) := rfl
  cases b0 : decide ((m : Int) > (l.countP byPlace : Int)) && decide (kindAt l 2 < 0) with
  | true =>
    rw [e0, b0]
    rw [Bool.and_eq_true] at b0
    simp +contextual (maxSteps := 2000000) only [go_sem, Nat.reduceEqDiff, reduceCtorEq, Nat.reduceAdd, Nat.reduceLeDiff, F125, c_placeCount _ _ _ hl hn, c_kindAt _ _ _ _ hl hn, b0.1, b0.2, Bool.false_and]
  | false =>
  rw [e0, b0]
  have go : ∀ (T : Tb) (L : Lb) (Q : ACode) , True := fun _ _ _ => trivial
  cases b1 : decide ((m : Int) > (l.countP byPlace : Int)) with
  | true =>
    have b2 : decide (kindAt l 2 < 0) = false := by rw [b1] at b0; simpa using b0
    simp +contextual (maxSteps := 2000000) only [go_sem, Nat.reduceEqDiff, reduceCtorEq, Nat.reduceAdd, Nat.reduceLeDiff, F125, c_placeCount _ _ _ hl hn, c_kindAt _ _ _ _ hl hn, b1, b2, Bool.true_and]
    refine wpC_loop (fun i T L h' => h' = h ∧ m ≤ i ∧ T 2 = .lp 2 0 ∧ (L 2).2 = [q] ∧ T 5 = .v (.one (.int .i64 i)) ∧ Upto (lateAt l m) i) (max m l.length) ?_ ?_ (Nat.le_max_left m l.length) ?_
    · rintro i T L h' hi ⟨rfl, hmi, t2, l2, t5, hu⟩
      have hi : i < l.length := by omega
      have el := lateAt_eq (m := m) hi
      rw [decide_eq_false (show ¬ i < m by omega), Bool.false_or] at el
      cases b5 : decide (l[i].kind = 0) with
      | false =>
        rw [b5, Bool.false_and] at el
        simp +contextual (maxSteps := 2000000) only [go_sem, Nat.reduceEqDiff, reduceCtorEq, Nat.reduceAdd, Nat.reduceLeDiff, t2, l2, t5, hl.len, hl.iaddr hi, hl.fieldO hi, lt_true hi, b5]
        exact ⟨by omega, by rw [wrap_next hi hn.len], hu.next el⟩
      | true =>
      cases b6 : l[i].has with
      | true =>
        rw [b5, b6, Bool.not_true, Bool.and_false] at el
        simp +contextual (maxSteps := 2000000) only [go_sem, Nat.reduceEqDiff, reduceCtorEq, Nat.reduceAdd, Nat.reduceLeDiff, t2, l2, t5, hl.len, hl.iaddr hi, hl.fieldO hi, lt_true hi, b5, b6]
        exact ⟨by omega, by rw [wrap_next hi hn.len], hu.next el⟩
      | false =>
        rw [b5, b6, Bool.not_false, Bool.and_true, Bool.not_true] at el
        simp +contextual (maxSteps := 2000000) only [go_sem, Nat.reduceEqDiff, reduceCtorEq, Nat.reduceAdd, Nat.reduceLeDiff, t2, l2, t5, hl.len, hl.iaddr hi, hl.fieldO hi, lt_true hi, b5, b6, lateOk_not hi el, Bool.and_false]
    · rintro T L h' ⟨rfl, hmi, t2, l2, t5, hu⟩
      have e9 : decide (((max m l.length : Nat) : Int) < (l.length : Int)) = false := decide_eq_false (by omega)
      simp +contextual (maxSteps := 2000000) only [go_sem, Nat.reduceEqDiff, reduceCtorEq, Nat.reduceAdd, Nat.reduceLeDiff, t2, l2, t5, hl.len, e9, lateOk_of (Nat.le_max_right m l.length) hu, Bool.not_false, Bool.and_self]
    · simp +contextual (maxSteps := 2000000) only [go_sem, Nat.reduceEqDiff, reduceCtorEq, Nat.reduceAdd, Nat.reduceLeDiff]
      exact ⟨Nat.le_refl m, late_first⟩
  | false =>
    simp +contextual (maxSteps := 2000000) only [go_sem, Nat.reduceEqDiff, reduceCtorEq, Nat.reduceAdd, Nat.reduceLeDiff, F125, c_placeCount _ _ _ hl hn, c_kindAt _ _ _ _ hl hn, b1, Bool.true_and]
    refine wpC_loop (fun i T L h' => h' = h ∧ m ≤ i ∧ T 2 = .lp 2 0 ∧ (L 2).2 = [q] ∧ T 5 = .v (.one (.int .i64 i)) ∧ Upto (lateAt l m) i) (max m l.length) ?_ ?_ (Nat.le_max_left m l.length) ?_
    · rintro i T L h' hi ⟨rfl, hmi, t2, l2, t5, hu⟩
      have hi : i < l.length := by omega
      have el := lateAt_eq (m := m) hi
      rw [decide_eq_false (show ¬ i < m by omega), Bool.false_or] at el
      cases b5 : decide (l[i].kind = 0) with
      | false =>
        rw [b5, Bool.false_and] at el
        simp +contextual (maxSteps := 2000000) only [go_sem, Nat.reduceEqDiff, reduceCtorEq, Nat.reduceAdd, Nat.reduceLeDiff, t2, l2, t5, hl.len, hl.iaddr hi, hl.fieldO hi, lt_true hi, b5]
        exact ⟨by omega, by rw [wrap_next hi hn.len], hu.next el⟩
      | true =>
      cases b6 : l[i].has with
      | true =>
        rw [b5, b6, Bool.not_true, Bool.and_false] at el
        simp +contextual (maxSteps := 2000000) only [go_sem, Nat.reduceEqDiff, reduceCtorEq, Nat.reduceAdd, Nat.reduceLeDiff, t2, l2, t5, hl.len, hl.iaddr hi, hl.fieldO hi, lt_true hi, b5, b6]
        exact ⟨by omega, by rw [wrap_next hi hn.len], hu.next el⟩
      | false =>
        rw [b5, b6, Bool.not_false, Bool.and_true, Bool.not_true] at el
        simp +contextual (maxSteps := 2000000) only [go_sem, Nat.reduceEqDiff, reduceCtorEq, Nat.reduceAdd, Nat.reduceLeDiff, t2, l2, t5, hl.len, hl.iaddr hi, hl.fieldO hi, lt_true hi, b5, b6, lateOk_not hi el, Bool.and_false]
    · rintro T L h' ⟨rfl, hmi, t2, l2, t5, hu⟩
      have e9 : decide (((max m l.length : Nat) : Int) < (l.length : Int)) = false := decide_eq_false (by omega)
      simp +contextual (maxSteps := 2000000) only [go_sem, Nat.reduceEqDiff, reduceCtorEq, Nat.reduceAdd, Nat.reduceLeDiff, t2, l2, t5, hl.len, e9, lateOk_of (Nat.le_max_right m l.length) hu, Bool.not_false, Bool.and_self]
    · simp +contextual (maxSteps := 2000000) only [go_sem, Nat.reduceEqDiff, reduceCtorEq, Nat.reduceAdd, Nat.reduceLeDiff]
      exact ⟨Nat.le_refl m, late_first⟩
/-! spec.goodCount -/
def L84_0 : List AStep := [⟨.box 69 (.t 0), (some 2), none, []⟩, ⟨.mov (.c (.bool false)), (some 4), none, []⟩]
theorem v84_0 : VS L84_0.eq_1 := rfl
def L84_1 : List AStep := [⟨.pick (.t 11) (.t 14) (.c (.bool false)), (some 15), none, []⟩, ⟨.mov (.t 15), (some 4), none, []⟩]
theorem v84_1 : VS L84_1.eq_1 := rfl
def L84_2 : List AStep := ⟨.mov (.t 1), (some 13), (some (11, true)), []⟩ :: ⟨.call 125 [(.t 12), (.t 13)], (some 14), (some (11, true)), []⟩ :: L84_1
theorem v84_2 : VS L84_2.eq_1 := rfl
def L84_3 : List AStep := ⟨.mov (.t 10), (some 11), none, []⟩ :: ⟨.load 1 true (.t 2), (some 12), (some (11, true)), []⟩ :: L84_2
theorem v84_3 : VS L84_3.eq_1 := rfl
def L84_4 : List AStep := ⟨.call 115 [(.t 8), (.c (.int .i64 0)), (.c (.int .i64 8))], (some 9), (some (7, true)), []⟩ :: ⟨.pick (.t 7) (.t 9) (.c (.bool false)), (some 10), none, []⟩ :: L84_3
theorem v84_4 : VS L84_4.eq_1 := rfl
def L84_5 : List AStep := ⟨.mov (.t 6), (some 7), none, []⟩ :: ⟨.mov (.t 1), (some 8), (some (7, true)), []⟩ :: L84_4
theorem v84_5 : VS L84_5.eq_1 := rfl
def L84_6 : List AStep := ⟨.load 1 true (.t 2), (some 5), none, []⟩ :: ⟨.call 69 [(.t 5)], (some 6), none, []⟩ :: L84_5
theorem v84_6 : VS L84_6.eq_1 := rfl
def C84_0 : ACode := .seq (.reg L84_6) .ret
theorem u84_0 : VC C84_0.eq_1 := rfl
def C84_1 : ACode := .seq (.reg L84_0) C84_0
theorem u84_1 : VC C84_1.eq_1 := rfl
def F84 : AFunc := ⟨16, [.tmp 4], C84_1⟩
theorem cF84 : compB Try.prog 84 = some F84 := by kernel_rfl
attribute [local go_sem ↓] u84_0 u84_1 v84_0 v84_1 v84_2 v84_3 v84_4 v84_5 v84_6
theorem c_goodCount (l : List Param) (q : CV) (n : Int) (h : H) (hl : SlQ h (.one q) l) (hn : miniG l) : bm Try.prog 84 [.agg [q], .one (.int .i64 n)] h = some (ib (takesC l n), h) := by
  refine bm_eq cF84 ?_
  unfold takesC inC
  cases b1 : okSig l with
  | false => simp +contextual (maxSteps := 2000000) only [go_sem, Nat.reduceEqDiff, reduceCtorEq, Nat.reduceAdd, Nat.reduceLeDiff, F84, c_validSignature _ _ _ hl hn.sm, b1, Bool.false_and]
  | true =>
  cases b2 : decide (0 ≤ n) && decide (n ≤ 8) with
  | false => simp +contextual (maxSteps := 2000000) only [go_sem, Nat.reduceEqDiff, reduceCtorEq, Nat.reduceAdd, Nat.reduceLeDiff, F84, c_validSignature _ _ _ hl hn.sm, b1, c_inRange, b2, Bool.false_and, Bool.true_and]
  | true =>
  have b3 : 0 ≤ n ∧ n ≤ 8 := by simpa using b2
  obtain ⟨m, rfl⟩ := Int.eq_ofNat_of_zero_le b3.1
  have e := c_takesCount l q m h hl hn.sm (by omega)
  rw [Int.toNat_natCast]
  have c1 : decide (0 ≤ (m : Int)) = true := decide_eq_true b3.1
  have c2 : decide ((m : Int) ≤ 8) = true := decide_eq_true b3.2
  simp +contextual (maxSteps := 2000000) only [go_sem, Nat.reduceEqDiff, reduceCtorEq, Nat.reduceAdd, Nat.reduceLeDiff, F84, c_validSignature _ _ _ hl hn.sm, b1, c_inRange, c1, c2, e, Bool.true_and]
/-! spec.TakesCount -/
def L35_0 : List AStep := [⟨.box 69 (.t 0), (some 2), none, []⟩, ⟨.mov (.c (.bool false)), (some 4), none, []⟩]
theorem v35_0 : VS L35_0.eq_1 := rfl
def L35_1 : List AStep := [⟨.call 84 [(.t 5), (.t 6)], (some 7), none, []⟩, ⟨.mov (.t 7), (some 4), none, []⟩]
theorem v35_1 : VS L35_1.eq_1 := rfl
def L35_2 : List AStep := ⟨.load 1 true (.t 2), (some 5), none, []⟩ :: ⟨.mov (.t 1), (some 6), none, []⟩ :: L35_1
theorem v35_2 : VS L35_2.eq_1 := rfl
def C35_0 : ACode := .seq (.reg L35_2) .ret
theorem u35_0 : VC C35_0.eq_1 := rfl
def C35_1 : ACode := .seq (.reg L35_0) C35_0
theorem u35_1 : VC C35_1.eq_1 := rfl
def F35 : AFunc := ⟨8, [.tmp 4], C35_1⟩
theorem cF35 : compB Try.prog 35 = some F35 := by kernel_rfl
attribute [local go_sem ↓] u35_0 u35_1 v35_0 v35_1 v35_2
theorem k_sTakesCount (l : List Param) (q : CV) (n : Int) (h : H) (hl : SlG h q l) (hn : miniG l) : bm Try.prog 35 [.agg [q], .one (.int .i64 n)] h = some (ib (takesC l n), h) := by
  refine bm_eq cF35 ?_
  simp +contextual (maxSteps := 2000000) only [go_sem, Nat.reduceEqDiff, reduceCtorEq, Nat.reduceAdd, Nat.reduceLeDiff, F35, c_goodCount _ _ _ _ hl.out hn]
/-! cmp.Less(string) -/
def L199_0 : List AStep := [⟨.mov (.c (.bool false)), (some 4), none, []⟩]
theorem v199_0 : VS L199_0.eq_1 := rfl
def L199_1 : List AStep := [⟨.mov (.t 16), (some 4), none, []⟩]
theorem v199_1 : VS L199_1.eq_1 := rfl
def L199_2 : List AStep := ⟨.bin .lss (.t 13) (.t 14), (some 15), (some (12, false)), []⟩ :: ⟨.pick (.t 12) (.c (.bool true)) (.t 15), (some 16), none, []⟩ :: L199_1
theorem v199_2 : VS L199_2.eq_1 := rfl
def L199_3 : List AStep := ⟨.mov (.t 0), (some 13), (some (12, false)), []⟩ :: ⟨.mov (.t 1), (some 14), (some (12, false)), []⟩ :: L199_2
theorem v199_3 : VS L199_3.eq_1 := rfl
def L199_4 : List AStep := ⟨.pick (.t 7) (.t 10) (.c (.bool false)), (some 11), none, []⟩ :: ⟨.mov (.t 11), (some 12), none, []⟩ :: L199_3
theorem v199_4 : VS L199_4.eq_1 := rfl
def L199_5 : List AStep := ⟨.call 153 [(.t 8)], (some 9), (some (7, true)), []⟩ :: ⟨.not (.t 9), (some 10), (some (7, true)), []⟩ :: L199_4
theorem v199_5 : VS L199_5.eq_1 := rfl
def L199_6 : List AStep := ⟨.mov (.t 6), (some 7), none, []⟩ :: ⟨.mov (.t 1), (some 8), (some (7, true)), []⟩ :: L199_5
theorem v199_6 : VS L199_6.eq_1 := rfl
def L199_7 : List AStep := ⟨.mov (.t 0), (some 5), none, []⟩ :: ⟨.call 153 [(.t 5)], (some 6), none, []⟩ :: L199_6
theorem v199_7 : VS L199_7.eq_1 := rfl
def C199_0 : ACode := .seq (.reg L199_7) .ret
theorem u199_0 : VC C199_0.eq_1 := rfl
def C199_1 : ACode := .seq (.reg L199_0) C199_0
theorem u199_1 : VC C199_1.eq_1 := rfl
def F199 : AFunc := ⟨17, [.tmp 4], C199_1⟩
theorem cF199 : compB Try.prog 199 = some F199 := by kernel_rfl
attribute [local go_sem ↓] u199_0 u199_1 v199_0 v199_1 v199_2 v199_3 v199_4 v199_5 v199_6 v199_7
theorem c_less (s t : ByteArray) (h : H) : bm Try.prog 199 [.one (.str s), .one (.str t)] h = some (ib (sLess s t), h) := by
  refine bm_eq cF199 ?_
  simp +contextual (maxSteps := 2000000) only [go_sem, Nat.reduceEqDiff, reduceCtorEq, Nat.reduceAdd, Nat.reduceLeDiff, F199, c_isNaN]
/-! slices.insertionSortOrdered(string) -/
def L193_0 : List AStep := [⟨.mov (.t 9), (some 6), none, []⟩]
theorem v193_0 : VS L193_0.eq_1 := rfl
def L193_1 : List AStep := ⟨.mov (.t 1), (some 8), none, []⟩ :: ⟨.bin .add (.t 8) (.c (.int .i64 1)), (some 9), none, []⟩ :: L193_0
theorem v193_1 : VS L193_1.eq_1 := rfl
def L193_2 : List AStep := [⟨.bin .lss (.t 10) (.t 11), (some 12), none, []⟩]
theorem v193_2 : VS L193_2.eq_1 := rfl
def L193_3 : List AStep := ⟨.mov (.t 6), (some 10), none, []⟩ :: ⟨.mov (.t 2), (some 11), none, []⟩ :: L193_2
theorem v193_3 : VS L193_3.eq_1 := rfl
def L193_4 : List AStep := [⟨.mov (.t 6), (some 15), none, []⟩, ⟨.mov (.t 15), (some 7), none, []⟩]
theorem v193_4 : VS L193_4.eq_1 := rfl
def L193_5 : List AStep := [⟨.pick (.t 19) (.t 29) (.c (.bool false)), (some 30), none, []⟩]
theorem v193_5 : VS L193_5.eq_1 := rfl
def L193_6 : List AStep := ⟨.load 1 false (.t 27), (some 28), (some (19, true)), []⟩ :: ⟨.call 199 [(.t 23), (.t 28)], (some 29), (some (19, true)), []⟩ :: L193_5
theorem v193_6 : VS L193_6.eq_1 := rfl
def L193_7 : List AStep := ⟨.bin .sub (.t 25) (.c (.int .i64 1)), (some 26), (some (19, true)), []⟩ :: ⟨.iaddr 1 (.t 24) (.t 26), (some 27), (some (19, true)), []⟩ :: L193_6
theorem v193_7 : VS L193_7.eq_1 := rfl
def L193_8 : List AStep := ⟨.mov (.t 0), (some 24), (some (19, true)), []⟩ :: ⟨.mov (.t 7), (some 25), (some (19, true)), []⟩ :: L193_7
theorem v193_8 : VS L193_8.eq_1 := rfl
def L193_9 : List AStep := ⟨.iaddr 1 (.t 20) (.t 21), (some 22), (some (19, true)), []⟩ :: ⟨.load 1 false (.t 22), (some 23), (some (19, true)), []⟩ :: L193_8
theorem v193_9 : VS L193_9.eq_1 := rfl
def L193_10 : List AStep := ⟨.mov (.t 0), (some 20), (some (19, true)), []⟩ :: ⟨.mov (.t 7), (some 21), (some (19, true)), []⟩ :: L193_9
theorem v193_10 : VS L193_10.eq_1 := rfl
def L193_11 : List AStep := ⟨.bin .gtr (.t 16) (.t 17), (some 18), none, []⟩ :: ⟨.mov (.t 18), (some 19), none, []⟩ :: L193_10
theorem v193_11 : VS L193_11.eq_1 := rfl
def L193_12 : List AStep := ⟨.mov (.t 7), (some 16), none, []⟩ :: ⟨.mov (.t 1), (some 17), none, []⟩ :: L193_11
theorem v193_12 : VS L193_12.eq_1 := rfl
def L193_13 : List AStep := [⟨.iaddr 1 (.t 35) (.t 37), (some 48), none, []⟩, ⟨.store 1 (.t 48) (.t 46), none, none, []⟩]
theorem v193_13 : VS L193_13.eq_1 := rfl
def L193_14 : List AStep := ⟨.iaddr 1 (.t 33) (.t 34), (some 47), none, []⟩ :: ⟨.store 1 (.t 47) (.t 42), none, none, []⟩ :: L193_13
theorem v193_14 : VS L193_14.eq_1 := rfl
def L193_15 : List AStep := ⟨.iaddr 1 (.t 43) (.t 44), (some 45), none, []⟩ :: ⟨.load 1 false (.t 45), (some 46), none, []⟩ :: L193_14
theorem v193_15 : VS L193_15.eq_1 := rfl
def L193_16 : List AStep := ⟨.mov (.t 0), (some 43), none, []⟩ :: ⟨.mov (.t 7), (some 44), none, []⟩ :: L193_15
theorem v193_16 : VS L193_16.eq_1 := rfl
def L193_17 : List AStep := ⟨.iaddr 1 (.t 38) (.t 40), (some 41), none, []⟩ :: ⟨.load 1 false (.t 41), (some 42), none, []⟩ :: L193_16
theorem v193_17 : VS L193_17.eq_1 := rfl
def L193_18 : List AStep := ⟨.mov (.t 7), (some 39), none, []⟩ :: ⟨.bin .sub (.t 39) (.c (.int .i64 1)), (some 40), none, []⟩ :: L193_17
theorem v193_18 : VS L193_18.eq_1 := rfl
def L193_19 : List AStep := ⟨.bin .sub (.t 36) (.c (.int .i64 1)), (some 37), none, []⟩ :: ⟨.mov (.t 0), (some 38), none, []⟩ :: L193_18
theorem v193_19 : VS L193_19.eq_1 := rfl
def L193_20 : List AStep := ⟨.mov (.t 0), (some 35), none, []⟩ :: ⟨.mov (.t 7), (some 36), none, []⟩ :: L193_19
theorem v193_20 : VS L193_20.eq_1 := rfl
def L193_21 : List AStep := ⟨.mov (.t 0), (some 33), none, []⟩ :: ⟨.mov (.t 7), (some 34), none, []⟩ :: L193_20
theorem v193_21 : VS L193_21.eq_1 := rfl
def L193_22 : List AStep := [⟨.mov (.t 32), (some 7), none, []⟩]
theorem v193_22 : VS L193_22.eq_1 := rfl
def L193_23 : List AStep := ⟨.mov (.t 7), (some 31), none, []⟩ :: ⟨.bin .sub (.t 31) (.c (.int .i64 1)), (some 32), none, []⟩ :: L193_22
theorem v193_23 : VS L193_23.eq_1 := rfl
def L193_24 : List AStep := [⟨.mov (.t 14), (some 6), none, []⟩]
theorem v193_24 : VS L193_24.eq_1 := rfl
def L193_25 : List AStep := ⟨.mov (.t 6), (some 13), none, []⟩ :: ⟨.bin .add (.t 13) (.c (.int .i64 1)), (some 14), none, []⟩ :: L193_24
theorem v193_25 : VS L193_25.eq_1 := rfl
def C193_0 : ACode := .cond (.t 12) .skip (.exit 0)
theorem u193_0 : VC C193_0.eq_1 := rfl
def C193_1 : ACode := .seq (.reg L193_3) C193_0
theorem u193_1 : VC C193_1.eq_1 := rfl
def C193_2 : ACode := .cond (.t 30) .skip (.exit 2)
theorem u193_2 : VC C193_2.eq_1 := rfl
def C193_3 : ACode := .seq (.reg L193_12) C193_2
theorem u193_3 : VC C193_3.eq_1 := rfl
def C193_4 : ACode := .block 3 (.reg L193_21)
theorem u193_4 : VC C193_4.eq_1 := rfl
def C193_5 : ACode := .seq C193_4 (.reg L193_23)
theorem u193_5 : VC C193_5.eq_1 := rfl
def C193_6 : ACode := .seq C193_3 C193_5
theorem u193_6 : VC C193_6.eq_1 := rfl
def C193_7 : ACode := .block 2 (.loop C193_6)
theorem u193_7 : VC C193_7.eq_1 := rfl
def C193_8 : ACode := .seq (.reg L193_4) C193_7
theorem u193_8 : VC C193_8.eq_1 := rfl
def C193_9 : ACode := .block 1 C193_8
theorem u193_9 : VC C193_9.eq_1 := rfl
def C193_10 : ACode := .seq C193_9 (.reg L193_25)
theorem u193_10 : VC C193_10.eq_1 := rfl
def C193_11 : ACode := .seq C193_1 C193_10
theorem u193_11 : VC C193_11.eq_1 := rfl
def C193_12 : ACode := .block 0 (.loop C193_11)
theorem u193_12 : VC C193_12.eq_1 := rfl
def C193_13 : ACode := .seq (.reg L193_1) C193_12
theorem u193_13 : VC C193_13.eq_1 := rfl
def F193 : AFunc := ⟨49, [], C193_13⟩
theorem cF193 : compB Try.prog 193 = some F193 := by kernel_rfl
attribute [local go_sem ↓] u193_0 u193_1 u193_2 u193_3 u193_4 u193_5 u193_6 u193_7 u193_8 u193_9 u193_10 u193_11 u193_12 u193_13 v193_0 v193_1 v193_2 v193_3 v193_4 v193_5 v193_6 v193_7 v193_8 v193_9 v193_10 v193_11 v193_12 v193_13 v193_14 v193_15 v193_16 v193_17 v193_18 v193_19 v193_20 v193_21 v193_22 v193_23 v193_24 v193_25
theorem c_insS (l : List ByteArray) (v : AV) (h0 h : H) (g0 : Grow h0 h) (n0 : NwS h0 h v l) (hn : l.length ≤ 12) :
    callK (bm Try.prog 193 [v, .one (.int .i64 0), .one (.int .i64 l.length)] h) fun _ h' => Grow h0 h' ∧ NwS h0 h' v (isort ltS l) := by
  refine bm_of cF193 ?_
  simp +contextual (maxSteps := 2000000) only [go_sem, Nat.reduceEqDiff, reduceCtorEq, Nat.reduceAdd, Nat.reduceLeDiff, F193]
  refine wpC_loop (fun i T L h' => Grow h0 h' ∧ T 0 = .v v ∧ T 1 = .v (.one (.int .i64 0)) ∧ T 2 = .v (.one (.int .i64 l.length)) ∧ T 6 = .v (.one (.int .i64 ((i + 1 : Nat) : Int))) ∧ NwS h0 h' v (sortT ltS l (i + 1))) (l.length - 1) ?_ ?_ (Nat.zero_le _) ?_
  · rintro i T L h' hi ⟨g, t0, t1, t2, t8, no⟩
    have hi1 : i + 1 < l.length := by omega
    have outer : ∀ (h2 : H) (cur : List ByteArray) (j : Nat), NwS h0 h2 v cur → bub ltS cur j = bub ltS (sortT ltS l (i + 1)) (i + 1) → bub ltS cur j = cur → NwS h0 h2 v (sortT ltS l (i + 1 + 1)) := fun h2 cur j no e1 e2 => by
      rw [sortT, ← e1, e2]
      exact no
    simp +contextual (maxSteps := 2000000) only [go_sem, Nat.reduceEqDiff, reduceCtorEq, Nat.reduceAdd, Nat.reduceLeDiff, t0, t1, t2, t8, lt_true hi1]
    refine wpC_loop (fun k T L h2 => Grow h0 h2 ∧ T 0 = .v v ∧ T 1 = .v (.one (.int .i64 0)) ∧ T 2 = .v (.one (.int .i64 l.length)) ∧ T 6 = .v (.one (.int .i64 ((i + 1 : Nat) : Int))) ∧ T 7 = .v (.one (.int .i64 ((i + 1 - k : Nat) : Int))) ∧
      ∃ cur, NwS h0 h2 v cur ∧ cur.length = l.length ∧ bub ltS cur (i + 1 - k) = bub ltS (sortT ltS l (i + 1)) (i + 1)) (i + 1) ?_ ?_ (Nat.zero_le _) ?_
    · rintro k T L h2 hk ⟨g, t0, t1, t2, t8, t9, cur, no, hc, e⟩
      obtain ⟨j, hj⟩ : ∃ j, i + 1 - k = j + 1 := ⟨i - k, by omega⟩
      rw [hj] at t9 e
      have hj1 : j + 1 < cur.length := by omega
      have hj0 : j < cur.length := by omega
      have a1 : (((j + 1 : Nat) : Int) - 1) = (j : Int) := by omega
      have a2 : (IntKind.i64).wrap (j : Int) = (j : Int) := wrap_nat (by omega)
      have a3 : decide (((j + 1 : Nat) : Int) > 0) = true := decide_eq_true (by omega)
      have sl := no.sl lenS
      cases b : sLess cur[j + 1] cur[j] with
      | false =>
        simp +contextual (maxSteps := 2000000) only [go_sem, Nat.reduceEqDiff, reduceCtorEq, Nat.reduceAdd, Nat.reduceLeDiff, t0, t1, t2, t8, t9, a1, a2, a3, sl.iaddr hj1, sl.iaddr hj0, sl.oneO hj1, sl.oneO hj0, c_less, b]
        exact ⟨g, by rw [wrap_next hi1 (by omega)], outer _ cur (j + 1) no e (bub_stop hj1 b)⟩
      | true =>
        simp +contextual (maxSteps := 2000000) only [go_sem, Nat.reduceEqDiff, reduceCtorEq, Nat.reduceAdd, Nat.reduceLeDiff, t0, t1, t2, t8, t9, a1, a2, a3, sl.iaddr hj1, sl.iaddr hj0, sl.oneO hj1, sl.oneO hj0, c_less, b]
        refine wp_setE lenS no hj1 rfl (x := cur[j]) rfl g ?_
        intro h3 g3 n3 s3
        simp +contextual (maxSteps := 2000000) only [go_sem, Nat.reduceEqDiff, reduceCtorEq, Nat.reduceAdd, Nat.reduceLeDiff, t0, t1, t2, t8, t9, a1, a2, a3, n3.iaddr (show j < (cur.set (j + 1) cur[j]).length by simp; omega)]
        refine wp_setE lenS n3 (show j < (cur.set (j + 1) cur[j]).length by simp; omega) rfl (x := cur[j + 1]) rfl g3 ?_
        intro h4 g4 n4 s4
        simp +contextual (maxSteps := 2000000) only [go_sem, Nat.reduceEqDiff, reduceCtorEq, Nat.reduceAdd, Nat.reduceLeDiff, t0, t1, t2, t8, t9, a1, a2]
        exact ⟨g4, by congr 3; omega, _, n4, by simp [hc], by rw [← e, bub_less (lt := ltS) hj1 b, show i + 1 - (k + 1) = j by omega]⟩
    · rintro T L h2 ⟨g, t0, t1, t2, t8, t9, cur, no, hc, e⟩
      rw [Nat.sub_self] at t9 e
      have hz : decide (((0 : Nat) : Int) > 0) = false := rfl
      simp +contextual (maxSteps := 2000000) only [go_sem, Nat.reduceEqDiff, reduceCtorEq, Nat.reduceAdd, Nat.reduceLeDiff, t0, t1, t2, t8, t9, hz]
      exact ⟨g, by rw [wrap_next hi1 (by omega)], outer _ cur 0 no e bub_zero⟩
    · simp +contextual (maxSteps := 2000000) only [go_sem, Nat.reduceEqDiff, reduceCtorEq, Nat.reduceAdd, Nat.reduceLeDiff, t0, t1, t2, t8]
      exact ⟨g, rfl, _, no, sortT_len, rfl⟩
  · rintro T L h' ⟨g, t0, t1, t2, t8, no⟩
    have hx : decide (((l.length - 1 + 1 : Nat) : Int) < (l.length : Int)) = false := decide_eq_false (by omega)
    simp +contextual (maxSteps := 2000000) only [go_sem, Nat.reduceEqDiff, reduceCtorEq, Nat.reduceAdd, Nat.reduceLeDiff, t0, t1, t2, t8, hx]
    have e : sortT ltS l (l.length - 1 + 1) = isort ltS l := by
      cases l with
      | nil => exact sortT_one
      | cons a r => rfl
    rw [e] at no
    exact gcK_of ⟨g, no⟩ fun _ gg => ⟨g0, no.back n0 gg⟩
  · simp +contextual (maxSteps := 2000000) only [go_sem, Nat.reduceEqDiff, reduceCtorEq, Nat.reduceAdd, Nat.reduceLeDiff]
    exact ⟨g0, rfl, by rw [sortT_one]; exact n0⟩
/-! slices.pdqsortOrdered(string) -/
def L185_0 : List AStep := [⟨.mov (.c (.bool true)), (some 8), none, []⟩]
theorem v185_0 : VS L185_0.eq_1 := rfl
def L185_1 : List AStep := [⟨.mov (.c (.bool true)), (some 9), none, []⟩]
theorem v185_1 : VS L185_1.eq_1 := rfl
def L185_2 : List AStep := [⟨.bin .sub (.t 19) (.t 20), (some 21), none, []⟩, ⟨.mov (.t 21), (some 10), none, []⟩]
theorem v185_2 : VS L185_2.eq_1 := rfl
def L185_3 : List AStep := ⟨.mov (.t 2), (some 19), none, []⟩ :: ⟨.mov (.t 1), (some 20), none, []⟩ :: L185_2
theorem v185_3 : VS L185_3.eq_1 := rfl
def L185_4 : List AStep := [⟨.mov (.t 10), (some 22), none, []⟩, ⟨.bin .leq (.t 22) (.c (.int .i64 12)), (some 23), none, []⟩]
theorem v185_4 : VS L185_4.eq_1 := rfl
def L185_5 : List AStep := [⟨.mov (.t 2), (some 26), none, []⟩, ⟨.call 193 [(.t 24), (.t 25), (.t 26)], (some 27), none, []⟩]
theorem v185_5 : VS L185_5.eq_1 := rfl
def L185_6 : List AStep := ⟨.mov (.t 0), (some 24), none, []⟩ :: ⟨.mov (.t 1), (some 25), none, []⟩ :: L185_5
theorem v185_6 : VS L185_6.eq_1 := rfl
def L185_7 : List AStep := [⟨.mov (.t 3), (some 28), none, []⟩, ⟨.bin .eql (.t 28) (.c (.int .i64 0)), (some 29), none, []⟩]
theorem v185_7 : VS L185_7.eq_1 := rfl
def L185_8 : List AStep := [⟨.mov (.t 2), (some 32), none, []⟩, ⟨.call 194 [(.t 30), (.t 31), (.t 32)], (some 33), none, []⟩]
theorem v185_8 : VS L185_8.eq_1 := rfl
def L185_9 : List AStep := ⟨.mov (.t 0), (some 30), none, []⟩ :: ⟨.mov (.t 1), (some 31), none, []⟩ :: L185_8
theorem v185_9 : VS L185_9.eq_1 := rfl
def L185_10 : List AStep := [⟨.mov (.t 8), (some 34), none, []⟩, ⟨.not (.t 34), (some 35), none, []⟩]
theorem v185_10 : VS L185_10.eq_1 := rfl
def L185_11 : List AStep := [⟨.mov (.t 2), (some 38), none, []⟩, ⟨.call 195 [(.t 36), (.t 37), (.t 38)], (some 39), none, []⟩]
theorem v185_11 : VS L185_11.eq_1 := rfl
def L185_12 : List AStep := ⟨.mov (.t 0), (some 36), none, []⟩ :: ⟨.mov (.t 1), (some 37), none, []⟩ :: L185_11
theorem v185_12 : VS L185_12.eq_1 := rfl
def L185_13 : List AStep := [⟨.mov (.t 41), (some 3), none, []⟩]
theorem v185_13 : VS L185_13.eq_1 := rfl
def L185_14 : List AStep := ⟨.mov (.t 3), (some 40), none, []⟩ :: ⟨.bin .sub (.t 40) (.c (.int .i64 1)), (some 41), none, []⟩ :: L185_13
theorem v185_14 : VS L185_14.eq_1 := rfl
def L185_15 : List AStep := [⟨.mov (.t 48), (some 12), none, []⟩]
theorem v185_15 : VS L185_15.eq_1 := rfl
def L185_16 : List AStep := ⟨.extract (.t 42) 1, (some 48), none, []⟩ :: ⟨.mov (.t 47), (some 11), none, []⟩ :: L185_15
theorem v185_16 : VS L185_16.eq_1 := rfl
def L185_17 : List AStep := ⟨.mov (.t 46), (some 42), none, []⟩ :: ⟨.extract (.t 42) 0, (some 47), none, []⟩ :: L185_16
theorem v185_17 : VS L185_17.eq_1 := rfl
def L185_18 : List AStep := ⟨.mov (.t 2), (some 45), none, []⟩ :: ⟨.call 196 [(.t 43), (.t 44), (.t 45)], (some 46), none, []⟩ :: L185_17
theorem v185_18 : VS L185_18.eq_1 := rfl
def L185_19 : List AStep := ⟨.mov (.t 0), (some 43), none, []⟩ :: ⟨.mov (.t 1), (some 44), none, []⟩ :: L185_18
theorem v185_19 : VS L185_19.eq_1 := rfl
def L185_20 : List AStep := [⟨.mov (.t 12), (some 49), none, []⟩, ⟨.bin .eql (.t 49) (.c (.int .i64 2)), (some 50), none, []⟩]
theorem v185_20 : VS L185_20.eq_1 := rfl
def L185_21 : List AStep := [⟨.mov (.t 2), (some 53), none, []⟩, ⟨.call 197 [(.t 51), (.t 52), (.t 53)], (some 54), none, []⟩]
theorem v185_21 : VS L185_21.eq_1 := rfl
def L185_22 : List AStep := ⟨.mov (.t 0), (some 51), none, []⟩ :: ⟨.mov (.t 1), (some 52), none, []⟩ :: L185_21
theorem v185_22 : VS L185_22.eq_1 := rfl
def L185_23 : List AStep := [⟨.mov (.t 60), (some 11), none, []⟩]
theorem v185_23 : VS L185_23.eq_1 := rfl
def L185_24 : List AStep := ⟨.bin .sub (.t 57) (.t 58), (some 59), none, []⟩ :: ⟨.bin .sub (.t 56) (.t 59), (some 60), none, []⟩ :: L185_23
theorem v185_24 : VS L185_24.eq_1 := rfl
def L185_25 : List AStep := ⟨.mov (.t 11), (some 57), none, []⟩ :: ⟨.mov (.t 1), (some 58), none, []⟩ :: L185_24
theorem v185_25 : VS L185_25.eq_1 := rfl
def L185_26 : List AStep := ⟨.mov (.t 2), (some 55), none, []⟩ :: ⟨.bin .sub (.t 55) (.c (.int .i64 1)), (some 56), none, []⟩ :: L185_25
theorem v185_26 : VS L185_26.eq_1 := rfl
def L185_27 : List AStep := [⟨.mov (.c (.int .i64 1)), (some 12), none, []⟩]
theorem v185_27 : VS L185_27.eq_1 := rfl
def L185_28 : List AStep := [⟨.bin .eql (.t 66) (.c (.int .i64 1)), (some 67), (some (65, true)), []⟩, ⟨.pick (.t 65) (.t 67) (.c (.bool false)), (some 68), none, []⟩]
theorem v185_28 : VS L185_28.eq_1 := rfl
def L185_29 : List AStep := ⟨.mov (.t 64), (some 65), none, []⟩ :: ⟨.mov (.t 12), (some 66), (some (65, true)), []⟩ :: L185_28
theorem v185_29 : VS L185_29.eq_1 := rfl
def L185_30 : List AStep := ⟨.mov (.t 9), (some 63), (some (62, true)), []⟩ :: ⟨.pick (.t 62) (.t 63) (.c (.bool false)), (some 64), none, []⟩ :: L185_29
theorem v185_30 : VS L185_30.eq_1 := rfl
def L185_31 : List AStep := ⟨.mov (.t 8), (some 61), none, []⟩ :: ⟨.mov (.t 61), (some 62), none, []⟩ :: L185_30
theorem v185_31 : VS L185_31.eq_1 := rfl
def L185_32 : List AStep := [⟨.mov (.t 2), (some 71), none, []⟩, ⟨.call 198 [(.t 69), (.t 70), (.t 71)], (some 72), none, []⟩]
theorem v185_32 : VS L185_32.eq_1 := rfl
def L185_33 : List AStep := ⟨.mov (.t 0), (some 69), none, []⟩ :: ⟨.mov (.t 1), (some 70), none, []⟩ :: L185_32
theorem v185_33 : VS L185_33.eq_1 := rfl
def L185_34 : List AStep := [⟨.pick (.t 75) (.t 86) (.c (.bool false)), (some 87), none, []⟩]
theorem v185_34 : VS L185_34.eq_1 := rfl
def L185_35 : List AStep := ⟨.call 199 [(.t 80), (.t 84)], (some 85), (some (75, true)), []⟩ :: ⟨.not (.t 85), (some 86), (some (75, true)), []⟩ :: L185_34
theorem v185_35 : VS L185_35.eq_1 := rfl
def L185_36 : List AStep := ⟨.iaddr 1 (.t 81) (.t 82), (some 83), (some (75, true)), []⟩ :: ⟨.load 1 false (.t 83), (some 84), (some (75, true)), []⟩ :: L185_35
theorem v185_36 : VS L185_36.eq_1 := rfl
def L185_37 : List AStep := ⟨.mov (.t 0), (some 81), (some (75, true)), []⟩ :: ⟨.mov (.t 11), (some 82), (some (75, true)), []⟩ :: L185_36
theorem v185_37 : VS L185_37.eq_1 := rfl
def L185_38 : List AStep := ⟨.iaddr 1 (.t 76) (.t 78), (some 79), (some (75, true)), []⟩ :: ⟨.load 1 false (.t 79), (some 80), (some (75, true)), []⟩ :: L185_37
theorem v185_38 : VS L185_38.eq_1 := rfl
def L185_39 : List AStep := ⟨.mov (.t 1), (some 77), (some (75, true)), []⟩ :: ⟨.bin .sub (.t 77) (.c (.int .i64 1)), (some 78), (some (75, true)), []⟩ :: L185_38
theorem v185_39 : VS L185_39.eq_1 := rfl
def L185_40 : List AStep := ⟨.mov (.t 74), (some 75), none, []⟩ :: ⟨.mov (.t 0), (some 76), (some (75, true)), []⟩ :: L185_39
theorem v185_40 : VS L185_40.eq_1 := rfl
def L185_41 : List AStep := ⟨.mov (.t 1), (some 73), none, []⟩ :: ⟨.bin .gtr (.t 73) (.c (.int .i64 0)), (some 74), none, []⟩ :: L185_40
theorem v185_41 : VS L185_41.eq_1 := rfl
def L185_42 : List AStep := [⟨.call 200 [(.t 88), (.t 89), (.t 90), (.t 91)], (some 92), none, []⟩, ⟨.mov (.t 92), (some 13), none, []⟩]
theorem v185_42 : VS L185_42.eq_1 := rfl
def L185_43 : List AStep := ⟨.mov (.t 2), (some 90), none, []⟩ :: ⟨.mov (.t 11), (some 91), none, []⟩ :: L185_42
theorem v185_43 : VS L185_43.eq_1 := rfl
def L185_44 : List AStep := ⟨.mov (.t 0), (some 88), none, []⟩ :: ⟨.mov (.t 1), (some 89), none, []⟩ :: L185_43
theorem v185_44 : VS L185_44.eq_1 := rfl
def L185_45 : List AStep := [⟨.mov (.t 13), (some 93), none, []⟩, ⟨.mov (.t 93), (some 1), none, []⟩]
theorem v185_45 : VS L185_45.eq_1 := rfl
def L185_46 : List AStep := [⟨.mov (.t 100), (some 14), none, []⟩, ⟨.mov (.t 101), (some 15), none, []⟩]
theorem v185_46 : VS L185_46.eq_1 := rfl
def L185_47 : List AStep := ⟨.extract (.t 94) 0, (some 100), none, []⟩ :: ⟨.extract (.t 94) 1, (some 101), none, []⟩ :: L185_46
theorem v185_47 : VS L185_47.eq_1 := rfl
def L185_48 : List AStep := ⟨.call 201 [(.t 95), (.t 96), (.t 97), (.t 98)], (some 99), none, []⟩ :: ⟨.mov (.t 99), (some 94), none, []⟩ :: L185_47
theorem v185_48 : VS L185_48.eq_1 := rfl
def L185_49 : List AStep := ⟨.mov (.t 2), (some 97), none, []⟩ :: ⟨.mov (.t 11), (some 98), none, []⟩ :: L185_48
theorem v185_49 : VS L185_49.eq_1 := rfl
def L185_50 : List AStep := ⟨.mov (.t 0), (some 95), none, []⟩ :: ⟨.mov (.t 1), (some 96), none, []⟩ :: L185_49
theorem v185_50 : VS L185_50.eq_1 := rfl
def L185_51 : List AStep := [⟨.mov (.t 15), (some 102), none, []⟩, ⟨.mov (.t 102), (some 9), none, []⟩]
theorem v185_51 : VS L185_51.eq_1 := rfl
def L185_52 : List AStep := [⟨.mov (.t 105), (some 16), none, []⟩, ⟨.mov (.t 108), (some 17), none, []⟩]
theorem v185_52 : VS L185_52.eq_1 := rfl
def L185_53 : List AStep := ⟨.mov (.t 14), (some 107), none, []⟩ :: ⟨.bin .sub (.t 106) (.t 107), (some 108), none, []⟩ :: L185_52
theorem v185_53 : VS L185_53.eq_1 := rfl
def L185_54 : List AStep := ⟨.bin .sub (.t 103) (.t 104), (some 105), none, []⟩ :: ⟨.mov (.t 2), (some 106), none, []⟩ :: L185_53
theorem v185_54 : VS L185_54.eq_1 := rfl
def L185_55 : List AStep := ⟨.mov (.t 14), (some 103), none, []⟩ :: ⟨.mov (.t 1), (some 104), none, []⟩ :: L185_54
theorem v185_55 : VS L185_55.eq_1 := rfl
def L185_56 : List AStep := [⟨.mov (.t 110), (some 18), none, []⟩]
theorem v185_56 : VS L185_56.eq_1 := rfl
def L185_57 : List AStep := ⟨.mov (.t 10), (some 109), none, []⟩ :: ⟨.bin .quo (.t 109) (.c (.int .i64 8)), (some 110), none, []⟩ :: L185_56
theorem v185_57 : VS L185_57.eq_1 := rfl
def L185_58 : List AStep := [⟨.bin .lss (.t 111) (.t 112), (some 113), none, []⟩]
theorem v185_58 : VS L185_58.eq_1 := rfl
def L185_59 : List AStep := ⟨.mov (.t 16), (some 111), none, []⟩ :: ⟨.mov (.t 17), (some 112), none, []⟩ :: L185_58
theorem v185_59 : VS L185_59.eq_1 := rfl
def L185_60 : List AStep := [⟨.bin .geq (.t 114) (.t 115), (some 116), none, []⟩, ⟨.mov (.t 116), (some 8), none, []⟩]
theorem v185_60 : VS L185_60.eq_1 := rfl
def L185_61 : List AStep := ⟨.mov (.t 16), (some 114), none, []⟩ :: ⟨.mov (.t 18), (some 115), none, []⟩ :: L185_60
theorem v185_61 : VS L185_61.eq_1 := rfl
def L185_62 : List AStep := [⟨.call 185 [(.t 117), (.t 118), (.t 119), (.t 120)], (some 121), none, []⟩]
theorem v185_62 : VS L185_62.eq_1 := rfl
def L185_63 : List AStep := ⟨.mov (.t 14), (some 119), none, []⟩ :: ⟨.mov (.t 3), (some 120), none, []⟩ :: L185_62
theorem v185_63 : VS L185_63.eq_1 := rfl
def L185_64 : List AStep := ⟨.mov (.t 0), (some 117), none, []⟩ :: ⟨.mov (.t 1), (some 118), none, []⟩ :: L185_63
theorem v185_64 : VS L185_64.eq_1 := rfl
def L185_65 : List AStep := [⟨.mov (.t 123), (some 1), none, []⟩]
theorem v185_65 : VS L185_65.eq_1 := rfl
def L185_66 : List AStep := ⟨.mov (.t 14), (some 122), none, []⟩ :: ⟨.bin .add (.t 122) (.c (.int .i64 1)), (some 123), none, []⟩ :: L185_65
theorem v185_66 : VS L185_66.eq_1 := rfl
def L185_67 : List AStep := [⟨.bin .geq (.t 124) (.t 125), (some 126), none, []⟩, ⟨.mov (.t 126), (some 8), none, []⟩]
theorem v185_67 : VS L185_67.eq_1 := rfl
def L185_68 : List AStep := ⟨.mov (.t 17), (some 124), none, []⟩ :: ⟨.mov (.t 18), (some 125), none, []⟩ :: L185_67
theorem v185_68 : VS L185_68.eq_1 := rfl
def L185_69 : List AStep := [⟨.mov (.t 3), (some 131), none, []⟩, ⟨.call 185 [(.t 127), (.t 129), (.t 130), (.t 131)], (some 132), none, []⟩]
theorem v185_69 : VS L185_69.eq_1 := rfl
def L185_70 : List AStep := ⟨.bin .add (.t 128) (.c (.int .i64 1)), (some 129), none, []⟩ :: ⟨.mov (.t 2), (some 130), none, []⟩ :: L185_69
theorem v185_70 : VS L185_70.eq_1 := rfl
def L185_71 : List AStep := ⟨.mov (.t 0), (some 127), none, []⟩ :: ⟨.mov (.t 14), (some 128), none, []⟩ :: L185_70
theorem v185_71 : VS L185_71.eq_1 := rfl
def L185_72 : List AStep := [⟨.mov (.t 14), (some 133), none, []⟩, ⟨.mov (.t 133), (some 2), none, []⟩]
theorem v185_72 : VS L185_72.eq_1 := rfl
def C185_0 : ACode := .seq (.reg L185_6) .ret
theorem u185_0 : VC C185_0.eq_1 := rfl
def C185_1 : ACode := .cond (.t 23) C185_0 .skip
theorem u185_1 : VC C185_1.eq_1 := rfl
def C185_2 : ACode := .seq (.reg L185_4) C185_1
theorem u185_2 : VC C185_2.eq_1 := rfl
def C185_3 : ACode := .seq (.reg L185_9) .ret
theorem u185_3 : VC C185_3.eq_1 := rfl
def C185_4 : ACode := .cond (.t 29) C185_3 .skip
theorem u185_4 : VC C185_4.eq_1 := rfl
def C185_5 : ACode := .seq (.reg L185_7) C185_4
theorem u185_5 : VC C185_5.eq_1 := rfl
def C185_6 : ACode := .seq (.reg L185_12) (.reg L185_14)
theorem u185_6 : VC C185_6.eq_1 := rfl
def C185_7 : ACode := .cond (.t 35) C185_6 .skip
theorem u185_7 : VC C185_7.eq_1 := rfl
def C185_8 : ACode := .seq (.reg L185_10) C185_7
theorem u185_8 : VC C185_8.eq_1 := rfl
def C185_9 : ACode := .seq (.reg L185_26) (.reg L185_27)
theorem u185_9 : VC C185_9.eq_1 := rfl
def C185_10 : ACode := .seq (.reg L185_22) C185_9
theorem u185_10 : VC C185_10.eq_1 := rfl
def C185_11 : ACode := .cond (.t 50) C185_10 .skip
theorem u185_11 : VC C185_11.eq_1 := rfl
def C185_12 : ACode := .seq (.reg L185_20) C185_11
theorem u185_12 : VC C185_12.eq_1 := rfl
def C185_13 : ACode := .cond (.t 72) .ret .skip
theorem u185_13 : VC C185_13.eq_1 := rfl
def C185_14 : ACode := .seq (.reg L185_33) C185_13
theorem u185_14 : VC C185_14.eq_1 := rfl
def C185_15 : ACode := .cond (.t 68) C185_14 .skip
theorem u185_15 : VC C185_15.eq_1 := rfl
def C185_16 : ACode := .seq (.reg L185_31) C185_15
theorem u185_16 : VC C185_16.eq_1 := rfl
def C185_17 : ACode := .seq (.reg L185_45) (.exit 1)
theorem u185_17 : VC C185_17.eq_1 := rfl
def C185_18 : ACode := .seq (.reg L185_44) C185_17
theorem u185_18 : VC C185_18.eq_1 := rfl
def C185_19 : ACode := .cond (.t 87) C185_18 .skip
theorem u185_19 : VC C185_19.eq_1 := rfl
def C185_20 : ACode := .seq (.reg L185_41) C185_19
theorem u185_20 : VC C185_20.eq_1 := rfl
def C185_21 : ACode := .seq (.reg L185_64) (.reg L185_66)
theorem u185_21 : VC C185_21.eq_1 := rfl
def C185_22 : ACode := .seq (.reg L185_61) C185_21
theorem u185_22 : VC C185_22.eq_1 := rfl
def C185_23 : ACode := .seq (.reg L185_71) (.reg L185_72)
theorem u185_23 : VC C185_23.eq_1 := rfl
def C185_24 : ACode := .seq (.reg L185_68) C185_23
theorem u185_24 : VC C185_24.eq_1 := rfl
def C185_25 : ACode := .cond (.t 113) C185_22 C185_24
theorem u185_25 : VC C185_25.eq_1 := rfl
def C185_26 : ACode := .seq (.reg L185_59) C185_25
theorem u185_26 : VC C185_26.eq_1 := rfl
def C185_27 : ACode := .seq (.reg L185_57) C185_26
theorem u185_27 : VC C185_27.eq_1 := rfl
def C185_28 : ACode := .seq (.reg L185_55) C185_27
theorem u185_28 : VC C185_28.eq_1 := rfl
def C185_29 : ACode := .seq (.reg L185_51) C185_28
theorem u185_29 : VC C185_29.eq_1 := rfl
def C185_30 : ACode := .seq (.reg L185_50) C185_29
theorem u185_30 : VC C185_30.eq_1 := rfl
def C185_31 : ACode := .seq C185_20 C185_30
theorem u185_31 : VC C185_31.eq_1 := rfl
def C185_32 : ACode := .seq C185_16 C185_31
theorem u185_32 : VC C185_32.eq_1 := rfl
def C185_33 : ACode := .seq C185_12 C185_32
theorem u185_33 : VC C185_33.eq_1 := rfl
def C185_34 : ACode := .seq (.reg L185_19) C185_33
theorem u185_34 : VC C185_34.eq_1 := rfl
def C185_35 : ACode := .seq C185_8 C185_34
theorem u185_35 : VC C185_35.eq_1 := rfl
def C185_36 : ACode := .seq C185_5 C185_35
theorem u185_36 : VC C185_36.eq_1 := rfl
def C185_37 : ACode := .seq C185_2 C185_36
theorem u185_37 : VC C185_37.eq_1 := rfl
def C185_38 : ACode := .seq (.reg L185_3) C185_37
theorem u185_38 : VC C185_38.eq_1 := rfl
def C185_39 : ACode := .block 1 C185_38
theorem u185_39 : VC C185_39.eq_1 := rfl
def C185_40 : ACode := .block 0 (.loop C185_39)
theorem u185_40 : VC C185_40.eq_1 := rfl
def C185_41 : ACode := .seq (.reg L185_1) C185_40
theorem u185_41 : VC C185_41.eq_1 := rfl
def C185_42 : ACode := .seq (.reg L185_0) C185_41
theorem u185_42 : VC C185_42.eq_1 := rfl
def F185 : AFunc := ⟨134, [], C185_42⟩
theorem cF185 : compB Try.prog 185 = some F185 := by kernel_rfl
attribute [local go_sem ↓] u185_0 u185_1 u185_2 u185_3 u185_4 u185_5 u185_6 u185_7 u185_8 u185_9 u185_10 u185_11 u185_12 u185_13 u185_14 u185_15 u185_16 u185_17 u185_18 u185_19 u185_20 u185_21 u185_22 u185_23 u185_24 u185_25 u185_26 u185_27 u185_28 u185_29 u185_30 u185_31 u185_32 u185_33 u185_34 u185_35 u185_36 u185_37 u185_38 u185_39 u185_40 u185_41 u185_42 v185_0 v185_1 v185_2 v185_3 v185_4 v185_5 v185_6 v185_7 v185_8 v185_9 v185_10 v185_11 v185_12 v185_13 v185_14 v185_15 v185_16 v185_17 v185_18 v185_19 v185_20 v185_21 v185_22 v185_23 v185_24 v185_25 v185_26 v185_27 v185_28 v185_29 v185_30 v185_31 v185_32 v185_33 v185_34 v185_35 v185_36 v185_37 v185_38 v185_39 v185_40 v185_41 v185_42 v185_43 v185_44 v185_45 v185_46 v185_47 v185_48 v185_49 v185_50 v185_51 v185_52 v185_53 v185_54 v185_55 v185_56 v185_57 v185_58 v185_59 v185_60 v185_61 v185_62 v185_63 v185_64 v185_65 v185_66 v185_67 v185_68 v185_69 v185_70 v185_71 v185_72
theorem c_pdqS (l : List ByteArray) (v : AV) (m : Int) (h0 h : H) (g0 : Grow h0 h) (n0 : NwS h0 h v l) (hn : l.length ≤ 12) :
    callK (bm Try.prog 185 [v, .one (.int .i64 0), .one (.int .i64 l.length), .one (.int .i64 m)] h) fun _ h' => Grow h0 h' ∧ NwS h0 h' v (isort ltS l) := by
  refine bm_of cF185 ?_
  have e1 : IntKind.i64.wrap ((l.length : Int) - 0) = l.length := by rw [Int.sub_zero]; exact wrap_nat (by omega)
  have e2 : decide ((l.length : Int) ≤ 12) = true := decide_eq_true (by omega)
  simp +contextual (maxSteps := 2000000) only [go_sem, Nat.reduceEqDiff, reduceCtorEq, Nat.reduceAdd, Nat.reduceLeDiff, F185]
  refine wpC_loop (fun i T L h' => i = 0 ∧ h' = h ∧ T 0 = .v v ∧ T 1 = .v (.one (.int .i64 0)) ∧ T 2 = .v (.one (.int .i64 l.length))) 1 ?_ ?_ (Nat.zero_le _) ?_
  · rintro i T L h' hi ⟨rfl, rfl, t0, t1, t2⟩
    simp +contextual (maxSteps := 2000000) only [go_sem, Nat.reduceEqDiff, reduceCtorEq, Nat.reduceAdd, Nat.reduceLeDiff, t0, t1, t2, e1, e2]
    refine wp_call (c_insS l v h0 h' g0 n0 hn) ?_
    rintro r h1 ⟨g1, n1⟩
    simp +contextual (maxSteps := 2000000) only [go_sem, Nat.reduceEqDiff, reduceCtorEq, Nat.reduceAdd, Nat.reduceLeDiff]
    exact gcK_of ⟨g1, n1⟩ fun _ gg => ⟨g0, n1.back n0 gg⟩
  · rintro T L h' ⟨e, _⟩
    exact absurd e (by decide)
  · simp +contextual (maxSteps := 2000000) only [go_sem, Nat.reduceEqDiff, reduceCtorEq, Nat.reduceAdd, Nat.reduceLeDiff]
/-! slices.Sort(()string,string) -/
def L161_0 : List AStep := [⟨.mov (.t 4), (some 2), none, []⟩]
theorem v161_0 : VS L161_0.eq_1 := rfl
def L161_1 : List AStep := ⟨.mov (.t 0), (some 3), none, []⟩ :: ⟨.len (.t 3), (some 4), none, []⟩ :: L161_0
theorem v161_1 : VS L161_1.eq_1 := rfl
def L161_2 : List AStep := [⟨.call 152 [(.t 8)], (some 9), none, []⟩, ⟨.call 185 [(.t 5), (.c (.int .i64 0)), (.t 6), (.t 9)], (some 10), none, []⟩]
theorem v161_2 : VS L161_2.eq_1 := rfl
def L161_3 : List AStep := ⟨.mov (.t 2), (some 7), none, []⟩ :: ⟨.conv .u64 (.t 7), (some 8), none, []⟩ :: L161_2
theorem v161_3 : VS L161_3.eq_1 := rfl
def L161_4 : List AStep := ⟨.mov (.t 0), (some 5), none, []⟩ :: ⟨.mov (.t 2), (some 6), none, []⟩ :: L161_3
theorem v161_4 : VS L161_4.eq_1 := rfl
def C161_0 : ACode := .seq (.reg L161_1) (.reg L161_4)
theorem u161_0 : VC C161_0.eq_1 := rfl
def F161 : AFunc := ⟨11, [], C161_0⟩
theorem cF161 : compB Try.prog 161 = some F161 := by kernel_rfl
attribute [local go_sem ↓] u161_0 v161_0 v161_1 v161_2 v161_3 v161_4
theorem c_sortS (l : List ByteArray) (v : AV) (h0 h : H) (g0 : Grow h0 h) (n0 : NwS h0 h v l) (hn : l.length ≤ 12) :
    callK (bm Try.prog 161 [v] h) fun _ h' => Grow h0 h' ∧ NwS h0 h' v (isort ltS l) := by
  refine bm_of cF161 ?_
  have e1 := u64_nat hn
  simp +contextual (maxSteps := 2000000) only [go_sem, Nat.reduceEqDiff, reduceCtorEq, Nat.reduceAdd, Nat.reduceLeDiff, F161, n0.length, e1]
  refine wp_call (c_bitsLen l.length h hn) ?_
  rintro r h1 ⟨rfl, m, rfl⟩
  simp +contextual (maxSteps := 2000000) only [go_sem, Nat.reduceEqDiff, reduceCtorEq, Nat.reduceAdd, Nat.reduceLeDiff]
  refine wp_call (c_pdqS l v m h0 h1 g0 n0 hn) ?_
  rintro r h2 ⟨g2, n2⟩
  simp +contextual (maxSteps := 2000000) only [go_sem, Nat.reduceEqDiff, reduceCtorEq, Nat.reduceAdd, Nat.reduceLeDiff]
  exact gcK_of ⟨g2, n2⟩ fun _ gg => ⟨g0, n2.back n0 gg⟩
/-! (impl.Signature).namesOf -/
def L182_0 : List AStep := [⟨.box 69 (.t 0), (some 2), none, []⟩, ⟨.mov (.c (.sl none 0 (some 0))), (some 4), none, []⟩]
theorem v182_0 : VS L182_0.eq_1 := rfl
def L182_1 : List AStep := [⟨.mov (.c (.sl none 0 (some 0))), (some 5), none, []⟩]
theorem v182_1 : VS L182_1.eq_1 := rfl
def L182_2 : List AStep := [⟨.len (.t 9), (some 10), none, []⟩, ⟨.mov (.c (.int .i64 0)), (some 11), none, []⟩]
theorem v182_2 : VS L182_2.eq_1 := rfl
def L182_3 : List AStep := ⟨.faddr 0 (.t 2), (some 8), none, []⟩ :: ⟨.load 1 false (.t 8), (some 9), none, []⟩ :: L182_2
theorem v182_3 : VS L182_3.eq_1 := rfl
def L182_4 : List AStep := [⟨.bin .lss (.t 11) (.t 10), (some 12), none, []⟩]
theorem v182_4 : VS L182_4.eq_1 := rfl
def L182_5 : List AStep := [⟨.alloc 155 [(.str (strOfNums [])), (.int .i64 0), (.bool false), (.int .i64 0)], (some 7), none, []⟩, ⟨.store 4 (.t 7) (.t 14), none, none, []⟩]
theorem v182_5 : VS L182_5.eq_1 := rfl
def L182_6 : List AStep := ⟨.iaddr 4 (.t 9) (.t 11), (some 13), none, []⟩ :: ⟨.load 4 true (.t 13), (some 14), none, []⟩ :: L182_5
theorem v182_6 : VS L182_6.eq_1 := rfl
def L182_7 : List AStep := [⟨.callv (.t 15) [(.t 16)], (some 17), none, []⟩]
theorem v182_7 : VS L182_7.eq_1 := rfl
def L182_8 : List AStep := ⟨.mov (.t 1), (some 15), none, []⟩ :: ⟨.load 4 true (.t 7), (some 16), none, []⟩ :: L182_7
theorem v182_8 : VS L182_8.eq_1 := rfl
def L182_9 : List AStep := [⟨.append 9 1 16 (.t 18) (.t 21), (some 22), none, []⟩, ⟨.mov (.t 22), (some 5), none, []⟩]
theorem v182_9 : VS L182_9.eq_1 := rfl
def L182_10 : List AStep := ⟨.load 1 false (.t 19), (some 20), none, []⟩ :: ⟨.buildSlice 9 1 [(.str (strOfNums []))] [(0, 1, (.t 20))], (some 21), none, []⟩ :: L182_9
theorem v182_10 : VS L182_10.eq_1 := rfl
def L182_11 : List AStep := ⟨.mov (.t 5), (some 18), none, []⟩ :: ⟨.faddr 0 (.t 7), (some 19), none, []⟩ :: L182_10
theorem v182_11 : VS L182_11.eq_1 := rfl
def L182_12 : List AStep := [⟨.bin .add (.t 11) (.c (.int .i64 1)), (some 23), none, []⟩, ⟨.mov (.t 23), (some 11), none, []⟩]
theorem v182_12 : VS L182_12.eq_1 := rfl
def L182_13 : List AStep := [⟨.mov (.t 25), (some 4), none, []⟩]
theorem v182_13 : VS L182_13.eq_1 := rfl
def L182_14 : List AStep := ⟨.mov (.t 5), (some 24), none, []⟩ :: ⟨.call 162 [(.t 24)], (some 25), none, []⟩ :: L182_13
theorem v182_14 : VS L182_14.eq_1 := rfl
def C182_0 : ACode := .cond (.t 12) .skip (.exit 0)
theorem u182_0 : VC C182_0.eq_1 := rfl
def C182_1 : ACode := .cond (.t 17) (.reg L182_11) .skip
theorem u182_1 : VC C182_1.eq_1 := rfl
def C182_2 : ACode := .seq (.reg L182_8) C182_1
theorem u182_2 : VC C182_2.eq_1 := rfl
def C182_3 : ACode := .seq (.reg L182_6) C182_2
theorem u182_3 : VC C182_3.eq_1 := rfl
def C182_4 : ACode := .block 1 C182_3
theorem u182_4 : VC C182_4.eq_1 := rfl
def C182_5 : ACode := .seq C182_4 (.reg L182_12)
theorem u182_5 : VC C182_5.eq_1 := rfl
def C182_6 : ACode := .seq C182_0 C182_5
theorem u182_6 : VC C182_6.eq_1 := rfl
def C182_7 : ACode := .seq (.reg L182_4) C182_6
theorem u182_7 : VC C182_7.eq_1 := rfl
def C182_8 : ACode := .block 0 (.loop C182_7)
theorem u182_8 : VC C182_8.eq_1 := rfl
def C182_9 : ACode := .seq (.reg L182_3) C182_8
theorem u182_9 : VC C182_9.eq_1 := rfl
def C182_10 : ACode := .seq (.reg L182_14) .ret
theorem u182_10 : VC C182_10.eq_1 := rfl
def C182_11 : ACode := .seq C182_9 C182_10
theorem u182_11 : VC C182_11.eq_1 := rfl
def C182_12 : ACode := .seq (.reg L182_1) C182_11
theorem u182_12 : VC C182_12.eq_1 := rfl
def C182_13 : ACode := .seq (.reg L182_0) C182_12
theorem u182_13 : VC C182_13.eq_1 := rfl
def F182 : AFunc := ⟨26, [.tmp 4], C182_13⟩
theorem cF182 : compB Try.prog 182 = some F182 := by kernel_rfl
attribute [local go_sem ↓] u182_0 u182_1 u182_2 u182_3 u182_4 u182_5 u182_6 u182_7 u182_8 u182_9 u182_10 u182_11 u182_12 u182_13 v182_0 v182_1 v182_2 v182_3 v182_4 v182_5 v182_6 v182_7 v182_8 v182_9 v182_10 v182_11 v182_12 v182_13 v182_14
theorem c_namesOf (l : List Param) (q : CV) (h : H) (hl : SlQ h (.one q) l) (hn : l.length ≤ 8) : callK (bm Try.prog 182 [.agg [q], .one (.fn 157 [])] h) fun r h' => Grow h h' ∧ ∃ ms, NwS h h' r ms ∧ ms.length = l.countP byPlace := by
  refine bm_of cF182 ?_
  simp +contextual (maxSteps := 2000000) only [go_sem, Nat.reduceEqDiff, reduceCtorEq, Nat.reduceAdd, Nat.reduceLeDiff, F182, hl.len]
  refine wpC_loop (fun i T L h' => Grow h h' ∧ T 1 = .v (.one (.fn 157 [])) ∧ (∃ w ms, T 5 = .v (.one w) ∧ NwS h h' (.one w) ms ∧ ms.length = cnt byPlace l i) ∧ T 9 = .v (.one q) ∧ T 10 = .v (.one (.int .i64 l.length)) ∧ T 11 = .v (.one (.int .i64 i))) l.length ?_ ?_ (Nat.zero_le _) ?_
  · rintro i T L h' hi ⟨g, t1, ⟨w, ms, t5, z, hc⟩, t9, t10, t11⟩
    have k := hl.grow g
    have es := fun h => c_placed l[i] h
    simp only [encQ] at es
    have hx := cnt_le (p := byPlace) (l := l) (i := i)
    cases b : byPlace l[i] with
    | false =>
      simp +contextual (maxSteps := 2000000) only [go_sem, Nat.reduceEqDiff, reduceCtorEq, Nat.reduceAdd, Nat.reduceLeDiff, t1, t5, t9, t10, t11, lt_true hi, k.iaddr hi, k.whole hi, encQ, es, b]
      exact ⟨g, ⟨w, ms, rfl, z, by rw [hc, cnt_next hi, b]; rfl⟩, by rw [wrap_next hi (by omega)]⟩
    | true =>
      simp +contextual (maxSteps := 2000000) only [go_sem, Nat.reduceEqDiff, reduceCtorEq, Nat.reduceAdd, Nat.reduceLeDiff, t1, t5, t9, t10, t11, lt_true hi, k.iaddr hi, k.whole hi, encQ, es, b]
      refine wp_lit (enc := encS) (k := 1) (l := [l[i].name]) rfl rfl ?_
      intro h3 w3 g3 n3 _
      simp +contextual (maxSteps := 2000000) only [go_sem, Nat.reduceEqDiff, reduceCtorEq, Nat.reduceAdd, Nat.reduceLeDiff, t1, t5, t9, t10, t11]
      refine wp_append lenS (z.grow g3) (n3.sl lenS) (g.trans g3) (by simp; omega) ?_
      intro h4 s4 g4 n4 st4 hb4
      obtain ⟨c4, rfl⟩ := n4.one
      simp +contextual (maxSteps := 2000000) only [go_sem, Nat.reduceEqDiff, reduceCtorEq, Nat.reduceAdd, Nat.reduceLeDiff, t1, t5, t9, t10, t11]
      exact ⟨g4, ⟨c4, _, rfl, n4, by rw [cnt_next hi, b, List.length_append, hc]; rfl⟩, by rw [wrap_next hi (by omega)]⟩
  · rintro T L h' ⟨g, t1, ⟨w, ms, t5, z, hc⟩, t9, t10, t11⟩
    simp +contextual (maxSteps := 2000000) only [go_sem, Nat.reduceEqDiff, reduceCtorEq, Nat.reduceAdd, Nat.reduceLeDiff, t1, t5, t9, t10, t11, lt_false]
    refine wp_call (c_clipS _ _ h' z) ?_
    rintro r h2 ⟨rfl, n2⟩
    simp +contextual (maxSteps := 2000000) only [go_sem, Nat.reduceEqDiff, reduceCtorEq, Nat.reduceAdd, Nat.reduceLeDiff]
    rw [cnt_all] at hc
    exact gcK_of ⟨g, _, n2, hc⟩ (fun hs _ => ⟨Grow.refl h, _, n2.scalar hs h, hc⟩)
  · simp +contextual (maxSteps := 2000000) only [go_sem, Nat.reduceEqDiff, reduceCtorEq, Nat.reduceAdd, Nat.reduceLeDiff]
    exact ⟨Grow.refl h, ⟨_, [], rfl, .nil, by rw [cnt_zero]; rfl⟩, rfl⟩
/-! (impl.Signature).places -/
def L159_0 : List AStep := [⟨.box 69 (.t 0), (some 1), none, []⟩, ⟨.mov (.c (.int .i64 0)), (some 2), none, []⟩]
theorem v159_0 : VS L159_0.eq_1 := rfl
def L159_1 : List AStep := [⟨.len (.t 4), (some 5), none, []⟩, ⟨.mov (.t 5), (some 2), none, []⟩]
theorem v159_1 : VS L159_1.eq_1 := rfl
def L159_2 : List AStep := ⟨.load 1 true (.t 1), (some 3), none, []⟩ :: ⟨.call 182 [(.t 3), (.c (.fn 157 []))], (some 4), none, []⟩ :: L159_1
theorem v159_2 : VS L159_2.eq_1 := rfl
def C159_0 : ACode := .seq (.reg L159_2) .ret
theorem u159_0 : VC C159_0.eq_1 := rfl
def C159_1 : ACode := .seq (.reg L159_0) C159_0
theorem u159_1 : VC C159_1.eq_1 := rfl
def F159 : AFunc := ⟨6, [.tmp 2], C159_1⟩
theorem cF159 : compB Try.prog 159 = some F159 := by kernel_rfl
attribute [local go_sem ↓] u159_0 u159_1 v159_0 v159_1 v159_2
theorem c_placesI (l : List Param) (q : CV) (h : H) (hl : SlQ h (.one q) l) (hn : l.length ≤ 8) : bm Try.prog 159 [.agg [q]] h = some (ii (l.countP byPlace), h) := by
  refine bm_eq cF159 ?_
  simp +contextual (maxSteps := 2000000) only [go_sem, Nat.reduceEqDiff, reduceCtorEq, Nat.reduceAdd, Nat.reduceLeDiff, F159]
  refine wp_call (c_namesOf l q h hl hn) ?_
  rintro r h1 ⟨g1, ms, n1, hc⟩
  simp +contextual (maxSteps := 2000000) only [go_sem, Nat.reduceEqDiff, reduceCtorEq, Nat.reduceAdd, Nat.reduceLeDiff, n1.length, hc]
  exact gcR_of g1 rfl ⟨rfl, rfl⟩
/-- The places among the first i. -/
theorem cnt_place {l : List Param} (o : Ord l) : ∀ i, i ≤ l.length → cnt byPlace l i = min i (places l)
  | 0, _ => by rw [cnt_zero]; omega
  | i + 1, hi => by
    rw [cnt_next (show i < l.length by omega), cnt_place o i (by omega), o.place (show i < l.length by omega)]
    by_cases e : i < places l
    · rw [decide_eq_true e, if_pos rfl]; omega
    · rw [decide_eq_false e, if_neg (by simp)]; omega
theorem kind0_single {p : Param} (h : single p = false) : decide (p.kind = 0) = false := by
  cases b : decide (p.kind = 0) with
  | false => rfl
  | true => simp [single, byPlace, b] at h
theorem kind0_place {p : Param} (h : decide (p.kind = 0) = true) : byPlace p = true := by simp [byPlace, h]
/-! (impl.Signature).needs -/
def L127_0 : List AStep := [⟨.mov (.c (.bool false)), (some 5), none, []⟩]
theorem v127_0 : VS L127_0.eq_1 := rfl
def L127_1 : List AStep := ⟨.box 69 (.t 0), (some 2), none, []⟩ :: ⟨.mov (.c (.sl none 0 (some 0))), (some 4), none, []⟩ :: L127_0
theorem v127_1 : VS L127_1.eq_1 := rfl
def L127_2 : List AStep := [⟨.pick (.t 18) (.t 21) (.c (.bool false)), (some 22), (some (13, false)), []⟩, ⟨.pick (.t 13) (.c (.bool true)) (.t 22), (some 23), none, []⟩]
theorem v127_2 : VS L127_2.eq_1 := rfl
def L127_3 : List AStep := ⟨.call 160 [(.t 19), (.c (.int .i64 2))], (some 20), (some (18, true)), []⟩ :: ⟨.not (.t 20), (some 21), (some (18, true)), []⟩ :: L127_2
theorem v127_3 : VS L127_3.eq_1 := rfl
def L127_4 : List AStep := ⟨.mov (.t 17), (some 18), (some (13, false)), []⟩ :: ⟨.load 1 true (.t 2), (some 19), (some (18, true)), []⟩ :: L127_3
theorem v127_4 : VS L127_4.eq_1 := rfl
def L127_5 : List AStep := ⟨.call 159 [(.t 15)], (some 16), (some (13, false)), []⟩ :: ⟨.bin .gtr (.t 14) (.t 16), (some 17), (some (13, false)), []⟩ :: L127_4
theorem v127_5 : VS L127_5.eq_1 := rfl
def L127_6 : List AStep := ⟨.mov (.t 1), (some 14), (some (13, false)), []⟩ :: ⟨.load 1 true (.t 2), (some 15), (some (13, false)), []⟩ :: L127_5
theorem v127_6 : VS L127_6.eq_1 := rfl
def L127_7 : List AStep := ⟨.not (.t 11), (some 12), none, []⟩ :: ⟨.mov (.t 12), (some 13), none, []⟩ :: L127_6
theorem v127_7 : VS L127_7.eq_1 := rfl
def L127_8 : List AStep := ⟨.mov (.t 1), (some 10), none, []⟩ :: ⟨.call 119 [(.t 10), (.c (.int .i64 0)), (.c (.int .i64 8))], (some 11), none, []⟩ :: L127_7
theorem v127_8 : VS L127_8.eq_1 := rfl
def L127_9 : List AStep := [⟨.mov (.c (.sl none 0 (some 0))), (some 4), none, []⟩, ⟨.mov (.c (.bool false)), (some 5), none, []⟩]
theorem v127_9 : VS L127_9.eq_1 := rfl
def L127_10 : List AStep := [⟨.mov (.c (.sl none 0 (some 0))), (some 6), none, []⟩]
theorem v127_10 : VS L127_10.eq_1 := rfl
def L127_11 : List AStep := [⟨.mov (.c (.int .i64 0)), (some 7), none, []⟩]
theorem v127_11 : VS L127_11.eq_1 := rfl
def L127_12 : List AStep := [⟨.len (.t 25), (some 26), none, []⟩, ⟨.mov (.c (.int .i64 0)), (some 27), none, []⟩]
theorem v127_12 : VS L127_12.eq_1 := rfl
def L127_13 : List AStep := ⟨.faddr 0 (.t 2), (some 24), none, []⟩ :: ⟨.load 1 false (.t 24), (some 25), none, []⟩ :: L127_12
theorem v127_13 : VS L127_13.eq_1 := rfl
def L127_14 : List AStep := [⟨.bin .lss (.t 27) (.t 26), (some 28), none, []⟩]
theorem v127_14 : VS L127_14.eq_1 := rfl
def L127_15 : List AStep := [⟨.alloc 155 [(.str (strOfNums [])), (.int .i64 0), (.bool false), (.int .i64 0)], (some 9), none, []⟩, ⟨.store 4 (.t 9) (.t 30), none, none, []⟩]
theorem v127_15 : VS L127_15.eq_1 := rfl
def L127_16 : List AStep := ⟨.iaddr 4 (.t 25) (.t 27), (some 29), none, []⟩ :: ⟨.load 4 true (.t 29), (some 30), none, []⟩ :: L127_15
theorem v127_16 : VS L127_16.eq_1 := rfl
def L127_17 : List AStep := [⟨.load 4 true (.t 9), (some 31), none, []⟩, ⟨.call 157 [(.t 31)], (some 32), none, []⟩]
theorem v127_17 : VS L127_17.eq_1 := rfl
def L127_18 : List AStep := [⟨.mov (.t 34), (some 7), none, []⟩]
theorem v127_18 : VS L127_18.eq_1 := rfl
def L127_19 : List AStep := ⟨.mov (.t 7), (some 33), none, []⟩ :: ⟨.bin .add (.t 33) (.c (.int .i64 1)), (some 34), none, []⟩ :: L127_18
theorem v127_19 : VS L127_19.eq_1 := rfl
def L127_20 : List AStep := [⟨.pick (.t 45) (.t 48) (.c (.bool false)), (some 49), (some (42, false)), []⟩, ⟨.pick (.t 42) (.c (.bool true)) (.t 49), (some 50), none, []⟩]
theorem v127_20 : VS L127_20.eq_1 := rfl
def L127_21 : List AStep := ⟨.mov (.t 1), (some 47), (some (45, true)), []⟩ :: ⟨.bin .leq (.t 46) (.t 47), (some 48), (some (45, true)), []⟩ :: L127_20
theorem v127_21 : VS L127_21.eq_1 := rfl
def L127_22 : List AStep := ⟨.mov (.t 44), (some 45), (some (42, false)), []⟩ :: ⟨.mov (.t 7), (some 46), (some (45, true)), []⟩ :: L127_21
theorem v127_22 : VS L127_22.eq_1 := rfl
def L127_23 : List AStep := ⟨.load 4 true (.t 9), (some 43), (some (42, false)), []⟩ :: ⟨.call 157 [(.t 43)], (some 44), (some (42, false)), []⟩ :: L127_22
theorem v127_23 : VS L127_23.eq_1 := rfl
def L127_24 : List AStep := ⟨.pick (.t 38) (.c (.bool true)) (.t 40), (some 41), none, []⟩ :: ⟨.mov (.t 41), (some 42), none, []⟩ :: L127_23
theorem v127_24 : VS L127_24.eq_1 := rfl
def L127_25 : List AStep := ⟨.faddr 2 (.t 9), (some 39), (some (38, false)), []⟩ :: ⟨.load 1 false (.t 39), (some 40), (some (38, false)), []⟩ :: L127_24
theorem v127_25 : VS L127_25.eq_1 := rfl
def L127_26 : List AStep := ⟨.not (.t 36), (some 37), none, []⟩ :: ⟨.mov (.t 37), (some 38), none, []⟩ :: L127_25
theorem v127_26 : VS L127_26.eq_1 := rfl
def L127_27 : List AStep := ⟨.load 4 true (.t 9), (some 35), none, []⟩ :: ⟨.call 156 [(.t 35)], (some 36), none, []⟩ :: L127_26
theorem v127_27 : VS L127_27.eq_1 := rfl
def L127_28 : List AStep := [⟨.bin .eql (.t 52) (.c (.int .i64 0)), (some 53), none, []⟩]
theorem v127_28 : VS L127_28.eq_1 := rfl
def L127_29 : List AStep := ⟨.faddr 1 (.t 9), (some 51), none, []⟩ :: ⟨.load 1 false (.t 51), (some 52), none, []⟩ :: L127_28
theorem v127_29 : VS L127_29.eq_1 := rfl
def L127_30 : List AStep := [⟨.mov (.c (.sl none 0 (some 0))), (some 4), none, []⟩, ⟨.mov (.c (.bool false)), (some 5), none, []⟩]
theorem v127_30 : VS L127_30.eq_1 := rfl
def L127_31 : List AStep := [⟨.append 9 1 16 (.t 54) (.t 57), (some 58), none, []⟩, ⟨.mov (.t 58), (some 6), none, []⟩]
theorem v127_31 : VS L127_31.eq_1 := rfl
def L127_32 : List AStep := ⟨.load 1 false (.t 55), (some 56), none, []⟩ :: ⟨.buildSlice 9 1 [(.str (strOfNums []))] [(0, 1, (.t 56))], (some 57), none, []⟩ :: L127_31
theorem v127_32 : VS L127_32.eq_1 := rfl
def L127_33 : List AStep := ⟨.mov (.t 6), (some 54), none, []⟩ :: ⟨.faddr 0 (.t 9), (some 55), none, []⟩ :: L127_32
theorem v127_33 : VS L127_33.eq_1 := rfl
def L127_34 : List AStep := [⟨.bin .add (.t 27) (.c (.int .i64 1)), (some 59), none, []⟩, ⟨.mov (.t 59), (some 27), none, []⟩]
theorem v127_34 : VS L127_34.eq_1 := rfl
def L127_35 : List AStep := [⟨.mov (.t 6), (some 60), none, []⟩, ⟨.call 161 [(.t 60)], (some 61), none, []⟩]
theorem v127_35 : VS L127_35.eq_1 := rfl
def L127_36 : List AStep := [⟨.mov (.t 63), (some 4), none, []⟩, ⟨.mov (.c (.bool true)), (some 5), none, []⟩]
theorem v127_36 : VS L127_36.eq_1 := rfl
def L127_37 : List AStep := ⟨.mov (.t 6), (some 62), none, []⟩ :: ⟨.call 162 [(.t 62)], (some 63), none, []⟩ :: L127_36
theorem v127_37 : VS L127_37.eq_1 := rfl
def C127_0 : ACode := .seq (.reg L127_9) .ret
theorem u127_0 : VC C127_0.eq_1 := rfl
def C127_1 : ACode := .cond (.t 23) C127_0 .skip
theorem u127_1 : VC C127_1.eq_1 := rfl
def C127_2 : ACode := .seq (.reg L127_8) C127_1
theorem u127_2 : VC C127_2.eq_1 := rfl
def C127_3 : ACode := .cond (.t 28) .skip (.exit 0)
theorem u127_3 : VC C127_3.eq_1 := rfl
def C127_4 : ACode := .cond (.t 32) (.reg L127_19) .skip
theorem u127_4 : VC C127_4.eq_1 := rfl
def C127_5 : ACode := .seq (.reg L127_17) C127_4
theorem u127_5 : VC C127_5.eq_1 := rfl
def C127_6 : ACode := .cond (.t 50) (.exit 1) .skip
theorem u127_6 : VC C127_6.eq_1 := rfl
def C127_7 : ACode := .seq (.reg L127_27) C127_6
theorem u127_7 : VC C127_7.eq_1 := rfl
def C127_8 : ACode := .seq (.reg L127_30) .ret
theorem u127_8 : VC C127_8.eq_1 := rfl
def C127_9 : ACode := .cond (.t 53) C127_8 .skip
theorem u127_9 : VC C127_9.eq_1 := rfl
def C127_10 : ACode := .seq (.reg L127_29) C127_9
theorem u127_10 : VC C127_10.eq_1 := rfl
def C127_11 : ACode := .seq C127_10 (.reg L127_33)
theorem u127_11 : VC C127_11.eq_1 := rfl
def C127_12 : ACode := .seq C127_7 C127_11
theorem u127_12 : VC C127_12.eq_1 := rfl
def C127_13 : ACode := .seq C127_5 C127_12
theorem u127_13 : VC C127_13.eq_1 := rfl
def C127_14 : ACode := .seq (.reg L127_16) C127_13
theorem u127_14 : VC C127_14.eq_1 := rfl
def C127_15 : ACode := .block 1 C127_14
theorem u127_15 : VC C127_15.eq_1 := rfl
def C127_16 : ACode := .seq C127_15 (.reg L127_34)
theorem u127_16 : VC C127_16.eq_1 := rfl
def C127_17 : ACode := .seq C127_3 C127_16
theorem u127_17 : VC C127_17.eq_1 := rfl
def C127_18 : ACode := .seq (.reg L127_14) C127_17
theorem u127_18 : VC C127_18.eq_1 := rfl
def C127_19 : ACode := .block 0 (.loop C127_18)
theorem u127_19 : VC C127_19.eq_1 := rfl
def C127_20 : ACode := .seq (.reg L127_13) C127_19
theorem u127_20 : VC C127_20.eq_1 := rfl
def C127_21 : ACode := .seq (.reg L127_37) .ret
theorem u127_21 : VC C127_21.eq_1 := rfl
def C127_22 : ACode := .seq (.reg L127_35) C127_21
theorem u127_22 : VC C127_22.eq_1 := rfl
def C127_23 : ACode := .seq C127_20 C127_22
theorem u127_23 : VC C127_23.eq_1 := rfl
def C127_24 : ACode := .seq (.reg L127_11) C127_23
theorem u127_24 : VC C127_24.eq_1 := rfl
def C127_25 : ACode := .seq (.reg L127_10) C127_24
theorem u127_25 : VC C127_25.eq_1 := rfl
def C127_26 : ACode := .seq C127_2 C127_25
theorem u127_26 : VC C127_26.eq_1 := rfl
def C127_27 : ACode := .seq (.reg L127_1) C127_26
theorem u127_27 : VC C127_27.eq_1 := rfl
def F127 : AFunc := ⟨64, [.tmp 4, .tmp 5], C127_27⟩
theorem cF127 : compB Try.prog 127 = some F127 := by kernel_rfl
attribute [local go_sem ↓] u127_0 u127_1 u127_2 u127_3 u127_4 u127_5 u127_6 u127_7 u127_8 u127_9 u127_10 u127_11 u127_12 u127_13 u127_14 u127_15 u127_16 u127_17 u127_18 u127_19 u127_20 u127_21 u127_22 u127_23 u127_24 u127_25 u127_26 u127_27 v127_0 v127_1 v127_2 v127_3 v127_4 v127_5 v127_6 v127_7 v127_8 v127_9 v127_10 v127_11 v127_12 v127_13 v127_14 v127_15 v127_16 v127_17 v127_18 v127_19 v127_20 v127_21 v127_22 v127_23 v127_24 v127_25 v127_26 v127_27 v127_28 v127_29 v127_30 v127_31 v127_32 v127_33 v127_34 v127_35 v127_36 v127_37
theorem c_needs (l : List Param) (q : CV) (n : Int) (h : H) (hl : SlQ h (.one q) l) (hn : smQ l) (o : Ord l) (h8 : l.length ≤ 8) : callK (bm Try.prog 127 [.agg [q], .one (.int .i64 n)] h) fun r h' => Grow h h' ∧ ∃ w, r = .tup [.one w, ib (inC n && (!manyC l n && lateOk l n.toNat))] := by
  refine bm_of cF127 ?_
  cases b1 : decide (0 ≤ n) && decide (n ≤ 8) with
  | false =>
    have e1 : inC n = false := b1
    rw [e1, Bool.false_and]
    simp +contextual (maxSteps := 2000000) only [go_sem, Nat.reduceEqDiff, reduceCtorEq, Nat.reduceAdd, Nat.reduceLeDiff, F127, c_in, b1]
    exact ⟨Grow.refl h, _, rfl⟩
  | true =>
  have b3 : 0 ≤ n ∧ n ≤ 8 := by simpa using b1
  obtain ⟨m, rfl⟩ := Int.eq_ofNat_of_zero_le b3.1
  have c1 : decide (0 ≤ (m : Int)) = true := decide_eq_true b3.1
  have c2 : decide ((m : Int) ≤ 8) = true := decide_eq_true b3.2
  have e1 : inC (m : Int) = true := b1
  rw [e1, Bool.true_and, Int.toNat_natCast]
  have e0 : manyC l m = (decide ((m : Int) > (l.countP byPlace : Int)) && !decide (0 ≤ kindAt l 2)) := by
    have : decide (kindAt l 2 < 0) = !decide (0 ≤ kindAt l 2) := by
      by_cases hx : kindAt l 2 < 0
      · rw [decide_eq_true hx, decide_eq_false (by omega)]; rfl
      · rw [decide_eq_false hx, decide_eq_true (by omega)]; rfl
    unfold manyC
    rw [this]
  have k1 := c_placesI l q h hl h8
  have k2 := c_has l q 2 h hl hn
  cases b4 : decide ((m : Int) > (l.countP byPlace : Int)) with
  | true =>
    rw [b4, Bool.true_and] at e0
    cases b0 : decide (0 ≤ kindAt l 2) with
    | false =>
      rw [b0] at e0
      simp +contextual (maxSteps := 2000000) only [go_sem, Nat.reduceEqDiff, reduceCtorEq, Nat.reduceAdd, Nat.reduceLeDiff, F127, c_in, c1, c2, k1, b4, k2, b0, e0, Bool.and_self, Bool.not_false, Bool.not_true, Bool.false_and]
      exact ⟨Grow.refl h, _, rfl⟩
    | true =>
    rw [b0] at e0
    simp +contextual (maxSteps := 2000000) only [go_sem, Nat.reduceEqDiff, reduceCtorEq, Nat.reduceAdd, Nat.reduceLeDiff, F127, c_in, c1, c2, k1, b4, k2, b0, e0, hl.len, Bool.and_self, Bool.not_false, Bool.not_true, Bool.true_and]
    refine wpC_loop (fun i T L h' => Grow h h' ∧ T 1 = .v (.one (.int .i64 m)) ∧ (∃ w ms, T 6 = .v (.one w) ∧ NwS h h' (.one w) ms ∧ ms.length ≤ i) ∧ T 7 = .v (.one (.int .i64 (cnt byPlace l i))) ∧ T 25 = .v (.one q) ∧ T 26 = .v (.one (.int .i64 l.length)) ∧ T 27 = .v (.one (.int .i64 i)) ∧ Upto (lateAt l m) i) l.length ?_ ?_ (Nat.zero_le _) ?_
    · rintro i T L h' hi ⟨g, t1, ⟨w, ms, t6, z, hz⟩, t7, t25, t26, t27, hu⟩
      have k := hl.grow g
      have es := fun h => c_placed l[i] h
      have es2 := fun h => c_single l[i] h
      simp only [encQ] at es es2
      have el := lateAt_eq (m := m) hi
      have hc := cnt_next (p := byPlace) hi
      have hp := cnt_place o (i + 1) (by omega)
      have hx := cnt_le (p := byPlace) (l := l) (i := i)
      have a5 : IntKind.i64.wrap ((cnt byPlace l i : Int) + 1) = ((cnt byPlace l i + 1 : Nat) : Int) := by rw [i64_wrap (by omega) (by omega)]; omega
      cases b5 : single l[i] with
      | false =>
        have b6 : byPlace l[i] = false := by simp [single] at b5; exact b5.1
        rw [kind0_single b5, Bool.false_and, Bool.not_false, Bool.or_true] at el
        rw [b6, if_neg (by simp), Nat.add_zero] at hc
        simp +contextual (maxSteps := 2000000) only [go_sem, Nat.reduceEqDiff, reduceCtorEq, Nat.reduceAdd, Nat.reduceLeDiff, t1, t6, t7, t25, t26, t27, lt_true hi, k.iaddr hi, k.whole hi, encQ, es, es2, b5, b6]
        exact ⟨g, ⟨w, ms, rfl, z, by omega⟩, by (rw [hc]) <;> rfl, by rw [wrap_next hi (by omega)], hu.next el⟩
      | true =>
      cases b6 : byPlace l[i] with
      | false =>
        rw [b6, if_neg (by simp), Nat.add_zero] at hc
        have b7 : decide (l[i].kind = 0) = false := by
          cases b : decide (l[i].kind = 0) with
          | false => rfl
          | true => rw [kind0_place b] at b6; exact b6
        rw [b7, Bool.false_and, Bool.not_false, Bool.or_true] at el
        cases b8 : l[i].has with
        | true =>
          simp only [b8] at es es2
          simp +contextual (maxSteps := 2000000) only [go_sem, Nat.reduceEqDiff, reduceCtorEq, Nat.reduceAdd, Nat.reduceLeDiff, t1, t6, t7, t25, t26, t27, lt_true hi, k.iaddr hi, k.whole hi, encQ, es, es2, b5, b6, b8]
          exact ⟨g, ⟨w, ms, rfl, z, by omega⟩, by (rw [hc]) <;> rfl, by rw [wrap_next hi (by omega)], hu.next el⟩
        | false =>
          simp only [b8] at es es2
          simp +contextual (maxSteps := 2000000) only [go_sem, Nat.reduceEqDiff, reduceCtorEq, Nat.reduceAdd, Nat.reduceLeDiff, t1, t6, t7, t25, t26, t27, lt_true hi, k.iaddr hi, k.whole hi, encQ, es, es2, b5, b6, b8, b7]
          refine wp_lit (enc := encS) (k := 1) (l := [l[i].name]) rfl rfl ?_
          intro h3 w3 g3 n3 _
          simp +contextual (maxSteps := 2000000) only [go_sem, Nat.reduceEqDiff, reduceCtorEq, Nat.reduceAdd, Nat.reduceLeDiff, t1, t6, t7, t25, t26, t27]
          refine wp_append lenS (z.grow g3) (n3.sl lenS) (g.trans g3) (by simp; omega) ?_
          intro h4 s4 g4 n4 st4 hb4
          obtain ⟨c4, rfl⟩ := n4.one
          simp +contextual (maxSteps := 2000000) only [go_sem, Nat.reduceEqDiff, reduceCtorEq, Nat.reduceAdd, Nat.reduceLeDiff, t1, t6, t7, t25, t26, t27]
          exact ⟨g4, ⟨c4, _, rfl, n4, by simp; omega⟩, by (rw [hc]) <;> rfl, by rw [wrap_next hi (by omega)], hu.next el⟩
      | true =>
        rw [b6, if_pos rfl] at hc
        have b9 : i < places l := by have := o.place hi; rw [b6] at this; exact of_decide_eq_true this.symm
        cases b8 : l[i].has with
        | true =>
          rw [b8, Bool.not_true, Bool.and_false, Bool.not_false, Bool.or_true] at el
          simp only [b8] at es es2
          simp +contextual (maxSteps := 2000000) only [go_sem, Nat.reduceEqDiff, reduceCtorEq, Nat.reduceAdd, Nat.reduceLeDiff, t1, t6, t7, t25, t26, t27, lt_true hi, k.iaddr hi, k.whole hi, encQ, es, es2, b5, b6, b8, a5]
          exact ⟨g, ⟨w, ms, rfl, z, by omega⟩, by (rw [hc]) <;> rfl, by rw [wrap_next hi (by omega)], hu.next el⟩
        | false =>
        simp only [b8] at es es2
        by_cases b10 : cnt byPlace l i + 1 ≤ m
        · have a6 : decide (((cnt byPlace l i + 1 : Nat) : Int) ≤ (m : Int)) = true := decide_eq_true (by omega)
          rw [decide_eq_true (show i < m by omega), Bool.true_or] at el
          simp +contextual (maxSteps := 2000000) only [go_sem, Nat.reduceEqDiff, reduceCtorEq, Nat.reduceAdd, Nat.reduceLeDiff, t1, t6, t7, t25, t26, t27, lt_true hi, k.iaddr hi, k.whole hi, encQ, es, es2, b5, b6, b8, a5, a6]
          exact ⟨g, ⟨w, ms, rfl, z, by omega⟩, by (rw [hc]) <;> rfl, by rw [wrap_next hi (by omega)], hu.next el⟩
        · have a6 : decide (((cnt byPlace l i + 1 : Nat) : Int) ≤ (m : Int)) = false := decide_eq_false (by omega)
          rw [decide_eq_false (show ¬ i < m by omega), Bool.false_or, b8, Bool.not_false, Bool.and_true] at el
          cases b7 : decide (l[i].kind = 0) with
          | true =>
            rw [b7, Bool.not_true] at el
            simp +contextual (maxSteps := 2000000) only [go_sem, Nat.reduceEqDiff, reduceCtorEq, Nat.reduceAdd, Nat.reduceLeDiff, t1, t6, t7, t25, t26, t27, lt_true hi, k.iaddr hi, k.whole hi, encQ, es, es2, b5, b6, b8, a5, a6, b7, lateOk_not hi el]
            exact gcK_of ⟨g, _, rfl⟩ (fun _ _ => ⟨Grow.refl h, _, rfl⟩)
          | false =>
            rw [b7, Bool.not_false] at el
            simp +contextual (maxSteps := 2000000) only [go_sem, Nat.reduceEqDiff, reduceCtorEq, Nat.reduceAdd, Nat.reduceLeDiff, t1, t6, t7, t25, t26, t27, lt_true hi, k.iaddr hi, k.whole hi, encQ, es, es2, b5, b6, b8, a5, a6, b7]
            refine wp_lit (enc := encS) (k := 1) (l := [l[i].name]) rfl rfl ?_
            intro h3 w3 g3 n3 _
            simp +contextual (maxSteps := 2000000) only [go_sem, Nat.reduceEqDiff, reduceCtorEq, Nat.reduceAdd, Nat.reduceLeDiff, t1, t6, t7, t25, t26, t27]
            refine wp_append lenS (z.grow g3) (n3.sl lenS) (g.trans g3) (by simp; omega) ?_
            intro h4 s4 g4 n4 st4 hb4
            obtain ⟨c4, rfl⟩ := n4.one
            simp +contextual (maxSteps := 2000000) only [go_sem, Nat.reduceEqDiff, reduceCtorEq, Nat.reduceAdd, Nat.reduceLeDiff, t1, t6, t7, t25, t26, t27]
            exact ⟨g4, ⟨c4, _, rfl, n4, by simp; omega⟩, by (rw [hc]) <;> rfl, by rw [wrap_next hi (by omega)], hu.next el⟩
    · rintro T L h' ⟨g, t1, ⟨w, ms, t6, z, hz⟩, t7, t25, t26, t27, hu⟩
      simp +contextual (maxSteps := 2000000) only [go_sem, Nat.reduceEqDiff, reduceCtorEq, Nat.reduceAdd, Nat.reduceLeDiff, t1, t6, t7, t25, t26, t27, lt_false]
      refine wp_call (c_sortS ms (.one w) h h' g z (by omega)) ?_
      rintro r h2 ⟨g2, n2⟩
      simp +contextual (maxSteps := 2000000) only [go_sem, Nat.reduceEqDiff, reduceCtorEq, Nat.reduceAdd, Nat.reduceLeDiff, t6]
      refine wp_call (c_clipS _ _ h2 n2) ?_
      rintro r h3 ⟨rfl, n3⟩
      obtain ⟨c3, rfl⟩ := n3.one
      simp +contextual (maxSteps := 2000000) only [go_sem, Nat.reduceEqDiff, reduceCtorEq, Nat.reduceAdd, Nat.reduceLeDiff, lateOk_of (Nat.le_refl _) hu]
      exact gcK_of ⟨g2, _, rfl⟩ (fun _ _ => ⟨Grow.refl h, _, rfl⟩)
    · simp +contextual (maxSteps := 2000000) only [go_sem, Nat.reduceEqDiff, reduceCtorEq, Nat.reduceAdd, Nat.reduceLeDiff, cnt_zero]
      exact ⟨Grow.refl h, ⟨_, [], rfl, .nil, Nat.le_refl 0⟩, rfl, rfl, Upto.zero⟩
  | false =>
    rw [b4, Bool.false_and] at e0
    simp +contextual (maxSteps := 2000000) only [go_sem, Nat.reduceEqDiff, reduceCtorEq, Nat.reduceAdd, Nat.reduceLeDiff, F127, c_in, c1, c2, k1, b4, e0, hl.len, Bool.and_self, Bool.not_false, Bool.not_true, Bool.true_and]
    refine wpC_loop (fun i T L h' => Grow h h' ∧ T 1 = .v (.one (.int .i64 m)) ∧ (∃ w ms, T 6 = .v (.one w) ∧ NwS h h' (.one w) ms ∧ ms.length ≤ i) ∧ T 7 = .v (.one (.int .i64 (cnt byPlace l i))) ∧ T 25 = .v (.one q) ∧ T 26 = .v (.one (.int .i64 l.length)) ∧ T 27 = .v (.one (.int .i64 i)) ∧ Upto (lateAt l m) i) l.length ?_ ?_ (Nat.zero_le _) ?_
    · rintro i T L h' hi ⟨g, t1, ⟨w, ms, t6, z, hz⟩, t7, t25, t26, t27, hu⟩
      have k := hl.grow g
      have es := fun h => c_placed l[i] h
      have es2 := fun h => c_single l[i] h
      simp only [encQ] at es es2
      have el := lateAt_eq (m := m) hi
      have hc := cnt_next (p := byPlace) hi
      have hp := cnt_place o (i + 1) (by omega)
      have hx := cnt_le (p := byPlace) (l := l) (i := i)
      have a5 : IntKind.i64.wrap ((cnt byPlace l i : Int) + 1) = ((cnt byPlace l i + 1 : Nat) : Int) := by rw [i64_wrap (by omega) (by omega)]; omega
      cases b5 : single l[i] with
      | false =>
        have b6 : byPlace l[i] = false := by simp [single] at b5; exact b5.1
        rw [kind0_single b5, Bool.false_and, Bool.not_false, Bool.or_true] at el
        rw [b6, if_neg (by simp), Nat.add_zero] at hc
        simp +contextual (maxSteps := 2000000) only [go_sem, Nat.reduceEqDiff, reduceCtorEq, Nat.reduceAdd, Nat.reduceLeDiff, t1, t6, t7, t25, t26, t27, lt_true hi, k.iaddr hi, k.whole hi, encQ, es, es2, b5, b6]
        exact ⟨g, ⟨w, ms, rfl, z, by omega⟩, by (rw [hc]) <;> rfl, by rw [wrap_next hi (by omega)], hu.next el⟩
      | true =>
      cases b6 : byPlace l[i] with
      | false =>
        rw [b6, if_neg (by simp), Nat.add_zero] at hc
        have b7 : decide (l[i].kind = 0) = false := by
          cases b : decide (l[i].kind = 0) with
          | false => rfl
          | true => rw [kind0_place b] at b6; exact b6
        rw [b7, Bool.false_and, Bool.not_false, Bool.or_true] at el
        cases b8 : l[i].has with
        | true =>
          simp only [b8] at es es2
          simp +contextual (maxSteps := 2000000) only [go_sem, Nat.reduceEqDiff, reduceCtorEq, Nat.reduceAdd, Nat.reduceLeDiff, t1, t6, t7, t25, t26, t27, lt_true hi, k.iaddr hi, k.whole hi, encQ, es, es2, b5, b6, b8]
          exact ⟨g, ⟨w, ms, rfl, z, by omega⟩, by (rw [hc]) <;> rfl, by rw [wrap_next hi (by omega)], hu.next el⟩
        | false =>
          simp only [b8] at es es2
          simp +contextual (maxSteps := 2000000) only [go_sem, Nat.reduceEqDiff, reduceCtorEq, Nat.reduceAdd, Nat.reduceLeDiff, t1, t6, t7, t25, t26, t27, lt_true hi, k.iaddr hi, k.whole hi, encQ, es, es2, b5, b6, b8, b7]
          refine wp_lit (enc := encS) (k := 1) (l := [l[i].name]) rfl rfl ?_
          intro h3 w3 g3 n3 _
          simp +contextual (maxSteps := 2000000) only [go_sem, Nat.reduceEqDiff, reduceCtorEq, Nat.reduceAdd, Nat.reduceLeDiff, t1, t6, t7, t25, t26, t27]
          refine wp_append lenS (z.grow g3) (n3.sl lenS) (g.trans g3) (by simp; omega) ?_
          intro h4 s4 g4 n4 st4 hb4
          obtain ⟨c4, rfl⟩ := n4.one
          simp +contextual (maxSteps := 2000000) only [go_sem, Nat.reduceEqDiff, reduceCtorEq, Nat.reduceAdd, Nat.reduceLeDiff, t1, t6, t7, t25, t26, t27]
          exact ⟨g4, ⟨c4, _, rfl, n4, by simp; omega⟩, by (rw [hc]) <;> rfl, by rw [wrap_next hi (by omega)], hu.next el⟩
      | true =>
        rw [b6, if_pos rfl] at hc
        have b9 : i < places l := by have := o.place hi; rw [b6] at this; exact of_decide_eq_true this.symm
        cases b8 : l[i].has with
        | true =>
          rw [b8, Bool.not_true, Bool.and_false, Bool.not_false, Bool.or_true] at el
          simp only [b8] at es es2
          simp +contextual (maxSteps := 2000000) only [go_sem, Nat.reduceEqDiff, reduceCtorEq, Nat.reduceAdd, Nat.reduceLeDiff, t1, t6, t7, t25, t26, t27, lt_true hi, k.iaddr hi, k.whole hi, encQ, es, es2, b5, b6, b8, a5]
          exact ⟨g, ⟨w, ms, rfl, z, by omega⟩, by (rw [hc]) <;> rfl, by rw [wrap_next hi (by omega)], hu.next el⟩
        | false =>
        simp only [b8] at es es2
        by_cases b10 : cnt byPlace l i + 1 ≤ m
        · have a6 : decide (((cnt byPlace l i + 1 : Nat) : Int) ≤ (m : Int)) = true := decide_eq_true (by omega)
          rw [decide_eq_true (show i < m by omega), Bool.true_or] at el
          simp +contextual (maxSteps := 2000000) only [go_sem, Nat.reduceEqDiff, reduceCtorEq, Nat.reduceAdd, Nat.reduceLeDiff, t1, t6, t7, t25, t26, t27, lt_true hi, k.iaddr hi, k.whole hi, encQ, es, es2, b5, b6, b8, a5, a6]
          exact ⟨g, ⟨w, ms, rfl, z, by omega⟩, by (rw [hc]) <;> rfl, by rw [wrap_next hi (by omega)], hu.next el⟩
        · have a6 : decide (((cnt byPlace l i + 1 : Nat) : Int) ≤ (m : Int)) = false := decide_eq_false (by omega)
          rw [decide_eq_false (show ¬ i < m by omega), Bool.false_or, b8, Bool.not_false, Bool.and_true] at el
          cases b7 : decide (l[i].kind = 0) with
          | true =>
            rw [b7, Bool.not_true] at el
            simp +contextual (maxSteps := 2000000) only [go_sem, Nat.reduceEqDiff, reduceCtorEq, Nat.reduceAdd, Nat.reduceLeDiff, t1, t6, t7, t25, t26, t27, lt_true hi, k.iaddr hi, k.whole hi, encQ, es, es2, b5, b6, b8, a5, a6, b7, lateOk_not hi el]
            exact gcK_of ⟨g, _, rfl⟩ (fun _ _ => ⟨Grow.refl h, _, rfl⟩)
          | false =>
            rw [b7, Bool.not_false] at el
            simp +contextual (maxSteps := 2000000) only [go_sem, Nat.reduceEqDiff, reduceCtorEq, Nat.reduceAdd, Nat.reduceLeDiff, t1, t6, t7, t25, t26, t27, lt_true hi, k.iaddr hi, k.whole hi, encQ, es, es2, b5, b6, b8, a5, a6, b7]
            refine wp_lit (enc := encS) (k := 1) (l := [l[i].name]) rfl rfl ?_
            intro h3 w3 g3 n3 _
            simp +contextual (maxSteps := 2000000) only [go_sem, Nat.reduceEqDiff, reduceCtorEq, Nat.reduceAdd, Nat.reduceLeDiff, t1, t6, t7, t25, t26, t27]
            refine wp_append lenS (z.grow g3) (n3.sl lenS) (g.trans g3) (by simp; omega) ?_
            intro h4 s4 g4 n4 st4 hb4
            obtain ⟨c4, rfl⟩ := n4.one
            simp +contextual (maxSteps := 2000000) only [go_sem, Nat.reduceEqDiff, reduceCtorEq, Nat.reduceAdd, Nat.reduceLeDiff, t1, t6, t7, t25, t26, t27]
            exact ⟨g4, ⟨c4, _, rfl, n4, by simp; omega⟩, by (rw [hc]) <;> rfl, by rw [wrap_next hi (by omega)], hu.next el⟩
    · rintro T L h' ⟨g, t1, ⟨w, ms, t6, z, hz⟩, t7, t25, t26, t27, hu⟩
      simp +contextual (maxSteps := 2000000) only [go_sem, Nat.reduceEqDiff, reduceCtorEq, Nat.reduceAdd, Nat.reduceLeDiff, t1, t6, t7, t25, t26, t27, lt_false]
      refine wp_call (c_sortS ms (.one w) h h' g z (by omega)) ?_
      rintro r h2 ⟨g2, n2⟩
      simp +contextual (maxSteps := 2000000) only [go_sem, Nat.reduceEqDiff, reduceCtorEq, Nat.reduceAdd, Nat.reduceLeDiff, t6]
      refine wp_call (c_clipS _ _ h2 n2) ?_
      rintro r h3 ⟨rfl, n3⟩
      obtain ⟨c3, rfl⟩ := n3.one
      simp +contextual (maxSteps := 2000000) only [go_sem, Nat.reduceEqDiff, reduceCtorEq, Nat.reduceAdd, Nat.reduceLeDiff, lateOk_of (Nat.le_refl _) hu]
      exact gcK_of ⟨g2, _, rfl⟩ (fun _ _ => ⟨Grow.refl h, _, rfl⟩)
    · simp +contextual (maxSteps := 2000000) only [go_sem, Nat.reduceEqDiff, reduceCtorEq, Nat.reduceAdd, Nat.reduceLeDiff, cnt_zero]
      exact ⟨Grow.refl h, ⟨_, [], rfl, .nil, Nat.le_refl 0⟩, rfl, rfl, Upto.zero⟩
/-! impl.NeedsAt -/
def L85_0 : List AStep := [⟨.mov (.c (.bool false)), (some 5), none, []⟩]
theorem v85_0 : VS L85_0.eq_1 := rfl
def L85_1 : List AStep := ⟨.box 69 (.t 0), (some 2), none, []⟩ :: ⟨.mov (.c (.sl none 0 (some 0))), (some 4), none, []⟩ :: L85_0
theorem v85_1 : VS L85_1.eq_1 := rfl
def L85_2 : List AStep := [⟨.not (.t 7), (some 8), none, []⟩]
theorem v85_2 : VS L85_2.eq_1 := rfl
def L85_3 : List AStep := ⟨.load 1 true (.t 2), (some 6), none, []⟩ :: ⟨.call 126 [(.t 6)], (some 7), none, []⟩ :: L85_2
theorem v85_3 : VS L85_3.eq_1 := rfl
def L85_4 : List AStep := [⟨.mov (.c (.sl none 0 (some 0))), (some 4), none, []⟩, ⟨.mov (.c (.bool false)), (some 5), none, []⟩]
theorem v85_4 : VS L85_4.eq_1 := rfl
def L85_5 : List AStep := [⟨.mov (.t 13), (some 5), none, []⟩]
theorem v85_5 : VS L85_5.eq_1 := rfl
def L85_6 : List AStep := ⟨.extract (.t 11) 1, (some 13), none, []⟩ :: ⟨.mov (.t 12), (some 4), none, []⟩ :: L85_5
theorem v85_6 : VS L85_6.eq_1 := rfl
def L85_7 : List AStep := ⟨.call 127 [(.t 9), (.t 10)], (some 11), none, []⟩ :: ⟨.extract (.t 11) 0, (some 12), none, []⟩ :: L85_6
theorem v85_7 : VS L85_7.eq_1 := rfl
def L85_8 : List AStep := ⟨.load 1 true (.t 2), (some 9), none, []⟩ :: ⟨.mov (.t 1), (some 10), none, []⟩ :: L85_7
theorem v85_8 : VS L85_8.eq_1 := rfl
def C85_0 : ACode := .seq (.reg L85_4) .ret
theorem u85_0 : VC C85_0.eq_1 := rfl
def C85_1 : ACode := .cond (.t 8) C85_0 .skip
theorem u85_1 : VC C85_1.eq_1 := rfl
def C85_2 : ACode := .seq (.reg L85_3) C85_1
theorem u85_2 : VC C85_2.eq_1 := rfl
def C85_3 : ACode := .seq (.reg L85_8) .ret
theorem u85_3 : VC C85_3.eq_1 := rfl
def C85_4 : ACode := .seq C85_2 C85_3
theorem u85_4 : VC C85_4.eq_1 := rfl
def C85_5 : ACode := .seq (.reg L85_1) C85_4
theorem u85_5 : VC C85_5.eq_1 := rfl
def F85 : AFunc := ⟨14, [.tmp 4, .tmp 5], C85_5⟩
theorem cF85 : compB Try.prog 85 = some F85 := by kernel_rfl
attribute [local go_sem ↓] u85_0 u85_1 u85_2 u85_3 u85_4 u85_5 v85_0 v85_1 v85_2 v85_3 v85_4 v85_5 v85_6 v85_7 v85_8
theorem k_needsAt (l : List Param) (q : CV) (n : Int) (h : H) (hl : SlG h q l) (hn : miniG l) : callK (bm Try.prog 85 [.agg [q], .one (.int .i64 n)] h) fun r h' => Grow h h' ∧ ∃ w, r = .tup [.one w, ib (takesC l n)] := by
  refine bm_of cF85 ?_
  unfold takesC
  cases b1 : okSig l with
  | false =>
    simp +contextual (maxSteps := 2000000) only [go_sem, Nat.reduceEqDiff, reduceCtorEq, Nat.reduceAdd, Nat.reduceLeDiff, F85, c_ValidSignature _ _ _ hl.out hn.sm, b1, Bool.false_and]
    exact ⟨Grow.refl h, _, rfl⟩
  | true =>
  simp +contextual (maxSteps := 2000000) only [go_sem, Nat.reduceEqDiff, reduceCtorEq, Nat.reduceAdd, Nat.reduceLeDiff, F85, c_ValidSignature _ _ _ hl.out hn.sm, b1, Bool.true_and]
  refine wp_call (c_needs l q n h hl.out hn.sm (Ord.of b1) (okSig_len b1)) ?_
  rintro r h1 ⟨g1, w, rfl⟩
  simp +contextual (maxSteps := 2000000) only [go_sem, Nat.reduceEqDiff, reduceCtorEq, Nat.reduceAdd, Nat.reduceLeDiff]
  exact gcK_of ⟨g1, _, rfl⟩ (fun _ _ => ⟨Grow.refl h, _, rfl⟩)
/-! impl.TakesCount -/
def L36_0 : List AStep := [⟨.box 69 (.t 0), (some 2), none, []⟩, ⟨.mov (.c (.bool false)), (some 4), none, []⟩]
theorem v36_0 : VS L36_0.eq_1 := rfl
def L36_1 : List AStep := [⟨.mov (.t 11), (some 5), none, []⟩, ⟨.mov (.t 12), (some 6), none, []⟩]
theorem v36_1 : VS L36_1.eq_1 := rfl
def L36_2 : List AStep := ⟨.extract (.t 7) 0, (some 11), none, []⟩ :: ⟨.extract (.t 7) 1, (some 12), none, []⟩ :: L36_1
theorem v36_2 : VS L36_2.eq_1 := rfl
def L36_3 : List AStep := ⟨.call 85 [(.t 8), (.t 9)], (some 10), none, []⟩ :: ⟨.mov (.t 10), (some 7), none, []⟩ :: L36_2
theorem v36_3 : VS L36_3.eq_1 := rfl
def L36_4 : List AStep := ⟨.load 1 true (.t 2), (some 8), none, []⟩ :: ⟨.mov (.t 1), (some 9), none, []⟩ :: L36_3
theorem v36_4 : VS L36_4.eq_1 := rfl
def L36_5 : List AStep := [⟨.mov (.t 6), (some 13), none, []⟩, ⟨.mov (.t 13), (some 4), none, []⟩]
theorem v36_5 : VS L36_5.eq_1 := rfl
def C36_0 : ACode := .seq (.reg L36_5) .ret
theorem u36_0 : VC C36_0.eq_1 := rfl
def C36_1 : ACode := .seq (.reg L36_4) C36_0
theorem u36_1 : VC C36_1.eq_1 := rfl
def C36_2 : ACode := .seq (.reg L36_0) C36_1
theorem u36_2 : VC C36_2.eq_1 := rfl
def F36 : AFunc := ⟨14, [.tmp 4], C36_2⟩
theorem cF36 : compB Try.prog 36 = some F36 := by kernel_rfl
attribute [local go_sem ↓] u36_0 u36_1 u36_2 v36_0 v36_1 v36_2 v36_3 v36_4 v36_5
theorem k_iTakesCount (l : List Param) (q : CV) (n : Int) (h : H) (hl : SlG h q l) (hn : miniG l) : bm Try.prog 36 [.agg [q], .one (.int .i64 n)] h = some (ib (takesC l n), h) := by
  refine bm_eq cF36 ?_
  simp +contextual (maxSteps := 2000000) only [go_sem, Nat.reduceEqDiff, reduceCtorEq, Nat.reduceAdd, Nat.reduceLeDiff, F36]
  refine wp_call (k_needsAt l q n h hl hn) ?_
  rintro r h1 ⟨g1, w, rfl⟩
  simp +contextual (maxSteps := 2000000) only [go_sem, Nat.reduceEqDiff, reduceCtorEq, Nat.reduceAdd, Nat.reduceLeDiff]
  exact gcR_of g1 rfl ⟨rfl, rfl⟩
end Go.Proofs.Ytdalgphpacikkac.Am
