/- Contracts: the counts of values by place that a signature takes, of both sides. -/
import Derived.Test.YtekkimfdcbgcoaaA2
import Derived.Test.YtekkimfdcbgcoaaA4
import Derived.Test.YtekkimfdcbgcoaaHS
import Derived.Test.YtekkimfdcbgcoaaSE
namespace Go.Proofs.Ytekkimfdcbgcoaa.Am
open Go
set_option maxRecDepth 100000
set_option maxHeartbeats 4000000
set_option linter.unusedSimpArgs false
set_option linter.unusedVariables false
attribute [local go_sem ↓] bv_t bv_c ev_t ev_c put_same put_ne put_none kill_at pro_at lb_same lb_ne start_zero start_succ wpC_seq wpC_reg wpC_cond wpC_block wpC_skip wpC_exit wpC_ret thenQ_normal thenQ_exit thenQ_ret inBlk_normal inBlk_exit inBlk_ret wpS_nil wpS_step wpS_again wpS_guard wpO_mov wpO_load wpO_faddr wpO_nilCheck wpO_pick wpO_build wpO_bin wpO_eqb wpO_eqst wpO_eqnil wpO_not wpO_conv wpO_bytesStr wpO_iaddr wpO_idxStr wpO_field wpO_extract wpO_len wpO_lenStr wpO_cap wpO_min wpO_slice wpO_sliceStr wpO_alloc wpO_box wpO_store wpO_call wpO_callv wpO_mkfn wpO_buildSlice wpO_mkslice wpO_append wpO_appz proA_nil proA_cons tmpX_nil tmpX_tmp tmpX_cell doneB_normal doneB_ret agK_cons agK_nil agK_guard agG_tt agG_ff agG_tf agG_ft agG_undef pureB_load results_one results_two results_nil resBs_cons resBs_nil resB_tmp resB_cell
attribute [local go_sem] kill_v kill_lp_ne kill_lp_same pro_v pro_lp_same pro_lp_ne av_v av_lp optB_some optX_some valX_eq ldX_lp ldX_v faX_lp faX_v ncX_lp ncX_ptr ncX_fn boxK_one boxK_agg stL_some stK_lp_one stK_lp_agg stK_v_one stK_v_agg proM_v proM_lp callG_mk callVG_mk callvK_fn fnG_mk ptrsA_nil ptrsA_cons callH_some whenA_true whenA_false guardH_tt guardH_ff guardH_tf guardH_ft guardH_undef agV_one agV_agg lenO_sl lenStrO_str notO_bool pickO_bool convO_int eqbO_bool eqnilO_sl extractO_tup capO_sl minO_int loadL_one loadL_all storeL_eq fillA_nil fillA_one fillA_agg nat_ge neg_ge nat_lt neg_lt buildO bin_add bin_sub bin_mul bin_eql bin_neq bin_lss bin_leq bin_gtr bin_geq str_eql str_neq str_lss str_leq str_gtr str_geq retK_some endK_mk gcK_same gcK_int gcK_bool tupO_one tupO_agg rdy_self ib ii Option.map_none Option.map_some Option.some.injEq exists_eq_left' exists_eq_left ne_eq not_false_eq_true if_true if_false List.map_cons List.map_nil List.getElem?_cons_zero List.getElem?_cons_succ List.length_cons List.length_nil List.take_succ_cons List.take_zero List.take_nil List.drop_succ_cons List.drop_zero List.drop_nil List.cons_append List.nil_append List.append_nil List.set_cons_zero List.set_cons_succ Nat.zero_add forall_const true_and and_true and_self Bool.false_eq_true false_implies true_implies implies_true Bool.not_true Bool.not_false Bool.not_eq_true' Bool.not_eq_false' beq_self_eq_true Bool.bne_true Bool.bne_false
attribute [local go_sem] lenI lenS lenP lenQ lenB lenL lenT encI_0 encS_0 encP_0 encP_1 encQ_0 encQ_1 encQ_2 encQ_3 encB_0 encB_1 encL_0 encL_1 encT_0 encT_1
attribute [local go_sem low] whenA_bool guardH_bool
/-- No parameter that must be by place comes behind the m-th value. -/
def lateAt (l : List Param) (m i : Nat) : Bool := match l[i]? with | some p => decide (i < m) || !(decide (p.kind = 0) && !p.has) | none => true
def lateOk (l : List Param) (m : Nat) : Bool := (List.range l.length).all (lateAt l m)
theorem lateAt_eq {l : List Param} {m i : Nat} (hi : i < l.length) : lateAt l m i = (decide (i < m) || !(decide (l[i].kind = 0) && !l[i].has)) := by
  unfold lateAt
  rw [List.getElem?_eq_getElem hi]
theorem lateOk_not {l : List Param} {m i : Nat} (hi : i < l.length) (h : lateAt l m i = false) : lateOk l m = false := List.all_eq_false.2 ⟨i, List.mem_range.2 hi, by simp [h]⟩
theorem lateOk_of {l : List Param} {m i : Nat} (hi : l.length ≤ i) (h : Upto (lateAt l m) i) : lateOk l m = true := List.all_eq_true.2 fun j hj => h.out j (by have := List.mem_range.1 hj; omega)
theorem late_first {l : List Param} {m : Nat} : Upto (lateAt l m) m := ⟨fun j hj => by
  unfold lateAt
  split
  · rw [decide_eq_true hj]; rfl
  · rfl⟩
def manyC (l : List Param) (n : Int) : Bool := decide (n > (l.countP byPlace : Int)) && decide (kindAt l 2 < 0)
def inC (n : Int) : Bool := decide (0 ≤ n) && decide (n ≤ 8)
def takesC (l : List Param) (n : Int) : Bool := okSig l && (inC n && (!manyC l n && lateOk l n.toNat))
/-! cmp.Less(string) -/
def L187_0 : List AStep := [⟨.mov (.c (.bool false)), (some 4), none, []⟩]
theorem v187_0 : VS L187_0.eq_1 := rfl
def L187_1 : List AStep := [⟨.mov (.t 16), (some 4), none, []⟩]
theorem v187_1 : VS L187_1.eq_1 := rfl
def L187_2 : List AStep := ⟨.bin .lss (.t 13) (.t 14), (some 15), (some (12, false)), []⟩ :: ⟨.pick (.t 12) (.c (.bool true)) (.t 15), (some 16), none, []⟩ :: L187_1
theorem v187_2 : VS L187_2.eq_1 := rfl
def L187_3 : List AStep := ⟨.mov (.t 0), (some 13), (some (12, false)), []⟩ :: ⟨.mov (.t 1), (some 14), (some (12, false)), []⟩ :: L187_2
theorem v187_3 : VS L187_3.eq_1 := rfl
def L187_4 : List AStep := ⟨.pick (.t 7) (.t 10) (.c (.bool false)), (some 11), none, []⟩ :: ⟨.mov (.t 11), (some 12), none, []⟩ :: L187_3
theorem v187_4 : VS L187_4.eq_1 := rfl
def L187_5 : List AStep := ⟨.call 156 [(.t 8)], (some 9), (some (7, true)), []⟩ :: ⟨.not (.t 9), (some 10), (some (7, true)), []⟩ :: L187_4
theorem v187_5 : VS L187_5.eq_1 := rfl
def L187_6 : List AStep := ⟨.mov (.t 6), (some 7), none, []⟩ :: ⟨.mov (.t 1), (some 8), (some (7, true)), []⟩ :: L187_5
theorem v187_6 : VS L187_6.eq_1 := rfl
def L187_7 : List AStep := ⟨.mov (.t 0), (some 5), none, []⟩ :: ⟨.call 156 [(.t 5)], (some 6), none, []⟩ :: L187_6
theorem v187_7 : VS L187_7.eq_1 := rfl
def C187_0 : ACode := .seq (.reg L187_7) .ret
theorem u187_0 : VC C187_0.eq_1 := rfl
def C187_1 : ACode := .seq (.reg L187_0) C187_0
theorem u187_1 : VC C187_1.eq_1 := rfl
def F187 : AFunc := ⟨17, [.tmp 4], C187_1⟩
theorem cF187 : compB Try.prog 187 = some F187 := by kernel_rfl
attribute [local go_sem ↓] u187_0 u187_1 v187_0 v187_1 v187_2 v187_3 v187_4 v187_5 v187_6 v187_7
theorem c_less (s t : ByteArray) (h : H) : bm Try.prog 187 [.one (.str s), .one (.str t)] h = some (ib (sLess s t), h) := by
  refine bm_eq cF187 ?_
  simp +contextual (maxSteps := 2000000) only [go_sem, Nat.reduceEqDiff, reduceCtorEq, Nat.reduceAdd, Nat.reduceLeDiff, F187, c_isNaN]
/-! slices.insertionSortOrdered(string) -/
def L181_0 : List AStep := [⟨.mov (.t 9), (some 6), none, []⟩]
theorem v181_0 : VS L181_0.eq_1 := rfl
def L181_1 : List AStep := ⟨.mov (.t 1), (some 8), none, []⟩ :: ⟨.bin .add (.t 8) (.c (.int .i64 1)), (some 9), none, []⟩ :: L181_0
theorem v181_1 : VS L181_1.eq_1 := rfl
def L181_2 : List AStep := [⟨.bin .lss (.t 10) (.t 11), (some 12), none, []⟩]
theorem v181_2 : VS L181_2.eq_1 := rfl
def L181_3 : List AStep := ⟨.mov (.t 6), (some 10), none, []⟩ :: ⟨.mov (.t 2), (some 11), none, []⟩ :: L181_2
theorem v181_3 : VS L181_3.eq_1 := rfl
def L181_4 : List AStep := [⟨.mov (.t 6), (some 15), none, []⟩, ⟨.mov (.t 15), (some 7), none, []⟩]
theorem v181_4 : VS L181_4.eq_1 := rfl
def L181_5 : List AStep := [⟨.pick (.t 19) (.t 29) (.c (.bool false)), (some 30), none, []⟩]
theorem v181_5 : VS L181_5.eq_1 := rfl
def L181_6 : List AStep := ⟨.load 1 false (.t 27), (some 28), (some (19, true)), []⟩ :: ⟨.call 187 [(.t 23), (.t 28)], (some 29), (some (19, true)), []⟩ :: L181_5
theorem v181_6 : VS L181_6.eq_1 := rfl
def L181_7 : List AStep := ⟨.bin .sub (.t 25) (.c (.int .i64 1)), (some 26), (some (19, true)), []⟩ :: ⟨.iaddr 1 (.t 24) (.t 26), (some 27), (some (19, true)), []⟩ :: L181_6
theorem v181_7 : VS L181_7.eq_1 := rfl
def L181_8 : List AStep := ⟨.mov (.t 0), (some 24), (some (19, true)), []⟩ :: ⟨.mov (.t 7), (some 25), (some (19, true)), []⟩ :: L181_7
theorem v181_8 : VS L181_8.eq_1 := rfl
def L181_9 : List AStep := ⟨.iaddr 1 (.t 20) (.t 21), (some 22), (some (19, true)), []⟩ :: ⟨.load 1 false (.t 22), (some 23), (some (19, true)), []⟩ :: L181_8
theorem v181_9 : VS L181_9.eq_1 := rfl
def L181_10 : List AStep := ⟨.mov (.t 0), (some 20), (some (19, true)), []⟩ :: ⟨.mov (.t 7), (some 21), (some (19, true)), []⟩ :: L181_9
theorem v181_10 : VS L181_10.eq_1 := rfl
def L181_11 : List AStep := ⟨.bin .gtr (.t 16) (.t 17), (some 18), none, []⟩ :: ⟨.mov (.t 18), (some 19), none, []⟩ :: L181_10
theorem v181_11 : VS L181_11.eq_1 := rfl
def L181_12 : List AStep := ⟨.mov (.t 7), (some 16), none, []⟩ :: ⟨.mov (.t 1), (some 17), none, []⟩ :: L181_11
theorem v181_12 : VS L181_12.eq_1 := rfl
def L181_13 : List AStep := [⟨.iaddr 1 (.t 35) (.t 37), (some 48), none, []⟩, ⟨.store 1 (.t 48) (.t 46), none, none, []⟩]
theorem v181_13 : VS L181_13.eq_1 := rfl
def L181_14 : List AStep := ⟨.iaddr 1 (.t 33) (.t 34), (some 47), none, []⟩ :: ⟨.store 1 (.t 47) (.t 42), none, none, []⟩ :: L181_13
theorem v181_14 : VS L181_14.eq_1 := rfl
def L181_15 : List AStep := ⟨.iaddr 1 (.t 43) (.t 44), (some 45), none, []⟩ :: ⟨.load 1 false (.t 45), (some 46), none, []⟩ :: L181_14
theorem v181_15 : VS L181_15.eq_1 := rfl
def L181_16 : List AStep := ⟨.mov (.t 0), (some 43), none, []⟩ :: ⟨.mov (.t 7), (some 44), none, []⟩ :: L181_15
theorem v181_16 : VS L181_16.eq_1 := rfl
def L181_17 : List AStep := ⟨.iaddr 1 (.t 38) (.t 40), (some 41), none, []⟩ :: ⟨.load 1 false (.t 41), (some 42), none, []⟩ :: L181_16
theorem v181_17 : VS L181_17.eq_1 := rfl
def L181_18 : List AStep := ⟨.mov (.t 7), (some 39), none, []⟩ :: ⟨.bin .sub (.t 39) (.c (.int .i64 1)), (some 40), none, []⟩ :: L181_17
theorem v181_18 : VS L181_18.eq_1 := rfl
def L181_19 : List AStep := ⟨.bin .sub (.t 36) (.c (.int .i64 1)), (some 37), none, []⟩ :: ⟨.mov (.t 0), (some 38), none, []⟩ :: L181_18
theorem v181_19 : VS L181_19.eq_1 := rfl
def L181_20 : List AStep := ⟨.mov (.t 0), (some 35), none, []⟩ :: ⟨.mov (.t 7), (some 36), none, []⟩ :: L181_19
theorem v181_20 : VS L181_20.eq_1 := rfl
def L181_21 : List AStep := ⟨.mov (.t 0), (some 33), none, []⟩ :: ⟨.mov (.t 7), (some 34), none, []⟩ :: L181_20
theorem v181_21 : VS L181_21.eq_1 := rfl
def L181_22 : List AStep := [⟨.mov (.t 32), (some 7), none, []⟩]
theorem v181_22 : VS L181_22.eq_1 := rfl
def L181_23 : List AStep := ⟨.mov (.t 7), (some 31), none, []⟩ :: ⟨.bin .sub (.t 31) (.c (.int .i64 1)), (some 32), none, []⟩ :: L181_22
theorem v181_23 : VS L181_23.eq_1 := rfl
def L181_24 : List AStep := [⟨.mov (.t 14), (some 6), none, []⟩]
theorem v181_24 : VS L181_24.eq_1 := rfl
def L181_25 : List AStep := ⟨.mov (.t 6), (some 13), none, []⟩ :: ⟨.bin .add (.t 13) (.c (.int .i64 1)), (some 14), none, []⟩ :: L181_24
theorem v181_25 : VS L181_25.eq_1 := rfl
def C181_0 : ACode := .cond (.t 12) .skip (.exit 0)
theorem u181_0 : VC C181_0.eq_1 := rfl
def C181_1 : ACode := .seq (.reg L181_3) C181_0
theorem u181_1 : VC C181_1.eq_1 := rfl
def C181_2 : ACode := .cond (.t 30) .skip (.exit 2)
theorem u181_2 : VC C181_2.eq_1 := rfl
def C181_3 : ACode := .seq (.reg L181_12) C181_2
theorem u181_3 : VC C181_3.eq_1 := rfl
def C181_4 : ACode := .block 3 (.reg L181_21)
theorem u181_4 : VC C181_4.eq_1 := rfl
def C181_5 : ACode := .seq C181_4 (.reg L181_23)
theorem u181_5 : VC C181_5.eq_1 := rfl
def C181_6 : ACode := .seq C181_3 C181_5
theorem u181_6 : VC C181_6.eq_1 := rfl
def C181_7 : ACode := .block 2 (.loop C181_6)
theorem u181_7 : VC C181_7.eq_1 := rfl
def C181_8 : ACode := .seq (.reg L181_4) C181_7
theorem u181_8 : VC C181_8.eq_1 := rfl
def C181_9 : ACode := .block 1 C181_8
theorem u181_9 : VC C181_9.eq_1 := rfl
def C181_10 : ACode := .seq C181_9 (.reg L181_25)
theorem u181_10 : VC C181_10.eq_1 := rfl
def C181_11 : ACode := .seq C181_1 C181_10
theorem u181_11 : VC C181_11.eq_1 := rfl
def C181_12 : ACode := .block 0 (.loop C181_11)
theorem u181_12 : VC C181_12.eq_1 := rfl
def C181_13 : ACode := .seq (.reg L181_1) C181_12
theorem u181_13 : VC C181_13.eq_1 := rfl
def F181 : AFunc := ⟨49, [], C181_13⟩
theorem cF181 : compB Try.prog 181 = some F181 := by kernel_rfl
attribute [local go_sem ↓] u181_0 u181_1 u181_2 u181_3 u181_4 u181_5 u181_6 u181_7 u181_8 u181_9 u181_10 u181_11 u181_12 u181_13 v181_0 v181_1 v181_2 v181_3 v181_4 v181_5 v181_6 v181_7 v181_8 v181_9 v181_10 v181_11 v181_12 v181_13 v181_14 v181_15 v181_16 v181_17 v181_18 v181_19 v181_20 v181_21 v181_22 v181_23 v181_24 v181_25
theorem c_insS (l : List ByteArray) (v : AV) (h0 h : H) (g0 : Grow h0 h) (n0 : NwS h0 h v l) (hn : l.length ≤ 12) :
    callK (bm Try.prog 181 [v, .one (.int .i64 0), .one (.int .i64 l.length)] h) fun _ h' => Grow h0 h' ∧ NwS h0 h' v (isort ltS l) := by
  refine bm_of cF181 ?_
  simp +contextual (maxSteps := 2000000) only [go_sem, Nat.reduceEqDiff, reduceCtorEq, Nat.reduceAdd, Nat.reduceLeDiff, F181]
  refine wpC_loop (fun i T L h' => Grow h0 h' ∧ T 0 = .v v ∧ T 1 = .v (.one (.int .i64 0)) ∧ T 2 = .v (.one (.int .i64 l.length)) ∧ T 6 = .v (.one (.int .i64 ((i + 1 : Nat) : Int))) ∧ NwS h0 h' v (sortT ltS l (i + 1))) (l.length - 1) ?_ ?_ (Nat.zero_le _) ?_
  · rintro i T L h' hi ⟨g, t0, t1, t2, t8, no⟩
    have hi1 : i + 1 < l.length := by omega
    have outer : ∀ (h2 : H) (cur : List ByteArray) (j : Nat), NwS h0 h2 v cur → bub ltS cur j = bub ltS (sortT ltS l (i + 1)) (i + 1) → bub ltS cur j = cur → NwS h0 h2 v (sortT ltS l (i + 1 + 1)) := fun h2 cur j no e1 e2 => by
      rw [sortT, ← e1, e2]
      exact no
    simp +contextual (maxSteps := 2000000) only [go_sem, Nat.reduceEqDiff, reduceCtorEq, Nat.reduceAdd, Nat.reduceLeDiff, t0, t1, t2, t8, lt_true hi1]
    refine wpC_loop (fun k T L h2 => Grow h0 h2 ∧ T 0 = .v v ∧ T 1 = .v (.one (.int .i64 0)) ∧ T 2 = .v (.one (.int .i64 l.length)) ∧ T 6 = .v (.one (.int .i64 ((i + 1 : Nat) : Int))) ∧ T 7 = .v (.one (.int .i64 ((i + 1 - k : Nat) : Int))) ∧
      ∃ cur, NwS h0 h2 v cur ∧ cur.length = l.length ∧ bub ltS cur (i + 1 - k) = bub ltS (sortT ltS l (i + 1)) (i + 1)) (i + 1) ?_ ?_ (Nat.zero_le _) ?_
    · rintro k T L h2 hk ⟨g, t0, t1, t2, t8, t9, cur, no, hc, e⟩
      obtain ⟨j, hj⟩ : ∃ j, i + 1 - k = j + 1 := ⟨i - k, by omega⟩
      rw [hj] at t9 e
      have hj1 : j + 1 < cur.length := by omega
      have hj0 : j < cur.length := by omega
      have a1 : (((j + 1 : Nat) : Int) - 1) = (j : Int) := by omega
      have a2 : (IntKind.i64).wrap (j : Int) = (j : Int) := wrap_nat (by omega)
      have a3 : decide (((j + 1 : Nat) : Int) > 0) = true := decide_eq_true (by omega)
      have sl := no.sl lenS
      cases b : sLess cur[j + 1] cur[j] with
      | false =>
        simp +contextual (maxSteps := 2000000) only [go_sem, Nat.reduceEqDiff, reduceCtorEq, Nat.reduceAdd, Nat.reduceLeDiff, t0, t1, t2, t8, t9, a1, a2, a3, sl.iaddr hj1, sl.iaddr hj0, sl.oneO hj1, sl.oneO hj0, c_less, b]
        exact ⟨g, by rw [wrap_next hi1 (by omega)], outer _ cur (j + 1) no e (bub_stop hj1 b)⟩
      | true =>
        simp +contextual (maxSteps := 2000000) only [go_sem, Nat.reduceEqDiff, reduceCtorEq, Nat.reduceAdd, Nat.reduceLeDiff, t0, t1, t2, t8, t9, a1, a2, a3, sl.iaddr hj1, sl.iaddr hj0, sl.oneO hj1, sl.oneO hj0, c_less, b]
        refine wp_setE lenS no hj1 rfl (x := cur[j]) rfl g ?_
        intro h3 g3 n3 s3
        simp +contextual (maxSteps := 2000000) only [go_sem, Nat.reduceEqDiff, reduceCtorEq, Nat.reduceAdd, Nat.reduceLeDiff, t0, t1, t2, t8, t9, a1, a2, a3, n3.iaddr (show j < (cur.set (j + 1) cur[j]).length by simp; omega)]
        refine wp_setE lenS n3 (show j < (cur.set (j + 1) cur[j]).length by simp; omega) rfl (x := cur[j + 1]) rfl g3 ?_
        intro h4 g4 n4 s4
        simp +contextual (maxSteps := 2000000) only [go_sem, Nat.reduceEqDiff, reduceCtorEq, Nat.reduceAdd, Nat.reduceLeDiff, t0, t1, t2, t8, t9, a1, a2]
        exact ⟨g4, by congr 3; omega, _, n4, by simp [hc], by rw [← e, bub_less (lt := ltS) hj1 b, show i + 1 - (k + 1) = j by omega]⟩
    · rintro T L h2 ⟨g, t0, t1, t2, t8, t9, cur, no, hc, e⟩
      rw [Nat.sub_self] at t9 e
      have hz : decide (((0 : Nat) : Int) > 0) = false := rfl
      simp +contextual (maxSteps := 2000000) only [go_sem, Nat.reduceEqDiff, reduceCtorEq, Nat.reduceAdd, Nat.reduceLeDiff, t0, t1, t2, t8, t9, hz]
      exact ⟨g, by rw [wrap_next hi1 (by omega)], outer _ cur 0 no e bub_zero⟩
    · simp +contextual (maxSteps := 2000000) only [go_sem, Nat.reduceEqDiff, reduceCtorEq, Nat.reduceAdd, Nat.reduceLeDiff, t0, t1, t2, t8]
      exact ⟨g, rfl, _, no, sortT_len, rfl⟩
  · rintro T L h' ⟨g, t0, t1, t2, t8, no⟩
    have hx : decide (((l.length - 1 + 1 : Nat) : Int) < (l.length : Int)) = false := decide_eq_false (by omega)
    simp +contextual (maxSteps := 2000000) only [go_sem, Nat.reduceEqDiff, reduceCtorEq, Nat.reduceAdd, Nat.reduceLeDiff, t0, t1, t2, t8, hx]
    have e : sortT ltS l (l.length - 1 + 1) = isort ltS l := by
      cases l with
      | nil => exact sortT_one
      | cons a r => rfl
    rw [e] at no
    exact gcK_of ⟨g, no⟩ fun _ gg => ⟨g0, no.back n0 gg⟩
  · simp +contextual (maxSteps := 2000000) only [go_sem, Nat.reduceEqDiff, reduceCtorEq, Nat.reduceAdd, Nat.reduceLeDiff]
    exact ⟨g0, rfl, by rw [sortT_one]; exact n0⟩
/-! slices.pdqsortOrdered(string) -/
def L175_0 : List AStep := [⟨.mov (.c (.bool true)), (some 8), none, []⟩]
theorem v175_0 : VS L175_0.eq_1 := rfl
def L175_1 : List AStep := [⟨.mov (.c (.bool true)), (some 9), none, []⟩]
theorem v175_1 : VS L175_1.eq_1 := rfl
def L175_2 : List AStep := [⟨.bin .sub (.t 19) (.t 20), (some 21), none, []⟩, ⟨.mov (.t 21), (some 10), none, []⟩]
theorem v175_2 : VS L175_2.eq_1 := rfl
def L175_3 : List AStep := ⟨.mov (.t 2), (some 19), none, []⟩ :: ⟨.mov (.t 1), (some 20), none, []⟩ :: L175_2
theorem v175_3 : VS L175_3.eq_1 := rfl
def L175_4 : List AStep := [⟨.mov (.t 10), (some 22), none, []⟩, ⟨.bin .leq (.t 22) (.c (.int .i64 12)), (some 23), none, []⟩]
theorem v175_4 : VS L175_4.eq_1 := rfl
def L175_5 : List AStep := [⟨.mov (.t 2), (some 26), none, []⟩, ⟨.call 181 [(.t 24), (.t 25), (.t 26)], (some 27), none, []⟩]
theorem v175_5 : VS L175_5.eq_1 := rfl
def L175_6 : List AStep := ⟨.mov (.t 0), (some 24), none, []⟩ :: ⟨.mov (.t 1), (some 25), none, []⟩ :: L175_5
theorem v175_6 : VS L175_6.eq_1 := rfl
def L175_7 : List AStep := [⟨.mov (.t 3), (some 28), none, []⟩, ⟨.bin .eql (.t 28) (.c (.int .i64 0)), (some 29), none, []⟩]
theorem v175_7 : VS L175_7.eq_1 := rfl
def L175_8 : List AStep := [⟨.mov (.t 2), (some 32), none, []⟩, ⟨.call 182 [(.t 30), (.t 31), (.t 32)], (some 33), none, []⟩]
theorem v175_8 : VS L175_8.eq_1 := rfl
def L175_9 : List AStep := ⟨.mov (.t 0), (some 30), none, []⟩ :: ⟨.mov (.t 1), (some 31), none, []⟩ :: L175_8
theorem v175_9 : VS L175_9.eq_1 := rfl
def L175_10 : List AStep := [⟨.mov (.t 8), (some 34), none, []⟩, ⟨.not (.t 34), (some 35), none, []⟩]
theorem v175_10 : VS L175_10.eq_1 := rfl
def L175_11 : List AStep := [⟨.mov (.t 2), (some 38), none, []⟩, ⟨.call 183 [(.t 36), (.t 37), (.t 38)], (some 39), none, []⟩]
theorem v175_11 : VS L175_11.eq_1 := rfl
def L175_12 : List AStep := ⟨.mov (.t 0), (some 36), none, []⟩ :: ⟨.mov (.t 1), (some 37), none, []⟩ :: L175_11
theorem v175_12 : VS L175_12.eq_1 := rfl
def L175_13 : List AStep := [⟨.mov (.t 41), (some 3), none, []⟩]
theorem v175_13 : VS L175_13.eq_1 := rfl
def L175_14 : List AStep := ⟨.mov (.t 3), (some 40), none, []⟩ :: ⟨.bin .sub (.t 40) (.c (.int .i64 1)), (some 41), none, []⟩ :: L175_13
theorem v175_14 : VS L175_14.eq_1 := rfl
def L175_15 : List AStep := [⟨.mov (.t 48), (some 12), none, []⟩]
theorem v175_15 : VS L175_15.eq_1 := rfl
def L175_16 : List AStep := ⟨.extract (.t 42) 1, (some 48), none, []⟩ :: ⟨.mov (.t 47), (some 11), none, []⟩ :: L175_15
theorem v175_16 : VS L175_16.eq_1 := rfl
def L175_17 : List AStep := ⟨.mov (.t 46), (some 42), none, []⟩ :: ⟨.extract (.t 42) 0, (some 47), none, []⟩ :: L175_16
theorem v175_17 : VS L175_17.eq_1 := rfl
def L175_18 : List AStep := ⟨.mov (.t 2), (some 45), none, []⟩ :: ⟨.call 184 [(.t 43), (.t 44), (.t 45)], (some 46), none, []⟩ :: L175_17
theorem v175_18 : VS L175_18.eq_1 := rfl
def L175_19 : List AStep := ⟨.mov (.t 0), (some 43), none, []⟩ :: ⟨.mov (.t 1), (some 44), none, []⟩ :: L175_18
theorem v175_19 : VS L175_19.eq_1 := rfl
def L175_20 : List AStep := [⟨.mov (.t 12), (some 49), none, []⟩, ⟨.bin .eql (.t 49) (.c (.int .i64 2)), (some 50), none, []⟩]
theorem v175_20 : VS L175_20.eq_1 := rfl
def L175_21 : List AStep := [⟨.mov (.t 2), (some 53), none, []⟩, ⟨.call 185 [(.t 51), (.t 52), (.t 53)], (some 54), none, []⟩]
theorem v175_21 : VS L175_21.eq_1 := rfl
def L175_22 : List AStep := ⟨.mov (.t 0), (some 51), none, []⟩ :: ⟨.mov (.t 1), (some 52), none, []⟩ :: L175_21
theorem v175_22 : VS L175_22.eq_1 := rfl
def L175_23 : List AStep := [⟨.mov (.t 60), (some 11), none, []⟩]
theorem v175_23 : VS L175_23.eq_1 := rfl
def L175_24 : List AStep := ⟨.bin .sub (.t 57) (.t 58), (some 59), none, []⟩ :: ⟨.bin .sub (.t 56) (.t 59), (some 60), none, []⟩ :: L175_23
theorem v175_24 : VS L175_24.eq_1 := rfl
def L175_25 : List AStep := ⟨.mov (.t 11), (some 57), none, []⟩ :: ⟨.mov (.t 1), (some 58), none, []⟩ :: L175_24
theorem v175_25 : VS L175_25.eq_1 := rfl
def L175_26 : List AStep := ⟨.mov (.t 2), (some 55), none, []⟩ :: ⟨.bin .sub (.t 55) (.c (.int .i64 1)), (some 56), none, []⟩ :: L175_25
theorem v175_26 : VS L175_26.eq_1 := rfl
def L175_27 : List AStep := [⟨.mov (.c (.int .i64 1)), (some 12), none, []⟩]
theorem v175_27 : VS L175_27.eq_1 := rfl
def L175_28 : List AStep := [⟨.bin .eql (.t 66) (.c (.int .i64 1)), (some 67), (some (65, true)), []⟩, ⟨.pick (.t 65) (.t 67) (.c (.bool false)), (some 68), none, []⟩]
theorem v175_28 : VS L175_28.eq_1 := rfl
def L175_29 : List AStep := ⟨.mov (.t 64), (some 65), none, []⟩ :: ⟨.mov (.t 12), (some 66), (some (65, true)), []⟩ :: L175_28
theorem v175_29 : VS L175_29.eq_1 := rfl
def L175_30 : List AStep := ⟨.mov (.t 9), (some 63), (some (62, true)), []⟩ :: ⟨.pick (.t 62) (.t 63) (.c (.bool false)), (some 64), none, []⟩ :: L175_29
theorem v175_30 : VS L175_30.eq_1 := rfl
def L175_31 : List AStep := ⟨.mov (.t 8), (some 61), none, []⟩ :: ⟨.mov (.t 61), (some 62), none, []⟩ :: L175_30
theorem v175_31 : VS L175_31.eq_1 := rfl
def L175_32 : List AStep := [⟨.mov (.t 2), (some 71), none, []⟩, ⟨.call 186 [(.t 69), (.t 70), (.t 71)], (some 72), none, []⟩]
theorem v175_32 : VS L175_32.eq_1 := rfl
def L175_33 : List AStep := ⟨.mov (.t 0), (some 69), none, []⟩ :: ⟨.mov (.t 1), (some 70), none, []⟩ :: L175_32
theorem v175_33 : VS L175_33.eq_1 := rfl
def L175_34 : List AStep := [⟨.pick (.t 75) (.t 86) (.c (.bool false)), (some 87), none, []⟩]
theorem v175_34 : VS L175_34.eq_1 := rfl
def L175_35 : List AStep := ⟨.call 187 [(.t 80), (.t 84)], (some 85), (some (75, true)), []⟩ :: ⟨.not (.t 85), (some 86), (some (75, true)), []⟩ :: L175_34
theorem v175_35 : VS L175_35.eq_1 := rfl
def L175_36 : List AStep := ⟨.iaddr 1 (.t 81) (.t 82), (some 83), (some (75, true)), []⟩ :: ⟨.load 1 false (.t 83), (some 84), (some (75, true)), []⟩ :: L175_35
theorem v175_36 : VS L175_36.eq_1 := rfl
def L175_37 : List AStep := ⟨.mov (.t 0), (some 81), (some (75, true)), []⟩ :: ⟨.mov (.t 11), (some 82), (some (75, true)), []⟩ :: L175_36
theorem v175_37 : VS L175_37.eq_1 := rfl
def L175_38 : List AStep := ⟨.iaddr 1 (.t 76) (.t 78), (some 79), (some (75, true)), []⟩ :: ⟨.load 1 false (.t 79), (some 80), (some (75, true)), []⟩ :: L175_37
theorem v175_38 : VS L175_38.eq_1 := rfl
def L175_39 : List AStep := ⟨.mov (.t 1), (some 77), (some (75, true)), []⟩ :: ⟨.bin .sub (.t 77) (.c (.int .i64 1)), (some 78), (some (75, true)), []⟩ :: L175_38
theorem v175_39 : VS L175_39.eq_1 := rfl
def L175_40 : List AStep := ⟨.mov (.t 74), (some 75), none, []⟩ :: ⟨.mov (.t 0), (some 76), (some (75, true)), []⟩ :: L175_39
theorem v175_40 : VS L175_40.eq_1 := rfl
def L175_41 : List AStep := ⟨.mov (.t 1), (some 73), none, []⟩ :: ⟨.bin .gtr (.t 73) (.c (.int .i64 0)), (some 74), none, []⟩ :: L175_40
theorem v175_41 : VS L175_41.eq_1 := rfl
def L175_42 : List AStep := [⟨.call 188 [(.t 88), (.t 89), (.t 90), (.t 91)], (some 92), none, []⟩, ⟨.mov (.t 92), (some 13), none, []⟩]
theorem v175_42 : VS L175_42.eq_1 := rfl
def L175_43 : List AStep := ⟨.mov (.t 2), (some 90), none, []⟩ :: ⟨.mov (.t 11), (some 91), none, []⟩ :: L175_42
theorem v175_43 : VS L175_43.eq_1 := rfl
def L175_44 : List AStep := ⟨.mov (.t 0), (some 88), none, []⟩ :: ⟨.mov (.t 1), (some 89), none, []⟩ :: L175_43
theorem v175_44 : VS L175_44.eq_1 := rfl
def L175_45 : List AStep := [⟨.mov (.t 13), (some 93), none, []⟩, ⟨.mov (.t 93), (some 1), none, []⟩]
theorem v175_45 : VS L175_45.eq_1 := rfl
def L175_46 : List AStep := [⟨.mov (.t 100), (some 14), none, []⟩, ⟨.mov (.t 101), (some 15), none, []⟩]
theorem v175_46 : VS L175_46.eq_1 := rfl
def L175_47 : List AStep := ⟨.extract (.t 94) 0, (some 100), none, []⟩ :: ⟨.extract (.t 94) 1, (some 101), none, []⟩ :: L175_46
theorem v175_47 : VS L175_47.eq_1 := rfl
def L175_48 : List AStep := ⟨.call 189 [(.t 95), (.t 96), (.t 97), (.t 98)], (some 99), none, []⟩ :: ⟨.mov (.t 99), (some 94), none, []⟩ :: L175_47
theorem v175_48 : VS L175_48.eq_1 := rfl
def L175_49 : List AStep := ⟨.mov (.t 2), (some 97), none, []⟩ :: ⟨.mov (.t 11), (some 98), none, []⟩ :: L175_48
theorem v175_49 : VS L175_49.eq_1 := rfl
def L175_50 : List AStep := ⟨.mov (.t 0), (some 95), none, []⟩ :: ⟨.mov (.t 1), (some 96), none, []⟩ :: L175_49
theorem v175_50 : VS L175_50.eq_1 := rfl
def L175_51 : List AStep := [⟨.mov (.t 15), (some 102), none, []⟩, ⟨.mov (.t 102), (some 9), none, []⟩]
theorem v175_51 : VS L175_51.eq_1 := rfl
def L175_52 : List AStep := [⟨.mov (.t 105), (some 16), none, []⟩, ⟨.mov (.t 108), (some 17), none, []⟩]
theorem v175_52 : VS L175_52.eq_1 := rfl
def L175_53 : List AStep := ⟨.mov (.t 14), (some 107), none, []⟩ :: ⟨.bin .sub (.t 106) (.t 107), (some 108), none, []⟩ :: L175_52
theorem v175_53 : VS L175_53.eq_1 := rfl
def L175_54 : List AStep := ⟨.bin .sub (.t 103) (.t 104), (some 105), none, []⟩ :: ⟨.mov (.t 2), (some 106), none, []⟩ :: L175_53
theorem v175_54 : VS L175_54.eq_1 := rfl
def L175_55 : List AStep := ⟨.mov (.t 14), (some 103), none, []⟩ :: ⟨.mov (.t 1), (some 104), none, []⟩ :: L175_54
theorem v175_55 : VS L175_55.eq_1 := rfl
def L175_56 : List AStep := [⟨.mov (.t 110), (some 18), none, []⟩]
theorem v175_56 : VS L175_56.eq_1 := rfl
def L175_57 : List AStep := ⟨.mov (.t 10), (some 109), none, []⟩ :: ⟨.bin .quo (.t 109) (.c (.int .i64 8)), (some 110), none, []⟩ :: L175_56
theorem v175_57 : VS L175_57.eq_1 := rfl
def L175_58 : List AStep := [⟨.bin .lss (.t 111) (.t 112), (some 113), none, []⟩]
theorem v175_58 : VS L175_58.eq_1 := rfl
def L175_59 : List AStep := ⟨.mov (.t 16), (some 111), none, []⟩ :: ⟨.mov (.t 17), (some 112), none, []⟩ :: L175_58
theorem v175_59 : VS L175_59.eq_1 := rfl
def L175_60 : List AStep := [⟨.bin .geq (.t 114) (.t 115), (some 116), none, []⟩, ⟨.mov (.t 116), (some 8), none, []⟩]
theorem v175_60 : VS L175_60.eq_1 := rfl
def L175_61 : List AStep := ⟨.mov (.t 16), (some 114), none, []⟩ :: ⟨.mov (.t 18), (some 115), none, []⟩ :: L175_60
theorem v175_61 : VS L175_61.eq_1 := rfl
def L175_62 : List AStep := [⟨.call 175 [(.t 117), (.t 118), (.t 119), (.t 120)], (some 121), none, []⟩]
theorem v175_62 : VS L175_62.eq_1 := rfl
def L175_63 : List AStep := ⟨.mov (.t 14), (some 119), none, []⟩ :: ⟨.mov (.t 3), (some 120), none, []⟩ :: L175_62
theorem v175_63 : VS L175_63.eq_1 := rfl
def L175_64 : List AStep := ⟨.mov (.t 0), (some 117), none, []⟩ :: ⟨.mov (.t 1), (some 118), none, []⟩ :: L175_63
theorem v175_64 : VS L175_64.eq_1 := rfl
def L175_65 : List AStep := [⟨.mov (.t 123), (some 1), none, []⟩]
theorem v175_65 : VS L175_65.eq_1 := rfl
def L175_66 : List AStep := ⟨.mov (.t 14), (some 122), none, []⟩ :: ⟨.bin .add (.t 122) (.c (.int .i64 1)), (some 123), none, []⟩ :: L175_65
theorem v175_66 : VS L175_66.eq_1 := rfl
def L175_67 : List AStep := [⟨.bin .geq (.t 124) (.t 125), (some 126), none, []⟩, ⟨.mov (.t 126), (some 8), none, []⟩]
theorem v175_67 : VS L175_67.eq_1 := rfl
def L175_68 : List AStep := ⟨.mov (.t 17), (some 124), none, []⟩ :: ⟨.mov (.t 18), (some 125), none, []⟩ :: L175_67
theorem v175_68 : VS L175_68.eq_1 := rfl
def L175_69 : List AStep := [⟨.mov (.t 3), (some 131), none, []⟩, ⟨.call 175 [(.t 127), (.t 129), (.t 130), (.t 131)], (some 132), none, []⟩]
theorem v175_69 : VS L175_69.eq_1 := rfl
def L175_70 : List AStep := ⟨.bin .add (.t 128) (.c (.int .i64 1)), (some 129), none, []⟩ :: ⟨.mov (.t 2), (some 130), none, []⟩ :: L175_69
theorem v175_70 : VS L175_70.eq_1 := rfl
def L175_71 : List AStep := ⟨.mov (.t 0), (some 127), none, []⟩ :: ⟨.mov (.t 14), (some 128), none, []⟩ :: L175_70
theorem v175_71 : VS L175_71.eq_1 := rfl
def L175_72 : List AStep := [⟨.mov (.t 14), (some 133), none, []⟩, ⟨.mov (.t 133), (some 2), none, []⟩]
theorem v175_72 : VS L175_72.eq_1 := rfl
def C175_0 : ACode := .seq (.reg L175_6) .ret
theorem u175_0 : VC C175_0.eq_1 := rfl
def C175_1 : ACode := .cond (.t 23) C175_0 .skip
theorem u175_1 : VC C175_1.eq_1 := rfl
def C175_2 : ACode := .seq (.reg L175_4) C175_1
theorem u175_2 : VC C175_2.eq_1 := rfl
def C175_3 : ACode := .seq (.reg L175_9) .ret
theorem u175_3 : VC C175_3.eq_1 := rfl
def C175_4 : ACode := .cond (.t 29) C175_3 .skip
theorem u175_4 : VC C175_4.eq_1 := rfl
def C175_5 : ACode := .seq (.reg L175_7) C175_4
theorem u175_5 : VC C175_5.eq_1 := rfl
def C175_6 : ACode := .seq (.reg L175_12) (.reg L175_14)
theorem u175_6 : VC C175_6.eq_1 := rfl
def C175_7 : ACode := .cond (.t 35) C175_6 .skip
theorem u175_7 : VC C175_7.eq_1 := rfl
def C175_8 : ACode := .seq (.reg L175_10) C175_7
theorem u175_8 : VC C175_8.eq_1 := rfl
def C175_9 : ACode := .seq (.reg L175_26) (.reg L175_27)
theorem u175_9 : VC C175_9.eq_1 := rfl
def C175_10 : ACode := .seq (.reg L175_22) C175_9
theorem u175_10 : VC C175_10.eq_1 := rfl
def C175_11 : ACode := .cond (.t 50) C175_10 .skip
theorem u175_11 : VC C175_11.eq_1 := rfl
def C175_12 : ACode := .seq (.reg L175_20) C175_11
theorem u175_12 : VC C175_12.eq_1 := rfl
def C175_13 : ACode := .cond (.t 72) .ret .skip
theorem u175_13 : VC C175_13.eq_1 := rfl
def C175_14 : ACode := .seq (.reg L175_33) C175_13
theorem u175_14 : VC C175_14.eq_1 := rfl
def C175_15 : ACode := .cond (.t 68) C175_14 .skip
theorem u175_15 : VC C175_15.eq_1 := rfl
def C175_16 : ACode := .seq (.reg L175_31) C175_15
theorem u175_16 : VC C175_16.eq_1 := rfl
def C175_17 : ACode := .seq (.reg L175_45) (.exit 1)
theorem u175_17 : VC C175_17.eq_1 := rfl
def C175_18 : ACode := .seq (.reg L175_44) C175_17
theorem u175_18 : VC C175_18.eq_1 := rfl
def C175_19 : ACode := .cond (.t 87) C175_18 .skip
theorem u175_19 : VC C175_19.eq_1 := rfl
def C175_20 : ACode := .seq (.reg L175_41) C175_19
theorem u175_20 : VC C175_20.eq_1 := rfl
def C175_21 : ACode := .seq (.reg L175_64) (.reg L175_66)
theorem u175_21 : VC C175_21.eq_1 := rfl
def C175_22 : ACode := .seq (.reg L175_61) C175_21
theorem u175_22 : VC C175_22.eq_1 := rfl
def C175_23 : ACode := .seq (.reg L175_71) (.reg L175_72)
theorem u175_23 : VC C175_23.eq_1 := rfl
def C175_24 : ACode := .seq (.reg L175_68) C175_23
theorem u175_24 : VC C175_24.eq_1 := rfl
def C175_25 : ACode := .cond (.t 113) C175_22 C175_24
theorem u175_25 : VC C175_25.eq_1 := rfl
def C175_26 : ACode := .seq (.reg L175_59) C175_25
theorem u175_26 : VC C175_26.eq_1 := rfl
def C175_27 : ACode := .seq (.reg L175_57) C175_26
theorem u175_27 : VC C175_27.eq_1 := rfl
def C175_28 : ACode := .seq (.reg L175_55) C175_27
theorem u175_28 : VC C175_28.eq_1 := rfl
def C175_29 : ACode := .seq (.reg L175_51) C175_28
theorem u175_29 : VC C175_29.eq_1 := rfl
def C175_30 : ACode := .seq (.reg L175_50) C175_29
theorem u175_30 : VC C175_30.eq_1 := rfl
def C175_31 : ACode := .seq C175_20 C175_30
theorem u175_31 : VC C175_31.eq_1 := rfl
def C175_32 : ACode := .seq C175_16 C175_31
theorem u175_32 : VC C175_32.eq_1 := rfl
def C175_33 : ACode := .seq C175_12 C175_32
theorem u175_33 : VC C175_33.eq_1 := rfl
def C175_34 : ACode := .seq (.reg L175_19) C175_33
theorem u175_34 : VC C175_34.eq_1 := rfl
def C175_35 : ACode := .seq C175_8 C175_34
theorem u175_35 : VC C175_35.eq_1 := rfl
def C175_36 : ACode := .seq C175_5 C175_35
theorem u175_36 : VC C175_36.eq_1 := rfl
def C175_37 : ACode := .seq C175_2 C175_36
theorem u175_37 : VC C175_37.eq_1 := rfl
def C175_38 : ACode := .seq (.reg L175_3) C175_37
theorem u175_38 : VC C175_38.eq_1 := rfl
def C175_39 : ACode := .block 1 C175_38
theorem u175_39 : VC C175_39.eq_1 := rfl
def C175_40 : ACode := .block 0 (.loop C175_39)
theorem u175_40 : VC C175_40.eq_1 := rfl
def C175_41 : ACode := .seq (.reg L175_1) C175_40
theorem u175_41 : VC C175_41.eq_1 := rfl
def C175_42 : ACode := .seq (.reg L175_0) C175_41
theorem u175_42 : VC C175_42.eq_1 := rfl
def F175 : AFunc := ⟨134, [], C175_42⟩
theorem cF175 : compB Try.prog 175 = some F175 := by kernel_rfl
attribute [local go_sem ↓] u175_0 u175_1 u175_2 u175_3 u175_4 u175_5 u175_6 u175_7 u175_8 u175_9 u175_10 u175_11 u175_12 u175_13 u175_14 u175_15 u175_16 u175_17 u175_18 u175_19 u175_20 u175_21 u175_22 u175_23 u175_24 u175_25 u175_26 u175_27 u175_28 u175_29 u175_30 u175_31 u175_32 u175_33 u175_34 u175_35 u175_36 u175_37 u175_38 u175_39 u175_40 u175_41 u175_42 v175_0 v175_1 v175_2 v175_3 v175_4 v175_5 v175_6 v175_7 v175_8 v175_9 v175_10 v175_11 v175_12 v175_13 v175_14 v175_15 v175_16 v175_17 v175_18 v175_19 v175_20 v175_21 v175_22 v175_23 v175_24 v175_25 v175_26 v175_27 v175_28 v175_29 v175_30 v175_31 v175_32 v175_33 v175_34 v175_35 v175_36 v175_37 v175_38 v175_39 v175_40 v175_41 v175_42 v175_43 v175_44 v175_45 v175_46 v175_47 v175_48 v175_49 v175_50 v175_51 v175_52 v175_53 v175_54 v175_55 v175_56 v175_57 v175_58 v175_59 v175_60 v175_61 v175_62 v175_63 v175_64 v175_65 v175_66 v175_67 v175_68 v175_69 v175_70 v175_71 v175_72
theorem c_pdqS (l : List ByteArray) (v : AV) (m : Int) (h0 h : H) (g0 : Grow h0 h) (n0 : NwS h0 h v l) (hn : l.length ≤ 12) :
    callK (bm Try.prog 175 [v, .one (.int .i64 0), .one (.int .i64 l.length), .one (.int .i64 m)] h) fun _ h' => Grow h0 h' ∧ NwS h0 h' v (isort ltS l) := by
  refine bm_of cF175 ?_
  have e1 : IntKind.i64.wrap ((l.length : Int) - 0) = l.length := by rw [Int.sub_zero]; exact wrap_nat (by omega)
  have e2 : decide ((l.length : Int) ≤ 12) = true := decide_eq_true (by omega)
  simp +contextual (maxSteps := 2000000) only [go_sem, Nat.reduceEqDiff, reduceCtorEq, Nat.reduceAdd, Nat.reduceLeDiff, F175]
  refine wpC_loop (fun i T L h' => i = 0 ∧ h' = h ∧ T 0 = .v v ∧ T 1 = .v (.one (.int .i64 0)) ∧ T 2 = .v (.one (.int .i64 l.length))) 1 ?_ ?_ (Nat.zero_le _) ?_
  · rintro i T L h' hi ⟨rfl, rfl, t0, t1, t2⟩
    simp +contextual (maxSteps := 2000000) only [go_sem, Nat.reduceEqDiff, reduceCtorEq, Nat.reduceAdd, Nat.reduceLeDiff, t0, t1, t2, e1, e2]
    refine wp_call (c_insS l v h0 h' g0 n0 hn) ?_
    rintro r h1 ⟨g1, n1⟩
    simp +contextual (maxSteps := 2000000) only [go_sem, Nat.reduceEqDiff, reduceCtorEq, Nat.reduceAdd, Nat.reduceLeDiff]
    exact gcK_of ⟨g1, n1⟩ fun _ gg => ⟨g0, n1.back n0 gg⟩
  · rintro T L h' ⟨e, _⟩
    exact absurd e (by decide)
  · simp +contextual (maxSteps := 2000000) only [go_sem, Nat.reduceEqDiff, reduceCtorEq, Nat.reduceAdd, Nat.reduceLeDiff]
/-! slices.Sort(()string,string) -/
def L163_0 : List AStep := [⟨.mov (.t 4), (some 2), none, []⟩]
theorem v163_0 : VS L163_0.eq_1 := rfl
def L163_1 : List AStep := ⟨.mov (.t 0), (some 3), none, []⟩ :: ⟨.len (.t 3), (some 4), none, []⟩ :: L163_0
theorem v163_1 : VS L163_1.eq_1 := rfl
def L163_2 : List AStep := [⟨.call 155 [(.t 8)], (some 9), none, []⟩, ⟨.call 175 [(.t 5), (.c (.int .i64 0)), (.t 6), (.t 9)], (some 10), none, []⟩]
theorem v163_2 : VS L163_2.eq_1 := rfl
def L163_3 : List AStep := ⟨.mov (.t 2), (some 7), none, []⟩ :: ⟨.conv .u64 (.t 7), (some 8), none, []⟩ :: L163_2
theorem v163_3 : VS L163_3.eq_1 := rfl
def L163_4 : List AStep := ⟨.mov (.t 0), (some 5), none, []⟩ :: ⟨.mov (.t 2), (some 6), none, []⟩ :: L163_3
theorem v163_4 : VS L163_4.eq_1 := rfl
def C163_0 : ACode := .seq (.reg L163_1) (.reg L163_4)
theorem u163_0 : VC C163_0.eq_1 := rfl
def F163 : AFunc := ⟨11, [], C163_0⟩
theorem cF163 : compB Try.prog 163 = some F163 := by kernel_rfl
attribute [local go_sem ↓] u163_0 v163_0 v163_1 v163_2 v163_3 v163_4
theorem c_sortS (l : List ByteArray) (v : AV) (h0 h : H) (g0 : Grow h0 h) (n0 : NwS h0 h v l) (hn : l.length ≤ 12) :
    callK (bm Try.prog 163 [v] h) fun _ h' => Grow h0 h' ∧ NwS h0 h' v (isort ltS l) := by
  refine bm_of cF163 ?_
  have e1 := u64_nat hn
  simp +contextual (maxSteps := 2000000) only [go_sem, Nat.reduceEqDiff, reduceCtorEq, Nat.reduceAdd, Nat.reduceLeDiff, F163, n0.length, e1]
  refine wp_call (c_bitsLen l.length h hn) ?_
  rintro r h1 ⟨rfl, m, rfl⟩
  simp +contextual (maxSteps := 2000000) only [go_sem, Nat.reduceEqDiff, reduceCtorEq, Nat.reduceAdd, Nat.reduceLeDiff]
  refine wp_call (c_pdqS l v m h0 h1 g0 n0 hn) ?_
  rintro r h2 ⟨g2, n2⟩
  simp +contextual (maxSteps := 2000000) only [go_sem, Nat.reduceEqDiff, reduceCtorEq, Nat.reduceAdd, Nat.reduceLeDiff]
  exact gcK_of ⟨g2, n2⟩ fun _ gg => ⟨g0, n2.back n0 gg⟩
/-! (impl.Signature).namesOf -/
def L103_0 : List AStep := [⟨.box 38 (.t 0), (some 2), none, []⟩, ⟨.mov (.c (.sl none 0 (some 0))), (some 4), none, []⟩]
theorem v103_0 : VS L103_0.eq_1 := rfl
def L103_1 : List AStep := [⟨.mov (.c (.sl none 0 (some 0))), (some 5), none, []⟩]
theorem v103_1 : VS L103_1.eq_1 := rfl
def L103_2 : List AStep := [⟨.len (.t 9), (some 10), none, []⟩, ⟨.mov (.c (.int .i64 0)), (some 11), none, []⟩]
theorem v103_2 : VS L103_2.eq_1 := rfl
def L103_3 : List AStep := ⟨.faddr 0 (.t 2), (some 8), none, []⟩ :: ⟨.load 1 false (.t 8), (some 9), none, []⟩ :: L103_2
theorem v103_3 : VS L103_3.eq_1 := rfl
def L103_4 : List AStep := [⟨.bin .lss (.t 11) (.t 10), (some 12), none, []⟩]
theorem v103_4 : VS L103_4.eq_1 := rfl
def L103_5 : List AStep := [⟨.alloc 35 [(.str (strOfNums [])), (.int .i64 0), (.bool false), (.int .i64 0)], (some 7), none, []⟩, ⟨.store 4 (.t 7) (.t 14), none, none, []⟩]
theorem v103_5 : VS L103_5.eq_1 := rfl
def L103_6 : List AStep := ⟨.iaddr 4 (.t 9) (.t 11), (some 13), none, []⟩ :: ⟨.load 4 true (.t 13), (some 14), none, []⟩ :: L103_5
theorem v103_6 : VS L103_6.eq_1 := rfl
def L103_7 : List AStep := [⟨.callv (.t 15) [(.t 16)], (some 17), none, []⟩]
theorem v103_7 : VS L103_7.eq_1 := rfl
def L103_8 : List AStep := ⟨.mov (.t 1), (some 15), none, []⟩ :: ⟨.load 4 true (.t 7), (some 16), none, []⟩ :: L103_7
theorem v103_8 : VS L103_8.eq_1 := rfl
def L103_9 : List AStep := [⟨.append 9 1 16 (.t 18) (.t 21), (some 22), none, []⟩, ⟨.mov (.t 22), (some 5), none, []⟩]
theorem v103_9 : VS L103_9.eq_1 := rfl
def L103_10 : List AStep := ⟨.load 1 false (.t 19), (some 20), none, []⟩ :: ⟨.buildSlice 9 1 [(.str (strOfNums []))] [(0, 1, (.t 20))], (some 21), none, []⟩ :: L103_9
theorem v103_10 : VS L103_10.eq_1 := rfl
def L103_11 : List AStep := ⟨.mov (.t 5), (some 18), none, []⟩ :: ⟨.faddr 0 (.t 7), (some 19), none, []⟩ :: L103_10
theorem v103_11 : VS L103_11.eq_1 := rfl
def L103_12 : List AStep := [⟨.bin .add (.t 11) (.c (.int .i64 1)), (some 23), none, []⟩, ⟨.mov (.t 23), (some 11), none, []⟩]
theorem v103_12 : VS L103_12.eq_1 := rfl
def L103_13 : List AStep := [⟨.mov (.t 25), (some 4), none, []⟩]
theorem v103_13 : VS L103_13.eq_1 := rfl
def L103_14 : List AStep := ⟨.mov (.t 5), (some 24), none, []⟩ :: ⟨.call 83 [(.t 24)], (some 25), none, []⟩ :: L103_13
theorem v103_14 : VS L103_14.eq_1 := rfl
def C103_0 : ACode := .cond (.t 12) .skip (.exit 0)
theorem u103_0 : VC C103_0.eq_1 := rfl
def C103_1 : ACode := .cond (.t 17) (.reg L103_11) .skip
theorem u103_1 : VC C103_1.eq_1 := rfl
def C103_2 : ACode := .seq (.reg L103_8) C103_1
theorem u103_2 : VC C103_2.eq_1 := rfl
def C103_3 : ACode := .seq (.reg L103_6) C103_2
theorem u103_3 : VC C103_3.eq_1 := rfl
def C103_4 : ACode := .block 1 C103_3
theorem u103_4 : VC C103_4.eq_1 := rfl
def C103_5 : ACode := .seq C103_4 (.reg L103_12)
theorem u103_5 : VC C103_5.eq_1 := rfl
def C103_6 : ACode := .seq C103_0 C103_5
theorem u103_6 : VC C103_6.eq_1 := rfl
def C103_7 : ACode := .seq (.reg L103_4) C103_6
theorem u103_7 : VC C103_7.eq_1 := rfl
def C103_8 : ACode := .block 0 (.loop C103_7)
theorem u103_8 : VC C103_8.eq_1 := rfl
def C103_9 : ACode := .seq (.reg L103_3) C103_8
theorem u103_9 : VC C103_9.eq_1 := rfl
def C103_10 : ACode := .seq (.reg L103_14) .ret
theorem u103_10 : VC C103_10.eq_1 := rfl
def C103_11 : ACode := .seq C103_9 C103_10
theorem u103_11 : VC C103_11.eq_1 := rfl
def C103_12 : ACode := .seq (.reg L103_1) C103_11
theorem u103_12 : VC C103_12.eq_1 := rfl
def C103_13 : ACode := .seq (.reg L103_0) C103_12
theorem u103_13 : VC C103_13.eq_1 := rfl
def F103 : AFunc := ⟨26, [.tmp 4], C103_13⟩
theorem cF103 : compB Try.prog 103 = some F103 := by kernel_rfl
attribute [local go_sem ↓] u103_0 u103_1 u103_2 u103_3 u103_4 u103_5 u103_6 u103_7 u103_8 u103_9 u103_10 u103_11 u103_12 u103_13 v103_0 v103_1 v103_2 v103_3 v103_4 v103_5 v103_6 v103_7 v103_8 v103_9 v103_10 v103_11 v103_12 v103_13 v103_14
theorem c_namesOf (l : List Param) (q : CV) (h : H) (hl : SlQ h (.one q) l) (hn : l.length ≤ 8) : callK (bm Try.prog 103 [.agg [q], .one (.fn 101 [])] h) fun r h' => Grow h h' ∧ ∃ ms, NwS h h' r ms ∧ ms.length = l.countP byPlace := by
  refine bm_of cF103 ?_
  simp +contextual (maxSteps := 2000000) only [go_sem, Nat.reduceEqDiff, reduceCtorEq, Nat.reduceAdd, Nat.reduceLeDiff, F103, hl.len]
  refine wpC_loop (fun i T L h' => Grow h h' ∧ T 1 = .v (.one (.fn 101 [])) ∧ (∃ w ms, T 5 = .v (.one w) ∧ NwS h h' (.one w) ms ∧ ms.length = cnt byPlace l i) ∧ T 9 = .v (.one q) ∧ T 10 = .v (.one (.int .i64 l.length)) ∧ T 11 = .v (.one (.int .i64 i))) l.length ?_ ?_ (Nat.zero_le _) ?_
  · rintro i T L h' hi ⟨g, t1, ⟨w, ms, t5, z, hc⟩, t9, t10, t11⟩
    have k := hl.grow g
    have es := fun h => c_placed l[i] h
    simp only [encQ] at es
    have hx := cnt_le (p := byPlace) (l := l) (i := i)
    cases b : byPlace l[i] with
    | false =>
      simp +contextual (maxSteps := 2000000) only [go_sem, Nat.reduceEqDiff, reduceCtorEq, Nat.reduceAdd, Nat.reduceLeDiff, t1, t5, t9, t10, t11, lt_true hi, k.iaddr hi, k.whole hi, encQ, es, b]
      exact ⟨g, ⟨w, ms, rfl, z, by rw [hc, cnt_next hi, b]; rfl⟩, by rw [wrap_next hi (by omega)]⟩
    | true =>
      simp +contextual (maxSteps := 2000000) only [go_sem, Nat.reduceEqDiff, reduceCtorEq, Nat.reduceAdd, Nat.reduceLeDiff, t1, t5, t9, t10, t11, lt_true hi, k.iaddr hi, k.whole hi, encQ, es, b]
      refine wp_lit (enc := encS) (k := 1) (l := [l[i].name]) rfl rfl ?_
      intro h3 w3 g3 n3 _
      simp +contextual (maxSteps := 2000000) only [go_sem, Nat.reduceEqDiff, reduceCtorEq, Nat.reduceAdd, Nat.reduceLeDiff, t1, t5, t9, t10, t11]
      refine wp_append lenS (z.grow g3) (n3.sl lenS) (g.trans g3) (by simp; omega) ?_
      intro h4 s4 g4 n4 st4 hb4
      obtain ⟨c4, rfl⟩ := n4.one
      simp +contextual (maxSteps := 2000000) only [go_sem, Nat.reduceEqDiff, reduceCtorEq, Nat.reduceAdd, Nat.reduceLeDiff, t1, t5, t9, t10, t11]
      exact ⟨g4, ⟨c4, _, rfl, n4, by rw [cnt_next hi, b, List.length_append, hc]; rfl⟩, by rw [wrap_next hi (by omega)]⟩
  · rintro T L h' ⟨g, t1, ⟨w, ms, t5, z, hc⟩, t9, t10, t11⟩
    simp +contextual (maxSteps := 2000000) only [go_sem, Nat.reduceEqDiff, reduceCtorEq, Nat.reduceAdd, Nat.reduceLeDiff, t1, t5, t9, t10, t11, lt_false]
    refine wp_call (c_clipS _ _ h' z) ?_
    rintro r h2 ⟨rfl, n2⟩
    simp +contextual (maxSteps := 2000000) only [go_sem, Nat.reduceEqDiff, reduceCtorEq, Nat.reduceAdd, Nat.reduceLeDiff]
    rw [cnt_all] at hc
    exact gcK_of ⟨g, _, n2, hc⟩ (fun hs _ => ⟨Grow.refl h, _, n2.scalar hs h, hc⟩)
  · simp +contextual (maxSteps := 2000000) only [go_sem, Nat.reduceEqDiff, reduceCtorEq, Nat.reduceAdd, Nat.reduceLeDiff]
    exact ⟨Grow.refl h, ⟨_, [], rfl, .nil, by rw [cnt_zero]; rfl⟩, rfl⟩
theorem c_namesG (l : List Param) (q : CV) (f : Nat) (caps : List (Nat × Nat)) (may : Param → Bool) (h : H) (hl : SlQ h (.one q) l) (hn : l.length ≤ 100) (hf : ∀ h', Grow h h' → ∀ x, bm Try.prog f (.agg (encQ x) :: caps.map fun a => .one (.ptr (some a))) h' = some (ib (may x), h')) :
    callK (bm Try.prog 103 [.agg [q], .one (.fn f caps)] h) fun r h' => Grow h h' ∧ NwS h h' r ((l.filter may).map Param.name) := by
  refine bm_of cF103 ?_
  simp +contextual (maxSteps := 2000000) only [go_sem, Nat.reduceEqDiff, reduceCtorEq, Nat.reduceAdd, Nat.reduceLeDiff, F103, hl.len]
  refine wpC_loop (fun i T L h' => Grow h h' ∧ T 1 = .v (.one (.fn f caps)) ∧ (∃ w, T 5 = .v (.one w) ∧ NwS h h' (.one w) (((l.take i).filter may).map Param.name)) ∧ T 9 = .v (.one q) ∧ T 10 = .v (.one (.int .i64 l.length)) ∧ T 11 = .v (.one (.int .i64 i))) l.length ?_ ?_ (Nat.zero_le _) ?_
  · rintro i T L h' hi ⟨g, t1, ⟨w, t5, z⟩, t9, t10, t11⟩
    have k := hl.grow g
    have es := hf h' g l[i]
    simp only [encQ] at es
    have hx : ((l.take i).filter may).length ≤ i := Nat.le_trans (List.length_filter_le _ _) (by simp; omega)
    have en : (((l.take (i + 1)).filter may).map Param.name) = (((l.take i).filter may).map Param.name) ++ if may l[i] = true then [l[i].name] else [] := by
      rw [List.take_succ_eq_append_getElem hi, List.filter_append, List.map_append]
      cases b : may l[i] <;> simp [List.filter, b]
    cases b : may l[i] with
    | false =>
      rw [b] at en
      simp +contextual (maxSteps := 2000000) only [go_sem, Nat.reduceEqDiff, reduceCtorEq, Nat.reduceAdd, Nat.reduceLeDiff, t1, t5, t9, t10, t11, lt_true hi, k.iaddr hi, k.whole hi, encQ, es, b]
      exact ⟨g, ⟨w, rfl, by rw [en]; simp only [Bool.false_eq_true, if_false, List.append_nil]; exact z⟩, by rw [wrap_next hi (by omega)]⟩
    | true =>
      rw [b] at en
      simp +contextual (maxSteps := 2000000) only [go_sem, Nat.reduceEqDiff, reduceCtorEq, Nat.reduceAdd, Nat.reduceLeDiff, t1, t5, t9, t10, t11, lt_true hi, k.iaddr hi, k.whole hi, encQ, es, b]
      refine wp_lit (enc := encS) (k := 1) (l := [l[i].name]) rfl rfl ?_
      intro h3 w3 g3 n3 _
      simp +contextual (maxSteps := 2000000) only [go_sem, Nat.reduceEqDiff, reduceCtorEq, Nat.reduceAdd, Nat.reduceLeDiff, t1, t5, t9, t10, t11]
      refine wp_append lenS (z.grow g3) (n3.sl lenS) (g.trans g3) (by simp; omega) ?_
      intro h4 s4 g4 n4 st4 hb4
      obtain ⟨c4, rfl⟩ := n4.one
      simp +contextual (maxSteps := 2000000) only [go_sem, Nat.reduceEqDiff, reduceCtorEq, Nat.reduceAdd, Nat.reduceLeDiff, t1, t5, t9, t10, t11]
      exact ⟨g4, ⟨c4, rfl, by rw [en]; exact n4⟩, by rw [wrap_next hi (by omega)]⟩
  · rintro T L h' ⟨g, t1, ⟨w, t5, z⟩, t9, t10, t11⟩
    rw [List.take_length] at z
    simp +contextual (maxSteps := 2000000) only [go_sem, Nat.reduceEqDiff, reduceCtorEq, Nat.reduceAdd, Nat.reduceLeDiff, t1, t5, t9, t10, t11, lt_false]
    refine wp_call (c_clipS _ _ h' z) ?_
    rintro r h2 ⟨rfl, n2⟩
    simp +contextual (maxSteps := 2000000) only [go_sem, Nat.reduceEqDiff, reduceCtorEq, Nat.reduceAdd, Nat.reduceLeDiff]
    exact gcK_of ⟨g, n2⟩ (fun hs _ => ⟨Grow.refl h, n2.scalar hs h⟩)
  · simp +contextual (maxSteps := 2000000) only [go_sem, Nat.reduceEqDiff, reduceCtorEq, Nat.reduceAdd, Nat.reduceLeDiff]
    exact ⟨Grow.refl h, ⟨_, rfl, .nil⟩, rfl⟩
/-! (impl.Signature).places -/
def L92_0 : List AStep := [⟨.box 38 (.t 0), (some 1), none, []⟩, ⟨.mov (.c (.int .i64 0)), (some 2), none, []⟩]
theorem v92_0 : VS L92_0.eq_1 := rfl
def L92_1 : List AStep := [⟨.len (.t 4), (some 5), none, []⟩, ⟨.mov (.t 5), (some 2), none, []⟩]
theorem v92_1 : VS L92_1.eq_1 := rfl
def L92_2 : List AStep := ⟨.load 1 true (.t 1), (some 3), none, []⟩ :: ⟨.call 103 [(.t 3), (.c (.fn 101 []))], (some 4), none, []⟩ :: L92_1
theorem v92_2 : VS L92_2.eq_1 := rfl
def C92_0 : ACode := .seq (.reg L92_2) .ret
theorem u92_0 : VC C92_0.eq_1 := rfl
def C92_1 : ACode := .seq (.reg L92_0) C92_0
theorem u92_1 : VC C92_1.eq_1 := rfl
def F92 : AFunc := ⟨6, [.tmp 2], C92_1⟩
theorem cF92 : compB Try.prog 92 = some F92 := by kernel_rfl
attribute [local go_sem ↓] u92_0 u92_1 v92_0 v92_1 v92_2
theorem c_placesI (l : List Param) (q : CV) (h : H) (hl : SlQ h (.one q) l) (hn : l.length ≤ 8) : bm Try.prog 92 [.agg [q]] h = some (ii (l.countP byPlace), h) := by
  refine bm_eq cF92 ?_
  simp +contextual (maxSteps := 2000000) only [go_sem, Nat.reduceEqDiff, reduceCtorEq, Nat.reduceAdd, Nat.reduceLeDiff, F92]
  refine wp_call (c_namesOf l q h hl hn) ?_
  rintro r h1 ⟨g1, ms, n1, hc⟩
  simp +contextual (maxSteps := 2000000) only [go_sem, Nat.reduceEqDiff, reduceCtorEq, Nat.reduceAdd, Nat.reduceLeDiff, n1.length, hc]
  exact gcR_of g1 rfl ⟨rfl, rfl⟩
/-- The places among the first i. -/
theorem cnt_place {l : List Param} (o : Ord l) : ∀ i, i ≤ l.length → cnt byPlace l i = min i (places l)
  | 0, _ => by rw [cnt_zero]; omega
  | i + 1, hi => by
    rw [cnt_next (show i < l.length by omega), cnt_place o i (by omega), o.place (show i < l.length by omega)]
    by_cases e : i < places l
    · rw [decide_eq_true e, if_pos rfl]; omega
    · rw [decide_eq_false e, if_neg (by simp)]; omega
theorem kind0_single {p : Param} (h : single p = false) : decide (p.kind = 0) = false := by
  cases b : decide (p.kind = 0) with
  | false => rfl
  | true => simp [single, byPlace, b] at h
theorem kind0_place {p : Param} (h : decide (p.kind = 0) = true) : byPlace p = true := by simp [byPlace, h]
/-! (impl.Signature).needs -/
def L140_0 : List AStep := [⟨.mov (.c (.bool false)), (some 5), none, []⟩]
theorem v140_0 : VS L140_0.eq_1 := rfl
def L140_1 : List AStep := ⟨.box 38 (.t 0), (some 2), none, []⟩ :: ⟨.mov (.c (.sl none 0 (some 0))), (some 4), none, []⟩ :: L140_0
theorem v140_1 : VS L140_1.eq_1 := rfl
def L140_2 : List AStep := [⟨.pick (.t 18) (.t 21) (.c (.bool false)), (some 22), (some (13, false)), []⟩, ⟨.pick (.t 13) (.c (.bool true)) (.t 22), (some 23), none, []⟩]
theorem v140_2 : VS L140_2.eq_1 := rfl
def L140_3 : List AStep := ⟨.call 91 [(.t 19), (.c (.int .i64 2))], (some 20), (some (18, true)), []⟩ :: ⟨.not (.t 20), (some 21), (some (18, true)), []⟩ :: L140_2
theorem v140_3 : VS L140_3.eq_1 := rfl
def L140_4 : List AStep := ⟨.mov (.t 17), (some 18), (some (13, false)), []⟩ :: ⟨.load 1 true (.t 2), (some 19), (some (18, true)), []⟩ :: L140_3
theorem v140_4 : VS L140_4.eq_1 := rfl
def L140_5 : List AStep := ⟨.call 92 [(.t 15)], (some 16), (some (13, false)), []⟩ :: ⟨.bin .gtr (.t 14) (.t 16), (some 17), (some (13, false)), []⟩ :: L140_4
theorem v140_5 : VS L140_5.eq_1 := rfl
def L140_6 : List AStep := ⟨.mov (.t 1), (some 14), (some (13, false)), []⟩ :: ⟨.load 1 true (.t 2), (some 15), (some (13, false)), []⟩ :: L140_5
theorem v140_6 : VS L140_6.eq_1 := rfl
def L140_7 : List AStep := ⟨.not (.t 11), (some 12), none, []⟩ :: ⟨.mov (.t 12), (some 13), none, []⟩ :: L140_6
theorem v140_7 : VS L140_7.eq_1 := rfl
def L140_8 : List AStep := ⟨.mov (.t 1), (some 10), none, []⟩ :: ⟨.call 86 [(.t 10), (.c (.int .i64 0)), (.c (.int .i64 8))], (some 11), none, []⟩ :: L140_7
theorem v140_8 : VS L140_8.eq_1 := rfl
def L140_9 : List AStep := [⟨.mov (.c (.sl none 0 (some 0))), (some 4), none, []⟩, ⟨.mov (.c (.bool false)), (some 5), none, []⟩]
theorem v140_9 : VS L140_9.eq_1 := rfl
def L140_10 : List AStep := [⟨.mov (.c (.sl none 0 (some 0))), (some 6), none, []⟩]
theorem v140_10 : VS L140_10.eq_1 := rfl
def L140_11 : List AStep := [⟨.mov (.c (.int .i64 0)), (some 7), none, []⟩]
theorem v140_11 : VS L140_11.eq_1 := rfl
def L140_12 : List AStep := [⟨.len (.t 25), (some 26), none, []⟩, ⟨.mov (.c (.int .i64 0)), (some 27), none, []⟩]
theorem v140_12 : VS L140_12.eq_1 := rfl
def L140_13 : List AStep := ⟨.faddr 0 (.t 2), (some 24), none, []⟩ :: ⟨.load 1 false (.t 24), (some 25), none, []⟩ :: L140_12
theorem v140_13 : VS L140_13.eq_1 := rfl
def L140_14 : List AStep := [⟨.bin .lss (.t 27) (.t 26), (some 28), none, []⟩]
theorem v140_14 : VS L140_14.eq_1 := rfl
def L140_15 : List AStep := [⟨.alloc 35 [(.str (strOfNums [])), (.int .i64 0), (.bool false), (.int .i64 0)], (some 9), none, []⟩, ⟨.store 4 (.t 9) (.t 30), none, none, []⟩]
theorem v140_15 : VS L140_15.eq_1 := rfl
def L140_16 : List AStep := ⟨.iaddr 4 (.t 25) (.t 27), (some 29), none, []⟩ :: ⟨.load 4 true (.t 29), (some 30), none, []⟩ :: L140_15
theorem v140_16 : VS L140_16.eq_1 := rfl
def L140_17 : List AStep := [⟨.load 4 true (.t 9), (some 31), none, []⟩, ⟨.call 101 [(.t 31)], (some 32), none, []⟩]
theorem v140_17 : VS L140_17.eq_1 := rfl
def L140_18 : List AStep := [⟨.mov (.t 34), (some 7), none, []⟩]
theorem v140_18 : VS L140_18.eq_1 := rfl
def L140_19 : List AStep := ⟨.mov (.t 7), (some 33), none, []⟩ :: ⟨.bin .add (.t 33) (.c (.int .i64 1)), (some 34), none, []⟩ :: L140_18
theorem v140_19 : VS L140_19.eq_1 := rfl
def L140_20 : List AStep := [⟨.pick (.t 45) (.t 48) (.c (.bool false)), (some 49), (some (42, false)), []⟩, ⟨.pick (.t 42) (.c (.bool true)) (.t 49), (some 50), none, []⟩]
theorem v140_20 : VS L140_20.eq_1 := rfl
def L140_21 : List AStep := ⟨.mov (.t 1), (some 47), (some (45, true)), []⟩ :: ⟨.bin .leq (.t 46) (.t 47), (some 48), (some (45, true)), []⟩ :: L140_20
theorem v140_21 : VS L140_21.eq_1 := rfl
def L140_22 : List AStep := ⟨.mov (.t 44), (some 45), (some (42, false)), []⟩ :: ⟨.mov (.t 7), (some 46), (some (45, true)), []⟩ :: L140_21
theorem v140_22 : VS L140_22.eq_1 := rfl
def L140_23 : List AStep := ⟨.load 4 true (.t 9), (some 43), (some (42, false)), []⟩ :: ⟨.call 101 [(.t 43)], (some 44), (some (42, false)), []⟩ :: L140_22
theorem v140_23 : VS L140_23.eq_1 := rfl
def L140_24 : List AStep := ⟨.pick (.t 38) (.c (.bool true)) (.t 40), (some 41), none, []⟩ :: ⟨.mov (.t 41), (some 42), none, []⟩ :: L140_23
theorem v140_24 : VS L140_24.eq_1 := rfl
def L140_25 : List AStep := ⟨.faddr 2 (.t 9), (some 39), (some (38, false)), []⟩ :: ⟨.load 1 false (.t 39), (some 40), (some (38, false)), []⟩ :: L140_24
theorem v140_25 : VS L140_25.eq_1 := rfl
def L140_26 : List AStep := ⟨.not (.t 36), (some 37), none, []⟩ :: ⟨.mov (.t 37), (some 38), none, []⟩ :: L140_25
theorem v140_26 : VS L140_26.eq_1 := rfl
def L140_27 : List AStep := ⟨.load 4 true (.t 9), (some 35), none, []⟩ :: ⟨.call 100 [(.t 35)], (some 36), none, []⟩ :: L140_26
theorem v140_27 : VS L140_27.eq_1 := rfl
def L140_28 : List AStep := [⟨.bin .eql (.t 52) (.c (.int .i64 0)), (some 53), none, []⟩]
theorem v140_28 : VS L140_28.eq_1 := rfl
def L140_29 : List AStep := ⟨.faddr 1 (.t 9), (some 51), none, []⟩ :: ⟨.load 1 false (.t 51), (some 52), none, []⟩ :: L140_28
theorem v140_29 : VS L140_29.eq_1 := rfl
def L140_30 : List AStep := [⟨.mov (.c (.sl none 0 (some 0))), (some 4), none, []⟩, ⟨.mov (.c (.bool false)), (some 5), none, []⟩]
theorem v140_30 : VS L140_30.eq_1 := rfl
def L140_31 : List AStep := [⟨.append 9 1 16 (.t 54) (.t 57), (some 58), none, []⟩, ⟨.mov (.t 58), (some 6), none, []⟩]
theorem v140_31 : VS L140_31.eq_1 := rfl
def L140_32 : List AStep := ⟨.load 1 false (.t 55), (some 56), none, []⟩ :: ⟨.buildSlice 9 1 [(.str (strOfNums []))] [(0, 1, (.t 56))], (some 57), none, []⟩ :: L140_31
theorem v140_32 : VS L140_32.eq_1 := rfl
def L140_33 : List AStep := ⟨.mov (.t 6), (some 54), none, []⟩ :: ⟨.faddr 0 (.t 9), (some 55), none, []⟩ :: L140_32
theorem v140_33 : VS L140_33.eq_1 := rfl
def L140_34 : List AStep := [⟨.bin .add (.t 27) (.c (.int .i64 1)), (some 59), none, []⟩, ⟨.mov (.t 59), (some 27), none, []⟩]
theorem v140_34 : VS L140_34.eq_1 := rfl
def L140_35 : List AStep := [⟨.mov (.t 6), (some 60), none, []⟩, ⟨.call 163 [(.t 60)], (some 61), none, []⟩]
theorem v140_35 : VS L140_35.eq_1 := rfl
def L140_36 : List AStep := [⟨.mov (.t 63), (some 4), none, []⟩, ⟨.mov (.c (.bool true)), (some 5), none, []⟩]
theorem v140_36 : VS L140_36.eq_1 := rfl
def L140_37 : List AStep := ⟨.mov (.t 6), (some 62), none, []⟩ :: ⟨.call 83 [(.t 62)], (some 63), none, []⟩ :: L140_36
theorem v140_37 : VS L140_37.eq_1 := rfl
def C140_0 : ACode := .seq (.reg L140_9) .ret
theorem u140_0 : VC C140_0.eq_1 := rfl
def C140_1 : ACode := .cond (.t 23) C140_0 .skip
theorem u140_1 : VC C140_1.eq_1 := rfl
def C140_2 : ACode := .seq (.reg L140_8) C140_1
theorem u140_2 : VC C140_2.eq_1 := rfl
def C140_3 : ACode := .cond (.t 28) .skip (.exit 0)
theorem u140_3 : VC C140_3.eq_1 := rfl
def C140_4 : ACode := .cond (.t 32) (.reg L140_19) .skip
theorem u140_4 : VC C140_4.eq_1 := rfl
def C140_5 : ACode := .seq (.reg L140_17) C140_4
theorem u140_5 : VC C140_5.eq_1 := rfl
def C140_6 : ACode := .cond (.t 50) (.exit 1) .skip
theorem u140_6 : VC C140_6.eq_1 := rfl
def C140_7 : ACode := .seq (.reg L140_27) C140_6
theorem u140_7 : VC C140_7.eq_1 := rfl
def C140_8 : ACode := .seq (.reg L140_30) .ret
theorem u140_8 : VC C140_8.eq_1 := rfl
def C140_9 : ACode := .cond (.t 53) C140_8 .skip
theorem u140_9 : VC C140_9.eq_1 := rfl
def C140_10 : ACode := .seq (.reg L140_29) C140_9
theorem u140_10 : VC C140_10.eq_1 := rfl
def C140_11 : ACode := .seq C140_10 (.reg L140_33)
theorem u140_11 : VC C140_11.eq_1 := rfl
def C140_12 : ACode := .seq C140_7 C140_11
theorem u140_12 : VC C140_12.eq_1 := rfl
def C140_13 : ACode := .seq C140_5 C140_12
theorem u140_13 : VC C140_13.eq_1 := rfl
def C140_14 : ACode := .seq (.reg L140_16) C140_13
theorem u140_14 : VC C140_14.eq_1 := rfl
def C140_15 : ACode := .block 1 C140_14
theorem u140_15 : VC C140_15.eq_1 := rfl
def C140_16 : ACode := .seq C140_15 (.reg L140_34)
theorem u140_16 : VC C140_16.eq_1 := rfl
def C140_17 : ACode := .seq C140_3 C140_16
theorem u140_17 : VC C140_17.eq_1 := rfl
def C140_18 : ACode := .seq (.reg L140_14) C140_17
theorem u140_18 : VC C140_18.eq_1 := rfl
def C140_19 : ACode := .block 0 (.loop C140_18)
theorem u140_19 : VC C140_19.eq_1 := rfl
def C140_20 : ACode := .seq (.reg L140_13) C140_19
theorem u140_20 : VC C140_20.eq_1 := rfl
def C140_21 : ACode := .seq (.reg L140_37) .ret
theorem u140_21 : VC C140_21.eq_1 := rfl
def C140_22 : ACode := .seq (.reg L140_35) C140_21
theorem u140_22 : VC C140_22.eq_1 := rfl
def C140_23 : ACode := .seq C140_20 C140_22
theorem u140_23 : VC C140_23.eq_1 := rfl
def C140_24 : ACode := .seq (.reg L140_11) C140_23
theorem u140_24 : VC C140_24.eq_1 := rfl
def C140_25 : ACode := .seq (.reg L140_10) C140_24
theorem u140_25 : VC C140_25.eq_1 := rfl
def C140_26 : ACode := .seq C140_2 C140_25
theorem u140_26 : VC C140_26.eq_1 := rfl
def C140_27 : ACode := .seq (.reg L140_1) C140_26
theorem u140_27 : VC C140_27.eq_1 := rfl
def F140 : AFunc := ⟨64, [.tmp 4, .tmp 5], C140_27⟩
theorem cF140 : compB Try.prog 140 = some F140 := by kernel_rfl
attribute [local go_sem ↓] u140_0 u140_1 u140_2 u140_3 u140_4 u140_5 u140_6 u140_7 u140_8 u140_9 u140_10 u140_11 u140_12 u140_13 u140_14 u140_15 u140_16 u140_17 u140_18 u140_19 u140_20 u140_21 u140_22 u140_23 u140_24 u140_25 u140_26 u140_27 v140_0 v140_1 v140_2 v140_3 v140_4 v140_5 v140_6 v140_7 v140_8 v140_9 v140_10 v140_11 v140_12 v140_13 v140_14 v140_15 v140_16 v140_17 v140_18 v140_19 v140_20 v140_21 v140_22 v140_23 v140_24 v140_25 v140_26 v140_27 v140_28 v140_29 v140_30 v140_31 v140_32 v140_33 v140_34 v140_35 v140_36 v140_37
theorem c_needs (l : List Param) (q : CV) (n : Int) (h : H) (hl : SlQ h (.one q) l) (hn : smQ l) (o : Ord l) (h8 : l.length ≤ 8) : callK (bm Try.prog 140 [.agg [q], .one (.int .i64 n)] h) fun r h' => Grow h h' ∧ ∃ w, r = .tup [.one w, ib (inC n && (!manyC l n && lateOk l n.toNat))] := by
  refine bm_of cF140 ?_
  cases b1 : decide (0 ≤ n) && decide (n ≤ 8) with
  | false =>
    have e1 : inC n = false := b1
    rw [e1, Bool.false_and]
    simp +contextual (maxSteps := 2000000) only [go_sem, Nat.reduceEqDiff, reduceCtorEq, Nat.reduceAdd, Nat.reduceLeDiff, F140, c_in, b1]
    exact ⟨Grow.refl h, _, rfl⟩
  | true =>
  have b3 : 0 ≤ n ∧ n ≤ 8 := by simpa using b1
  obtain ⟨m, rfl⟩ := Int.eq_ofNat_of_zero_le b3.1
  have c1 : decide (0 ≤ (m : Int)) = true := decide_eq_true b3.1
  have c2 : decide ((m : Int) ≤ 8) = true := decide_eq_true b3.2
  have e1 : inC (m : Int) = true := b1
  rw [e1, Bool.true_and, Int.toNat_natCast]
  have e0 : manyC l m = (decide ((m : Int) > (l.countP byPlace : Int)) && !decide (0 ≤ kindAt l 2)) := by
    have : decide (kindAt l 2 < 0) = !decide (0 ≤ kindAt l 2) := by
      by_cases hx : kindAt l 2 < 0
      · rw [decide_eq_true hx, decide_eq_false (by omega)]; rfl
      · rw [decide_eq_false hx, decide_eq_true (by omega)]; rfl
    unfold manyC
    rw [this]
  have k1 := c_placesI l q h hl h8
  have k2 := c_has l q 2 h hl hn
  cases b4 : decide ((m : Int) > (l.countP byPlace : Int)) with
  | true =>
    rw [b4, Bool.true_and] at e0
    cases b0 : decide (0 ≤ kindAt l 2) with
    | false =>
      rw [b0] at e0
      simp +contextual (maxSteps := 2000000) only [go_sem, Nat.reduceEqDiff, reduceCtorEq, Nat.reduceAdd, Nat.reduceLeDiff, F140, c_in, c1, c2, k1, b4, k2, b0, e0, Bool.and_self, Bool.not_false, Bool.not_true, Bool.false_and]
      exact ⟨Grow.refl h, _, rfl⟩
    | true =>
    rw [b0] at e0
    simp +contextual (maxSteps := 2000000) only [go_sem, Nat.reduceEqDiff, reduceCtorEq, Nat.reduceAdd, Nat.reduceLeDiff, F140, c_in, c1, c2, k1, b4, k2, b0, e0, hl.len, Bool.and_self, Bool.not_false, Bool.not_true, Bool.true_and]
    refine wpC_loop (fun i T L h' => Grow h h' ∧ T 1 = .v (.one (.int .i64 m)) ∧ (∃ w ms, T 6 = .v (.one w) ∧ NwS h h' (.one w) ms ∧ ms.length ≤ i) ∧ T 7 = .v (.one (.int .i64 (cnt byPlace l i))) ∧ T 25 = .v (.one q) ∧ T 26 = .v (.one (.int .i64 l.length)) ∧ T 27 = .v (.one (.int .i64 i)) ∧ Upto (lateAt l m) i) l.length ?_ ?_ (Nat.zero_le _) ?_
    · rintro i T L h' hi ⟨g, t1, ⟨w, ms, t6, z, hz⟩, t7, t25, t26, t27, hu⟩
      have k := hl.grow g
      have es := fun h => c_placed l[i] h
      have es2 := fun h => c_single l[i] h
      simp only [encQ] at es es2
      have el := lateAt_eq (m := m) hi
      have hc := cnt_next (p := byPlace) hi
      have hp := cnt_place o (i + 1) (by omega)
      have hx := cnt_le (p := byPlace) (l := l) (i := i)
      have a5 : IntKind.i64.wrap ((cnt byPlace l i : Int) + 1) = ((cnt byPlace l i + 1 : Nat) : Int) := by rw [i64_wrap (by omega) (by omega)]; omega
      cases b5 : single l[i] with
      | false =>
        have b6 : byPlace l[i] = false := by simp [single] at b5; exact b5.1
        rw [kind0_single b5, Bool.false_and, Bool.not_false, Bool.or_true] at el
        rw [b6, if_neg (by simp), Nat.add_zero] at hc
        simp +contextual (maxSteps := 2000000) only [go_sem, Nat.reduceEqDiff, reduceCtorEq, Nat.reduceAdd, Nat.reduceLeDiff, t1, t6, t7, t25, t26, t27, lt_true hi, k.iaddr hi, k.whole hi, encQ, es, es2, b5, b6]
        exact ⟨g, ⟨w, ms, rfl, z, by omega⟩, by (rw [hc]) <;> rfl, by rw [wrap_next hi (by omega)], hu.next el⟩
      | true =>
      cases b6 : byPlace l[i] with
      | false =>
        rw [b6, if_neg (by simp), Nat.add_zero] at hc
        have b7 : decide (l[i].kind = 0) = false := by
          cases b : decide (l[i].kind = 0) with
          | false => rfl
          | true => rw [kind0_place b] at b6; exact b6
        rw [b7, Bool.false_and, Bool.not_false, Bool.or_true] at el
        cases b8 : l[i].has with
        | true =>
          simp only [b8] at es es2
          simp +contextual (maxSteps := 2000000) only [go_sem, Nat.reduceEqDiff, reduceCtorEq, Nat.reduceAdd, Nat.reduceLeDiff, t1, t6, t7, t25, t26, t27, lt_true hi, k.iaddr hi, k.whole hi, encQ, es, es2, b5, b6, b8]
          exact ⟨g, ⟨w, ms, rfl, z, by omega⟩, by (rw [hc]) <;> rfl, by rw [wrap_next hi (by omega)], hu.next el⟩
        | false =>
          simp only [b8] at es es2
          simp +contextual (maxSteps := 2000000) only [go_sem, Nat.reduceEqDiff, reduceCtorEq, Nat.reduceAdd, Nat.reduceLeDiff, t1, t6, t7, t25, t26, t27, lt_true hi, k.iaddr hi, k.whole hi, encQ, es, es2, b5, b6, b8, b7]
          refine wp_lit (enc := encS) (k := 1) (l := [l[i].name]) rfl rfl ?_
          intro h3 w3 g3 n3 _
          simp +contextual (maxSteps := 2000000) only [go_sem, Nat.reduceEqDiff, reduceCtorEq, Nat.reduceAdd, Nat.reduceLeDiff, t1, t6, t7, t25, t26, t27]
          refine wp_append lenS (z.grow g3) (n3.sl lenS) (g.trans g3) (by simp; omega) ?_
          intro h4 s4 g4 n4 st4 hb4
          obtain ⟨c4, rfl⟩ := n4.one
          simp +contextual (maxSteps := 2000000) only [go_sem, Nat.reduceEqDiff, reduceCtorEq, Nat.reduceAdd, Nat.reduceLeDiff, t1, t6, t7, t25, t26, t27]
          exact ⟨g4, ⟨c4, _, rfl, n4, by simp; omega⟩, by (rw [hc]) <;> rfl, by rw [wrap_next hi (by omega)], hu.next el⟩
      | true =>
        rw [b6, if_pos rfl] at hc
        have b9 : i < places l := by have := o.place hi; rw [b6] at this; exact of_decide_eq_true this.symm
        cases b8 : l[i].has with
        | true =>
          rw [b8, Bool.not_true, Bool.and_false, Bool.not_false, Bool.or_true] at el
          simp only [b8] at es es2
          simp +contextual (maxSteps := 2000000) only [go_sem, Nat.reduceEqDiff, reduceCtorEq, Nat.reduceAdd, Nat.reduceLeDiff, t1, t6, t7, t25, t26, t27, lt_true hi, k.iaddr hi, k.whole hi, encQ, es, es2, b5, b6, b8, a5]
          exact ⟨g, ⟨w, ms, rfl, z, by omega⟩, by (rw [hc]) <;> rfl, by rw [wrap_next hi (by omega)], hu.next el⟩
        | false =>
        simp only [b8] at es es2
        by_cases b10 : cnt byPlace l i + 1 ≤ m
        · have a6 : decide (((cnt byPlace l i + 1 : Nat) : Int) ≤ (m : Int)) = true := decide_eq_true (by omega)
          rw [decide_eq_true (show i < m by omega), Bool.true_or] at el
          simp +contextual (maxSteps := 2000000) only [go_sem, Nat.reduceEqDiff, reduceCtorEq, Nat.reduceAdd, Nat.reduceLeDiff, t1, t6, t7, t25, t26, t27, lt_true hi, k.iaddr hi, k.whole hi, encQ, es, es2, b5, b6, b8, a5, a6]
          exact ⟨g, ⟨w, ms, rfl, z, by omega⟩, by (rw [hc]) <;> rfl, by rw [wrap_next hi (by omega)], hu.next el⟩
        · have a6 : decide (((cnt byPlace l i + 1 : Nat) : Int) ≤ (m : Int)) = false := decide_eq_false (by omega)
          rw [decide_eq_false (show ¬ i < m by omega), Bool.false_or, b8, Bool.not_false, Bool.and_true] at el
          cases b7 : decide (l[i].kind = 0) with
          | true =>
            rw [b7, Bool.not_true] at el
            simp +contextual (maxSteps := 2000000) only [go_sem, Nat.reduceEqDiff, reduceCtorEq, Nat.reduceAdd, Nat.reduceLeDiff, t1, t6, t7, t25, t26, t27, lt_true hi, k.iaddr hi, k.whole hi, encQ, es, es2, b5, b6, b8, a5, a6, b7, lateOk_not hi el]
            exact gcK_of ⟨g, _, rfl⟩ (fun _ _ => ⟨Grow.refl h, _, rfl⟩)
          | false =>
            rw [b7, Bool.not_false] at el
            simp +contextual (maxSteps := 2000000) only [go_sem, Nat.reduceEqDiff, reduceCtorEq, Nat.reduceAdd, Nat.reduceLeDiff, t1, t6, t7, t25, t26, t27, lt_true hi, k.iaddr hi, k.whole hi, encQ, es, es2, b5, b6, b8, a5, a6, b7]
            refine wp_lit (enc := encS) (k := 1) (l := [l[i].name]) rfl rfl ?_
            intro h3 w3 g3 n3 _
            simp +contextual (maxSteps := 2000000) only [go_sem, Nat.reduceEqDiff, reduceCtorEq, Nat.reduceAdd, Nat.reduceLeDiff, t1, t6, t7, t25, t26, t27]
            refine wp_append lenS (z.grow g3) (n3.sl lenS) (g.trans g3) (by simp; omega) ?_
            intro h4 s4 g4 n4 st4 hb4
            obtain ⟨c4, rfl⟩ := n4.one
            simp +contextual (maxSteps := 2000000) only [go_sem, Nat.reduceEqDiff, reduceCtorEq, Nat.reduceAdd, Nat.reduceLeDiff, t1, t6, t7, t25, t26, t27]
            exact ⟨g4, ⟨c4, _, rfl, n4, by simp; omega⟩, by (rw [hc]) <;> rfl, by rw [wrap_next hi (by omega)], hu.next el⟩
    · rintro T L h' ⟨g, t1, ⟨w, ms, t6, z, hz⟩, t7, t25, t26, t27, hu⟩
      simp +contextual (maxSteps := 2000000) only [go_sem, Nat.reduceEqDiff, reduceCtorEq, Nat.reduceAdd, Nat.reduceLeDiff, t1, t6, t7, t25, t26, t27, lt_false]
      refine wp_call (c_sortS ms (.one w) h h' g z (by omega)) ?_
      rintro r h2 ⟨g2, n2⟩
      simp +contextual (maxSteps := 2000000) only [go_sem, Nat.reduceEqDiff, reduceCtorEq, Nat.reduceAdd, Nat.reduceLeDiff, t6]
      refine wp_call (c_clipS _ _ h2 n2) ?_
      rintro r h3 ⟨rfl, n3⟩
      obtain ⟨c3, rfl⟩ := n3.one
      simp +contextual (maxSteps := 2000000) only [go_sem, Nat.reduceEqDiff, reduceCtorEq, Nat.reduceAdd, Nat.reduceLeDiff, lateOk_of (Nat.le_refl _) hu]
      exact gcK_of ⟨g2, _, rfl⟩ (fun _ _ => ⟨Grow.refl h, _, rfl⟩)
    · simp +contextual (maxSteps := 2000000) only [go_sem, Nat.reduceEqDiff, reduceCtorEq, Nat.reduceAdd, Nat.reduceLeDiff, cnt_zero]
      exact ⟨Grow.refl h, ⟨_, [], rfl, .nil, Nat.le_refl 0⟩, rfl, rfl, Upto.zero⟩
  | false =>
    rw [b4, Bool.false_and] at e0
    simp +contextual (maxSteps := 2000000) only [go_sem, Nat.reduceEqDiff, reduceCtorEq, Nat.reduceAdd, Nat.reduceLeDiff, F140, c_in, c1, c2, k1, b4, e0, hl.len, Bool.and_self, Bool.not_false, Bool.not_true, Bool.true_and]
    refine wpC_loop (fun i T L h' => Grow h h' ∧ T 1 = .v (.one (.int .i64 m)) ∧ (∃ w ms, T 6 = .v (.one w) ∧ NwS h h' (.one w) ms ∧ ms.length ≤ i) ∧ T 7 = .v (.one (.int .i64 (cnt byPlace l i))) ∧ T 25 = .v (.one q) ∧ T 26 = .v (.one (.int .i64 l.length)) ∧ T 27 = .v (.one (.int .i64 i)) ∧ Upto (lateAt l m) i) l.length ?_ ?_ (Nat.zero_le _) ?_
    · rintro i T L h' hi ⟨g, t1, ⟨w, ms, t6, z, hz⟩, t7, t25, t26, t27, hu⟩
      have k := hl.grow g
      have es := fun h => c_placed l[i] h
      have es2 := fun h => c_single l[i] h
      simp only [encQ] at es es2
      have el := lateAt_eq (m := m) hi
      have hc := cnt_next (p := byPlace) hi
      have hp := cnt_place o (i + 1) (by omega)
      have hx := cnt_le (p := byPlace) (l := l) (i := i)
      have a5 : IntKind.i64.wrap ((cnt byPlace l i : Int) + 1) = ((cnt byPlace l i + 1 : Nat) : Int) := by rw [i64_wrap (by omega) (by omega)]; omega
      cases b5 : single l[i] with
      | false =>
        have b6 : byPlace l[i] = false := by simp [single] at b5; exact b5.1
        rw [kind0_single b5, Bool.false_and, Bool.not_false, Bool.or_true] at el
        rw [b6, if_neg (by simp), Nat.add_zero] at hc
        simp +contextual (maxSteps := 2000000) only [go_sem, Nat.reduceEqDiff, reduceCtorEq, Nat.reduceAdd, Nat.reduceLeDiff, t1, t6, t7, t25, t26, t27, lt_true hi, k.iaddr hi, k.whole hi, encQ, es, es2, b5, b6]
        exact ⟨g, ⟨w, ms, rfl, z, by omega⟩, by (rw [hc]) <;> rfl, by rw [wrap_next hi (by omega)], hu.next el⟩
      | true =>
      cases b6 : byPlace l[i] with
      | false =>
        rw [b6, if_neg (by simp), Nat.add_zero] at hc
        have b7 : decide (l[i].kind = 0) = false := by
          cases b : decide (l[i].kind = 0) with
          | false => rfl
          | true => rw [kind0_place b] at b6; exact b6
        rw [b7, Bool.false_and, Bool.not_false, Bool.or_true] at el
        cases b8 : l[i].has with
        | true =>
          simp only [b8] at es es2
          simp +contextual (maxSteps := 2000000) only [go_sem, Nat.reduceEqDiff, reduceCtorEq, Nat.reduceAdd, Nat.reduceLeDiff, t1, t6, t7, t25, t26, t27, lt_true hi, k.iaddr hi, k.whole hi, encQ, es, es2, b5, b6, b8]
          exact ⟨g, ⟨w, ms, rfl, z, by omega⟩, by (rw [hc]) <;> rfl, by rw [wrap_next hi (by omega)], hu.next el⟩
        | false =>
          simp only [b8] at es es2
          simp +contextual (maxSteps := 2000000) only [go_sem, Nat.reduceEqDiff, reduceCtorEq, Nat.reduceAdd, Nat.reduceLeDiff, t1, t6, t7, t25, t26, t27, lt_true hi, k.iaddr hi, k.whole hi, encQ, es, es2, b5, b6, b8, b7]
          refine wp_lit (enc := encS) (k := 1) (l := [l[i].name]) rfl rfl ?_
          intro h3 w3 g3 n3 _
          simp +contextual (maxSteps := 2000000) only [go_sem, Nat.reduceEqDiff, reduceCtorEq, Nat.reduceAdd, Nat.reduceLeDiff, t1, t6, t7, t25, t26, t27]
          refine wp_append lenS (z.grow g3) (n3.sl lenS) (g.trans g3) (by simp; omega) ?_
          intro h4 s4 g4 n4 st4 hb4
          obtain ⟨c4, rfl⟩ := n4.one
          simp +contextual (maxSteps := 2000000) only [go_sem, Nat.reduceEqDiff, reduceCtorEq, Nat.reduceAdd, Nat.reduceLeDiff, t1, t6, t7, t25, t26, t27]
          exact ⟨g4, ⟨c4, _, rfl, n4, by simp; omega⟩, by (rw [hc]) <;> rfl, by rw [wrap_next hi (by omega)], hu.next el⟩
      | true =>
        rw [b6, if_pos rfl] at hc
        have b9 : i < places l := by have := o.place hi; rw [b6] at this; exact of_decide_eq_true this.symm
        cases b8 : l[i].has with
        | true =>
          rw [b8, Bool.not_true, Bool.and_false, Bool.not_false, Bool.or_true] at el
          simp only [b8] at es es2
          simp +contextual (maxSteps := 2000000) only [go_sem, Nat.reduceEqDiff, reduceCtorEq, Nat.reduceAdd, Nat.reduceLeDiff, t1, t6, t7, t25, t26, t27, lt_true hi, k.iaddr hi, k.whole hi, encQ, es, es2, b5, b6, b8, a5]
          exact ⟨g, ⟨w, ms, rfl, z, by omega⟩, by (rw [hc]) <;> rfl, by rw [wrap_next hi (by omega)], hu.next el⟩
        | false =>
        simp only [b8] at es es2
        by_cases b10 : cnt byPlace l i + 1 ≤ m
        · have a6 : decide (((cnt byPlace l i + 1 : Nat) : Int) ≤ (m : Int)) = true := decide_eq_true (by omega)
          rw [decide_eq_true (show i < m by omega), Bool.true_or] at el
          simp +contextual (maxSteps := 2000000) only [go_sem, Nat.reduceEqDiff, reduceCtorEq, Nat.reduceAdd, Nat.reduceLeDiff, t1, t6, t7, t25, t26, t27, lt_true hi, k.iaddr hi, k.whole hi, encQ, es, es2, b5, b6, b8, a5, a6]
          exact ⟨g, ⟨w, ms, rfl, z, by omega⟩, by (rw [hc]) <;> rfl, by rw [wrap_next hi (by omega)], hu.next el⟩
        · have a6 : decide (((cnt byPlace l i + 1 : Nat) : Int) ≤ (m : Int)) = false := decide_eq_false (by omega)
          rw [decide_eq_false (show ¬ i < m by omega), Bool.false_or, b8, Bool.not_false, Bool.and_true] at el
          cases b7 : decide (l[i].kind = 0) with
          | true =>
            rw [b7, Bool.not_true] at el
            simp +contextual (maxSteps := 2000000) only [go_sem, Nat.reduceEqDiff, reduceCtorEq, Nat.reduceAdd, Nat.reduceLeDiff, t1, t6, t7, t25, t26, t27, lt_true hi, k.iaddr hi, k.whole hi, encQ, es, es2, b5, b6, b8, a5, a6, b7, lateOk_not hi el]
            exact gcK_of ⟨g, _, rfl⟩ (fun _ _ => ⟨Grow.refl h, _, rfl⟩)
          | false =>
            rw [b7, Bool.not_false] at el
            simp +contextual (maxSteps := 2000000) only [go_sem, Nat.reduceEqDiff, reduceCtorEq, Nat.reduceAdd, Nat.reduceLeDiff, t1, t6, t7, t25, t26, t27, lt_true hi, k.iaddr hi, k.whole hi, encQ, es, es2, b5, b6, b8, a5, a6, b7]
            refine wp_lit (enc := encS) (k := 1) (l := [l[i].name]) rfl rfl ?_
            intro h3 w3 g3 n3 _
            simp +contextual (maxSteps := 2000000) only [go_sem, Nat.reduceEqDiff, reduceCtorEq, Nat.reduceAdd, Nat.reduceLeDiff, t1, t6, t7, t25, t26, t27]
            refine wp_append lenS (z.grow g3) (n3.sl lenS) (g.trans g3) (by simp; omega) ?_
            intro h4 s4 g4 n4 st4 hb4
            obtain ⟨c4, rfl⟩ := n4.one
            simp +contextual (maxSteps := 2000000) only [go_sem, Nat.reduceEqDiff, reduceCtorEq, Nat.reduceAdd, Nat.reduceLeDiff, t1, t6, t7, t25, t26, t27]
            exact ⟨g4, ⟨c4, _, rfl, n4, by simp; omega⟩, by (rw [hc]) <;> rfl, by rw [wrap_next hi (by omega)], hu.next el⟩
    · rintro T L h' ⟨g, t1, ⟨w, ms, t6, z, hz⟩, t7, t25, t26, t27, hu⟩
      simp +contextual (maxSteps := 2000000) only [go_sem, Nat.reduceEqDiff, reduceCtorEq, Nat.reduceAdd, Nat.reduceLeDiff, t1, t6, t7, t25, t26, t27, lt_false]
      refine wp_call (c_sortS ms (.one w) h h' g z (by omega)) ?_
      rintro r h2 ⟨g2, n2⟩
      simp +contextual (maxSteps := 2000000) only [go_sem, Nat.reduceEqDiff, reduceCtorEq, Nat.reduceAdd, Nat.reduceLeDiff, t6]
      refine wp_call (c_clipS _ _ h2 n2) ?_
      rintro r h3 ⟨rfl, n3⟩
      obtain ⟨c3, rfl⟩ := n3.one
      simp +contextual (maxSteps := 2000000) only [go_sem, Nat.reduceEqDiff, reduceCtorEq, Nat.reduceAdd, Nat.reduceLeDiff, lateOk_of (Nat.le_refl _) hu]
      exact gcK_of ⟨g2, _, rfl⟩ (fun _ _ => ⟨Grow.refl h, _, rfl⟩)
    · simp +contextual (maxSteps := 2000000) only [go_sem, Nat.reduceEqDiff, reduceCtorEq, Nat.reduceAdd, Nat.reduceLeDiff, cnt_zero]
      exact ⟨Grow.refl h, ⟨_, [], rfl, .nil, Nat.le_refl 0⟩, rfl, rfl, Upto.zero⟩
/-! impl.NeedsAt -/
def L96_0 : List AStep := [⟨.mov (.c (.bool false)), (some 5), none, []⟩]
theorem v96_0 : VS L96_0.eq_1 := rfl
def L96_1 : List AStep := ⟨.box 38 (.t 0), (some 2), none, []⟩ :: ⟨.mov (.c (.sl none 0 (some 0))), (some 4), none, []⟩ :: L96_0
theorem v96_1 : VS L96_1.eq_1 := rfl
def L96_2 : List AStep := [⟨.not (.t 7), (some 8), none, []⟩]
theorem v96_2 : VS L96_2.eq_1 := rfl
def L96_3 : List AStep := ⟨.load 1 true (.t 2), (some 6), none, []⟩ :: ⟨.call 49 [(.t 6)], (some 7), none, []⟩ :: L96_2
theorem v96_3 : VS L96_3.eq_1 := rfl
def L96_4 : List AStep := [⟨.mov (.c (.sl none 0 (some 0))), (some 4), none, []⟩, ⟨.mov (.c (.bool false)), (some 5), none, []⟩]
theorem v96_4 : VS L96_4.eq_1 := rfl
def L96_5 : List AStep := [⟨.mov (.t 13), (some 5), none, []⟩]
theorem v96_5 : VS L96_5.eq_1 := rfl
def L96_6 : List AStep := ⟨.extract (.t 11) 1, (some 13), none, []⟩ :: ⟨.mov (.t 12), (some 4), none, []⟩ :: L96_5
theorem v96_6 : VS L96_6.eq_1 := rfl
def L96_7 : List AStep := ⟨.call 140 [(.t 9), (.t 10)], (some 11), none, []⟩ :: ⟨.extract (.t 11) 0, (some 12), none, []⟩ :: L96_6
theorem v96_7 : VS L96_7.eq_1 := rfl
def L96_8 : List AStep := ⟨.load 1 true (.t 2), (some 9), none, []⟩ :: ⟨.mov (.t 1), (some 10), none, []⟩ :: L96_7
theorem v96_8 : VS L96_8.eq_1 := rfl
def C96_0 : ACode := .seq (.reg L96_4) .ret
theorem u96_0 : VC C96_0.eq_1 := rfl
def C96_1 : ACode := .cond (.t 8) C96_0 .skip
theorem u96_1 : VC C96_1.eq_1 := rfl
def C96_2 : ACode := .seq (.reg L96_3) C96_1
theorem u96_2 : VC C96_2.eq_1 := rfl
def C96_3 : ACode := .seq (.reg L96_8) .ret
theorem u96_3 : VC C96_3.eq_1 := rfl
def C96_4 : ACode := .seq C96_2 C96_3
theorem u96_4 : VC C96_4.eq_1 := rfl
def C96_5 : ACode := .seq (.reg L96_1) C96_4
theorem u96_5 : VC C96_5.eq_1 := rfl
def F96 : AFunc := ⟨14, [.tmp 4, .tmp 5], C96_5⟩
theorem cF96 : compB Try.prog 96 = some F96 := by kernel_rfl
attribute [local go_sem ↓] u96_0 u96_1 u96_2 u96_3 u96_4 u96_5 v96_0 v96_1 v96_2 v96_3 v96_4 v96_5 v96_6 v96_7 v96_8
theorem k_needsAt (l : List Param) (q : CV) (n : Int) (h : H) (hl : SlG h q l) (hn : miniG l) : callK (bm Try.prog 96 [.agg [q], .one (.int .i64 n)] h) fun r h' => Grow h h' ∧ ∃ w, r = .tup [.one w, ib (takesC l n)] := by
  refine bm_of cF96 ?_
  unfold takesC
  cases b1 : okSig l with
  | false =>
    simp +contextual (maxSteps := 2000000) only [go_sem, Nat.reduceEqDiff, reduceCtorEq, Nat.reduceAdd, Nat.reduceLeDiff, F96, c_ValidSignature _ _ _ hl.out hn.sm, b1, Bool.false_and]
    exact ⟨Grow.refl h, _, rfl⟩
  | true =>
  simp +contextual (maxSteps := 2000000) only [go_sem, Nat.reduceEqDiff, reduceCtorEq, Nat.reduceAdd, Nat.reduceLeDiff, F96, c_ValidSignature _ _ _ hl.out hn.sm, b1, Bool.true_and]
  refine wp_call (c_needs l q n h hl.out hn.sm (Ord.of b1) (okSig_len b1)) ?_
  rintro r h1 ⟨g1, w, rfl⟩
  simp +contextual (maxSteps := 2000000) only [go_sem, Nat.reduceEqDiff, reduceCtorEq, Nat.reduceAdd, Nat.reduceLeDiff]
  exact gcK_of ⟨g1, _, rfl⟩ (fun _ _ => ⟨Grow.refl h, _, rfl⟩)
/-! impl.TakesCount -/
def L45_0 : List AStep := [⟨.box 38 (.t 0), (some 2), none, []⟩, ⟨.mov (.c (.bool false)), (some 4), none, []⟩]
theorem v45_0 : VS L45_0.eq_1 := rfl
def L45_1 : List AStep := [⟨.mov (.t 11), (some 5), none, []⟩, ⟨.mov (.t 12), (some 6), none, []⟩]
theorem v45_1 : VS L45_1.eq_1 := rfl
def L45_2 : List AStep := ⟨.extract (.t 7) 0, (some 11), none, []⟩ :: ⟨.extract (.t 7) 1, (some 12), none, []⟩ :: L45_1
theorem v45_2 : VS L45_2.eq_1 := rfl
def L45_3 : List AStep := ⟨.call 96 [(.t 8), (.t 9)], (some 10), none, []⟩ :: ⟨.mov (.t 10), (some 7), none, []⟩ :: L45_2
theorem v45_3 : VS L45_3.eq_1 := rfl
def L45_4 : List AStep := ⟨.load 1 true (.t 2), (some 8), none, []⟩ :: ⟨.mov (.t 1), (some 9), none, []⟩ :: L45_3
theorem v45_4 : VS L45_4.eq_1 := rfl
def L45_5 : List AStep := [⟨.mov (.t 6), (some 13), none, []⟩, ⟨.mov (.t 13), (some 4), none, []⟩]
theorem v45_5 : VS L45_5.eq_1 := rfl
def C45_0 : ACode := .seq (.reg L45_5) .ret
theorem u45_0 : VC C45_0.eq_1 := rfl
def C45_1 : ACode := .seq (.reg L45_4) C45_0
theorem u45_1 : VC C45_1.eq_1 := rfl
def C45_2 : ACode := .seq (.reg L45_0) C45_1
theorem u45_2 : VC C45_2.eq_1 := rfl
def F45 : AFunc := ⟨14, [.tmp 4], C45_2⟩
theorem cF45 : compB Try.prog 45 = some F45 := by kernel_rfl
attribute [local go_sem ↓] u45_0 u45_1 u45_2 v45_0 v45_1 v45_2 v45_3 v45_4 v45_5
theorem k_iTakesCount (l : List Param) (q : CV) (n : Int) (h : H) (hl : SlG h q l) (hn : miniG l) : bm Try.prog 45 [.agg [q], .one (.int .i64 n)] h = some (ib (takesC l n), h) := by
  refine bm_eq cF45 ?_
  simp +contextual (maxSteps := 2000000) only [go_sem, Nat.reduceEqDiff, reduceCtorEq, Nat.reduceAdd, Nat.reduceLeDiff, F45]
  refine wp_call (k_needsAt l q n h hl hn) ?_
  rintro r h1 ⟨g1, w, rfl⟩
  simp +contextual (maxSteps := 2000000) only [go_sem, Nat.reduceEqDiff, reduceCtorEq, Nat.reduceAdd, Nat.reduceLeDiff]
  exact gcR_of g1 rfl ⟨rfl, rfl⟩
end Go.Proofs.Ytekkimfdcbgcoaa.Am
