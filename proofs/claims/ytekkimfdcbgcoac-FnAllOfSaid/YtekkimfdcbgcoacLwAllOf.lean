/- The law FnAllOf. -/
import Derived.Test.YtekkimfdcbgcoacSV
import Derived.Test.YtekkimfdcbgcoacOV
import Derived.Test.YtekkimfdcbgcoacL1
namespace Go.Proofs.Ytekkimfdcbgcoac.Am
open Go
attribute [local go_sem] loadL_agg
set_option maxRecDepth 100000
set_option maxHeartbeats 4000000
set_option linter.unusedSimpArgs false
set_option linter.unusedVariables false
attribute [local go_sem ↓] bv_t bv_c ev_t ev_c put_same put_ne put_none kill_at pro_at lb_same lb_ne start_zero start_succ wpC_seq wpC_reg wpC_cond wpC_block wpC_skip wpC_exit wpC_ret thenQ_normal thenQ_exit thenQ_ret inBlk_normal inBlk_exit inBlk_ret wpS_nil wpS_step wpS_again wpS_guard wpO_mov wpO_load wpO_faddr wpO_nilCheck wpO_pick wpO_build wpO_bin wpO_eqb wpO_eqst wpO_eqnil wpO_not wpO_conv wpO_bytesStr wpO_iaddr wpO_idxStr wpO_field wpO_extract wpO_len wpO_lenStr wpO_cap wpO_min wpO_slice wpO_sliceStr wpO_alloc wpO_box wpO_store wpO_call wpO_callv wpO_mkfn wpO_buildSlice wpO_mkslice wpO_append wpO_appz proA_nil proA_cons tmpX_nil tmpX_tmp tmpX_cell doneB_normal doneB_ret agK_cons agK_nil agK_guard agG_tt agG_ff agG_tf agG_ft agG_undef pureB_load results_one results_two results_nil resBs_cons resBs_nil resB_tmp resB_cell
attribute [local go_sem] kill_v kill_lp_ne kill_lp_same pro_v pro_lp_same pro_lp_ne av_v av_lp optB_some optX_some valX_eq ldX_lp ldX_v faX_lp faX_v ncX_lp ncX_ptr ncX_fn boxK_one boxK_agg stL_some stK_lp_one stK_lp_agg stK_v_one stK_v_agg proM_v proM_lp callG_mk callVG_mk callvK_fn fnG_mk ptrsA_nil ptrsA_cons callH_some whenA_true whenA_false guardH_tt guardH_ff guardH_tf guardH_ft guardH_undef agV_one agV_agg lenO_sl lenStrO_str notO_bool pickO_bool convO_int eqbO_bool eqnilO_sl extractO_tup capO_sl minO_int loadL_one loadL_all storeL_eq fillA_nil fillA_one fillA_agg nat_ge neg_ge nat_lt neg_lt buildO bin_add bin_sub bin_mul bin_eql bin_neq bin_lss bin_leq bin_gtr bin_geq str_eql str_neq str_lss str_leq str_gtr str_geq retK_some endK_mk gcK_same gcK_int gcK_bool tupO_one tupO_agg rdy_self ib ii Option.map_none Option.map_some Option.some.injEq exists_eq_left' exists_eq_left ne_eq not_false_eq_true if_true if_false List.map_cons List.map_nil List.getElem?_cons_zero List.getElem?_cons_succ List.length_cons List.length_nil List.take_succ_cons List.take_zero List.take_nil List.drop_succ_cons List.drop_zero List.drop_nil List.cons_append List.nil_append List.append_nil List.set_cons_zero List.set_cons_succ Nat.zero_add forall_const true_and and_true and_self Bool.false_eq_true false_implies true_implies implies_true Bool.not_true Bool.not_false Bool.not_eq_true' Bool.not_eq_false' beq_self_eq_true Bool.bne_true Bool.bne_false
attribute [local go_sem] lenI lenS lenP lenQ lenB lenL lenT encI_0 encS_0 encP_0 encP_1 encQ_0 encQ_1 encQ_2 encQ_3 encB_0 encB_1 encL_0 encL_1 encT_0 encT_1
attribute [local go_sem low] whenA_bool guardH_bool
attribute [local go_sem] lenV encV_0
def inI (l : List Int) (n : Int) : Bool := l.any fun x => decide (x = n)
/-! laws.isIn -/
def L44_0 : List AStep := [⟨.mov (.c (.bool false)), (some 4), none, []⟩]
theorem v44_0 : VS L44_0.eq_1 := rfl
def L44_1 : List AStep := [⟨.mov (.c (.int .i64 0)), (some 5), none, []⟩]
theorem v44_1 : VS L44_1.eq_1 := rfl
def L44_2 : List AStep := [⟨.len (.t 7), (some 8), none, []⟩, ⟨.bin .lss (.t 6) (.t 8), (some 9), none, []⟩]
theorem v44_2 : VS L44_2.eq_1 := rfl
def L44_3 : List AStep := ⟨.mov (.t 5), (some 6), none, []⟩ :: ⟨.mov (.t 0), (some 7), none, []⟩ :: L44_2
theorem v44_3 : VS L44_3.eq_1 := rfl
def L44_4 : List AStep := [⟨.mov (.t 1), (some 16), none, []⟩, ⟨.bin .eql (.t 15) (.t 16), (some 17), none, []⟩]
theorem v44_4 : VS L44_4.eq_1 := rfl
def L44_5 : List AStep := ⟨.iaddr 1 (.t 12) (.t 13), (some 14), none, []⟩ :: ⟨.load 1 false (.t 14), (some 15), none, []⟩ :: L44_4
theorem v44_5 : VS L44_5.eq_1 := rfl
def L44_6 : List AStep := ⟨.mov (.t 0), (some 12), none, []⟩ :: ⟨.mov (.t 5), (some 13), none, []⟩ :: L44_5
theorem v44_6 : VS L44_6.eq_1 := rfl
def L44_7 : List AStep := [⟨.mov (.c (.bool true)), (some 4), none, []⟩]
theorem v44_7 : VS L44_7.eq_1 := rfl
def L44_8 : List AStep := [⟨.mov (.t 11), (some 5), none, []⟩]
theorem v44_8 : VS L44_8.eq_1 := rfl
def L44_9 : List AStep := ⟨.mov (.t 5), (some 10), none, []⟩ :: ⟨.bin .add (.t 10) (.c (.int .i64 1)), (some 11), none, []⟩ :: L44_8
theorem v44_9 : VS L44_9.eq_1 := rfl
def L44_10 : List AStep := [⟨.mov (.c (.bool false)), (some 4), none, []⟩]
theorem v44_10 : VS L44_10.eq_1 := rfl
def C44_0 : ACode := .cond (.t 9) .skip (.exit 0)
theorem u44_0 : VC C44_0.eq_1 := rfl
def C44_1 : ACode := .seq (.reg L44_3) C44_0
theorem u44_1 : VC C44_1.eq_1 := rfl
def C44_2 : ACode := .seq (.reg L44_7) .ret
theorem u44_2 : VC C44_2.eq_1 := rfl
def C44_3 : ACode := .cond (.t 17) C44_2 .skip
theorem u44_3 : VC C44_3.eq_1 := rfl
def C44_4 : ACode := .seq (.reg L44_6) C44_3
theorem u44_4 : VC C44_4.eq_1 := rfl
def C44_5 : ACode := .block 1 C44_4
theorem u44_5 : VC C44_5.eq_1 := rfl
def C44_6 : ACode := .seq C44_5 (.reg L44_9)
theorem u44_6 : VC C44_6.eq_1 := rfl
def C44_7 : ACode := .seq C44_1 C44_6
theorem u44_7 : VC C44_7.eq_1 := rfl
def C44_8 : ACode := .block 0 (.loop C44_7)
theorem u44_8 : VC C44_8.eq_1 := rfl
def C44_9 : ACode := .seq (.reg L44_1) C44_8
theorem u44_9 : VC C44_9.eq_1 := rfl
def C44_10 : ACode := .seq (.reg L44_10) .ret
theorem u44_10 : VC C44_10.eq_1 := rfl
def C44_11 : ACode := .seq C44_9 C44_10
theorem u44_11 : VC C44_11.eq_1 := rfl
def C44_12 : ACode := .seq (.reg L44_0) C44_11
theorem u44_12 : VC C44_12.eq_1 := rfl
def F44 : AFunc := ⟨18, [.tmp 4], C44_12⟩
theorem cF44 : compB Try.prog 44 = some F44 := by kernel_rfl
attribute [local go_sem ↓] u44_0 u44_1 u44_2 u44_3 u44_4 u44_5 u44_6 u44_7 u44_8 u44_9 u44_10 u44_11 u44_12 v44_0 v44_1 v44_2 v44_3 v44_4 v44_5 v44_6 v44_7 v44_8 v44_9 v44_10
theorem c_isIn (l : List Int) (v : AV) (n : Int) (h : H) (hl : SlI h v l) (hn : l.length ≤ big) : bm Try.prog 44 [v, .one (.int .i64 n)] h = some (ib (inI l n), h) := by
  refine bm_eq cF44 ?_
  simp +contextual (maxSteps := 2000000) only [go_sem, Nat.reduceEqDiff, reduceCtorEq, Nat.reduceAdd, Nat.reduceLeDiff, F44]
  refine wpC_loop (fun i T L h' => h' = h ∧ T 0 = .v v ∧ T 1 = .v (.one (.int .i64 n)) ∧ T 5 = .v (.one (.int .i64 i)) ∧ Pre (fun x => decide (x = n)) false l i) l.length ?_ ?_ (Nat.zero_le _) ?_
  · rintro i T L h' hi ⟨rfl, t0, t1, t5, hp⟩
    cases b : decide (l[i] = n) with
    | true =>
      have e : inI l n = true := List.any_eq_true.2 ⟨_, List.getElem_mem hi, b⟩
      simp +contextual (maxSteps := 2000000) only [go_sem, Nat.reduceEqDiff, reduceCtorEq, Nat.reduceAdd, Nat.reduceLeDiff, t0, t1, t5, hl.len, hl.iaddr hi, hl.oneO hi, lt_true hi, b, e]
    | false =>
      simp +contextual (maxSteps := 2000000) only [go_sem, Nat.reduceEqDiff, reduceCtorEq, Nat.reduceAdd, Nat.reduceLeDiff, t0, t1, t5, hl.len, hl.iaddr hi, hl.oneO hi, lt_true hi, b]
      exact ⟨by rw [wrap_next hi (big_lt hn)], hp.next hi b⟩
  · rintro T L h' ⟨rfl, t0, t1, t5, hp⟩
    have e : inI l n = false := List.any_eq_false.2 fun x hx => by
      have := hp.out x (by rw [List.take_length]; exact hx)
      simpa using this
    simp +contextual (maxSteps := 2000000) only [go_sem, Nat.reduceEqDiff, reduceCtorEq, Nat.reduceAdd, Nat.reduceLeDiff, t0, t1, t5, hl.len, lt_false, e]
  · simp +contextual (maxSteps := 2000000) only [go_sem, Nat.reduceEqDiff, reduceCtorEq, Nat.reduceAdd, Nat.reduceLeDiff]
    exact ⟨rfl, Pre.zero⟩
/-! laws.ascends -/
def L46_0 : List AStep := [⟨.mov (.c (.bool false)), (some 2), none, []⟩]
theorem v46_0 : VS L46_0.eq_1 := rfl
def L46_1 : List AStep := [⟨.mov (.c (.int .i64 1)), (some 3), none, []⟩]
theorem v46_1 : VS L46_1.eq_1 := rfl
def L46_2 : List AStep := [⟨.len (.t 5), (some 6), none, []⟩, ⟨.bin .lss (.t 4) (.t 6), (some 7), none, []⟩]
theorem v46_2 : VS L46_2.eq_1 := rfl
def L46_3 : List AStep := ⟨.mov (.t 3), (some 4), none, []⟩ :: ⟨.mov (.t 0), (some 5), none, []⟩ :: L46_2
theorem v46_3 : VS L46_3.eq_1 := rfl
def L46_4 : List AStep := [⟨.load 1 false (.t 17), (some 18), none, []⟩, ⟨.bin .leq (.t 13) (.t 18), (some 19), none, []⟩]
theorem v46_4 : VS L46_4.eq_1 := rfl
def L46_5 : List AStep := ⟨.bin .sub (.t 15) (.c (.int .i64 1)), (some 16), none, []⟩ :: ⟨.iaddr 1 (.t 14) (.t 16), (some 17), none, []⟩ :: L46_4
theorem v46_5 : VS L46_5.eq_1 := rfl
def L46_6 : List AStep := ⟨.mov (.t 0), (some 14), none, []⟩ :: ⟨.mov (.t 3), (some 15), none, []⟩ :: L46_5
theorem v46_6 : VS L46_6.eq_1 := rfl
def L46_7 : List AStep := ⟨.iaddr 1 (.t 10) (.t 11), (some 12), none, []⟩ :: ⟨.load 1 false (.t 12), (some 13), none, []⟩ :: L46_6
theorem v46_7 : VS L46_7.eq_1 := rfl
def L46_8 : List AStep := ⟨.mov (.t 0), (some 10), none, []⟩ :: ⟨.mov (.t 3), (some 11), none, []⟩ :: L46_7
theorem v46_8 : VS L46_8.eq_1 := rfl
def L46_9 : List AStep := [⟨.mov (.c (.bool false)), (some 2), none, []⟩]
theorem v46_9 : VS L46_9.eq_1 := rfl
def L46_10 : List AStep := [⟨.mov (.t 9), (some 3), none, []⟩]
theorem v46_10 : VS L46_10.eq_1 := rfl
def L46_11 : List AStep := ⟨.mov (.t 3), (some 8), none, []⟩ :: ⟨.bin .add (.t 8) (.c (.int .i64 1)), (some 9), none, []⟩ :: L46_10
theorem v46_11 : VS L46_11.eq_1 := rfl
def L46_12 : List AStep := [⟨.mov (.c (.bool true)), (some 2), none, []⟩]
theorem v46_12 : VS L46_12.eq_1 := rfl
def C46_0 : ACode := .cond (.t 7) .skip (.exit 0)
theorem u46_0 : VC C46_0.eq_1 := rfl
def C46_1 : ACode := .seq (.reg L46_3) C46_0
theorem u46_1 : VC C46_1.eq_1 := rfl
def C46_2 : ACode := .seq (.reg L46_9) .ret
theorem u46_2 : VC C46_2.eq_1 := rfl
def C46_3 : ACode := .cond (.t 19) C46_2 .skip
theorem u46_3 : VC C46_3.eq_1 := rfl
def C46_4 : ACode := .seq (.reg L46_8) C46_3
theorem u46_4 : VC C46_4.eq_1 := rfl
def C46_5 : ACode := .block 1 C46_4
theorem u46_5 : VC C46_5.eq_1 := rfl
def C46_6 : ACode := .seq C46_5 (.reg L46_11)
theorem u46_6 : VC C46_6.eq_1 := rfl
def C46_7 : ACode := .seq C46_1 C46_6
theorem u46_7 : VC C46_7.eq_1 := rfl
def C46_8 : ACode := .block 0 (.loop C46_7)
theorem u46_8 : VC C46_8.eq_1 := rfl
def C46_9 : ACode := .seq (.reg L46_1) C46_8
theorem u46_9 : VC C46_9.eq_1 := rfl
def C46_10 : ACode := .seq (.reg L46_12) .ret
theorem u46_10 : VC C46_10.eq_1 := rfl
def C46_11 : ACode := .seq C46_9 C46_10
theorem u46_11 : VC C46_11.eq_1 := rfl
def C46_12 : ACode := .seq (.reg L46_0) C46_11
theorem u46_12 : VC C46_12.eq_1 := rfl
def F46 : AFunc := ⟨20, [.tmp 2], C46_12⟩
theorem cF46 : compB Try.prog 46 = some F46 := by kernel_rfl
attribute [local go_sem ↓] u46_0 u46_1 u46_2 u46_3 u46_4 u46_5 u46_6 u46_7 u46_8 u46_9 u46_10 u46_11 u46_12 v46_0 v46_1 v46_2 v46_3 v46_4 v46_5 v46_6 v46_7 v46_8 v46_9 v46_10 v46_11 v46_12
theorem c_ascends (l : List Int) (v : AV) (h : H) (hl : SlI h v l) (hn : l.length ≤ big) (up : ∀ i (hi : i + 1 < l.length), l[i]'(by omega) < l[i + 1]) : bm Try.prog 46 [v] h = some (ib true, h) := by
  refine bm_eq cF46 ?_
  have hb := big_lt hn
  cases l with
  | nil =>
    have sl : lenO v = some (ii ((0 : Nat) : Int)) := hl.len
    simp +contextual (maxSteps := 2000000) only [go_sem, Nat.reduceEqDiff, reduceCtorEq, Nat.reduceAdd, Nat.reduceLeDiff, F46]
    refine wpC_loop (fun i T L h' => h' = h ∧ T 0 = .v v ∧ T 3 = .v (.one (.int .i64 1))) 0 ?_ ?_ (Nat.zero_le _) ?_
    · rintro i T L h' hi _
      omega
    · rintro T L h' ⟨rfl, t0, t3⟩
      have hz : decide ((1 : Int) < ((0 : Nat) : Int)) = false := rfl
      simp +contextual (maxSteps := 2000000) only [go_sem, Nat.reduceEqDiff, reduceCtorEq, Nat.reduceAdd, Nat.reduceLeDiff, t0, t3, sl, hz]
    · simp +contextual (maxSteps := 2000000) only [go_sem, Nat.reduceEqDiff, reduceCtorEq, Nat.reduceAdd, Nat.reduceLeDiff]
  | cons a t =>
    have sl : lenO v = some (ii ((t.length + 1 : Nat) : Int)) := hl.len
    have hb : t.length + 1 < 2 ^ 62 := hb
    simp +contextual (maxSteps := 2000000) only [go_sem, Nat.reduceEqDiff, reduceCtorEq, Nat.reduceAdd, Nat.reduceLeDiff, F46]
    refine wpC_loop (fun i T L h' => h' = h ∧ T 0 = .v v ∧ T 3 = .v (.one (.int .i64 ((i + 1 : Nat) : Int)))) t.length ?_ ?_ (Nat.zero_le _) ?_
    · rintro i T L h' hi ⟨rfl, t0, t3⟩
      have hi1 : i + 1 < (a :: t).length := by simpa using hi
      have hi0 : i < (a :: t).length := by omega
      have u := up i hi1
      have el : decide (((i + 1 : Nat) : Int) < ((t.length + 1 : Nat) : Int)) = true := decide_eq_true (by omega)
      simp +contextual (maxSteps := 2000000) only [go_sem, Nat.reduceEqDiff, reduceCtorEq, Nat.reduceAdd, Nat.reduceLeDiff, t0, t3, sl, el, hl.iaddr hi1, hl.oneO hi1, wrap_pred (show i < 2 ^ 62 by omega), hl.iaddr hi0, hl.oneO hi0, decide_eq_false (Int.not_le.2 u)]
      rw [wrap_next (i := i + 1) (n := t.length + 1) (by omega) (by omega)]
    · rintro T L h' ⟨rfl, t0, t3⟩
      have el : decide (((t.length + 1 : Nat) : Int) < ((t.length + 1 : Nat) : Int)) = false := decide_eq_false (by omega)
      simp +contextual (maxSteps := 2000000) only [go_sem, Nat.reduceEqDiff, reduceCtorEq, Nat.reduceAdd, Nat.reduceLeDiff, t0, t3, sl, el]
    · simp +contextual (maxSteps := 2000000) only [go_sem, Nat.reduceEqDiff, reduceCtorEq, Nat.reduceAdd, Nat.reduceLeDiff]
      rfl
theorem all_in {l : List Sg} {f : Flat} (ov : overl l = true) (hf : okFlat f = true) {k : Nat} (hk : k < l.length) : inI (allF l f) (k : Int) = acceptsF l[k].params f := by
  unfold allF
  rw [ov, hf, Bool.and_self, if_pos rfl, ← accAt_eq hk]
  unfold allT inI
  rw [Bool.eq_iff_iff, List.any_eq_true]
  constructor
  · rintro ⟨x, hx, e⟩
    obtain ⟨j, hj, ht, rfl⟩ := pickF_mem hx
    have : j = k := by have := of_decide_eq_true e; omega
    subst this
    exact ht
  · intro h
    refine ⟨(k : Int), ?_, by simp⟩
    unfold pickF
    exact List.mem_map.2 ⟨k, List.mem_filter.2 ⟨List.mem_range.2 hk, h⟩, rfl⟩
theorem all_up {l : List Sg} {f : Flat} : ∀ i (hi : i + 1 < (allF l f).length), (allF l f)[i]'(by omega) < (allF l f)[i + 1] := by
  have hp : (allF l f).Pairwise (· < ·) := by
    unfold allF
    split
    · unfold allT pickF
      rw [List.pairwise_map]
      exact ((List.pairwise_lt_range (n := l.length)).filter _).imp fun h => by omega
    · exact List.Pairwise.nil
  exact fun i hi => List.pairwise_iff_getElem.1 hp i (i + 1) (by omega) hi (by omega)
/-! laws.FnAllOf -/
def L8_0 : List AStep := [⟨.mov (.c (.bool false)), (some 2), none, []⟩]
theorem v8_0 : VS L8_0.eq_1 := rfl
def L8_1 : List AStep := [⟨.bin .gtr (.t 9) (.c (.int .i64 1048576)), (some 10), none, []⟩]
theorem v8_1 : VS L8_1.eq_1 := rfl
def L8_2 : List AStep := ⟨.mov (.t 0), (some 8), none, []⟩ :: ⟨.len (.t 8), (some 9), none, []⟩ :: L8_1
theorem v8_2 : VS L8_2.eq_1 := rfl
def L8_3 : List AStep := [⟨.mov (.c (.bool true)), (some 2), none, []⟩]
theorem v8_3 : VS L8_3.eq_1 := rfl
def L8_4 : List AStep := [⟨.mov (.t 14), (some 3), none, []⟩, ⟨.store 2 (.t 4) (.t 15), none, none, []⟩]
theorem v8_4 : VS L8_4.eq_1 := rfl
def L8_5 : List AStep := ⟨.extract (.t 11) 1, (some 15), none, []⟩ :: ⟨.alloc 29 [(.sl none 0 (some 0)), (.sl none 0 (some 0))], (some 4), none, []⟩ :: L8_4
theorem v8_5 : VS L8_5.eq_1 := rfl
def L8_6 : List AStep := ⟨.mov (.t 13), (some 11), none, []⟩ :: ⟨.extract (.t 11) 0, (some 14), none, []⟩ :: L8_5
theorem v8_6 : VS L8_6.eq_1 := rfl
def L8_7 : List AStep := ⟨.mov (.t 0), (some 12), none, []⟩ :: ⟨.call 39 [(.t 12)], (some 13), none, []⟩ :: L8_6
theorem v8_7 : VS L8_7.eq_1 := rfl
def L8_8 : List AStep := [⟨.call 40 [(.t 16), (.t 17)], (some 18), none, []⟩, ⟨.mov (.t 18), (some 5), none, []⟩]
theorem v8_8 : VS L8_8.eq_1 := rfl
def L8_9 : List AStep := ⟨.mov (.t 3), (some 16), none, []⟩ :: ⟨.load 2 true (.t 4), (some 17), none, []⟩ :: L8_8
theorem v8_9 : VS L8_9.eq_1 := rfl
def L8_10 : List AStep := [⟨.bin .gtr (.t 32) (.c (.int .i64 5)), (some 33), (some (30, false)), []⟩, ⟨.pick (.t 30) (.c (.bool true)) (.t 33), (some 34), none, []⟩]
theorem v8_10 : VS L8_10.eq_1 := rfl
def L8_11 : List AStep := ⟨.mov (.t 3), (some 31), (some (30, false)), []⟩ :: ⟨.len (.t 31), (some 32), (some (30, false)), []⟩ :: L8_10
theorem v8_11 : VS L8_11.eq_1 := rfl
def L8_12 : List AStep := ⟨.pick (.t 25) (.c (.bool true)) (.t 28), (some 29), none, []⟩ :: ⟨.mov (.t 29), (some 30), none, []⟩ :: L8_11
theorem v8_12 : VS L8_12.eq_1 := rfl
def L8_13 : List AStep := ⟨.call 43 [(.t 26)], (some 27), (some (25, false)), []⟩ :: ⟨.not (.t 27), (some 28), (some (25, false)), []⟩ :: L8_12
theorem v8_13 : VS L8_13.eq_1 := rfl
def L8_14 : List AStep := ⟨.mov (.t 24), (some 25), none, []⟩ :: ⟨.load 2 true (.t 4), (some 26), (some (25, false)), []⟩ :: L8_13
theorem v8_14 : VS L8_14.eq_1 := rfl
def L8_15 : List AStep := ⟨.call 41 [(.t 19), (.t 22)], (some 23), none, []⟩ :: ⟨.not (.t 23), (some 24), none, []⟩ :: L8_14
theorem v8_15 : VS L8_15.eq_1 := rfl
def L8_16 : List AStep := ⟨.load 2 true (.t 4), (some 21), none, []⟩ :: ⟨.call 42 [(.t 20), (.t 21)], (some 22), none, []⟩ :: L8_15
theorem v8_16 : VS L8_16.eq_1 := rfl
def L8_17 : List AStep := ⟨.mov (.t 5), (some 19), none, []⟩ :: ⟨.mov (.t 3), (some 20), none, []⟩ :: L8_16
theorem v8_17 : VS L8_17.eq_1 := rfl
def L8_18 : List AStep := [⟨.call 41 [(.t 35), (.t 38)], (some 39), none, []⟩, ⟨.mov (.t 39), (some 2), none, []⟩]
theorem v8_18 : VS L8_18.eq_1 := rfl
def L8_19 : List AStep := ⟨.load 2 true (.t 4), (some 37), none, []⟩ :: ⟨.call 42 [(.t 36), (.t 37)], (some 38), none, []⟩ :: L8_18
theorem v8_19 : VS L8_19.eq_1 := rfl
def L8_20 : List AStep := ⟨.mov (.t 5), (some 35), none, []⟩ :: ⟨.mov (.t 3), (some 36), none, []⟩ :: L8_19
theorem v8_20 : VS L8_20.eq_1 := rfl
def L8_21 : List AStep := [⟨.mov (.c (.int .i64 0)), (some 6), none, []⟩]
theorem v8_21 : VS L8_21.eq_1 := rfl
def L8_22 : List AStep := [⟨.len (.t 41), (some 42), none, []⟩, ⟨.bin .lss (.t 40) (.t 42), (some 43), none, []⟩]
theorem v8_22 : VS L8_22.eq_1 := rfl
def L8_23 : List AStep := ⟨.mov (.t 6), (some 40), none, []⟩ :: ⟨.mov (.t 3), (some 41), none, []⟩ :: L8_22
theorem v8_23 : VS L8_23.eq_1 := rfl
def L8_24 : List AStep := [⟨.call 27 [(.t 49)], (some 50), none, []⟩, ⟨.not (.t 50), (some 51), none, []⟩]
theorem v8_24 : VS L8_24.eq_1 := rfl
def L8_25 : List AStep := ⟨.iaddr 1 (.t 46) (.t 47), (some 48), none, []⟩ :: ⟨.load 1 true (.t 48), (some 49), none, []⟩ :: L8_24
theorem v8_25 : VS L8_25.eq_1 := rfl
def L8_26 : List AStep := ⟨.mov (.t 3), (some 46), none, []⟩ :: ⟨.mov (.t 6), (some 47), none, []⟩ :: L8_25
theorem v8_26 : VS L8_26.eq_1 := rfl
def L8_27 : List AStep := [⟨.mov (.c (.bool true)), (some 2), none, []⟩]
theorem v8_27 : VS L8_27.eq_1 := rfl
def L8_28 : List AStep := [⟨.mov (.t 45), (some 6), none, []⟩]
theorem v8_28 : VS L8_28.eq_1 := rfl
def L8_29 : List AStep := ⟨.mov (.t 6), (some 44), none, []⟩ :: ⟨.bin .add (.t 44) (.c (.int .i64 1)), (some 45), none, []⟩ :: L8_28
theorem v8_29 : VS L8_29.eq_1 := rfl
def L8_30 : List AStep := [⟨.bin .gtr (.t 53) (.c (.int .i64 5)), (some 54), none, []⟩]
theorem v8_30 : VS L8_30.eq_1 := rfl
def L8_31 : List AStep := ⟨.mov (.t 3), (some 52), none, []⟩ :: ⟨.len (.t 52), (some 53), none, []⟩ :: L8_30
theorem v8_31 : VS L8_31.eq_1 := rfl
def L8_32 : List AStep := [⟨.mov (.c (.bool true)), (some 2), none, []⟩]
theorem v8_32 : VS L8_32.eq_1 := rfl
def L8_33 : List AStep := [⟨.mov (.c (.int .i64 0)), (some 7), none, []⟩]
theorem v8_33 : VS L8_33.eq_1 := rfl
def L8_34 : List AStep := [⟨.len (.t 56), (some 57), none, []⟩, ⟨.bin .lss (.t 55) (.t 57), (some 58), none, []⟩]
theorem v8_34 : VS L8_34.eq_1 := rfl
def L8_35 : List AStep := ⟨.mov (.t 7), (some 55), none, []⟩ :: ⟨.mov (.t 3), (some 56), none, []⟩ :: L8_34
theorem v8_35 : VS L8_35.eq_1 := rfl
def L8_36 : List AStep := [⟨.call 45 [(.t 67), (.t 68)], (some 69), none, []⟩, ⟨.eqb true (.t 63) (.t 69), (some 70), none, []⟩]
theorem v8_36 : VS L8_36.eq_1 := rfl
def L8_37 : List AStep := ⟨.load 2 true (.t 4), (some 68), none, []⟩ :: ⟨.call 44 [(.t 61), (.t 62)], (some 63), none, [(.load 1 true (.t 66), (some 67), none), (.load 2 true (.t 4), (some 68), none)]⟩ :: L8_36
theorem v8_37 : VS L8_37.eq_1 := rfl
def L8_38 : List AStep := ⟨.iaddr 1 (.t 64) (.t 65), (some 66), none, []⟩ :: ⟨.load 1 true (.t 66), (some 67), none, []⟩ :: L8_37
theorem v8_38 : VS L8_38.eq_1 := rfl
def L8_39 : List AStep := ⟨.mov (.t 3), (some 64), none, []⟩ :: ⟨.mov (.t 7), (some 65), none, []⟩ :: L8_38
theorem v8_39 : VS L8_39.eq_1 := rfl
def L8_40 : List AStep := ⟨.mov (.t 5), (some 61), none, []⟩ :: ⟨.mov (.t 7), (some 62), none, []⟩ :: L8_39
theorem v8_40 : VS L8_40.eq_1 := rfl
def L8_41 : List AStep := [⟨.mov (.c (.bool false)), (some 2), none, []⟩]
theorem v8_41 : VS L8_41.eq_1 := rfl
def L8_42 : List AStep := [⟨.mov (.t 60), (some 7), none, []⟩]
theorem v8_42 : VS L8_42.eq_1 := rfl
def L8_43 : List AStep := ⟨.mov (.t 7), (some 59), none, []⟩ :: ⟨.bin .add (.t 59) (.c (.int .i64 1)), (some 60), none, []⟩ :: L8_42
theorem v8_43 : VS L8_43.eq_1 := rfl
def L8_44 : List AStep := [⟨.mov (.t 72), (some 2), none, []⟩]
theorem v8_44 : VS L8_44.eq_1 := rfl
def L8_45 : List AStep := ⟨.mov (.t 5), (some 71), none, []⟩ :: ⟨.call 46 [(.t 71)], (some 72), none, []⟩ :: L8_44
theorem v8_45 : VS L8_45.eq_1 := rfl
def C8_0 : ACode := .seq (.reg L8_3) .ret
theorem u8_0 : VC C8_0.eq_1 := rfl
def C8_1 : ACode := .cond (.t 10) C8_0 .skip
theorem u8_1 : VC C8_1.eq_1 := rfl
def C8_2 : ACode := .seq (.reg L8_2) C8_1
theorem u8_2 : VC C8_2.eq_1 := rfl
def C8_3 : ACode := .seq (.reg L8_20) .ret
theorem u8_3 : VC C8_3.eq_1 := rfl
def C8_4 : ACode := .cond (.t 34) C8_3 .skip
theorem u8_4 : VC C8_4.eq_1 := rfl
def C8_5 : ACode := .seq (.reg L8_17) C8_4
theorem u8_5 : VC C8_5.eq_1 := rfl
def C8_6 : ACode := .cond (.t 43) .skip (.exit 0)
theorem u8_6 : VC C8_6.eq_1 := rfl
def C8_7 : ACode := .seq (.reg L8_23) C8_6
theorem u8_7 : VC C8_7.eq_1 := rfl
def C8_8 : ACode := .seq (.reg L8_27) .ret
theorem u8_8 : VC C8_8.eq_1 := rfl
def C8_9 : ACode := .cond (.t 51) C8_8 .skip
theorem u8_9 : VC C8_9.eq_1 := rfl
def C8_10 : ACode := .seq (.reg L8_26) C8_9
theorem u8_10 : VC C8_10.eq_1 := rfl
def C8_11 : ACode := .block 1 C8_10
theorem u8_11 : VC C8_11.eq_1 := rfl
def C8_12 : ACode := .seq C8_11 (.reg L8_29)
theorem u8_12 : VC C8_12.eq_1 := rfl
def C8_13 : ACode := .seq C8_7 C8_12
theorem u8_13 : VC C8_13.eq_1 := rfl
def C8_14 : ACode := .block 0 (.loop C8_13)
theorem u8_14 : VC C8_14.eq_1 := rfl
def C8_15 : ACode := .seq (.reg L8_21) C8_14
theorem u8_15 : VC C8_15.eq_1 := rfl
def C8_16 : ACode := .seq (.reg L8_32) .ret
theorem u8_16 : VC C8_16.eq_1 := rfl
def C8_17 : ACode := .cond (.t 54) C8_16 .skip
theorem u8_17 : VC C8_17.eq_1 := rfl
def C8_18 : ACode := .seq (.reg L8_31) C8_17
theorem u8_18 : VC C8_18.eq_1 := rfl
def C8_19 : ACode := .cond (.t 58) .skip (.exit 2)
theorem u8_19 : VC C8_19.eq_1 := rfl
def C8_20 : ACode := .seq (.reg L8_35) C8_19
theorem u8_20 : VC C8_20.eq_1 := rfl
def C8_21 : ACode := .seq (.reg L8_41) .ret
theorem u8_21 : VC C8_21.eq_1 := rfl
def C8_22 : ACode := .cond (.t 70) C8_21 .skip
theorem u8_22 : VC C8_22.eq_1 := rfl
def C8_23 : ACode := .seq (.reg L8_40) C8_22
theorem u8_23 : VC C8_23.eq_1 := rfl
def C8_24 : ACode := .block 3 C8_23
theorem u8_24 : VC C8_24.eq_1 := rfl
def C8_25 : ACode := .seq C8_24 (.reg L8_43)
theorem u8_25 : VC C8_25.eq_1 := rfl
def C8_26 : ACode := .seq C8_20 C8_25
theorem u8_26 : VC C8_26.eq_1 := rfl
def C8_27 : ACode := .block 2 (.loop C8_26)
theorem u8_27 : VC C8_27.eq_1 := rfl
def C8_28 : ACode := .seq (.reg L8_33) C8_27
theorem u8_28 : VC C8_28.eq_1 := rfl
def C8_29 : ACode := .seq (.reg L8_45) .ret
theorem u8_29 : VC C8_29.eq_1 := rfl
def C8_30 : ACode := .seq C8_28 C8_29
theorem u8_30 : VC C8_30.eq_1 := rfl
def C8_31 : ACode := .seq C8_18 C8_30
theorem u8_31 : VC C8_31.eq_1 := rfl
def C8_32 : ACode := .seq C8_15 C8_31
theorem u8_32 : VC C8_32.eq_1 := rfl
def C8_33 : ACode := .seq C8_5 C8_32
theorem u8_33 : VC C8_33.eq_1 := rfl
def C8_34 : ACode := .seq (.reg L8_9) C8_33
theorem u8_34 : VC C8_34.eq_1 := rfl
def C8_35 : ACode := .seq (.reg L8_7) C8_34
theorem u8_35 : VC C8_35.eq_1 := rfl
def C8_36 : ACode := .seq C8_2 C8_35
theorem u8_36 : VC C8_36.eq_1 := rfl
def C8_37 : ACode := .seq (.reg L8_0) C8_36
theorem u8_37 : VC C8_37.eq_1 := rfl
def F8 : AFunc := ⟨73, [.tmp 2], C8_37⟩
theorem cF8 : compB Try.prog 8 = some F8 := by kernel_rfl
attribute [local go_sem ↓] u8_0 u8_1 u8_2 u8_3 u8_4 u8_5 u8_6 u8_7 u8_8 u8_9 u8_10 u8_11 u8_12 u8_13 u8_14 u8_15 u8_16 u8_17 u8_18 u8_19 u8_20 u8_21 u8_22 u8_23 u8_24 u8_25 u8_26 u8_27 u8_28 u8_29 u8_30 u8_31 u8_32 u8_33 u8_34 u8_35 u8_36 u8_37 v8_0 v8_1 v8_2 v8_3 v8_4 v8_5 v8_6 v8_7 v8_8 v8_9 v8_10 v8_11 v8_12 v8_13 v8_14 v8_15 v8_16 v8_17 v8_18 v8_19 v8_20 v8_21 v8_22 v8_23 v8_24 v8_25 v8_26 v8_27 v8_28 v8_29 v8_30 v8_31 v8_32 v8_33 v8_34 v8_35 v8_36 v8_37 v8_38 v8_39 v8_40 v8_41 v8_42 v8_43 v8_44 v8_45
theorem law8 (h : H) (avs : List AV) (hok : okVs Try.prog h 6 [ 22 ] avs) : callK (bm Try.prog 8 avs h) fun r _ => r = ib true := by
  obtain ⟨v0, avs, rfl, hv0, hok⟩ := okVs_cons hok
  obtain rfl := okVs_nil hok
  obtain ⟨v, code, rfl, s0, hc, k0⟩ := dBytes hv0
  refine bm_of cF8 ?_
  cases b0 : decide ((code.length : Int) > 1048576) with
  | true => simp +contextual (maxSteps := 2000000) only [go_sem, Nat.reduceEqDiff, reduceCtorEq, Nat.reduceAdd, Nat.reduceLeDiff, F8, s0.len, b0]
  | false =>
  simp +contextual (maxSteps := 2000000) only [go_sem, Nat.reduceEqDiff, reduceCtorEq, Nat.reduceAdd, Nat.reduceLeDiff, F8, s0.len, b0]
  refine wp_call (c_drawAllOf code v h s0 hc) ?_
  rintro q h1 ⟨g1, w, u, x, l, f, rfl, sv, sf, tv, mf⟩
  have mv := tv.mini
  have hl6 := tv.len
  simp +contextual (maxSteps := 2000000) only [go_sem, Nat.reduceEqDiff, reduceCtorEq, Nat.reduceAdd, Nat.reduceLeDiff]
  refine wp_call (k_iAllOf l f w u x h1 sv sf mv mf) ?_
  rintro r h2 ⟨g2, c, rfl, z⟩
  simp +contextual (maxSteps := 2000000) only [go_sem, Nat.reduceEqDiff, reduceCtorEq, Nat.reduceAdd, Nat.reduceLeDiff]
  refine wp_call (k_sAllOf l f w u x h2 (sv.grow g2) (sf.grow g2) mv mf) ?_
  rintro r h3 ⟨g3, c2, rfl, z2⟩
  have sv := sv.grow (g2.trans g3)
  have sf := sf.grow (g2.trans g3)
  have mJ : miniJ (allF l f) := .all
  have eqs : ∀ (h' : H) (a b : CV), SlI h' (.one a) (allF l f) → SlI h' (.one b) (allF l f) → bm Try.prog 41 [.one a, .one b] h' = some (ib true, h') := fun h' a b x y => by
    have := c_equalInts (allF l f) (allF l f) _ _ h' x y (Nat.le_trans mJ.len (by decide))
    rwa [decide_eq_true rfl] at this
  have so : SlI h3 (.one c) (allF l f) := (z.out.sl lenI).grow g3
  have eq := eqs h3 c c2 so (z2.out.sl lenI)
  have ev := c_ValidFlat f u x h3 sf.pl sf.nl mf.sm
  obtain ⟨rs, X⟩ := sv.ex
  have hlen := X.len
  have wlen : lenO (.one w) = some (ii l.length) := by rw [X.out.len, hlen]
  have bad : ∀ (P : Prop), (callK (bm Try.prog 42 [.one w, .agg [u, x]] h3) fun r h' => Grow h3 h' ∧ ∃ c3, r = .one c3 ∧ NwJ h3 h' c3 (allF l f)) := fun _ => k_sAllOf l f w u x h3 sv sf mv mf
  cases b1 : okFlat f with
  | false =>
    rw [b1] at ev
    simp +contextual (maxSteps := 2000000) only [go_sem, Nat.reduceEqDiff, reduceCtorEq, Nat.reduceAdd, Nat.reduceLeDiff, eq, ev]
    refine wp_call (bad True) ?_
    rintro r h4 ⟨g4, c3, rfl, z3⟩
    have eq2 := eqs h4 c c3 (so.grow g4) (z3.out.sl lenI)
    simp +contextual (maxSteps := 2000000) only [go_sem, Nat.reduceEqDiff, reduceCtorEq, Nat.reduceAdd, Nat.reduceLeDiff, eq2]
    try exact gcK_of rfl (fun _ _ => rfl)
  | true =>
  rw [b1] at ev
  cases b2 : decide ((l.length : Int) > 5) with
  | true =>
    simp +contextual (maxSteps := 2000000) only [go_sem, Nat.reduceEqDiff, reduceCtorEq, Nat.reduceAdd, Nat.reduceLeDiff, eq, ev, wlen, b2]
    refine wp_call (bad True) ?_
    rintro r h4 ⟨g4, c3, rfl, z3⟩
    have eq2 := eqs h4 c c3 (so.grow g4) (z3.out.sl lenI)
    simp +contextual (maxSteps := 2000000) only [go_sem, Nat.reduceEqDiff, reduceCtorEq, Nat.reduceAdd, Nat.reduceLeDiff, eq2]
    try exact gcK_of rfl (fun _ _ => rfl)
  | false =>
  have h5 : l.length ≤ 5 := by have := of_decide_eq_false b2; omega
  simp +contextual (maxSteps := 2000000) only [go_sem, Nat.reduceEqDiff, reduceCtorEq, Nat.reduceAdd, Nat.reduceLeDiff, eq, ev, wlen, b2]
  refine wpC_loop (fun i T L h' => h' = h3 ∧ T 3 = .v (.one w) ∧ T 4 = .lp 4 0 ∧ (L 4).2 = [u, x] ∧ T 5 = .v (.one c) ∧ T 6 = .v (.one (.int .i64 i)) ∧ ∀ j (hj : j < l.length), j < i → okSig l[j].params = true) l.length ?_ ?_ (Nat.zero_le _) ?_
  · rintro i T L h' hi ⟨rfl, t3, t4, l4, t5, t6, hv⟩
    have hr : i < rs.length := by omega
    have y := (X.el i hr).params
    rw [getV_eq hi] at y
    have tk := tv.el _ (List.getElem_mem hi)
    have ewh : loadO 1 true h' (.one (.ptr (some (elem 1 (.one w) i)))) = some (.agg [rs[i].qv]) := X.out.whole hr
    have es := c_ValidSignature l[i].params rs[i].qv h' y tk.mini.sm
    cases b3 : okSig l[i].params with
    | false =>
      simp +contextual (maxSteps := 2000000) only [go_sem, Nat.reduceEqDiff, reduceCtorEq, Nat.reduceAdd, Nat.reduceLeDiff, t3, t4, l4, t5, t6, wlen, lt_true hi, X.out.iaddr hr, ewh, es, b3]
      try exact gcK_of rfl (fun _ _ => rfl)
    | true =>
      simp +contextual (maxSteps := 2000000) only [go_sem, Nat.reduceEqDiff, reduceCtorEq, Nat.reduceAdd, Nat.reduceLeDiff, t3, t4, l4, t5, t6, wlen, lt_true hi, X.out.iaddr hr, ewh, es, b3]
      refine ⟨by rw [wrap_next hi (by omega)], fun j hj hji => ?_⟩
      by_cases e : j = i
      · subst e; exact b3
      · exact hv j hj (by omega)
  · rintro T L h' ⟨rfl, t3, t4, l4, t5, t6, hv⟩
    have ov : overl l = true := by
      unfold overl
      rw [Bool.and_eq_true, List.all_eq_true]
      refine ⟨fun a ha => ?_, decide_eq_true (by omega)⟩
      obtain ⟨j, hj, rfl⟩ := List.getElem_of_mem ha
      exact hv j hj hj
    have ea := c_ascends (allF l f) (.one c) h' so (Nat.le_trans mJ.len (by decide)) all_up
    simp +contextual (maxSteps := 2000000) only [go_sem, Nat.reduceEqDiff, reduceCtorEq, Nat.reduceAdd, Nat.reduceLeDiff, t3, t4, l4, t5, t6, wlen, lt_false, b2]
    refine wpC_loop (fun i T L h2 => h2 = h' ∧ T 3 = .v (.one w) ∧ T 4 = .lp 4 0 ∧ (L 4).2 = [u, x] ∧ T 5 = .v (.one c) ∧ T 7 = .v (.one (.int .i64 i))) l.length ?_ ?_ (Nat.zero_le _) ?_
    · rintro i T L h2 hi ⟨rfl, t3, t4, l4, t5, t7⟩
      have hr : i < rs.length := by omega
      have y := (X.el i hr).params
      rw [getV_eq hi] at y
      have tk := tv.el _ (List.getElem_mem hi)
      have ewh : loadO 1 true h2 (.one (.ptr (some (elem 1 (.one w) i)))) = some (.agg [rs[i].qv]) := X.out.whole hr
      have e1 := c_isIn (allF l f) (.one c) (i : Int) h2 so (Nat.le_trans mJ.len (by decide))
      rw [all_in ov b1 hi] at e1
      have e2 := k_iAccepts l[i].params f rs[i].qv u x h2 ⟨y⟩ sf tk.mini mf
      have enb : ∀ b : Bool, (!(b == b)) = false := fun b => by cases b <;> rfl
      simp +contextual (maxSteps := 2000000) only [go_sem, Nat.reduceEqDiff, reduceCtorEq, Nat.reduceAdd, Nat.reduceLeDiff, t3, t4, l4, t5, t7, wlen, lt_true hi, X.out.iaddr hr, ewh, e1, e2, enb]
      rw [wrap_next hi (by omega)]
    · rintro T L h2 ⟨rfl, t3, t4, l4, t5, t7⟩
      simp +contextual (maxSteps := 2000000) only [go_sem, Nat.reduceEqDiff, reduceCtorEq, Nat.reduceAdd, Nat.reduceLeDiff, t3, t4, l4, t5, t7, wlen, lt_false, ea]
      try exact gcK_of rfl (fun _ _ => rfl)
    · simp +contextual (maxSteps := 2000000) only [go_sem, Nat.reduceEqDiff, reduceCtorEq, Nat.reduceAdd, Nat.reduceLeDiff, t3, t4, l4, t5]
      try rfl
  · simp +contextual (maxSteps := 2000000) only [go_sem, Nat.reduceEqDiff, reduceCtorEq, Nat.reduceAdd, Nat.reduceLeDiff]
    exact ⟨rfl, fun j hj hji => absurd hji (Nat.not_lt_zero _)⟩
end Go.Proofs.Ytekkimfdcbgcoac.Am
