/- The law FnMostPlaces. -/
import Derived.Test.YtekkimfdcbgcoabTC
import Derived.Test.YtekkimfdcbgcoabDT
namespace Go.Proofs.Ytekkimfdcbgcoab.Am
open Go
set_option maxRecDepth 100000
set_option maxHeartbeats 4000000
set_option linter.unusedSimpArgs false
set_option linter.unusedVariables false
attribute [local go_sem ↓] bv_t bv_c ev_t ev_c put_same put_ne put_none kill_at pro_at lb_same lb_ne start_zero start_succ wpC_seq wpC_reg wpC_cond wpC_block wpC_skip wpC_exit wpC_ret thenQ_normal thenQ_exit thenQ_ret inBlk_normal inBlk_exit inBlk_ret wpS_nil wpS_step wpS_again wpS_guard wpO_mov wpO_load wpO_faddr wpO_nilCheck wpO_pick wpO_build wpO_bin wpO_eqb wpO_eqst wpO_eqnil wpO_not wpO_conv wpO_bytesStr wpO_iaddr wpO_idxStr wpO_field wpO_extract wpO_len wpO_lenStr wpO_cap wpO_min wpO_slice wpO_sliceStr wpO_alloc wpO_box wpO_store wpO_call wpO_callv wpO_mkfn wpO_buildSlice wpO_mkslice wpO_append wpO_appz proA_nil proA_cons tmpX_nil tmpX_tmp tmpX_cell doneB_normal doneB_ret agK_cons agK_nil agK_guard agG_tt agG_ff agG_tf agG_ft agG_undef pureB_load results_one results_two results_nil resBs_cons resBs_nil resB_tmp resB_cell
attribute [local go_sem] kill_v kill_lp_ne kill_lp_same pro_v pro_lp_same pro_lp_ne av_v av_lp optB_some optX_some valX_eq ldX_lp ldX_v faX_lp faX_v ncX_lp ncX_ptr ncX_fn boxK_one boxK_agg stL_some stK_lp_one stK_lp_agg stK_v_one stK_v_agg proM_v proM_lp callG_mk callVG_mk callvK_fn fnG_mk ptrsA_nil ptrsA_cons callH_some whenA_true whenA_false guardH_tt guardH_ff guardH_tf guardH_ft guardH_undef agV_one agV_agg lenO_sl lenStrO_str notO_bool pickO_bool convO_int eqbO_bool eqnilO_sl extractO_tup capO_sl minO_int loadL_one loadL_all storeL_eq fillA_nil fillA_one fillA_agg nat_ge neg_ge nat_lt neg_lt buildO bin_add bin_sub bin_mul bin_eql bin_neq bin_lss bin_leq bin_gtr bin_geq str_eql str_neq str_lss str_leq str_gtr str_geq retK_some endK_mk gcK_same gcK_int gcK_bool tupO_one tupO_agg rdy_self ib ii Option.map_none Option.map_some Option.some.injEq exists_eq_left' exists_eq_left ne_eq not_false_eq_true if_true if_false List.map_cons List.map_nil List.getElem?_cons_zero List.getElem?_cons_succ List.length_cons List.length_nil List.take_succ_cons List.take_zero List.take_nil List.drop_succ_cons List.drop_zero List.drop_nil List.cons_append List.nil_append List.append_nil List.set_cons_zero List.set_cons_succ Nat.zero_add forall_const true_and and_true and_self Bool.false_eq_true false_implies true_implies implies_true Bool.not_true Bool.not_false Bool.not_eq_true' Bool.not_eq_false' beq_self_eq_true Bool.bne_true Bool.bne_false
attribute [local go_sem] lenI lenS lenP lenQ lenB lenL lenT encI_0 encS_0 encP_0 encP_1 encQ_0 encQ_1 encQ_2 encQ_3 encB_0 encB_1 encL_0 encL_1 encT_0 encT_1
attribute [local go_sem low] whenA_bool guardH_bool
def mostP (l : List Param) : Int := if okSig l = true then (if 0 ≤ kindAt l 2 then -1 else (l.countP byPlace : Int)) else -2
/-! impl.MostPlaces -/
def L37_0 : List AStep := [⟨.box 25 (.t 0), (some 1), none, []⟩, ⟨.mov (.c (.int .i64 0)), (some 2), none, []⟩]
theorem v37_0 : VS L37_0.eq_1 := rfl
def L37_1 : List AStep := [⟨.not (.t 5), (some 6), none, []⟩, ⟨.mov (.t 6), (some 3), none, []⟩]
theorem v37_1 : VS L37_1.eq_1 := rfl
def L37_2 : List AStep := ⟨.load 1 true (.t 1), (some 4), none, []⟩ :: ⟨.call 31 [(.t 4)], (some 5), none, []⟩ :: L37_1
theorem v37_2 : VS L37_2.eq_1 := rfl
def L37_3 : List AStep := [⟨.mov (.c (.int .i64 (-2))), (some 2), none, []⟩]
theorem v37_3 : VS L37_3.eq_1 := rfl
def L37_4 : List AStep := [⟨.mov (.t 9), (some 7), none, []⟩]
theorem v37_4 : VS L37_4.eq_1 := rfl
def L37_5 : List AStep := ⟨.load 1 true (.t 1), (some 8), none, []⟩ :: ⟨.call 83 [(.t 8), (.c (.int .i64 2))], (some 9), none, []⟩ :: L37_4
theorem v37_5 : VS L37_5.eq_1 := rfl
def L37_6 : List AStep := [⟨.mov (.c (.int .i64 (-1))), (some 2), none, []⟩]
theorem v37_6 : VS L37_6.eq_1 := rfl
def L37_7 : List AStep := [⟨.mov (.t 11), (some 2), none, []⟩]
theorem v37_7 : VS L37_7.eq_1 := rfl
def L37_8 : List AStep := ⟨.load 1 true (.t 1), (some 10), none, []⟩ :: ⟨.call 84 [(.t 10)], (some 11), none, []⟩ :: L37_7
theorem v37_8 : VS L37_8.eq_1 := rfl
def C37_0 : ACode := .seq (.reg L37_3) .ret
theorem u37_0 : VC C37_0.eq_1 := rfl
def C37_1 : ACode := .seq (.reg L37_6) .ret
theorem u37_1 : VC C37_1.eq_1 := rfl
def C37_2 : ACode := .cond (.t 7) C37_1 .skip
theorem u37_2 : VC C37_2.eq_1 := rfl
def C37_3 : ACode := .seq (.reg L37_5) C37_2
theorem u37_3 : VC C37_3.eq_1 := rfl
def C37_4 : ACode := .cond (.t 3) C37_0 C37_3
theorem u37_4 : VC C37_4.eq_1 := rfl
def C37_5 : ACode := .seq (.reg L37_2) C37_4
theorem u37_5 : VC C37_5.eq_1 := rfl
def C37_6 : ACode := .block 0 C37_5
theorem u37_6 : VC C37_6.eq_1 := rfl
def C37_7 : ACode := .seq (.reg L37_8) .ret
theorem u37_7 : VC C37_7.eq_1 := rfl
def C37_8 : ACode := .seq C37_6 C37_7
theorem u37_8 : VC C37_8.eq_1 := rfl
def C37_9 : ACode := .seq (.reg L37_0) C37_8
theorem u37_9 : VC C37_9.eq_1 := rfl
def F37 : AFunc := ⟨12, [.tmp 2], C37_9⟩
theorem cF37 : compB Try.prog 37 = some F37 := by kernel_rfl
attribute [local go_sem ↓] u37_0 u37_1 u37_2 u37_3 u37_4 u37_5 u37_6 u37_7 u37_8 u37_9 v37_0 v37_1 v37_2 v37_3 v37_4 v37_5 v37_6 v37_7 v37_8
theorem c_iMostPlaces (l : List Param) (q : CV) (h : H) (hl : SlG h q l) (m : miniG l) : bm Try.prog 37 [.agg [q]] h = some (ii (mostP l), h) := by
  refine bm_eq cF37 ?_
  unfold mostP
  cases b1 : okSig l with
  | false => simp +contextual (maxSteps := 2000000) only [go_sem, Nat.reduceEqDiff, reduceCtorEq, Nat.reduceAdd, Nat.reduceLeDiff, F37, c_ValidSignature _ _ _ hl.out m.sm, b1]
  | true =>
  by_cases b2 : 0 ≤ kindAt l 2
  · simp +contextual (maxSteps := 2000000) only [go_sem, Nat.reduceEqDiff, reduceCtorEq, Nat.reduceAdd, Nat.reduceLeDiff, F37, c_ValidSignature _ _ _ hl.out m.sm, b1, c_has _ _ _ _ hl.out m.sm, decide_eq_true b2, if_pos b2]
  · simp +contextual (maxSteps := 2000000) only [go_sem, Nat.reduceEqDiff, reduceCtorEq, Nat.reduceAdd, Nat.reduceLeDiff, F37, c_ValidSignature _ _ _ hl.out m.sm, b1, c_has _ _ _ _ hl.out m.sm, decide_eq_false b2, if_neg b2, c_placesI _ _ _ hl.out (okSig_len b1)]
theorem takes_rest {l : List Param} (ok : okSig l = true) (hr : 0 ≤ kindAt l 2) : takesC l 8 = true := by
  have h8 := okSig_len ok
  have h1 : manyC l 8 = false := by
    unfold manyC
    rw [decide_eq_false (p := kindAt l 2 < 0) (by omega), Bool.and_false]
  have h2 : lateOk l 8 = true := List.all_eq_true.2 fun i hi => by
    have hi := List.mem_range.1 hi
    rw [lateAt_eq hi, decide_eq_true (show i < 8 by omega)]
    rfl
  unfold takesC
  rw [ok, h1]
  show (true && (true && (true && lateOk l 8))) = true
  rw [h2]
  rfl
theorem takes_more {l : List Param} (hr : ¬ 0 ≤ kindAt l 2) : takesC l ((l.countP byPlace : Int) + 1) = false := by
  have h1 : manyC l ((l.countP byPlace : Int) + 1) = true := by
    unfold manyC
    rw [decide_eq_true (by omega), decide_eq_true (by omega)]
    rfl
  unfold takesC
  rw [h1]
  simp
theorem takes_most {l : List Param} (ok : okSig l = true) : takesC l (l.countP byPlace : Int) = true := by
  have o := Ord.of ok
  have h8 := okSig_len ok
  have hp := places_le (l := l)
  have h0 : inC (l.countP byPlace : Int) = true := by
    unfold inC
    unfold places at hp
    rw [decide_eq_true (by omega), decide_eq_true (by omega)]
    rfl
  have h1 : manyC l (l.countP byPlace : Int) = false := by
    unfold manyC
    rw [decide_eq_false (by omega), Bool.false_and]
  have h2 : lateOk l ((l.countP byPlace : Int)).toNat = true := List.all_eq_true.2 fun i hi => by
    have hi := List.mem_range.1 hi
    rw [lateAt_eq hi]
    cases hk : decide (l[i].kind = 0) with
    | false => simp
    | true =>
      have := o.place hi
      rw [kind0_place hk] at this
      have := of_decide_eq_true this.symm
      rw [decide_eq_true (by unfold places at this; omega)]
      rfl
  unfold takesC
  rw [ok, h0, h1, h2]
  rfl
end Go.Proofs.Ytekkimfdcbgcoab.Am
