/- The law FnMostPlaces. -/
import Derived.Test.YtekkimfdcbgcoaaTC
import Derived.Test.YtekkimfdcbgcoaaDT
namespace Go.Proofs.Ytekkimfdcbgcoaa.Am
open Go
set_option maxRecDepth 100000
set_option maxHeartbeats 4000000
set_option linter.unusedSimpArgs false
set_option linter.unusedVariables false
attribute [local go_sem ↓] bv_t bv_c ev_t ev_c put_same put_ne put_none kill_at pro_at lb_same lb_ne start_zero start_succ wpC_seq wpC_reg wpC_cond wpC_block wpC_skip wpC_exit wpC_ret thenQ_normal thenQ_exit thenQ_ret inBlk_normal inBlk_exit inBlk_ret wpS_nil wpS_step wpS_again wpS_guard wpO_mov wpO_load wpO_faddr wpO_nilCheck wpO_pick wpO_build wpO_bin wpO_eqb wpO_eqst wpO_eqnil wpO_not wpO_conv wpO_bytesStr wpO_iaddr wpO_idxStr wpO_field wpO_extract wpO_len wpO_lenStr wpO_cap wpO_min wpO_slice wpO_sliceStr wpO_alloc wpO_box wpO_store wpO_call wpO_callv wpO_mkfn wpO_buildSlice wpO_mkslice wpO_append wpO_appz proA_nil proA_cons tmpX_nil tmpX_tmp tmpX_cell doneB_normal doneB_ret agK_cons agK_nil agK_guard agG_tt agG_ff agG_tf agG_ft agG_undef pureB_load results_one results_two results_nil resBs_cons resBs_nil resB_tmp resB_cell
attribute [local go_sem] kill_v kill_lp_ne kill_lp_same pro_v pro_lp_same pro_lp_ne av_v av_lp optB_some optX_some valX_eq ldX_lp ldX_v faX_lp faX_v ncX_lp ncX_ptr ncX_fn boxK_one boxK_agg stL_some stK_lp_one stK_lp_agg stK_v_one stK_v_agg proM_v proM_lp callG_mk callVG_mk callvK_fn fnG_mk ptrsA_nil ptrsA_cons callH_some whenA_true whenA_false guardH_tt guardH_ff guardH_tf guardH_ft guardH_undef agV_one agV_agg lenO_sl lenStrO_str notO_bool pickO_bool convO_int eqbO_bool eqnilO_sl extractO_tup capO_sl minO_int loadL_one loadL_all storeL_eq fillA_nil fillA_one fillA_agg nat_ge neg_ge nat_lt neg_lt buildO bin_add bin_sub bin_mul bin_eql bin_neq bin_lss bin_leq bin_gtr bin_geq str_eql str_neq str_lss str_leq str_gtr str_geq retK_some endK_mk gcK_same gcK_int gcK_bool tupO_one tupO_agg rdy_self ib ii Option.map_none Option.map_some Option.some.injEq exists_eq_left' exists_eq_left ne_eq not_false_eq_true if_true if_false List.map_cons List.map_nil List.getElem?_cons_zero List.getElem?_cons_succ List.length_cons List.length_nil List.take_succ_cons List.take_zero List.take_nil List.drop_succ_cons List.drop_zero List.drop_nil List.cons_append List.nil_append List.append_nil List.set_cons_zero List.set_cons_succ Nat.zero_add forall_const true_and and_true and_self Bool.false_eq_true false_implies true_implies implies_true Bool.not_true Bool.not_false Bool.not_eq_true' Bool.not_eq_false' beq_self_eq_true Bool.bne_true Bool.bne_false
attribute [local go_sem] lenI lenS lenP lenQ lenB lenL lenT encI_0 encS_0 encP_0 encP_1 encQ_0 encQ_1 encQ_2 encQ_3 encB_0 encB_1 encL_0 encL_1 encT_0 encT_1
attribute [local go_sem low] whenA_bool guardH_bool
def mostP (l : List Param) : Int := if okSig l = true then (if 0 ≤ kindAt l 2 then -1 else (l.countP byPlace : Int)) else -2
/-! impl.MostPlaces -/
def L43_0 : List AStep := [⟨.box 38 (.t 0), (some 1), none, []⟩, ⟨.mov (.c (.int .i64 0)), (some 2), none, []⟩]
theorem v43_0 : VS L43_0.eq_1 := rfl
def L43_1 : List AStep := [⟨.not (.t 5), (some 6), none, []⟩, ⟨.mov (.t 6), (some 3), none, []⟩]
theorem v43_1 : VS L43_1.eq_1 := rfl
def L43_2 : List AStep := ⟨.load 1 true (.t 1), (some 4), none, []⟩ :: ⟨.call 49 [(.t 4)], (some 5), none, []⟩ :: L43_1
theorem v43_2 : VS L43_2.eq_1 := rfl
def L43_3 : List AStep := [⟨.mov (.c (.int .i64 (-2))), (some 2), none, []⟩]
theorem v43_3 : VS L43_3.eq_1 := rfl
def L43_4 : List AStep := [⟨.mov (.t 9), (some 7), none, []⟩]
theorem v43_4 : VS L43_4.eq_1 := rfl
def L43_5 : List AStep := ⟨.load 1 true (.t 1), (some 8), none, []⟩ :: ⟨.call 91 [(.t 8), (.c (.int .i64 2))], (some 9), none, []⟩ :: L43_4
theorem v43_5 : VS L43_5.eq_1 := rfl
def L43_6 : List AStep := [⟨.mov (.c (.int .i64 (-1))), (some 2), none, []⟩]
theorem v43_6 : VS L43_6.eq_1 := rfl
def L43_7 : List AStep := [⟨.mov (.t 11), (some 2), none, []⟩]
theorem v43_7 : VS L43_7.eq_1 := rfl
def L43_8 : List AStep := ⟨.load 1 true (.t 1), (some 10), none, []⟩ :: ⟨.call 92 [(.t 10)], (some 11), none, []⟩ :: L43_7
theorem v43_8 : VS L43_8.eq_1 := rfl
def C43_0 : ACode := .seq (.reg L43_3) .ret
theorem u43_0 : VC C43_0.eq_1 := rfl
def C43_1 : ACode := .seq (.reg L43_6) .ret
theorem u43_1 : VC C43_1.eq_1 := rfl
def C43_2 : ACode := .cond (.t 7) C43_1 .skip
theorem u43_2 : VC C43_2.eq_1 := rfl
def C43_3 : ACode := .seq (.reg L43_5) C43_2
theorem u43_3 : VC C43_3.eq_1 := rfl
def C43_4 : ACode := .cond (.t 3) C43_0 C43_3
theorem u43_4 : VC C43_4.eq_1 := rfl
def C43_5 : ACode := .seq (.reg L43_2) C43_4
theorem u43_5 : VC C43_5.eq_1 := rfl
def C43_6 : ACode := .block 0 C43_5
theorem u43_6 : VC C43_6.eq_1 := rfl
def C43_7 : ACode := .seq (.reg L43_8) .ret
theorem u43_7 : VC C43_7.eq_1 := rfl
def C43_8 : ACode := .seq C43_6 C43_7
theorem u43_8 : VC C43_8.eq_1 := rfl
def C43_9 : ACode := .seq (.reg L43_0) C43_8
theorem u43_9 : VC C43_9.eq_1 := rfl
def F43 : AFunc := ⟨12, [.tmp 2], C43_9⟩
theorem cF43 : compB Try.prog 43 = some F43 := by kernel_rfl
attribute [local go_sem ↓] u43_0 u43_1 u43_2 u43_3 u43_4 u43_5 u43_6 u43_7 u43_8 u43_9 v43_0 v43_1 v43_2 v43_3 v43_4 v43_5 v43_6 v43_7 v43_8
theorem c_iMostPlaces (l : List Param) (q : CV) (h : H) (hl : SlG h q l) (m : miniG l) : bm Try.prog 43 [.agg [q]] h = some (ii (mostP l), h) := by
  refine bm_eq cF43 ?_
  unfold mostP
  cases b1 : okSig l with
  | false => simp +contextual (maxSteps := 2000000) only [go_sem, Nat.reduceEqDiff, reduceCtorEq, Nat.reduceAdd, Nat.reduceLeDiff, F43, c_ValidSignature _ _ _ hl.out m.sm, b1]
  | true =>
  by_cases b2 : 0 ≤ kindAt l 2
  · simp +contextual (maxSteps := 2000000) only [go_sem, Nat.reduceEqDiff, reduceCtorEq, Nat.reduceAdd, Nat.reduceLeDiff, F43, c_ValidSignature _ _ _ hl.out m.sm, b1, c_has _ _ _ _ hl.out m.sm, decide_eq_true b2, if_pos b2]
  · simp +contextual (maxSteps := 2000000) only [go_sem, Nat.reduceEqDiff, reduceCtorEq, Nat.reduceAdd, Nat.reduceLeDiff, F43, c_ValidSignature _ _ _ hl.out m.sm, b1, c_has _ _ _ _ hl.out m.sm, decide_eq_false b2, if_neg b2, c_placesI _ _ _ hl.out (okSig_len b1)]
/-! spec.MostPlaces -/
def L44_0 : List AStep := [⟨.box 38 (.t 0), (some 1), none, []⟩, ⟨.mov (.c (.int .i64 0)), (some 2), none, []⟩]
theorem v44_0 : VS L44_0.eq_1 := rfl
def L44_1 : List AStep := [⟨.not (.t 5), (some 6), none, []⟩, ⟨.mov (.t 6), (some 3), none, []⟩]
theorem v44_1 : VS L44_1.eq_1 := rfl
def L44_2 : List AStep := ⟨.load 1 true (.t 1), (some 4), none, []⟩ :: ⟨.call 93 [(.t 4)], (some 5), none, []⟩ :: L44_1
theorem v44_2 : VS L44_2.eq_1 := rfl
def L44_3 : List AStep := [⟨.mov (.c (.int .i64 (-2))), (some 2), none, []⟩]
theorem v44_3 : VS L44_3.eq_1 := rfl
def L44_4 : List AStep := [⟨.mov (.t 11), (some 7), none, []⟩]
theorem v44_4 : VS L44_4.eq_1 := rfl
def L44_5 : List AStep := ⟨.call 94 [(.t 9), (.c (.int .i64 2))], (some 10), none, []⟩ :: ⟨.bin .geq (.t 10) (.c (.int .i64 0)), (some 11), none, []⟩ :: L44_4
theorem v44_5 : VS L44_5.eq_1 := rfl
def L44_6 : List AStep := ⟨.faddr 0 (.t 1), (some 8), none, []⟩ :: ⟨.load 1 false (.t 8), (some 9), none, []⟩ :: L44_5
theorem v44_6 : VS L44_6.eq_1 := rfl
def L44_7 : List AStep := [⟨.mov (.c (.int .i64 (-1))), (some 2), none, []⟩]
theorem v44_7 : VS L44_7.eq_1 := rfl
def L44_8 : List AStep := [⟨.mov (.t 13), (some 2), none, []⟩]
theorem v44_8 : VS L44_8.eq_1 := rfl
def L44_9 : List AStep := ⟨.load 1 true (.t 1), (some 12), none, []⟩ :: ⟨.call 95 [(.t 12)], (some 13), none, []⟩ :: L44_8
theorem v44_9 : VS L44_9.eq_1 := rfl
def C44_0 : ACode := .seq (.reg L44_3) .ret
theorem u44_0 : VC C44_0.eq_1 := rfl
def C44_1 : ACode := .seq (.reg L44_7) .ret
theorem u44_1 : VC C44_1.eq_1 := rfl
def C44_2 : ACode := .cond (.t 7) C44_1 .skip
theorem u44_2 : VC C44_2.eq_1 := rfl
def C44_3 : ACode := .seq (.reg L44_6) C44_2
theorem u44_3 : VC C44_3.eq_1 := rfl
def C44_4 : ACode := .cond (.t 3) C44_0 C44_3
theorem u44_4 : VC C44_4.eq_1 := rfl
def C44_5 : ACode := .seq (.reg L44_2) C44_4
theorem u44_5 : VC C44_5.eq_1 := rfl
def C44_6 : ACode := .block 0 C44_5
theorem u44_6 : VC C44_6.eq_1 := rfl
def C44_7 : ACode := .seq (.reg L44_9) .ret
theorem u44_7 : VC C44_7.eq_1 := rfl
def C44_8 : ACode := .seq C44_6 C44_7
theorem u44_8 : VC C44_8.eq_1 := rfl
def C44_9 : ACode := .seq (.reg L44_0) C44_8
theorem u44_9 : VC C44_9.eq_1 := rfl
def F44 : AFunc := ⟨14, [.tmp 2], C44_9⟩
theorem cF44 : compB Try.prog 44 = some F44 := by kernel_rfl
attribute [local go_sem ↓] u44_0 u44_1 u44_2 u44_3 u44_4 u44_5 u44_6 u44_7 u44_8 u44_9 v44_0 v44_1 v44_2 v44_3 v44_4 v44_5 v44_6 v44_7 v44_8 v44_9
theorem c_sMostPlaces (l : List Param) (q : CV) (h : H) (hl : SlG h q l) (m : miniG l) : bm Try.prog 44 [.agg [q]] h = some (ii (mostP l), h) := by
  refine bm_eq cF44 ?_
  unfold mostP
  cases b1 : okSig l with
  | false => simp +contextual (maxSteps := 2000000) only [go_sem, Nat.reduceEqDiff, reduceCtorEq, Nat.reduceAdd, Nat.reduceLeDiff, F44, c_validSignature _ _ _ hl.out m.sm, b1]
  | true =>
  by_cases b2 : 0 ≤ kindAt l 2
  · simp +contextual (maxSteps := 2000000) only [go_sem, Nat.reduceEqDiff, reduceCtorEq, Nat.reduceAdd, Nat.reduceLeDiff, F44, c_validSignature _ _ _ hl.out m.sm, b1, c_kindAt _ _ _ _ hl.out m.sm, decide_eq_true (show kindAt l 2 ≥ 0 from b2), if_pos b2]
  · simp +contextual (maxSteps := 2000000) only [go_sem, Nat.reduceEqDiff, reduceCtorEq, Nat.reduceAdd, Nat.reduceLeDiff, F44, c_validSignature _ _ _ hl.out m.sm, b1, c_kindAt _ _ _ _ hl.out m.sm, decide_eq_false (show ¬ kindAt l 2 ≥ 0 from b2), if_neg b2, c_placeCount _ _ _ hl.out m.sm]
theorem takes_rest {l : List Param} (ok : okSig l = true) (hr : 0 ≤ kindAt l 2) : takesC l 8 = true := by
  have h8 := okSig_len ok
  have h1 : manyC l 8 = false := by
    unfold manyC
    rw [decide_eq_false (p := kindAt l 2 < 0) (by omega), Bool.and_false]
  have h2 : lateOk l 8 = true := List.all_eq_true.2 fun i hi => by
    have hi := List.mem_range.1 hi
    rw [lateAt_eq hi, decide_eq_true (show i < 8 by omega)]
    rfl
  unfold takesC
  rw [ok, h1]
  show (true && (true && (true && lateOk l 8))) = true
  rw [h2]
  rfl
theorem takes_more {l : List Param} (hr : ¬ 0 ≤ kindAt l 2) : takesC l ((l.countP byPlace : Int) + 1) = false := by
  have h1 : manyC l ((l.countP byPlace : Int) + 1) = true := by
    unfold manyC
    rw [decide_eq_true (by omega), decide_eq_true (by omega)]
    rfl
  unfold takesC
  rw [h1]
  simp
theorem takes_most {l : List Param} (ok : okSig l = true) : takesC l (l.countP byPlace : Int) = true := by
  have o := Ord.of ok
  have h8 := okSig_len ok
  have hp := places_le (l := l)
  have h0 : inC (l.countP byPlace : Int) = true := by
    unfold inC
    unfold places at hp
    rw [decide_eq_true (by omega), decide_eq_true (by omega)]
    rfl
  have h1 : manyC l (l.countP byPlace : Int) = false := by
    unfold manyC
    rw [decide_eq_false (by omega), Bool.false_and]
  have h2 : lateOk l ((l.countP byPlace : Int)).toNat = true := List.all_eq_true.2 fun i hi => by
    have hi := List.mem_range.1 hi
    rw [lateAt_eq hi]
    cases hk : decide (l[i].kind = 0) with
    | false => simp
    | true =>
      have := o.place hi
      rw [kind0_place hk] at this
      have := of_decide_eq_true this.symm
      rw [decide_eq_true (by unfold places at this; omega)]
      rfl
  unfold takesC
  rw [ok, h0, h1, h2]
  rfl
/-! spec.DrawMostPlaces -/
def L42_0 : List AStep := [⟨.alloc 38 [(.sl none 0 (some 0))], (some 2), none, []⟩]
theorem v42_0 : VS L42_0.eq_1 := rfl
def L42_1 : List AStep := [⟨.call 90 [(.t 4)], (some 5), none, []⟩, ⟨.store 1 (.t 2) (.t 5), none, none, []⟩]
theorem v42_1 : VS L42_1.eq_1 := rfl
def L42_2 : List AStep := ⟨.mov (.t 0), (some 3), none, []⟩ :: ⟨.call 51 [(.t 3)], (some 4), none, []⟩ :: L42_1
theorem v42_2 : VS L42_2.eq_1 := rfl
def C42_0 : ACode := .seq (.reg L42_2) .ret
theorem u42_0 : VC C42_0.eq_1 := rfl
def C42_1 : ACode := .seq (.reg L42_0) C42_0
theorem u42_1 : VC C42_1.eq_1 := rfl
def F42 : AFunc := ⟨6, [.cell 2 1 true], C42_1⟩
theorem cF42 : compB Try.prog 42 = some F42 := by kernel_rfl
attribute [local go_sem ↓] u42_0 u42_1 v42_0 v42_1 v42_2
theorem c_drawMostPlaces (code : List Int) (v : CV) (h : H) (hl : Sl encBy 1 5 h (.one v) code) (hc : ∀ x ∈ code, 0 ≤ x ∧ x ≤ 255) : callK (bm Try.prog 42 [.one v] h) fun q h' => Grow h h' ∧ ∃ x l, q = .agg [x] ∧ NwQ h h' (.one x) l ∧ tinyQ l := by
  refine bm_of cF42 ?_
  simp +contextual (maxSteps := 2000000) only [go_sem, Nat.reduceEqDiff, reduceCtorEq, Nat.reduceAdd, Nat.reduceLeDiff, F42]
  refine wp_call (c_newReader code v h hl hc) ?_
  rintro q h1 ⟨g1, b, rfl, r1, hb⟩
  simp +contextual (maxSteps := 2000000) only [go_sem, Nat.reduceEqDiff, reduceCtorEq, Nat.reduceAdd, Nat.reduceLeDiff]
  refine wp_call (c_someSignature b 0 h1 r1 (by decide)) ?_
  rintro q h2 ⟨⟨x, l, rfl, z2, tl⟩, d2⟩
  have z4 := z2.from g1.n
  have G := d2.out g1 hb
  simp +contextual (maxSteps := 2000000) only [go_sem, Nat.reduceEqDiff, reduceCtorEq, Nat.reduceAdd, Nat.reduceLeDiff]
  exact gcK_of ⟨G, x, l, rfl, z4, tl⟩ (fun hs _ => ⟨Grow.refl h, x, l, rfl, z4.scalar (by simpa [AV.scalar] using hs) h, tl⟩)
/-! laws.FnMostPlaces -/
def L10_0 : List AStep := [⟨.mov (.c (.bool false)), (some 2), none, []⟩]
theorem v10_0 : VS L10_0.eq_1 := rfl
def L10_1 : List AStep := [⟨.bin .gtr (.t 6) (.c (.int .i64 1048576)), (some 7), none, []⟩]
theorem v10_1 : VS L10_1.eq_1 := rfl
def L10_2 : List AStep := ⟨.mov (.t 0), (some 5), none, []⟩ :: ⟨.len (.t 5), (some 6), none, []⟩ :: L10_1
theorem v10_2 : VS L10_2.eq_1 := rfl
def L10_3 : List AStep := [⟨.mov (.c (.bool true)), (some 2), none, []⟩]
theorem v10_3 : VS L10_3.eq_1 := rfl
def L10_4 : List AStep := [⟨.alloc 38 [(.sl none 0 (some 0))], (some 3), none, []⟩, ⟨.store 1 (.t 3) (.t 9), none, none, []⟩]
theorem v10_4 : VS L10_4.eq_1 := rfl
def L10_5 : List AStep := ⟨.mov (.t 0), (some 8), none, []⟩ :: ⟨.call 42 [(.t 8)], (some 9), none, []⟩ :: L10_4
theorem v10_5 : VS L10_5.eq_1 := rfl
def L10_6 : List AStep := [⟨.mov (.t 11), (some 4), none, []⟩]
theorem v10_6 : VS L10_6.eq_1 := rfl
def L10_7 : List AStep := ⟨.load 1 true (.t 3), (some 10), none, []⟩ :: ⟨.call 43 [(.t 10)], (some 11), none, []⟩ :: L10_6
theorem v10_7 : VS L10_7.eq_1 := rfl
def L10_8 : List AStep := [⟨.bin .eql (.t 17) (.c (.int .i64 (-2))), (some 18), (some (16, false)), []⟩, ⟨.pick (.t 16) (.c (.bool true)) (.t 18), (some 19), none, []⟩]
theorem v10_8 : VS L10_8.eq_1 := rfl
def L10_9 : List AStep := ⟨.mov (.t 15), (some 16), none, []⟩ :: ⟨.mov (.t 4), (some 17), (some (16, false)), []⟩ :: L10_8
theorem v10_9 : VS L10_9.eq_1 := rfl
def L10_10 : List AStep := ⟨.call 44 [(.t 13)], (some 14), none, []⟩ :: ⟨.bin .neq (.t 12) (.t 14), (some 15), none, []⟩ :: L10_9
theorem v10_10 : VS L10_10.eq_1 := rfl
def L10_11 : List AStep := ⟨.mov (.t 4), (some 12), none, []⟩ :: ⟨.load 1 true (.t 3), (some 13), none, []⟩ :: L10_10
theorem v10_11 : VS L10_11.eq_1 := rfl
def L10_12 : List AStep := [⟨.mov (.t 23), (some 2), none, []⟩]
theorem v10_12 : VS L10_12.eq_1 := rfl
def L10_13 : List AStep := ⟨.call 44 [(.t 21)], (some 22), none, []⟩ :: ⟨.bin .eql (.t 20) (.t 22), (some 23), none, []⟩ :: L10_12
theorem v10_13 : VS L10_13.eq_1 := rfl
def L10_14 : List AStep := ⟨.mov (.t 4), (some 20), none, []⟩ :: ⟨.load 1 true (.t 3), (some 21), none, []⟩ :: L10_13
theorem v10_14 : VS L10_14.eq_1 := rfl
def L10_15 : List AStep := [⟨.mov (.t 4), (some 24), none, []⟩, ⟨.bin .lss (.t 24) (.c (.int .i64 0)), (some 25), none, []⟩]
theorem v10_15 : VS L10_15.eq_1 := rfl
def L10_16 : List AStep := [⟨.mov (.t 27), (some 2), none, []⟩]
theorem v10_16 : VS L10_16.eq_1 := rfl
def L10_17 : List AStep := ⟨.load 1 true (.t 3), (some 26), none, []⟩ :: ⟨.call 45 [(.t 26), (.c (.int .i64 8))], (some 27), none, []⟩ :: L10_16
theorem v10_17 : VS L10_17.eq_1 := rfl
def L10_18 : List AStep := [⟨.mov (.t 37), (some 2), none, []⟩]
theorem v10_18 : VS L10_18.eq_1 := rfl
def L10_19 : List AStep := ⟨.call 45 [(.t 34), (.t 35)], (some 36), (some (33, true)), []⟩ :: ⟨.pick (.t 33) (.t 36) (.c (.bool false)), (some 37), none, []⟩ :: L10_18
theorem v10_19 : VS L10_19.eq_1 := rfl
def L10_20 : List AStep := ⟨.load 1 true (.t 3), (some 34), (some (33, true)), []⟩ :: ⟨.mov (.t 4), (some 35), (some (33, true)), []⟩ :: L10_19
theorem v10_20 : VS L10_20.eq_1 := rfl
def L10_21 : List AStep := ⟨.not (.t 31), (some 32), none, []⟩ :: ⟨.mov (.t 32), (some 33), none, []⟩ :: L10_20
theorem v10_21 : VS L10_21.eq_1 := rfl
def L10_22 : List AStep := ⟨.bin .add (.t 29) (.c (.int .i64 1)), (some 30), none, []⟩ :: ⟨.call 45 [(.t 28), (.t 30)], (some 31), none, []⟩ :: L10_21
theorem v10_22 : VS L10_22.eq_1 := rfl
def L10_23 : List AStep := ⟨.load 1 true (.t 3), (some 28), none, []⟩ :: ⟨.mov (.t 4), (some 29), none, []⟩ :: L10_22
theorem v10_23 : VS L10_23.eq_1 := rfl
def C10_0 : ACode := .seq (.reg L10_3) .ret
theorem u10_0 : VC C10_0.eq_1 := rfl
def C10_1 : ACode := .cond (.t 7) C10_0 .skip
theorem u10_1 : VC C10_1.eq_1 := rfl
def C10_2 : ACode := .seq (.reg L10_2) C10_1
theorem u10_2 : VC C10_2.eq_1 := rfl
def C10_3 : ACode := .seq (.reg L10_14) .ret
theorem u10_3 : VC C10_3.eq_1 := rfl
def C10_4 : ACode := .cond (.t 19) C10_3 .skip
theorem u10_4 : VC C10_4.eq_1 := rfl
def C10_5 : ACode := .seq (.reg L10_11) C10_4
theorem u10_5 : VC C10_5.eq_1 := rfl
def C10_6 : ACode := .seq (.reg L10_17) .ret
theorem u10_6 : VC C10_6.eq_1 := rfl
def C10_7 : ACode := .cond (.t 25) C10_6 .skip
theorem u10_7 : VC C10_7.eq_1 := rfl
def C10_8 : ACode := .seq (.reg L10_15) C10_7
theorem u10_8 : VC C10_8.eq_1 := rfl
def C10_9 : ACode := .seq (.reg L10_23) .ret
theorem u10_9 : VC C10_9.eq_1 := rfl
def C10_10 : ACode := .seq C10_8 C10_9
theorem u10_10 : VC C10_10.eq_1 := rfl
def C10_11 : ACode := .seq C10_5 C10_10
theorem u10_11 : VC C10_11.eq_1 := rfl
def C10_12 : ACode := .seq (.reg L10_7) C10_11
theorem u10_12 : VC C10_12.eq_1 := rfl
def C10_13 : ACode := .seq (.reg L10_5) C10_12
theorem u10_13 : VC C10_13.eq_1 := rfl
def C10_14 : ACode := .seq C10_2 C10_13
theorem u10_14 : VC C10_14.eq_1 := rfl
def C10_15 : ACode := .seq (.reg L10_0) C10_14
theorem u10_15 : VC C10_15.eq_1 := rfl
def F10 : AFunc := ⟨38, [.tmp 2], C10_15⟩
theorem cF10 : compB Try.prog 10 = some F10 := by kernel_rfl
attribute [local go_sem ↓] u10_0 u10_1 u10_2 u10_3 u10_4 u10_5 u10_6 u10_7 u10_8 u10_9 u10_10 u10_11 u10_12 u10_13 u10_14 u10_15 v10_0 v10_1 v10_2 v10_3 v10_4 v10_5 v10_6 v10_7 v10_8 v10_9 v10_10 v10_11 v10_12 v10_13 v10_14 v10_15 v10_16 v10_17 v10_18 v10_19 v10_20 v10_21 v10_22 v10_23
theorem law10 (h : H) (avs : List AV) (hok : okVs Try.prog h 6 [ 22 ] avs) : callK (bm Try.prog 10 avs h) fun r _ => r = ib true := by
  obtain ⟨v0, avs, rfl, hv0, hok⟩ := okVs_cons hok
  obtain rfl := okVs_nil hok
  obtain ⟨v, code, rfl, s0, hc, k0⟩ := dBytes hv0
  refine bm_of cF10 ?_
  cases b0 : decide ((code.length : Int) > 1048576) with
  | true => simp +contextual (maxSteps := 2000000) only [go_sem, Nat.reduceEqDiff, reduceCtorEq, Nat.reduceAdd, Nat.reduceLeDiff, F10, s0.len, b0]
  | false =>
  simp +contextual (maxSteps := 2000000) only [go_sem, Nat.reduceEqDiff, reduceCtorEq, Nat.reduceAdd, Nat.reduceLeDiff, F10, s0.len, b0]
  refine wp_call (c_drawMostPlaces code v h s0 hc) ?_
  rintro q h1 ⟨g1, x, l, rfl, zq, tl⟩
  have sg : SlG h1 x l := ⟨zq.sl lenQ⟩
  have ml := tl.mini
  have e1 := c_iMostPlaces l x h1 sg ml
  have e2 := c_sMostPlaces l x h1 sg ml
  have ec := fun n => k_iTakesCount l x n h1 sg ml
  unfold mostP at e1 e2
  cases b1 : okSig l with
  | false =>
    rw [b1] at e1 e2
    simp +contextual (maxSteps := 2000000) only [go_sem, Nat.reduceEqDiff, reduceCtorEq, Nat.reduceAdd, Nat.reduceLeDiff, e1, e2, decide_true]
    exact gcK_of rfl (fun _ _ => rfl)
  | true =>
  have h8 := okSig_len b1
  have hp := places_le (l := l)
  unfold places at hp
  rw [b1] at e1 e2
  by_cases b2 : 0 ≤ kindAt l 2
  · rw [if_pos (show (true = true) from rfl), if_pos b2] at e1 e2
    have c1 : decide ((-1 : Int) = -2) = false := rfl
    have c2 : decide ((-1 : Int) < 0) = true := rfl
    simp +contextual (maxSteps := 2000000) only [go_sem, Nat.reduceEqDiff, reduceCtorEq, Nat.reduceAdd, Nat.reduceLeDiff, e1, e2, decide_true, c1, c2, ec, takes_rest b1 b2]
    exact gcK_of rfl (fun _ _ => rfl)
  · rw [if_pos (show (true = true) from rfl), if_neg b2] at e1 e2
    have c1 : decide ((l.countP byPlace : Int) = -2) = false := decide_eq_false (by omega)
    have c2 : decide ((l.countP byPlace : Int) < 0) = false := decide_eq_false (by omega)
    have v1 : IntKind.i64.wrap ((l.countP byPlace : Int) + 1) = (l.countP byPlace : Int) + 1 := i64_wrap (by omega) (by omega)
    simp +contextual (maxSteps := 2000000) only [go_sem, Nat.reduceEqDiff, reduceCtorEq, Nat.reduceAdd, Nat.reduceLeDiff, e1, e2, decide_true, c1, c2, ec, v1, takes_more b2, takes_most b1, decide_false]
    exact gcK_of rfl (fun _ _ => rfl)
end Go.Proofs.Ytekkimfdcbgcoaa.Am
