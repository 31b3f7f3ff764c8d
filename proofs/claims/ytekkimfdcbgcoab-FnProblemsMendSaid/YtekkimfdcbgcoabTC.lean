/- Contracts: the counts of values by place that a signature takes, of both sides. -/
import Derived.Test.YtekkimfdcbgcoabA2
import Derived.Test.YtekkimfdcbgcoabA4
import Derived.Test.YtekkimfdcbgcoabHS
import Derived.Test.YtekkimfdcbgcoabSE
namespace Go.Proofs.Ytekkimfdcbgcoab.Am
open Go
set_option maxRecDepth 100000
set_option maxHeartbeats 4000000
set_option linter.unusedSimpArgs false
set_option linter.unusedVariables false
attribute [local go_sem ↓] bv_t bv_c ev_t ev_c put_same put_ne put_none kill_at pro_at lb_same lb_ne start_zero start_succ wpC_seq wpC_reg wpC_cond wpC_block wpC_skip wpC_exit wpC_ret thenQ_normal thenQ_exit thenQ_ret inBlk_normal inBlk_exit inBlk_ret wpS_nil wpS_step wpS_again wpS_guard wpO_mov wpO_load wpO_faddr wpO_nilCheck wpO_pick wpO_build wpO_bin wpO_eqb wpO_eqst wpO_eqnil wpO_not wpO_conv wpO_bytesStr wpO_iaddr wpO_idxStr wpO_field wpO_extract wpO_len wpO_lenStr wpO_cap wpO_min wpO_slice wpO_sliceStr wpO_alloc wpO_box wpO_store wpO_call wpO_callv wpO_mkfn wpO_buildSlice wpO_mkslice wpO_append wpO_appz proA_nil proA_cons tmpX_nil tmpX_tmp tmpX_cell doneB_normal doneB_ret agK_cons agK_nil agK_guard agG_tt agG_ff agG_tf agG_ft agG_undef pureB_load results_one results_two results_nil resBs_cons resBs_nil resB_tmp resB_cell
attribute [local go_sem] kill_v kill_lp_ne kill_lp_same pro_v pro_lp_same pro_lp_ne av_v av_lp optB_some optX_some valX_eq ldX_lp ldX_v faX_lp faX_v ncX_lp ncX_ptr ncX_fn boxK_one boxK_agg stL_some stK_lp_one stK_lp_agg stK_v_one stK_v_agg proM_v proM_lp callG_mk callVG_mk callvK_fn fnG_mk ptrsA_nil ptrsA_cons callH_some whenA_true whenA_false guardH_tt guardH_ff guardH_tf guardH_ft guardH_undef agV_one agV_agg lenO_sl lenStrO_str notO_bool pickO_bool convO_int eqbO_bool eqnilO_sl extractO_tup capO_sl minO_int loadL_one loadL_all storeL_eq fillA_nil fillA_one fillA_agg nat_ge neg_ge nat_lt neg_lt buildO bin_add bin_sub bin_mul bin_eql bin_neq bin_lss bin_leq bin_gtr bin_geq str_eql str_neq str_lss str_leq str_gtr str_geq retK_some endK_mk gcK_same gcK_int gcK_bool tupO_one tupO_agg rdy_self ib ii Option.map_none Option.map_some Option.some.injEq exists_eq_left' exists_eq_left ne_eq not_false_eq_true if_true if_false List.map_cons List.map_nil List.getElem?_cons_zero List.getElem?_cons_succ List.length_cons List.length_nil List.take_succ_cons List.take_zero List.take_nil List.drop_succ_cons List.drop_zero List.drop_nil List.cons_append List.nil_append List.append_nil List.set_cons_zero List.set_cons_succ Nat.zero_add forall_const true_and and_true and_self Bool.false_eq_true false_implies true_implies implies_true Bool.not_true Bool.not_false Bool.not_eq_true' Bool.not_eq_false' beq_self_eq_true Bool.bne_true Bool.bne_false
attribute [local go_sem] lenI lenS lenP lenQ lenB lenL lenT encI_0 encS_0 encP_0 encP_1 encQ_0 encQ_1 encQ_2 encQ_3 encB_0 encB_1 encL_0 encL_1 encT_0 encT_1
attribute [local go_sem low] whenA_bool guardH_bool
/-- No parameter that must be by place comes behind the m-th value. -/
def lateAt (l : List Param) (m i : Nat) : Bool := match l[i]? with | some p => decide (i < m) || !(decide (p.kind = 0) && !p.has) | none => true
def lateOk (l : List Param) (m : Nat) : Bool := (List.range l.length).all (lateAt l m)
theorem lateAt_eq {l : List Param} {m i : Nat} (hi : i < l.length) : lateAt l m i = (decide (i < m) || !(decide (l[i].kind = 0) && !l[i].has)) := by
  unfold lateAt
  rw [List.getElem?_eq_getElem hi]
theorem lateOk_not {l : List Param} {m i : Nat} (hi : i < l.length) (h : lateAt l m i = false) : lateOk l m = false := List.all_eq_false.2 ⟨i, List.mem_range.2 hi, by simp [h]⟩
theorem lateOk_of {l : List Param} {m i : Nat} (hi : l.length ≤ i) (h : Upto (lateAt l m) i) : lateOk l m = true := List.all_eq_true.2 fun j hj => h.out j (by have := List.mem_range.1 hj; omega)
theorem late_first {l : List Param} {m : Nat} : Upto (lateAt l m) m := ⟨fun j hj => by
  unfold lateAt
  split
  · rw [decide_eq_true hj]; rfl
  · rfl⟩
def manyC (l : List Param) (n : Int) : Bool := decide (n > (l.countP byPlace : Int)) && decide (kindAt l 2 < 0)
def inC (n : Int) : Bool := decide (0 ≤ n) && decide (n ≤ 8)
def takesC (l : List Param) (n : Int) : Bool := okSig l && (inC n && (!manyC l n && lateOk l n.toNat))
/-! (impl.Signature).namesOf -/
def L128_0 : List AStep := [⟨.box 25 (.t 0), (some 2), none, []⟩, ⟨.mov (.c (.sl none 0 (some 0))), (some 4), none, []⟩]
theorem v128_0 : VS L128_0.eq_1 := rfl
def L128_1 : List AStep := [⟨.mov (.c (.sl none 0 (some 0))), (some 5), none, []⟩]
theorem v128_1 : VS L128_1.eq_1 := rfl
def L128_2 : List AStep := [⟨.len (.t 9), (some 10), none, []⟩, ⟨.mov (.c (.int .i64 0)), (some 11), none, []⟩]
theorem v128_2 : VS L128_2.eq_1 := rfl
def L128_3 : List AStep := ⟨.faddr 0 (.t 2), (some 8), none, []⟩ :: ⟨.load 1 false (.t 8), (some 9), none, []⟩ :: L128_2
theorem v128_3 : VS L128_3.eq_1 := rfl
def L128_4 : List AStep := [⟨.bin .lss (.t 11) (.t 10), (some 12), none, []⟩]
theorem v128_4 : VS L128_4.eq_1 := rfl
def L128_5 : List AStep := [⟨.alloc 39 [(.str (strOfNums [])), (.int .i64 0), (.bool false), (.int .i64 0)], (some 7), none, []⟩, ⟨.store 4 (.t 7) (.t 14), none, none, []⟩]
theorem v128_5 : VS L128_5.eq_1 := rfl
def L128_6 : List AStep := ⟨.iaddr 4 (.t 9) (.t 11), (some 13), none, []⟩ :: ⟨.load 4 true (.t 13), (some 14), none, []⟩ :: L128_5
theorem v128_6 : VS L128_6.eq_1 := rfl
def L128_7 : List AStep := [⟨.callv (.t 15) [(.t 16)], (some 17), none, []⟩]
theorem v128_7 : VS L128_7.eq_1 := rfl
def L128_8 : List AStep := ⟨.mov (.t 1), (some 15), none, []⟩ :: ⟨.load 4 true (.t 7), (some 16), none, []⟩ :: L128_7
theorem v128_8 : VS L128_8.eq_1 := rfl
def L128_9 : List AStep := [⟨.append 9 1 16 (.t 18) (.t 21), (some 22), none, []⟩, ⟨.mov (.t 22), (some 5), none, []⟩]
theorem v128_9 : VS L128_9.eq_1 := rfl
def L128_10 : List AStep := ⟨.load 1 false (.t 19), (some 20), none, []⟩ :: ⟨.buildSlice 9 1 [(.str (strOfNums []))] [(0, 1, (.t 20))], (some 21), none, []⟩ :: L128_9
theorem v128_10 : VS L128_10.eq_1 := rfl
def L128_11 : List AStep := ⟨.mov (.t 5), (some 18), none, []⟩ :: ⟨.faddr 0 (.t 7), (some 19), none, []⟩ :: L128_10
theorem v128_11 : VS L128_11.eq_1 := rfl
def L128_12 : List AStep := [⟨.bin .add (.t 11) (.c (.int .i64 1)), (some 23), none, []⟩, ⟨.mov (.t 23), (some 11), none, []⟩]
theorem v128_12 : VS L128_12.eq_1 := rfl
def L128_13 : List AStep := [⟨.mov (.t 25), (some 4), none, []⟩]
theorem v128_13 : VS L128_13.eq_1 := rfl
def L128_14 : List AStep := ⟨.mov (.t 5), (some 24), none, []⟩ :: ⟨.call 142 [(.t 24)], (some 25), none, []⟩ :: L128_13
theorem v128_14 : VS L128_14.eq_1 := rfl
def C128_0 : ACode := .cond (.t 12) .skip (.exit 0)
theorem u128_0 : VC C128_0.eq_1 := rfl
def C128_1 : ACode := .cond (.t 17) (.reg L128_11) .skip
theorem u128_1 : VC C128_1.eq_1 := rfl
def C128_2 : ACode := .seq (.reg L128_8) C128_1
theorem u128_2 : VC C128_2.eq_1 := rfl
def C128_3 : ACode := .seq (.reg L128_6) C128_2
theorem u128_3 : VC C128_3.eq_1 := rfl
def C128_4 : ACode := .block 1 C128_3
theorem u128_4 : VC C128_4.eq_1 := rfl
def C128_5 : ACode := .seq C128_4 (.reg L128_12)
theorem u128_5 : VC C128_5.eq_1 := rfl
def C128_6 : ACode := .seq C128_0 C128_5
theorem u128_6 : VC C128_6.eq_1 := rfl
def C128_7 : ACode := .seq (.reg L128_4) C128_6
theorem u128_7 : VC C128_7.eq_1 := rfl
def C128_8 : ACode := .block 0 (.loop C128_7)
theorem u128_8 : VC C128_8.eq_1 := rfl
def C128_9 : ACode := .seq (.reg L128_3) C128_8
theorem u128_9 : VC C128_9.eq_1 := rfl
def C128_10 : ACode := .seq (.reg L128_14) .ret
theorem u128_10 : VC C128_10.eq_1 := rfl
def C128_11 : ACode := .seq C128_9 C128_10
theorem u128_11 : VC C128_11.eq_1 := rfl
def C128_12 : ACode := .seq (.reg L128_1) C128_11
theorem u128_12 : VC C128_12.eq_1 := rfl
def C128_13 : ACode := .seq (.reg L128_0) C128_12
theorem u128_13 : VC C128_13.eq_1 := rfl
def F128 : AFunc := ⟨26, [.tmp 4], C128_13⟩
theorem cF128 : compB Try.prog 128 = some F128 := by kernel_rfl
attribute [local go_sem ↓] u128_0 u128_1 u128_2 u128_3 u128_4 u128_5 u128_6 u128_7 u128_8 u128_9 u128_10 u128_11 u128_12 u128_13 v128_0 v128_1 v128_2 v128_3 v128_4 v128_5 v128_6 v128_7 v128_8 v128_9 v128_10 v128_11 v128_12 v128_13 v128_14
theorem c_namesOf (l : List Param) (q : CV) (h : H) (hl : SlQ h (.one q) l) (hn : l.length ≤ 8) : callK (bm Try.prog 128 [.agg [q], .one (.fn 51 [])] h) fun r h' => Grow h h' ∧ ∃ ms, NwS h h' r ms ∧ ms.length = l.countP byPlace := by
  refine bm_of cF128 ?_
  simp +contextual (maxSteps := 2000000) only [go_sem, Nat.reduceEqDiff, reduceCtorEq, Nat.reduceAdd, Nat.reduceLeDiff, F128, hl.len]
  refine wpC_loop (fun i T L h' => Grow h h' ∧ T 1 = .v (.one (.fn 51 [])) ∧ (∃ w ms, T 5 = .v (.one w) ∧ NwS h h' (.one w) ms ∧ ms.length = cnt byPlace l i) ∧ T 9 = .v (.one q) ∧ T 10 = .v (.one (.int .i64 l.length)) ∧ T 11 = .v (.one (.int .i64 i))) l.length ?_ ?_ (Nat.zero_le _) ?_
  · rintro i T L h' hi ⟨g, t1, ⟨w, ms, t5, z, hc⟩, t9, t10, t11⟩
    have k := hl.grow g
    have es := fun h => c_placed l[i] h
    simp only [encQ] at es
    have hx := cnt_le (p := byPlace) (l := l) (i := i)
    cases b : byPlace l[i] with
    | false =>
      simp +contextual (maxSteps := 2000000) only [go_sem, Nat.reduceEqDiff, reduceCtorEq, Nat.reduceAdd, Nat.reduceLeDiff, t1, t5, t9, t10, t11, lt_true hi, k.iaddr hi, k.whole hi, encQ, es, b]
      exact ⟨g, ⟨w, ms, rfl, z, by rw [hc, cnt_next hi, b]; rfl⟩, by rw [wrap_next hi (by omega)]⟩
    | true =>
      simp +contextual (maxSteps := 2000000) only [go_sem, Nat.reduceEqDiff, reduceCtorEq, Nat.reduceAdd, Nat.reduceLeDiff, t1, t5, t9, t10, t11, lt_true hi, k.iaddr hi, k.whole hi, encQ, es, b]
      refine wp_lit (enc := encS) (k := 1) (l := [l[i].name]) rfl rfl ?_
      intro h3 w3 g3 n3 _
      simp +contextual (maxSteps := 2000000) only [go_sem, Nat.reduceEqDiff, reduceCtorEq, Nat.reduceAdd, Nat.reduceLeDiff, t1, t5, t9, t10, t11]
      refine wp_append lenS (z.grow g3) (n3.sl lenS) (g.trans g3) (by simp; omega) ?_
      intro h4 s4 g4 n4 st4 hb4
      obtain ⟨c4, rfl⟩ := n4.one
      simp +contextual (maxSteps := 2000000) only [go_sem, Nat.reduceEqDiff, reduceCtorEq, Nat.reduceAdd, Nat.reduceLeDiff, t1, t5, t9, t10, t11]
      exact ⟨g4, ⟨c4, _, rfl, n4, by rw [cnt_next hi, b, List.length_append, hc]; rfl⟩, by rw [wrap_next hi (by omega)]⟩
  · rintro T L h' ⟨g, t1, ⟨w, ms, t5, z, hc⟩, t9, t10, t11⟩
    simp +contextual (maxSteps := 2000000) only [go_sem, Nat.reduceEqDiff, reduceCtorEq, Nat.reduceAdd, Nat.reduceLeDiff, t1, t5, t9, t10, t11, lt_false]
    refine wp_call (c_clipS _ _ h' z) ?_
    rintro r h2 ⟨rfl, n2⟩
    simp +contextual (maxSteps := 2000000) only [go_sem, Nat.reduceEqDiff, reduceCtorEq, Nat.reduceAdd, Nat.reduceLeDiff]
    rw [cnt_all] at hc
    exact gcK_of ⟨g, _, n2, hc⟩ (fun hs _ => ⟨Grow.refl h, _, n2.scalar hs h, hc⟩)
  · simp +contextual (maxSteps := 2000000) only [go_sem, Nat.reduceEqDiff, reduceCtorEq, Nat.reduceAdd, Nat.reduceLeDiff]
    exact ⟨Grow.refl h, ⟨_, [], rfl, .nil, by rw [cnt_zero]; rfl⟩, rfl⟩
theorem c_namesG (l : List Param) (q : CV) (f : Nat) (caps : List (Nat × Nat)) (may : Param → Bool) (h : H) (hl : SlQ h (.one q) l) (hn : l.length ≤ 100) (hf : ∀ h', Grow h h' → ∀ x, bm Try.prog f (.agg (encQ x) :: caps.map fun a => .one (.ptr (some a))) h' = some (ib (may x), h')) :
    callK (bm Try.prog 128 [.agg [q], .one (.fn f caps)] h) fun r h' => Grow h h' ∧ NwS h h' r ((l.filter may).map Param.name) := by
  refine bm_of cF128 ?_
  simp +contextual (maxSteps := 2000000) only [go_sem, Nat.reduceEqDiff, reduceCtorEq, Nat.reduceAdd, Nat.reduceLeDiff, F128, hl.len]
  refine wpC_loop (fun i T L h' => Grow h h' ∧ T 1 = .v (.one (.fn f caps)) ∧ (∃ w, T 5 = .v (.one w) ∧ NwS h h' (.one w) (((l.take i).filter may).map Param.name)) ∧ T 9 = .v (.one q) ∧ T 10 = .v (.one (.int .i64 l.length)) ∧ T 11 = .v (.one (.int .i64 i))) l.length ?_ ?_ (Nat.zero_le _) ?_
  · rintro i T L h' hi ⟨g, t1, ⟨w, t5, z⟩, t9, t10, t11⟩
    have k := hl.grow g
    have es := hf h' g l[i]
    simp only [encQ] at es
    have hx : ((l.take i).filter may).length ≤ i := Nat.le_trans (List.length_filter_le _ _) (by simp; omega)
    have en : (((l.take (i + 1)).filter may).map Param.name) = (((l.take i).filter may).map Param.name) ++ if may l[i] = true then [l[i].name] else [] := by
      rw [List.take_succ_eq_append_getElem hi, List.filter_append, List.map_append]
      cases b : may l[i] <;> simp [List.filter, b]
    cases b : may l[i] with
    | false =>
      rw [b] at en
      simp +contextual (maxSteps := 2000000) only [go_sem, Nat.reduceEqDiff, reduceCtorEq, Nat.reduceAdd, Nat.reduceLeDiff, t1, t5, t9, t10, t11, lt_true hi, k.iaddr hi, k.whole hi, encQ, es, b]
      exact ⟨g, ⟨w, rfl, by rw [en]; simp only [Bool.false_eq_true, if_false, List.append_nil]; exact z⟩, by rw [wrap_next hi (by omega)]⟩
    | true =>
      rw [b] at en
      simp +contextual (maxSteps := 2000000) only [go_sem, Nat.reduceEqDiff, reduceCtorEq, Nat.reduceAdd, Nat.reduceLeDiff, t1, t5, t9, t10, t11, lt_true hi, k.iaddr hi, k.whole hi, encQ, es, b]
      refine wp_lit (enc := encS) (k := 1) (l := [l[i].name]) rfl rfl ?_
      intro h3 w3 g3 n3 _
      simp +contextual (maxSteps := 2000000) only [go_sem, Nat.reduceEqDiff, reduceCtorEq, Nat.reduceAdd, Nat.reduceLeDiff, t1, t5, t9, t10, t11]
      refine wp_append lenS (z.grow g3) (n3.sl lenS) (g.trans g3) (by simp; omega) ?_
      intro h4 s4 g4 n4 st4 hb4
      obtain ⟨c4, rfl⟩ := n4.one
      simp +contextual (maxSteps := 2000000) only [go_sem, Nat.reduceEqDiff, reduceCtorEq, Nat.reduceAdd, Nat.reduceLeDiff, t1, t5, t9, t10, t11]
      exact ⟨g4, ⟨c4, rfl, by rw [en]; exact n4⟩, by rw [wrap_next hi (by omega)]⟩
  · rintro T L h' ⟨g, t1, ⟨w, t5, z⟩, t9, t10, t11⟩
    rw [List.take_length] at z
    simp +contextual (maxSteps := 2000000) only [go_sem, Nat.reduceEqDiff, reduceCtorEq, Nat.reduceAdd, Nat.reduceLeDiff, t1, t5, t9, t10, t11, lt_false]
    refine wp_call (c_clipS _ _ h' z) ?_
    rintro r h2 ⟨rfl, n2⟩
    simp +contextual (maxSteps := 2000000) only [go_sem, Nat.reduceEqDiff, reduceCtorEq, Nat.reduceAdd, Nat.reduceLeDiff]
    exact gcK_of ⟨g, n2⟩ (fun hs _ => ⟨Grow.refl h, n2.scalar hs h⟩)
  · simp +contextual (maxSteps := 2000000) only [go_sem, Nat.reduceEqDiff, reduceCtorEq, Nat.reduceAdd, Nat.reduceLeDiff]
    exact ⟨Grow.refl h, ⟨_, rfl, .nil⟩, rfl⟩
/-! (impl.Signature).places -/
def L84_0 : List AStep := [⟨.box 25 (.t 0), (some 1), none, []⟩, ⟨.mov (.c (.int .i64 0)), (some 2), none, []⟩]
theorem v84_0 : VS L84_0.eq_1 := rfl
def L84_1 : List AStep := [⟨.len (.t 4), (some 5), none, []⟩, ⟨.mov (.t 5), (some 2), none, []⟩]
theorem v84_1 : VS L84_1.eq_1 := rfl
def L84_2 : List AStep := ⟨.load 1 true (.t 1), (some 3), none, []⟩ :: ⟨.call 128 [(.t 3), (.c (.fn 51 []))], (some 4), none, []⟩ :: L84_1
theorem v84_2 : VS L84_2.eq_1 := rfl
def C84_0 : ACode := .seq (.reg L84_2) .ret
theorem u84_0 : VC C84_0.eq_1 := rfl
def C84_1 : ACode := .seq (.reg L84_0) C84_0
theorem u84_1 : VC C84_1.eq_1 := rfl
def F84 : AFunc := ⟨6, [.tmp 2], C84_1⟩
theorem cF84 : compB Try.prog 84 = some F84 := by kernel_rfl
attribute [local go_sem ↓] u84_0 u84_1 v84_0 v84_1 v84_2
theorem c_placesI (l : List Param) (q : CV) (h : H) (hl : SlQ h (.one q) l) (hn : l.length ≤ 8) : bm Try.prog 84 [.agg [q]] h = some (ii (l.countP byPlace), h) := by
  refine bm_eq cF84 ?_
  simp +contextual (maxSteps := 2000000) only [go_sem, Nat.reduceEqDiff, reduceCtorEq, Nat.reduceAdd, Nat.reduceLeDiff, F84]
  refine wp_call (c_namesOf l q h hl hn) ?_
  rintro r h1 ⟨g1, ms, n1, hc⟩
  simp +contextual (maxSteps := 2000000) only [go_sem, Nat.reduceEqDiff, reduceCtorEq, Nat.reduceAdd, Nat.reduceLeDiff, n1.length, hc]
  exact gcR_of g1 rfl ⟨rfl, rfl⟩
/-- The places among the first i. -/
theorem cnt_place {l : List Param} (o : Ord l) : ∀ i, i ≤ l.length → cnt byPlace l i = min i (places l)
  | 0, _ => by rw [cnt_zero]; omega
  | i + 1, hi => by
    rw [cnt_next (show i < l.length by omega), cnt_place o i (by omega), o.place (show i < l.length by omega)]
    by_cases e : i < places l
    · rw [decide_eq_true e, if_pos rfl]; omega
    · rw [decide_eq_false e, if_neg (by simp)]; omega
theorem kind0_single {p : Param} (h : single p = false) : decide (p.kind = 0) = false := by
  cases b : decide (p.kind = 0) with
  | false => rfl
  | true => simp [single, byPlace, b] at h
theorem kind0_place {p : Param} (h : decide (p.kind = 0) = true) : byPlace p = true := by simp [byPlace, h]
end Go.Proofs.Ytekkimfdcbgcoab.Am
