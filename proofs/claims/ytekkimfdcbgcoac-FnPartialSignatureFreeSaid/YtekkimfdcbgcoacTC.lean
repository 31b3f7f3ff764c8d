/- Contracts: the counts of values by place that a signature takes, of both sides. -/
import Derived.Test.YtekkimfdcbgcoacA2
import Derived.Test.YtekkimfdcbgcoacA4
import Derived.Test.YtekkimfdcbgcoacHS
import Derived.Test.YtekkimfdcbgcoacSE
namespace Go.Proofs.Ytekkimfdcbgcoac.Am
open Go
set_option maxRecDepth 100000
set_option maxHeartbeats 4000000
set_option linter.unusedSimpArgs false
set_option linter.unusedVariables false
attribute [local go_sem ↓] bv_t bv_c ev_t ev_c put_same put_ne put_none kill_at pro_at lb_same lb_ne start_zero start_succ wpC_seq wpC_reg wpC_cond wpC_block wpC_skip wpC_exit wpC_ret thenQ_normal thenQ_exit thenQ_ret inBlk_normal inBlk_exit inBlk_ret wpS_nil wpS_step wpS_again wpS_guard wpO_mov wpO_load wpO_faddr wpO_nilCheck wpO_pick wpO_build wpO_bin wpO_eqb wpO_eqst wpO_eqnil wpO_not wpO_conv wpO_bytesStr wpO_iaddr wpO_idxStr wpO_field wpO_extract wpO_len wpO_lenStr wpO_cap wpO_min wpO_slice wpO_sliceStr wpO_alloc wpO_box wpO_store wpO_call wpO_callv wpO_mkfn wpO_buildSlice wpO_mkslice wpO_append wpO_appz proA_nil proA_cons tmpX_nil tmpX_tmp tmpX_cell doneB_normal doneB_ret agK_cons agK_nil agK_guard agG_tt agG_ff agG_tf agG_ft agG_undef pureB_load results_one results_two results_nil resBs_cons resBs_nil resB_tmp resB_cell
attribute [local go_sem] kill_v kill_lp_ne kill_lp_same pro_v pro_lp_same pro_lp_ne av_v av_lp optB_some optX_some valX_eq ldX_lp ldX_v faX_lp faX_v ncX_lp ncX_ptr ncX_fn boxK_one boxK_agg stL_some stK_lp_one stK_lp_agg stK_v_one stK_v_agg proM_v proM_lp callG_mk callVG_mk callvK_fn fnG_mk ptrsA_nil ptrsA_cons callH_some whenA_true whenA_false guardH_tt guardH_ff guardH_tf guardH_ft guardH_undef agV_one agV_agg lenO_sl lenStrO_str notO_bool pickO_bool convO_int eqbO_bool eqnilO_sl extractO_tup capO_sl minO_int loadL_one loadL_all storeL_eq fillA_nil fillA_one fillA_agg nat_ge neg_ge nat_lt neg_lt buildO bin_add bin_sub bin_mul bin_eql bin_neq bin_lss bin_leq bin_gtr bin_geq str_eql str_neq str_lss str_leq str_gtr str_geq retK_some endK_mk gcK_same gcK_int gcK_bool tupO_one tupO_agg rdy_self ib ii Option.map_none Option.map_some Option.some.injEq exists_eq_left' exists_eq_left ne_eq not_false_eq_true if_true if_false List.map_cons List.map_nil List.getElem?_cons_zero List.getElem?_cons_succ List.length_cons List.length_nil List.take_succ_cons List.take_zero List.take_nil List.drop_succ_cons List.drop_zero List.drop_nil List.cons_append List.nil_append List.append_nil List.set_cons_zero List.set_cons_succ Nat.zero_add forall_const true_and and_true and_self Bool.false_eq_true false_implies true_implies implies_true Bool.not_true Bool.not_false Bool.not_eq_true' Bool.not_eq_false' beq_self_eq_true Bool.bne_true Bool.bne_false
attribute [local go_sem] lenI lenS lenP lenQ lenB lenL lenT encI_0 encS_0 encP_0 encP_1 encQ_0 encQ_1 encQ_2 encQ_3 encB_0 encB_1 encL_0 encL_1 encT_0 encT_1
attribute [local go_sem low] whenA_bool guardH_bool
/-- No parameter that must be by place comes behind the m-th value. -/
def lateAt (l : List Param) (m i : Nat) : Bool := match l[i]? with | some p => decide (i < m) || !(decide (p.kind = 0) && !p.has) | none => true
def lateOk (l : List Param) (m : Nat) : Bool := (List.range l.length).all (lateAt l m)
theorem lateAt_eq {l : List Param} {m i : Nat} (hi : i < l.length) : lateAt l m i = (decide (i < m) || !(decide (l[i].kind = 0) && !l[i].has)) := by
  unfold lateAt
  rw [List.getElem?_eq_getElem hi]
theorem lateOk_not {l : List Param} {m i : Nat} (hi : i < l.length) (h : lateAt l m i = false) : lateOk l m = false := List.all_eq_false.2 ⟨i, List.mem_range.2 hi, by simp [h]⟩
theorem lateOk_of {l : List Param} {m i : Nat} (hi : l.length ≤ i) (h : Upto (lateAt l m) i) : lateOk l m = true := List.all_eq_true.2 fun j hj => h.out j (by have := List.mem_range.1 hj; omega)
theorem late_first {l : List Param} {m : Nat} : Upto (lateAt l m) m := ⟨fun j hj => by
  unfold lateAt
  split
  · rw [decide_eq_true hj]; rfl
  · rfl⟩
def manyC (l : List Param) (n : Int) : Bool := decide (n > (l.countP byPlace : Int)) && decide (kindAt l 2 < 0)
def inC (n : Int) : Bool := decide (0 ≤ n) && decide (n ≤ 8)
def takesC (l : List Param) (n : Int) : Bool := okSig l && (inC n && (!manyC l n && lateOk l n.toNat))
/-! (impl.Signature).namesOf -/
def L67_0 : List AStep := [⟨.box 25 (.t 0), (some 2), none, []⟩, ⟨.mov (.c (.sl none 0 (some 0))), (some 4), none, []⟩]
theorem v67_0 : VS L67_0.eq_1 := rfl
def L67_1 : List AStep := [⟨.mov (.c (.sl none 0 (some 0))), (some 5), none, []⟩]
theorem v67_1 : VS L67_1.eq_1 := rfl
def L67_2 : List AStep := [⟨.len (.t 9), (some 10), none, []⟩, ⟨.mov (.c (.int .i64 0)), (some 11), none, []⟩]
theorem v67_2 : VS L67_2.eq_1 := rfl
def L67_3 : List AStep := ⟨.faddr 0 (.t 2), (some 8), none, []⟩ :: ⟨.load 1 false (.t 8), (some 9), none, []⟩ :: L67_2
theorem v67_3 : VS L67_3.eq_1 := rfl
def L67_4 : List AStep := [⟨.bin .lss (.t 11) (.t 10), (some 12), none, []⟩]
theorem v67_4 : VS L67_4.eq_1 := rfl
def L67_5 : List AStep := [⟨.alloc 44 [(.str (strOfNums [])), (.int .i64 0), (.bool false), (.int .i64 0)], (some 7), none, []⟩, ⟨.store 4 (.t 7) (.t 14), none, none, []⟩]
theorem v67_5 : VS L67_5.eq_1 := rfl
def L67_6 : List AStep := ⟨.iaddr 4 (.t 9) (.t 11), (some 13), none, []⟩ :: ⟨.load 4 true (.t 13), (some 14), none, []⟩ :: L67_5
theorem v67_6 : VS L67_6.eq_1 := rfl
def L67_7 : List AStep := [⟨.callv (.t 15) [(.t 16)], (some 17), none, []⟩]
theorem v67_7 : VS L67_7.eq_1 := rfl
def L67_8 : List AStep := ⟨.mov (.t 1), (some 15), none, []⟩ :: ⟨.load 4 true (.t 7), (some 16), none, []⟩ :: L67_7
theorem v67_8 : VS L67_8.eq_1 := rfl
def L67_9 : List AStep := [⟨.append 9 1 16 (.t 18) (.t 21), (some 22), none, []⟩, ⟨.mov (.t 22), (some 5), none, []⟩]
theorem v67_9 : VS L67_9.eq_1 := rfl
def L67_10 : List AStep := ⟨.load 1 false (.t 19), (some 20), none, []⟩ :: ⟨.buildSlice 9 1 [(.str (strOfNums []))] [(0, 1, (.t 20))], (some 21), none, []⟩ :: L67_9
theorem v67_10 : VS L67_10.eq_1 := rfl
def L67_11 : List AStep := ⟨.mov (.t 5), (some 18), none, []⟩ :: ⟨.faddr 0 (.t 7), (some 19), none, []⟩ :: L67_10
theorem v67_11 : VS L67_11.eq_1 := rfl
def L67_12 : List AStep := [⟨.bin .add (.t 11) (.c (.int .i64 1)), (some 23), none, []⟩, ⟨.mov (.t 23), (some 11), none, []⟩]
theorem v67_12 : VS L67_12.eq_1 := rfl
def L67_13 : List AStep := [⟨.mov (.t 25), (some 4), none, []⟩]
theorem v67_13 : VS L67_13.eq_1 := rfl
def L67_14 : List AStep := ⟨.mov (.t 5), (some 24), none, []⟩ :: ⟨.call 95 [(.t 24)], (some 25), none, []⟩ :: L67_13
theorem v67_14 : VS L67_14.eq_1 := rfl
def C67_0 : ACode := .cond (.t 12) .skip (.exit 0)
theorem u67_0 : VC C67_0.eq_1 := rfl
def C67_1 : ACode := .cond (.t 17) (.reg L67_11) .skip
theorem u67_1 : VC C67_1.eq_1 := rfl
def C67_2 : ACode := .seq (.reg L67_8) C67_1
theorem u67_2 : VC C67_2.eq_1 := rfl
def C67_3 : ACode := .seq (.reg L67_6) C67_2
theorem u67_3 : VC C67_3.eq_1 := rfl
def C67_4 : ACode := .block 1 C67_3
theorem u67_4 : VC C67_4.eq_1 := rfl
def C67_5 : ACode := .seq C67_4 (.reg L67_12)
theorem u67_5 : VC C67_5.eq_1 := rfl
def C67_6 : ACode := .seq C67_0 C67_5
theorem u67_6 : VC C67_6.eq_1 := rfl
def C67_7 : ACode := .seq (.reg L67_4) C67_6
theorem u67_7 : VC C67_7.eq_1 := rfl
def C67_8 : ACode := .block 0 (.loop C67_7)
theorem u67_8 : VC C67_8.eq_1 := rfl
def C67_9 : ACode := .seq (.reg L67_3) C67_8
theorem u67_9 : VC C67_9.eq_1 := rfl
def C67_10 : ACode := .seq (.reg L67_14) .ret
theorem u67_10 : VC C67_10.eq_1 := rfl
def C67_11 : ACode := .seq C67_9 C67_10
theorem u67_11 : VC C67_11.eq_1 := rfl
def C67_12 : ACode := .seq (.reg L67_1) C67_11
theorem u67_12 : VC C67_12.eq_1 := rfl
def C67_13 : ACode := .seq (.reg L67_0) C67_12
theorem u67_13 : VC C67_13.eq_1 := rfl
def F67 : AFunc := ⟨26, [.tmp 4], C67_13⟩
theorem cF67 : compB Try.prog 67 = some F67 := by kernel_rfl
attribute [local go_sem ↓] u67_0 u67_1 u67_2 u67_3 u67_4 u67_5 u67_6 u67_7 u67_8 u67_9 u67_10 u67_11 u67_12 u67_13 v67_0 v67_1 v67_2 v67_3 v67_4 v67_5 v67_6 v67_7 v67_8 v67_9 v67_10 v67_11 v67_12 v67_13 v67_14
theorem c_namesOf (l : List Param) (q : CV) (h : H) (hl : SlQ h (.one q) l) (hn : l.length ≤ 8) : callK (bm Try.prog 67 [.agg [q], .one (.fn 61 [])] h) fun r h' => Grow h h' ∧ ∃ ms, NwS h h' r ms ∧ ms.length = l.countP byPlace := by
  refine bm_of cF67 ?_
  simp +contextual (maxSteps := 2000000) only [go_sem, Nat.reduceEqDiff, reduceCtorEq, Nat.reduceAdd, Nat.reduceLeDiff, F67, hl.len]
  refine wpC_loop (fun i T L h' => Grow h h' ∧ T 1 = .v (.one (.fn 61 [])) ∧ (∃ w ms, T 5 = .v (.one w) ∧ NwS h h' (.one w) ms ∧ ms.length = cnt byPlace l i) ∧ T 9 = .v (.one q) ∧ T 10 = .v (.one (.int .i64 l.length)) ∧ T 11 = .v (.one (.int .i64 i))) l.length ?_ ?_ (Nat.zero_le _) ?_
  · rintro i T L h' hi ⟨g, t1, ⟨w, ms, t5, z, hc⟩, t9, t10, t11⟩
    have k := hl.grow g
    have es := fun h => c_placed l[i] h
    simp only [encQ] at es
    have hx := cnt_le (p := byPlace) (l := l) (i := i)
    cases b : byPlace l[i] with
    | false =>
      simp +contextual (maxSteps := 2000000) only [go_sem, Nat.reduceEqDiff, reduceCtorEq, Nat.reduceAdd, Nat.reduceLeDiff, t1, t5, t9, t10, t11, lt_true hi, k.iaddr hi, k.whole hi, encQ, es, b]
      exact ⟨g, ⟨w, ms, rfl, z, by rw [hc, cnt_next hi, b]; rfl⟩, by rw [wrap_next hi (by omega)]⟩
    | true =>
      simp +contextual (maxSteps := 2000000) only [go_sem, Nat.reduceEqDiff, reduceCtorEq, Nat.reduceAdd, Nat.reduceLeDiff, t1, t5, t9, t10, t11, lt_true hi, k.iaddr hi, k.whole hi, encQ, es, b]
      refine wp_lit (enc := encS) (k := 1) (l := [l[i].name]) rfl rfl ?_
      intro h3 w3 g3 n3 _
      simp +contextual (maxSteps := 2000000) only [go_sem, Nat.reduceEqDiff, reduceCtorEq, Nat.reduceAdd, Nat.reduceLeDiff, t1, t5, t9, t10, t11]
      refine wp_append lenS (z.grow g3) (n3.sl lenS) (g.trans g3) (by simp; omega) ?_
      intro h4 s4 g4 n4 st4 hb4
      obtain ⟨c4, rfl⟩ := n4.one
      simp +contextual (maxSteps := 2000000) only [go_sem, Nat.reduceEqDiff, reduceCtorEq, Nat.reduceAdd, Nat.reduceLeDiff, t1, t5, t9, t10, t11]
      exact ⟨g4, ⟨c4, _, rfl, n4, by rw [cnt_next hi, b, List.length_append, hc]; rfl⟩, by rw [wrap_next hi (by omega)]⟩
  · rintro T L h' ⟨g, t1, ⟨w, ms, t5, z, hc⟩, t9, t10, t11⟩
    simp +contextual (maxSteps := 2000000) only [go_sem, Nat.reduceEqDiff, reduceCtorEq, Nat.reduceAdd, Nat.reduceLeDiff, t1, t5, t9, t10, t11, lt_false]
    refine wp_call (c_clipS _ _ h' z) ?_
    rintro r h2 ⟨rfl, n2⟩
    simp +contextual (maxSteps := 2000000) only [go_sem, Nat.reduceEqDiff, reduceCtorEq, Nat.reduceAdd, Nat.reduceLeDiff]
    rw [cnt_all] at hc
    exact gcK_of ⟨g, _, n2, hc⟩ (fun hs _ => ⟨Grow.refl h, _, n2.scalar hs h, hc⟩)
  · simp +contextual (maxSteps := 2000000) only [go_sem, Nat.reduceEqDiff, reduceCtorEq, Nat.reduceAdd, Nat.reduceLeDiff]
    exact ⟨Grow.refl h, ⟨_, [], rfl, .nil, by rw [cnt_zero]; rfl⟩, rfl⟩
theorem c_namesG (l : List Param) (q : CV) (f : Nat) (caps : List (Nat × Nat)) (may : Param → Bool) (h : H) (hl : SlQ h (.one q) l) (hn : l.length ≤ 100) (hf : ∀ h', Grow h h' → ∀ x, bm Try.prog f (.agg (encQ x) :: caps.map fun a => .one (.ptr (some a))) h' = some (ib (may x), h')) :
    callK (bm Try.prog 67 [.agg [q], .one (.fn f caps)] h) fun r h' => Grow h h' ∧ NwS h h' r ((l.filter may).map Param.name) := by
  refine bm_of cF67 ?_
  simp +contextual (maxSteps := 2000000) only [go_sem, Nat.reduceEqDiff, reduceCtorEq, Nat.reduceAdd, Nat.reduceLeDiff, F67, hl.len]
  refine wpC_loop (fun i T L h' => Grow h h' ∧ T 1 = .v (.one (.fn f caps)) ∧ (∃ w, T 5 = .v (.one w) ∧ NwS h h' (.one w) (((l.take i).filter may).map Param.name)) ∧ T 9 = .v (.one q) ∧ T 10 = .v (.one (.int .i64 l.length)) ∧ T 11 = .v (.one (.int .i64 i))) l.length ?_ ?_ (Nat.zero_le _) ?_
  · rintro i T L h' hi ⟨g, t1, ⟨w, t5, z⟩, t9, t10, t11⟩
    have k := hl.grow g
    have es := hf h' g l[i]
    simp only [encQ] at es
    have hx : ((l.take i).filter may).length ≤ i := Nat.le_trans (List.length_filter_le _ _) (by simp; omega)
    have en : (((l.take (i + 1)).filter may).map Param.name) = (((l.take i).filter may).map Param.name) ++ if may l[i] = true then [l[i].name] else [] := by
      rw [List.take_succ_eq_append_getElem hi, List.filter_append, List.map_append]
      cases b : may l[i] <;> simp [List.filter, b]
    cases b : may l[i] with
    | false =>
      rw [b] at en
      simp +contextual (maxSteps := 2000000) only [go_sem, Nat.reduceEqDiff, reduceCtorEq, Nat.reduceAdd, Nat.reduceLeDiff, t1, t5, t9, t10, t11, lt_true hi, k.iaddr hi, k.whole hi, encQ, es, b]
      exact ⟨g, ⟨w, rfl, by rw [en]; simp only [Bool.false_eq_true, if_false, List.append_nil]; exact z⟩, by rw [wrap_next hi (by omega)]⟩
    | true =>
      rw [b] at en
      simp +contextual (maxSteps := 2000000) only [go_sem, Nat.reduceEqDiff, reduceCtorEq, Nat.reduceAdd, Nat.reduceLeDiff, t1, t5, t9, t10, t11, lt_true hi, k.iaddr hi, k.whole hi, encQ, es, b]
      refine wp_lit (enc := encS) (k := 1) (l := [l[i].name]) rfl rfl ?_
      intro h3 w3 g3 n3 _
      simp +contextual (maxSteps := 2000000) only [go_sem, Nat.reduceEqDiff, reduceCtorEq, Nat.reduceAdd, Nat.reduceLeDiff, t1, t5, t9, t10, t11]
      refine wp_append lenS (z.grow g3) (n3.sl lenS) (g.trans g3) (by simp; omega) ?_
      intro h4 s4 g4 n4 st4 hb4
      obtain ⟨c4, rfl⟩ := n4.one
      simp +contextual (maxSteps := 2000000) only [go_sem, Nat.reduceEqDiff, reduceCtorEq, Nat.reduceAdd, Nat.reduceLeDiff, t1, t5, t9, t10, t11]
      exact ⟨g4, ⟨c4, rfl, by rw [en]; exact n4⟩, by rw [wrap_next hi (by omega)]⟩
  · rintro T L h' ⟨g, t1, ⟨w, t5, z⟩, t9, t10, t11⟩
    rw [List.take_length] at z
    simp +contextual (maxSteps := 2000000) only [go_sem, Nat.reduceEqDiff, reduceCtorEq, Nat.reduceAdd, Nat.reduceLeDiff, t1, t5, t9, t10, t11, lt_false]
    refine wp_call (c_clipS _ _ h' z) ?_
    rintro r h2 ⟨rfl, n2⟩
    simp +contextual (maxSteps := 2000000) only [go_sem, Nat.reduceEqDiff, reduceCtorEq, Nat.reduceAdd, Nat.reduceLeDiff]
    exact gcK_of ⟨g, n2⟩ (fun hs _ => ⟨Grow.refl h, n2.scalar hs h⟩)
  · simp +contextual (maxSteps := 2000000) only [go_sem, Nat.reduceEqDiff, reduceCtorEq, Nat.reduceAdd, Nat.reduceLeDiff]
    exact ⟨Grow.refl h, ⟨_, rfl, .nil⟩, rfl⟩
/-- The places among the first i. -/
theorem cnt_place {l : List Param} (o : Ord l) : ∀ i, i ≤ l.length → cnt byPlace l i = min i (places l)
  | 0, _ => by rw [cnt_zero]; omega
  | i + 1, hi => by
    rw [cnt_next (show i < l.length by omega), cnt_place o i (by omega), o.place (show i < l.length by omega)]
    by_cases e : i < places l
    · rw [decide_eq_true e, if_pos rfl]; omega
    · rw [decide_eq_false e, if_neg (by simp)]; omega
theorem kind0_single {p : Param} (h : single p = false) : decide (p.kind = 0) = false := by
  cases b : decide (p.kind = 0) with
  | false => rfl
  | true => simp [single, byPlace, b] at h
theorem kind0_place {p : Param} (h : decide (p.kind = 0) = true) : byPlace p = true := by simp [byPlace, h]
end Go.Proofs.Ytekkimfdcbgcoac.Am
