/- Contracts of the program: copies, calls over each other. -/
import Derived.Test.YtnphlonhogcedaaA3
namespace Go.Proofs.Ytnphlonhogcedaa.Am
open Go
set_option maxRecDepth 100000
set_option maxHeartbeats 4000000
set_option linter.unusedSimpArgs false
set_option linter.unusedVariables false
attribute [local go_sem ↓] bv_t bv_c ev_t ev_c put_same put_ne put_none kill_at pro_at lb_same lb_ne start_zero start_succ wpC_seq wpC_reg wpC_cond wpC_block wpC_skip wpC_exit wpC_ret thenQ_normal thenQ_exit thenQ_ret inBlk_normal inBlk_exit inBlk_ret wpS_nil wpS_step wpS_again wpS_guard wpO_mov wpO_load wpO_faddr wpO_nilCheck wpO_pick wpO_build wpO_bin wpO_eqb wpO_eqst wpO_eqnil wpO_not wpO_conv wpO_bytesStr wpO_iaddr wpO_idxStr wpO_field wpO_extract wpO_len wpO_lenStr wpO_cap wpO_min wpO_slice wpO_sliceStr wpO_alloc wpO_box wpO_store wpO_call wpO_callv wpO_mkfn wpO_buildSlice wpO_mkslice wpO_append wpO_appz proA_nil proA_cons tmpX_nil tmpX_tmp tmpX_cell doneB_normal doneB_ret agK_cons agK_nil agK_guard agG_tt agG_ff agG_tf agG_ft agG_undef pureB_load results_one results_two results_nil resBs_cons resBs_nil resB_tmp resB_cell
attribute [local go_sem] kill_v kill_lp_ne kill_lp_same pro_v pro_lp_same pro_lp_ne av_v av_lp optB_some optX_some valX_eq ldX_lp ldX_v faX_lp faX_v ncX_lp ncX_ptr ncX_fn boxK_one boxK_agg stL_some stK_lp_one stK_lp_agg stK_v_one stK_v_agg proM_v proM_lp callG_mk callVG_mk callvK_fn fnG_mk ptrsA_nil ptrsA_cons callH_some whenA_true whenA_false guardH_tt guardH_ff guardH_tf guardH_ft guardH_undef agV_one agV_agg lenO_sl lenStrO_str notO_bool pickO_bool convO_int eqbO_bool eqnilO_sl extractO_tup capO_sl minO_int loadL_one loadL_all storeL_eq fillA_nil fillA_one fillA_agg nat_ge neg_ge nat_lt neg_lt buildO bin_add bin_sub bin_mul bin_eql bin_neq bin_lss bin_leq bin_gtr bin_geq str_eql str_neq str_lss str_leq str_gtr str_geq retK_some endK_mk gcK_same gcK_int gcK_bool tupO_one tupO_agg rdy_self ib ii Option.map_none Option.map_some Option.some.injEq exists_eq_left' exists_eq_left ne_eq not_false_eq_true if_true if_false List.map_cons List.map_nil List.getElem?_cons_zero List.getElem?_cons_succ List.length_cons List.length_nil List.take_succ_cons List.take_zero List.take_nil List.drop_succ_cons List.drop_zero List.drop_nil List.cons_append List.nil_append List.append_nil List.set_cons_zero List.set_cons_succ Nat.zero_add forall_const true_and and_true and_self Bool.false_eq_true false_implies true_implies implies_true Bool.not_true Bool.not_false Bool.not_eq_true' Bool.not_eq_false' beq_self_eq_true Bool.bne_true Bool.bne_false
attribute [local go_sem] lenI lenS lenP lenQ lenB lenL lenT encI_0 encS_0 encP_0 encP_1 encQ_0 encQ_1 encQ_2 encQ_3 encB_0 encB_1 encL_0 encL_1 encT_0 encT_1
attribute [local go_sem low] whenA_bool guardH_bool
/-! slices.Clip(()int,int) -/
def L188_0 : List AStep := [⟨.mov (.c (.sl none 0 (some 0))), (some 2), none, []⟩]
theorem v188_0 : VS L188_0.eq_1 := rfl
def L188_1 : List AStep := [⟨.mov (.t 8), (some 2), none, []⟩]
theorem v188_1 : VS L188_1.eq_1 := rfl
def L188_2 : List AStep := ⟨.len (.t 6), (some 7), none, []⟩ :: ⟨.slice 3 1 (.t 3) none (some (.t 5)) (some (.t 7)), (some 8), none, []⟩ :: L188_1
theorem v188_2 : VS L188_2.eq_1 := rfl
def L188_3 : List AStep := ⟨.len (.t 4), (some 5), none, []⟩ :: ⟨.mov (.t 0), (some 6), none, []⟩ :: L188_2
theorem v188_3 : VS L188_3.eq_1 := rfl
def L188_4 : List AStep := ⟨.mov (.t 0), (some 3), none, []⟩ :: ⟨.mov (.t 0), (some 4), none, []⟩ :: L188_3
theorem v188_4 : VS L188_4.eq_1 := rfl
def C188_0 : ACode := .seq (.reg L188_4) .ret
theorem u188_0 : VC C188_0.eq_1 := rfl
def C188_1 : ACode := .seq (.reg L188_0) C188_0
theorem u188_1 : VC C188_1.eq_1 := rfl
def F188 : AFunc := ⟨9, [.tmp 2], C188_1⟩
theorem cF188 : compB Try.prog 188 = some F188 := by kernel_rfl
attribute [local go_sem ↓] u188_0 u188_1 v188_0 v188_1 v188_2 v188_3 v188_4
theorem c_clipI {h0 : H} (l : List Int) (v : AV) (h : H) (hl : NwI h0 h v l) : callK (bm Try.prog 188 [v] h) fun r h' => h' = h ∧ NwI h0 h r l := by
  refine bm_of cF188 ?_
  obtain ⟨w, e1, n1⟩ := hl.clipO (kd := .i64) (kd' := .i64)
  simp +contextual (maxSteps := 2000000) only [go_sem, Nat.reduceEqDiff, reduceCtorEq, Nat.reduceAdd, Nat.reduceLeDiff, F188, hl.length, e1]
  exact n1
theorem c_clipbI {h0 : H} (l : List Int) (v : AV) (h : H) (hl : NwI h0 h v l) : callK (bm Try.prog 188 [v] h) fun r h' => h' = h ∧ NwI h0 h r l ∧ ∀ i, baseOf r = some i → baseOf v = some i := by
  refine bm_of cF188 ?_
  obtain ⟨w, e1, n1⟩ := hl.clipB (kd := .i64) (kd' := .i64)
  simp +contextual (maxSteps := 2000000) only [go_sem, Nat.reduceEqDiff, reduceCtorEq, Nat.reduceAdd, Nat.reduceLeDiff, F188, hl.length, e1]
  exact n1
/-! slices.Clone(()int,int) -/
def L189_0 : List AStep := [⟨.mov (.c (.sl none 0 (some 0))), (some 2), none, []⟩]
theorem v189_0 : VS L189_0.eq_1 := rfl
def L189_1 : List AStep := [⟨.mov (.t 0), (some 3), none, []⟩, ⟨.eqnil false (.t 3) (.c (.sl none 0 (some 0))), (some 4), none, []⟩]
theorem v189_1 : VS L189_1.eq_1 := rfl
def L189_2 : List AStep := [⟨.mov (.c (.sl none 0 (some 0))), (some 2), none, []⟩]
theorem v189_2 : VS L189_2.eq_1 := rfl
def L189_3 : List AStep := [⟨.append 3 1 8 (.t 5) (.t 6), (some 7), none, []⟩, ⟨.mov (.t 7), (some 2), none, []⟩]
theorem v189_3 : VS L189_3.eq_1 := rfl
def L189_4 : List AStep := ⟨.buildSlice 3 0 [(.int .i64 0)] [], (some 5), none, []⟩ :: ⟨.mov (.t 0), (some 6), none, []⟩ :: L189_3
theorem v189_4 : VS L189_4.eq_1 := rfl
def C189_0 : ACode := .seq (.reg L189_2) .ret
theorem u189_0 : VC C189_0.eq_1 := rfl
def C189_1 : ACode := .cond (.t 4) C189_0 .skip
theorem u189_1 : VC C189_1.eq_1 := rfl
def C189_2 : ACode := .seq (.reg L189_1) C189_1
theorem u189_2 : VC C189_2.eq_1 := rfl
def C189_3 : ACode := .seq (.reg L189_4) .ret
theorem u189_3 : VC C189_3.eq_1 := rfl
def C189_4 : ACode := .seq C189_2 C189_3
theorem u189_4 : VC C189_4.eq_1 := rfl
def C189_5 : ACode := .seq (.reg L189_0) C189_4
theorem u189_5 : VC C189_5.eq_1 := rfl
def F189 : AFunc := ⟨8, [.tmp 2], C189_5⟩
theorem cF189 : compB Try.prog 189 = some F189 := by kernel_rfl
attribute [local go_sem ↓] u189_0 u189_1 u189_2 u189_3 u189_4 u189_5 v189_0 v189_1 v189_2 v189_3 v189_4
theorem c_clone0I (l : List Int) (v : AV) (h : H) (hl : SlI h v l) (hn : l.length ≤ big) : callK (bm Try.prog 189 [v] h) fun r h' => Grow h h' ∧ NwI h h' r l := by
  refine bm_of cF189 ?_
  obtain ⟨b, e1, e2⟩ := hl.isNil
  simp +contextual (maxSteps := 2000000) only [go_sem, Nat.reduceEqDiff, reduceCtorEq, Nat.reduceAdd, Nat.reduceLeDiff, F189, e1]
  cases b with
  | true =>
    obtain rfl := e2 rfl
    simp +contextual (maxSteps := 2000000) only [go_sem, Nat.reduceEqDiff, reduceCtorEq, Nat.reduceAdd, Nat.reduceLeDiff]
    exact ⟨Grow.refl h, .nil⟩
  | false =>
    simp +contextual (maxSteps := 2000000) only [go_sem, Nat.reduceEqDiff, reduceCtorEq, Nat.reduceAdd, Nat.reduceLeDiff]
    refine wp_lit (enc := encI) (k := 1) (l := []) rfl rfl ?_
    intro h1 w g1 n1 _
    simp +contextual (maxSteps := 2000000) only [go_sem, Nat.reduceEqDiff, reduceCtorEq, Nat.reduceAdd, Nat.reduceLeDiff]
    refine wp_append lenI n1 (hl.grow g1) g1 (by have := hn; unfold big at this; simp; omega) ?_
    intro h2 s g2 n2 _ _
    simp +contextual (maxSteps := 2000000) only [go_sem, Nat.reduceEqDiff, reduceCtorEq, Nat.reduceAdd, Nat.reduceLeDiff]
    exact gcK_of ⟨g2, n2⟩ (fun hs _ => ⟨Grow.refl h, n2.scalar hs h⟩)
/-! impl.clone(int) -/
def L121_0 : List AStep := [⟨.mov (.c (.sl none 0 (some 0))), (some 2), none, []⟩]
theorem v121_0 : VS L121_0.eq_1 := rfl
def L121_1 : List AStep := [⟨.call 188 [(.t 4)], (some 5), none, []⟩, ⟨.mov (.t 5), (some 2), none, []⟩]
theorem v121_1 : VS L121_1.eq_1 := rfl
def L121_2 : List AStep := ⟨.mov (.t 0), (some 3), none, []⟩ :: ⟨.call 189 [(.t 3)], (some 4), none, []⟩ :: L121_1
theorem v121_2 : VS L121_2.eq_1 := rfl
def C121_0 : ACode := .seq (.reg L121_2) .ret
theorem u121_0 : VC C121_0.eq_1 := rfl
def C121_1 : ACode := .seq (.reg L121_0) C121_0
theorem u121_1 : VC C121_1.eq_1 := rfl
def F121 : AFunc := ⟨6, [.tmp 2], C121_1⟩
theorem cF121 : compB Try.prog 121 = some F121 := by kernel_rfl
attribute [local go_sem ↓] u121_0 u121_1 v121_0 v121_1 v121_2
theorem c_cloneI (l : List Int) (v : AV) (h : H) (hl : SlI h v l) (hn : l.length ≤ big) : callK (bm Try.prog 121 [v] h) fun r h' => Grow h h' ∧ NwI h h' r l := by
  refine bm_of cF121 ?_
  simp +contextual (maxSteps := 2000000) only [go_sem, Nat.reduceEqDiff, reduceCtorEq, Nat.reduceAdd, Nat.reduceLeDiff, F121]
  refine wp_call (c_clone0I l v h hl hn) ?_
  rintro r h1 ⟨g1, n1⟩
  simp +contextual (maxSteps := 2000000) only [go_sem, Nat.reduceEqDiff, reduceCtorEq, Nat.reduceAdd, Nat.reduceLeDiff]
  refine wp_call (c_clipI l r h1 n1) ?_
  rintro r2 h2 ⟨rfl, n2⟩
  simp +contextual (maxSteps := 2000000) only [go_sem, Nat.reduceEqDiff, reduceCtorEq, Nat.reduceAdd, Nat.reduceLeDiff]
  exact gcK_of ⟨g1, n2⟩ (fun hs _ => ⟨Grow.refl h, n2.scalar hs h⟩)
/-! slices.Clip(()impl.Pair,impl.Pair) -/
def L166_0 : List AStep := [⟨.mov (.c (.sl none 0 (some 0))), (some 2), none, []⟩]
theorem v166_0 : VS L166_0.eq_1 := rfl
def L166_1 : List AStep := [⟨.mov (.t 8), (some 2), none, []⟩]
theorem v166_1 : VS L166_1.eq_1 := rfl
def L166_2 : List AStep := ⟨.len (.t 6), (some 7), none, []⟩ :: ⟨.slice 86 2 (.t 3) none (some (.t 5)) (some (.t 7)), (some 8), none, []⟩ :: L166_1
theorem v166_2 : VS L166_2.eq_1 := rfl
def L166_3 : List AStep := ⟨.len (.t 4), (some 5), none, []⟩ :: ⟨.mov (.t 0), (some 6), none, []⟩ :: L166_2
theorem v166_3 : VS L166_3.eq_1 := rfl
def L166_4 : List AStep := ⟨.mov (.t 0), (some 3), none, []⟩ :: ⟨.mov (.t 0), (some 4), none, []⟩ :: L166_3
theorem v166_4 : VS L166_4.eq_1 := rfl
def C166_0 : ACode := .seq (.reg L166_4) .ret
theorem u166_0 : VC C166_0.eq_1 := rfl
def C166_1 : ACode := .seq (.reg L166_0) C166_0
theorem u166_1 : VC C166_1.eq_1 := rfl
def F166 : AFunc := ⟨9, [.tmp 2], C166_1⟩
theorem cF166 : compB Try.prog 166 = some F166 := by kernel_rfl
attribute [local go_sem ↓] u166_0 u166_1 v166_0 v166_1 v166_2 v166_3 v166_4
theorem c_clipP {h0 : H} (l : List Pair) (v : AV) (h : H) (hl : NwP h0 h v l) : callK (bm Try.prog 166 [v] h) fun r h' => h' = h ∧ NwP h0 h r l := by
  refine bm_of cF166 ?_
  obtain ⟨w, e1, n1⟩ := hl.clipO (kd := .i64) (kd' := .i64)
  simp +contextual (maxSteps := 2000000) only [go_sem, Nat.reduceEqDiff, reduceCtorEq, Nat.reduceAdd, Nat.reduceLeDiff, F166, hl.length, e1]
  exact n1
theorem c_clipbP {h0 : H} (l : List Pair) (v : AV) (h : H) (hl : NwP h0 h v l) : callK (bm Try.prog 166 [v] h) fun r h' => h' = h ∧ NwP h0 h r l ∧ ∀ i, baseOf r = some i → baseOf v = some i := by
  refine bm_of cF166 ?_
  obtain ⟨w, e1, n1⟩ := hl.clipB (kd := .i64) (kd' := .i64)
  simp +contextual (maxSteps := 2000000) only [go_sem, Nat.reduceEqDiff, reduceCtorEq, Nat.reduceAdd, Nat.reduceLeDiff, F166, hl.length, e1]
  exact n1
/-! slices.Clone(()impl.Pair,impl.Pair) -/
def L167_0 : List AStep := [⟨.mov (.c (.sl none 0 (some 0))), (some 2), none, []⟩]
theorem v167_0 : VS L167_0.eq_1 := rfl
def L167_1 : List AStep := [⟨.mov (.t 0), (some 3), none, []⟩, ⟨.eqnil false (.t 3) (.c (.sl none 0 (some 0))), (some 4), none, []⟩]
theorem v167_1 : VS L167_1.eq_1 := rfl
def L167_2 : List AStep := [⟨.mov (.c (.sl none 0 (some 0))), (some 2), none, []⟩]
theorem v167_2 : VS L167_2.eq_1 := rfl
def L167_3 : List AStep := [⟨.append 86 2 24 (.t 5) (.t 6), (some 7), none, []⟩, ⟨.mov (.t 7), (some 2), none, []⟩]
theorem v167_3 : VS L167_3.eq_1 := rfl
def L167_4 : List AStep := ⟨.buildSlice 86 0 [(.str (strOfNums [])), (.int .i64 0)] [], (some 5), none, []⟩ :: ⟨.mov (.t 0), (some 6), none, []⟩ :: L167_3
theorem v167_4 : VS L167_4.eq_1 := rfl
def C167_0 : ACode := .seq (.reg L167_2) .ret
theorem u167_0 : VC C167_0.eq_1 := rfl
def C167_1 : ACode := .cond (.t 4) C167_0 .skip
theorem u167_1 : VC C167_1.eq_1 := rfl
def C167_2 : ACode := .seq (.reg L167_1) C167_1
theorem u167_2 : VC C167_2.eq_1 := rfl
def C167_3 : ACode := .seq (.reg L167_4) .ret
theorem u167_3 : VC C167_3.eq_1 := rfl
def C167_4 : ACode := .seq C167_2 C167_3
theorem u167_4 : VC C167_4.eq_1 := rfl
def C167_5 : ACode := .seq (.reg L167_0) C167_4
theorem u167_5 : VC C167_5.eq_1 := rfl
def F167 : AFunc := ⟨8, [.tmp 2], C167_5⟩
theorem cF167 : compB Try.prog 167 = some F167 := by kernel_rfl
attribute [local go_sem ↓] u167_0 u167_1 u167_2 u167_3 u167_4 u167_5 v167_0 v167_1 v167_2 v167_3 v167_4
theorem c_clone0P (l : List Pair) (v : AV) (h : H) (hl : SlP h v l) (hn : l.length ≤ big) : callK (bm Try.prog 167 [v] h) fun r h' => Grow h h' ∧ NwP h h' r l := by
  refine bm_of cF167 ?_
  obtain ⟨b, e1, e2⟩ := hl.isNil
  simp +contextual (maxSteps := 2000000) only [go_sem, Nat.reduceEqDiff, reduceCtorEq, Nat.reduceAdd, Nat.reduceLeDiff, F167, e1]
  cases b with
  | true =>
    obtain rfl := e2 rfl
    simp +contextual (maxSteps := 2000000) only [go_sem, Nat.reduceEqDiff, reduceCtorEq, Nat.reduceAdd, Nat.reduceLeDiff]
    exact ⟨Grow.refl h, .nil⟩
  | false =>
    simp +contextual (maxSteps := 2000000) only [go_sem, Nat.reduceEqDiff, reduceCtorEq, Nat.reduceAdd, Nat.reduceLeDiff]
    refine wp_lit (enc := encP) (k := 2) (l := []) rfl rfl ?_
    intro h1 w g1 n1 _
    simp +contextual (maxSteps := 2000000) only [go_sem, Nat.reduceEqDiff, reduceCtorEq, Nat.reduceAdd, Nat.reduceLeDiff]
    refine wp_append lenP n1 (hl.grow g1) g1 (by have := hn; unfold big at this; simp; omega) ?_
    intro h2 s g2 n2 _ _
    simp +contextual (maxSteps := 2000000) only [go_sem, Nat.reduceEqDiff, reduceCtorEq, Nat.reduceAdd, Nat.reduceLeDiff]
    exact gcK_of ⟨g2, n2⟩ (fun hs _ => ⟨Grow.refl h, n2.scalar hs h⟩)
/-! impl.clone(impl.Pair) -/
def L87_0 : List AStep := [⟨.mov (.c (.sl none 0 (some 0))), (some 2), none, []⟩]
theorem v87_0 : VS L87_0.eq_1 := rfl
def L87_1 : List AStep := [⟨.call 166 [(.t 4)], (some 5), none, []⟩, ⟨.mov (.t 5), (some 2), none, []⟩]
theorem v87_1 : VS L87_1.eq_1 := rfl
def L87_2 : List AStep := ⟨.mov (.t 0), (some 3), none, []⟩ :: ⟨.call 167 [(.t 3)], (some 4), none, []⟩ :: L87_1
theorem v87_2 : VS L87_2.eq_1 := rfl
def C87_0 : ACode := .seq (.reg L87_2) .ret
theorem u87_0 : VC C87_0.eq_1 := rfl
def C87_1 : ACode := .seq (.reg L87_0) C87_0
theorem u87_1 : VC C87_1.eq_1 := rfl
def F87 : AFunc := ⟨6, [.tmp 2], C87_1⟩
theorem cF87 : compB Try.prog 87 = some F87 := by kernel_rfl
attribute [local go_sem ↓] u87_0 u87_1 v87_0 v87_1 v87_2
theorem c_cloneP (l : List Pair) (v : AV) (h : H) (hl : SlP h v l) (hn : l.length ≤ big) : callK (bm Try.prog 87 [v] h) fun r h' => Grow h h' ∧ NwP h h' r l := by
  refine bm_of cF87 ?_
  simp +contextual (maxSteps := 2000000) only [go_sem, Nat.reduceEqDiff, reduceCtorEq, Nat.reduceAdd, Nat.reduceLeDiff, F87]
  refine wp_call (c_clone0P l v h hl hn) ?_
  rintro r h1 ⟨g1, n1⟩
  simp +contextual (maxSteps := 2000000) only [go_sem, Nat.reduceEqDiff, reduceCtorEq, Nat.reduceAdd, Nat.reduceLeDiff]
  refine wp_call (c_clipP l r h1 n1) ?_
  rintro r2 h2 ⟨rfl, n2⟩
  simp +contextual (maxSteps := 2000000) only [go_sem, Nat.reduceEqDiff, reduceCtorEq, Nat.reduceAdd, Nat.reduceLeDiff]
  exact gcK_of ⟨g1, n2⟩ (fun hs _ => ⟨Grow.refl h, n2.scalar hs h⟩)
/-! slices.Clip(()impl.Place,impl.Place) -/
def L164_0 : List AStep := [⟨.mov (.c (.sl none 0 (some 0))), (some 2), none, []⟩]
theorem v164_0 : VS L164_0.eq_1 := rfl
def L164_1 : List AStep := [⟨.mov (.t 8), (some 2), none, []⟩]
theorem v164_1 : VS L164_1.eq_1 := rfl
def L164_2 : List AStep := ⟨.len (.t 6), (some 7), none, []⟩ :: ⟨.slice 83 2 (.t 3) none (some (.t 5)) (some (.t 7)), (some 8), none, []⟩ :: L164_1
theorem v164_2 : VS L164_2.eq_1 := rfl
def L164_3 : List AStep := ⟨.len (.t 4), (some 5), none, []⟩ :: ⟨.mov (.t 0), (some 6), none, []⟩ :: L164_2
theorem v164_3 : VS L164_3.eq_1 := rfl
def L164_4 : List AStep := ⟨.mov (.t 0), (some 3), none, []⟩ :: ⟨.mov (.t 0), (some 4), none, []⟩ :: L164_3
theorem v164_4 : VS L164_4.eq_1 := rfl
def C164_0 : ACode := .seq (.reg L164_4) .ret
theorem u164_0 : VC C164_0.eq_1 := rfl
def C164_1 : ACode := .seq (.reg L164_0) C164_0
theorem u164_1 : VC C164_1.eq_1 := rfl
def F164 : AFunc := ⟨9, [.tmp 2], C164_1⟩
theorem cF164 : compB Try.prog 164 = some F164 := by kernel_rfl
attribute [local go_sem ↓] u164_0 u164_1 v164_0 v164_1 v164_2 v164_3 v164_4
theorem c_clipL {h0 : H} (l : List Place) (v : AV) (h : H) (hl : NwL h0 h v l) : callK (bm Try.prog 164 [v] h) fun r h' => h' = h ∧ NwL h0 h r l := by
  refine bm_of cF164 ?_
  obtain ⟨w, e1, n1⟩ := hl.clipO (kd := .i64) (kd' := .i64)
  simp +contextual (maxSteps := 2000000) only [go_sem, Nat.reduceEqDiff, reduceCtorEq, Nat.reduceAdd, Nat.reduceLeDiff, F164, hl.length, e1]
  exact n1
theorem c_clipbL {h0 : H} (l : List Place) (v : AV) (h : H) (hl : NwL h0 h v l) : callK (bm Try.prog 164 [v] h) fun r h' => h' = h ∧ NwL h0 h r l ∧ ∀ i, baseOf r = some i → baseOf v = some i := by
  refine bm_of cF164 ?_
  obtain ⟨w, e1, n1⟩ := hl.clipB (kd := .i64) (kd' := .i64)
  simp +contextual (maxSteps := 2000000) only [go_sem, Nat.reduceEqDiff, reduceCtorEq, Nat.reduceAdd, Nat.reduceLeDiff, F164, hl.length, e1]
  exact n1
/-! slices.Clone(()impl.Place,impl.Place) -/
def L165_0 : List AStep := [⟨.mov (.c (.sl none 0 (some 0))), (some 2), none, []⟩]
theorem v165_0 : VS L165_0.eq_1 := rfl
def L165_1 : List AStep := [⟨.mov (.t 0), (some 3), none, []⟩, ⟨.eqnil false (.t 3) (.c (.sl none 0 (some 0))), (some 4), none, []⟩]
theorem v165_1 : VS L165_1.eq_1 := rfl
def L165_2 : List AStep := [⟨.mov (.c (.sl none 0 (some 0))), (some 2), none, []⟩]
theorem v165_2 : VS L165_2.eq_1 := rfl
def L165_3 : List AStep := [⟨.append 83 2 16 (.t 5) (.t 6), (some 7), none, []⟩, ⟨.mov (.t 7), (some 2), none, []⟩]
theorem v165_3 : VS L165_3.eq_1 := rfl
def L165_4 : List AStep := ⟨.buildSlice 83 0 [(.bool false), (.int .i64 0)] [], (some 5), none, []⟩ :: ⟨.mov (.t 0), (some 6), none, []⟩ :: L165_3
theorem v165_4 : VS L165_4.eq_1 := rfl
def C165_0 : ACode := .seq (.reg L165_2) .ret
theorem u165_0 : VC C165_0.eq_1 := rfl
def C165_1 : ACode := .cond (.t 4) C165_0 .skip
theorem u165_1 : VC C165_1.eq_1 := rfl
def C165_2 : ACode := .seq (.reg L165_1) C165_1
theorem u165_2 : VC C165_2.eq_1 := rfl
def C165_3 : ACode := .seq (.reg L165_4) .ret
theorem u165_3 : VC C165_3.eq_1 := rfl
def C165_4 : ACode := .seq C165_2 C165_3
theorem u165_4 : VC C165_4.eq_1 := rfl
def C165_5 : ACode := .seq (.reg L165_0) C165_4
theorem u165_5 : VC C165_5.eq_1 := rfl
def F165 : AFunc := ⟨8, [.tmp 2], C165_5⟩
theorem cF165 : compB Try.prog 165 = some F165 := by kernel_rfl
attribute [local go_sem ↓] u165_0 u165_1 u165_2 u165_3 u165_4 u165_5 v165_0 v165_1 v165_2 v165_3 v165_4
theorem c_clone0L (l : List Place) (v : AV) (h : H) (hl : SlL h v l) (hn : l.length ≤ big) : callK (bm Try.prog 165 [v] h) fun r h' => Grow h h' ∧ NwL h h' r l := by
  refine bm_of cF165 ?_
  obtain ⟨b, e1, e2⟩ := hl.isNil
  simp +contextual (maxSteps := 2000000) only [go_sem, Nat.reduceEqDiff, reduceCtorEq, Nat.reduceAdd, Nat.reduceLeDiff, F165, e1]
  cases b with
  | true =>
    obtain rfl := e2 rfl
    simp +contextual (maxSteps := 2000000) only [go_sem, Nat.reduceEqDiff, reduceCtorEq, Nat.reduceAdd, Nat.reduceLeDiff]
    exact ⟨Grow.refl h, .nil⟩
  | false =>
    simp +contextual (maxSteps := 2000000) only [go_sem, Nat.reduceEqDiff, reduceCtorEq, Nat.reduceAdd, Nat.reduceLeDiff]
    refine wp_lit (enc := encL) (k := 2) (l := []) rfl rfl ?_
    intro h1 w g1 n1 _
    simp +contextual (maxSteps := 2000000) only [go_sem, Nat.reduceEqDiff, reduceCtorEq, Nat.reduceAdd, Nat.reduceLeDiff]
    refine wp_append lenL n1 (hl.grow g1) g1 (by have := hn; unfold big at this; simp; omega) ?_
    intro h2 s g2 n2 _ _
    simp +contextual (maxSteps := 2000000) only [go_sem, Nat.reduceEqDiff, reduceCtorEq, Nat.reduceAdd, Nat.reduceLeDiff]
    exact gcK_of ⟨g2, n2⟩ (fun hs _ => ⟨Grow.refl h, n2.scalar hs h⟩)
/-! impl.clone(impl.Place) -/
def L85_0 : List AStep := [⟨.mov (.c (.sl none 0 (some 0))), (some 2), none, []⟩]
theorem v85_0 : VS L85_0.eq_1 := rfl
def L85_1 : List AStep := [⟨.call 164 [(.t 4)], (some 5), none, []⟩, ⟨.mov (.t 5), (some 2), none, []⟩]
theorem v85_1 : VS L85_1.eq_1 := rfl
def L85_2 : List AStep := ⟨.mov (.t 0), (some 3), none, []⟩ :: ⟨.call 165 [(.t 3)], (some 4), none, []⟩ :: L85_1
theorem v85_2 : VS L85_2.eq_1 := rfl
def C85_0 : ACode := .seq (.reg L85_2) .ret
theorem u85_0 : VC C85_0.eq_1 := rfl
def C85_1 : ACode := .seq (.reg L85_0) C85_0
theorem u85_1 : VC C85_1.eq_1 := rfl
def F85 : AFunc := ⟨6, [.tmp 2], C85_1⟩
theorem cF85 : compB Try.prog 85 = some F85 := by kernel_rfl
attribute [local go_sem ↓] u85_0 u85_1 v85_0 v85_1 v85_2
theorem c_cloneL (l : List Place) (v : AV) (h : H) (hl : SlL h v l) (hn : l.length ≤ big) : callK (bm Try.prog 85 [v] h) fun r h' => Grow h h' ∧ NwL h h' r l := by
  refine bm_of cF85 ?_
  simp +contextual (maxSteps := 2000000) only [go_sem, Nat.reduceEqDiff, reduceCtorEq, Nat.reduceAdd, Nat.reduceLeDiff, F85]
  refine wp_call (c_clone0L l v h hl hn) ?_
  rintro r h1 ⟨g1, n1⟩
  simp +contextual (maxSteps := 2000000) only [go_sem, Nat.reduceEqDiff, reduceCtorEq, Nat.reduceAdd, Nat.reduceLeDiff]
  refine wp_call (c_clipL l r h1 n1) ?_
  rintro r2 h2 ⟨rfl, n2⟩
  simp +contextual (maxSteps := 2000000) only [go_sem, Nat.reduceEqDiff, reduceCtorEq, Nat.reduceAdd, Nat.reduceLeDiff]
  exact gcK_of ⟨g1, n2⟩ (fun hs _ => ⟨Grow.refl h, n2.scalar hs h⟩)
/-! (impl.Flat).copyOf -/
def L77_0 : List AStep := [⟨.box 30 (.t 0), (some 1), none, []⟩, ⟨.alloc 30 [(.sl none 0 (some 0)), (.sl none 0 (some 0))], (some 2), none, []⟩]
theorem v77_0 : VS L77_0.eq_1 := rfl
def L77_1 : List AStep := [⟨.build [(.sl none 0 (some 0)), (.sl none 0 (some 0))] [(0, 1, (.t 5)), (1, 1, (.t 8))], (some 9), none, []⟩, ⟨.store 2 (.t 2) (.t 9), none, none, []⟩]
theorem v77_1 : VS L77_1.eq_1 := rfl
def L77_2 : List AStep := ⟨.call 121 [(.t 4)], (some 5), none, [(.load 1 false (.t 6), (some 7), none)]⟩ :: ⟨.call 87 [(.t 7)], (some 8), none, []⟩ :: L77_1
theorem v77_2 : VS L77_2.eq_1 := rfl
def L77_3 : List AStep := ⟨.faddr 1 (.t 1), (some 6), none, []⟩ :: ⟨.load 1 false (.t 6), (some 7), none, []⟩ :: L77_2
theorem v77_3 : VS L77_3.eq_1 := rfl
def L77_4 : List AStep := ⟨.faddr 0 (.t 1), (some 3), none, []⟩ :: ⟨.load 1 false (.t 3), (some 4), none, []⟩ :: L77_3
theorem v77_4 : VS L77_4.eq_1 := rfl
def C77_0 : ACode := .seq (.reg L77_4) .ret
theorem u77_0 : VC C77_0.eq_1 := rfl
def C77_1 : ACode := .seq (.reg L77_0) C77_0
theorem u77_1 : VC C77_1.eq_1 := rfl
def F77 : AFunc := ⟨10, [.cell 2 2 true], C77_1⟩
theorem cF77 : compB Try.prog 77 = some F77 := by kernel_rfl
attribute [local go_sem ↓] u77_0 u77_1 v77_0 v77_1 v77_2 v77_3 v77_4
theorem c_copyOfF (f : Flat) (p n : CV) (h : H) (hf : SlF h p n f) (hn : smF f) : callK (bm Try.prog 77 [.agg [p, n]] h) fun r h' => Grow h h' ∧ ∃ p' n', r = .agg [p', n'] ∧ NwF h h' p' n' f := by
  refine bm_of cF77 ?_
  simp +contextual (maxSteps := 2000000) only [go_sem, Nat.reduceEqDiff, reduceCtorEq, Nat.reduceAdd, Nat.reduceLeDiff, F77]
  refine wp_call (c_cloneI _ _ h hf.pl hn.pl) ?_
  rintro r h1 ⟨g1, n1⟩
  obtain ⟨p', rfl⟩ := n1.one
  simp +contextual (maxSteps := 2000000) only [go_sem, Nat.reduceEqDiff, reduceCtorEq, Nat.reduceAdd, Nat.reduceLeDiff]
  refine wp_call (c_cloneP _ _ h1 (hf.nl.grow g1) hn.nl.1) ?_
  rintro r h2 ⟨g2, n2⟩
  obtain ⟨n', rfl⟩ := n2.one
  simp +contextual (maxSteps := 2000000) only [go_sem, Nat.reduceEqDiff, reduceCtorEq, Nat.reduceAdd, Nat.reduceLeDiff]
  have n3 : NwF h h2 p' n' f := ⟨n1.grow g2, n2.from g1.n, n1.apart n2⟩
  exact gcK_of ⟨g1.trans g2, _, _, rfl, n3⟩ (fun hs _ => ⟨Grow.refl h, _, _, rfl, n3.scalar hs h⟩)
/-! (impl.Flat).put -/
def L86_0 : List AStep := [⟨.box 30 (.t 0), (some 3), none, []⟩, ⟨.alloc 30 [(.sl none 0 (some 0)), (.sl none 0 (some 0))], (some 6), none, []⟩]
theorem v86_0 : VS L86_0.eq_1 := rfl
def L86_1 : List AStep := [⟨.alloc 30 [(.sl none 0 (some 0)), (.sl none 0 (some 0))], (some 7), none, []⟩, ⟨.store 2 (.t 7) (.t 10), none, none, []⟩]
theorem v86_1 : VS L86_1.eq_1 := rfl
def L86_2 : List AStep := ⟨.load 2 true (.t 3), (some 9), none, []⟩ :: ⟨.call 77 [(.t 9)], (some 10), none, []⟩ :: L86_1
theorem v86_2 : VS L86_2.eq_1 := rfl
def L86_3 : List AStep := [⟨.mov (.t 14), (some 8), none, []⟩]
theorem v86_3 : VS L86_3.eq_1 := rfl
def L86_4 : List AStep := ⟨.mov (.t 1), (some 13), none, []⟩ :: ⟨.call 101 [(.t 12), (.t 13)], (some 14), none, []⟩ :: L86_3
theorem v86_4 : VS L86_4.eq_1 := rfl
def L86_5 : List AStep := ⟨.faddr 1 (.t 7), (some 11), none, []⟩ :: ⟨.load 1 false (.t 11), (some 12), none, []⟩ :: L86_4
theorem v86_5 : VS L86_5.eq_1 := rfl
def L86_6 : List AStep := [⟨.mov (.t 8), (some 15), none, []⟩, ⟨.bin .geq (.t 15) (.c (.int .i64 0)), (some 16), none, []⟩]
theorem v86_6 : VS L86_6.eq_1 := rfl
def L86_7 : List AStep := [⟨.store 1 (.t 22) (.t 20), none, none, []⟩]
theorem v86_7 : VS L86_7.eq_1 := rfl
def L86_8 : List AStep := ⟨.iaddr 2 (.t 18) (.t 19), (some 21), none, []⟩ :: ⟨.faddr 1 (.t 21), (some 22), none, []⟩ :: L86_7
theorem v86_8 : VS L86_8.eq_1 := rfl
def L86_9 : List AStep := ⟨.mov (.t 8), (some 19), none, []⟩ :: ⟨.mov (.t 2), (some 20), none, []⟩ :: L86_8
theorem v86_9 : VS L86_9.eq_1 := rfl
def L86_10 : List AStep := ⟨.faddr 1 (.t 7), (some 17), none, []⟩ :: ⟨.load 1 false (.t 17), (some 18), none, []⟩ :: L86_9
theorem v86_10 : VS L86_10.eq_1 := rfl
def L86_11 : List AStep := [⟨.store 1 (.t 30) (.t 29), none, none, []⟩]
theorem v86_11 : VS L86_11.eq_1 := rfl
def L86_12 : List AStep := ⟨.append 86 2 24 (.t 24) (.t 28), (some 29), none, []⟩ :: ⟨.faddr 1 (.t 7), (some 30), none, []⟩ :: L86_11
theorem v86_12 : VS L86_12.eq_1 := rfl
def L86_13 : List AStep := ⟨.build [(.str (strOfNums [])), (.int .i64 0)] [(0, 1, (.t 25)), (1, 1, (.t 26))], (some 27), none, []⟩ :: ⟨.buildSlice 86 1 [(.str (strOfNums [])), (.int .i64 0)] [(0, 2, (.t 27))], (some 28), none, []⟩ :: L86_12
theorem v86_13 : VS L86_13.eq_1 := rfl
def L86_14 : List AStep := ⟨.mov (.t 1), (some 25), none, []⟩ :: ⟨.mov (.t 2), (some 26), none, []⟩ :: L86_13
theorem v86_14 : VS L86_14.eq_1 := rfl
def L86_15 : List AStep := ⟨.faddr 1 (.t 7), (some 23), none, []⟩ :: ⟨.load 1 false (.t 23), (some 24), none, []⟩ :: L86_14
theorem v86_15 : VS L86_15.eq_1 := rfl
def L86_16 : List AStep := [⟨.load 2 true (.t 7), (some 31), none, []⟩, ⟨.store 2 (.t 6) (.t 31), none, none, []⟩]
theorem v86_16 : VS L86_16.eq_1 := rfl
def C86_0 : ACode := .cond (.t 16) (.reg L86_10) (.reg L86_15)
theorem u86_0 : VC C86_0.eq_1 := rfl
def C86_1 : ACode := .seq (.reg L86_6) C86_0
theorem u86_1 : VC C86_1.eq_1 := rfl
def C86_2 : ACode := .seq (.reg L86_5) C86_1
theorem u86_2 : VC C86_2.eq_1 := rfl
def C86_3 : ACode := .seq (.reg L86_16) .ret
theorem u86_3 : VC C86_3.eq_1 := rfl
def C86_4 : ACode := .seq C86_2 C86_3
theorem u86_4 : VC C86_4.eq_1 := rfl
def C86_5 : ACode := .seq (.reg L86_2) C86_4
theorem u86_5 : VC C86_5.eq_1 := rfl
def C86_6 : ACode := .seq (.reg L86_0) C86_5
theorem u86_6 : VC C86_6.eq_1 := rfl
def F86 : AFunc := ⟨32, [.cell 6 2 true], C86_6⟩
theorem cF86 : compB Try.prog 86 = some F86 := by kernel_rfl
attribute [local go_sem ↓] u86_0 u86_1 u86_2 u86_3 u86_4 u86_5 u86_6 v86_0 v86_1 v86_2 v86_3 v86_4 v86_5 v86_6 v86_7 v86_8 v86_9 v86_10 v86_11 v86_12 v86_13 v86_14 v86_15 v86_16
theorem c_put (f : Flat) (p n : CV) (s : ByteArray) (k : Int) (h : H) (hf : SlF h p n f) (hn : smF f) :
    callK (bm Try.prog 86 [.agg [p, n], .one (.str s), .one (.int .i64 k)] h) fun r h' => Grow h h' ∧ ∃ p' n', r = .agg [p', n'] ∧ NwF h h' p' n' ⟨f.pl, putP f.nl ⟨s, k⟩⟩ := by
  refine bm_of cF86 ?_
  simp +contextual (maxSteps := 2000000) only [go_sem, Nat.reduceEqDiff, reduceCtorEq, Nat.reduceAdd, Nat.reduceLeDiff, F86]
  refine wp_call (c_copyOfF f p n h hf hn) ?_
  rintro r h1 ⟨g1, p', n', rfl, n1⟩
  rcases idx_cases (fun q : Pair => decide (q.name = s)) f.nl with e | ⟨j, hj, e, hs⟩ <;> (replace e := (show pairAt f.nl s = _ from e))
  · simp +contextual (maxSteps := 2000000) only [go_sem, Nat.reduceEqDiff, reduceCtorEq, Nat.reduceAdd, Nat.reduceLeDiff, c_pairAtI _ _ _ _ n1.sl.nl hn.nl, e]
    refine wp_lit (enc := encP) (k := 2) (l := [⟨s, k⟩]) rfl rfl ?_
    intro h2 w g2 n2 _
    simp +contextual (maxSteps := 2000000) only [go_sem, Nat.reduceEqDiff, reduceCtorEq, Nat.reduceAdd, Nat.reduceLeDiff]
    have n3 := n1.grow g2
    refine wp_append lenP n3.nl (n2.sl lenP) (g1.trans g2) (by have := hn.nl.1; unfold big at this; simp; omega) ?_
    intro h3 s' g3 n4 st hb
    obtain ⟨c, rfl⟩ := n4.one
    simp +contextual (maxSteps := 2000000) only [go_sem, Nat.reduceEqDiff, reduceCtorEq, Nat.reduceAdd, Nat.reduceLeDiff]
    have n5 : NwF h h3 p' c ⟨f.pl, putP f.nl ⟨s, k⟩⟩ := by
      rw [putP_none e]
      refine ⟨n3.pl.stay st n3.sep, n4, fun i hi hj => ?_⟩
      rcases hb i hj with hb | hb
      · exact n3.sep i hi hb
      · have := (n3.pl.lt hi).1; omega
    exact gcK_of ⟨g3, _, _, rfl, n5⟩ (fun hs _ => ⟨Grow.refl h, _, _, rfl, n5.scalar hs h⟩)
  · simp +contextual (maxSteps := 2000000) only [go_sem, Nat.reduceEqDiff, reduceCtorEq, Nat.reduceAdd, Nat.reduceLeDiff, c_pairAtI _ _ _ _ n1.sl.nl hn.nl, e, n1.nl.iaddr hj]
    have hs : f.nl[j].name = s := of_decide_eq_true hs
    refine wp_set (x := (⟨s, k⟩ : Pair)) (off := 1) (vs := [.int .i64 k]) lenP n1.nl hj rfl (by simp [encP, hs]) (Nat.le_of_ble_eq_true rfl) g1 ?_
    intro h2 g2 n2 st
    simp +contextual (maxSteps := 2000000) only [go_sem, Nat.reduceEqDiff, reduceCtorEq, Nat.reduceAdd, Nat.reduceLeDiff]
    have n5 : NwF h h2 p' n' ⟨f.pl, putP f.nl ⟨s, k⟩⟩ := by
      rw [putP_some e]
      exact ⟨n1.pl.stay st n1.sep, n2, n1.sep⟩
    exact gcK_of ⟨g2, _, _, rfl, n5⟩ (fun hs _ => ⟨Grow.refl h, _, _, rfl, n5.scalar hs h⟩)
/-! impl.checked -/
def L91_0 : List AStep := [⟨.mov (.c (.bool false)), (some 5), none, []⟩]
theorem v91_0 : VS L91_0.eq_1 := rfl
def L91_1 : List AStep := ⟨.box 30 (.t 0), (some 2), none, []⟩ :: ⟨.alloc 30 [(.sl none 0 (some 0)), (.sl none 0 (some 0))], (some 4), none, []⟩ :: L91_0
theorem v91_1 : VS L91_1.eq_1 := rfl
def L91_2 : List AStep := [⟨.pick (.t 8) (.c (.bool true)) (.t 11), (some 12), none, []⟩]
theorem v91_2 : VS L91_2.eq_1 := rfl
def L91_3 : List AStep := ⟨.call 60 [(.t 9)], (some 10), (some (8, false)), []⟩ :: ⟨.not (.t 10), (some 11), (some (8, false)), []⟩ :: L91_2
theorem v91_3 : VS L91_3.eq_1 := rfl
def L91_4 : List AStep := ⟨.mov (.t 7), (some 8), none, []⟩ :: ⟨.load 2 true (.t 2), (some 9), (some (8, false)), []⟩ :: L91_3
theorem v91_4 : VS L91_4.eq_1 := rfl
def L91_5 : List AStep := ⟨.mov (.t 1), (some 6), none, []⟩ :: ⟨.not (.t 6), (some 7), none, []⟩ :: L91_4
theorem v91_5 : VS L91_5.eq_1 := rfl
def L91_6 : List AStep := [⟨.mov (.c (.bool false)), (some 5), none, []⟩]
theorem v91_6 : VS L91_6.eq_1 := rfl
def L91_7 : List AStep := ⟨.build [(.sl none 0 (some 0)), (.sl none 0 (some 0))] [], (some 13), none, []⟩ :: ⟨.store 2 (.t 4) (.t 13), none, none, []⟩ :: L91_6
theorem v91_7 : VS L91_7.eq_1 := rfl
def L91_8 : List AStep := [⟨.store 2 (.t 4) (.t 15), none, none, []⟩, ⟨.mov (.c (.bool true)), (some 5), none, []⟩]
theorem v91_8 : VS L91_8.eq_1 := rfl
def L91_9 : List AStep := ⟨.load 2 true (.t 2), (some 14), none, []⟩ :: ⟨.call 77 [(.t 14)], (some 15), none, []⟩ :: L91_8
theorem v91_9 : VS L91_9.eq_1 := rfl
def C91_0 : ACode := .seq (.reg L91_7) .ret
theorem u91_0 : VC C91_0.eq_1 := rfl
def C91_1 : ACode := .cond (.t 12) C91_0 .skip
theorem u91_1 : VC C91_1.eq_1 := rfl
def C91_2 : ACode := .seq (.reg L91_5) C91_1
theorem u91_2 : VC C91_2.eq_1 := rfl
def C91_3 : ACode := .seq (.reg L91_9) .ret
theorem u91_3 : VC C91_3.eq_1 := rfl
def C91_4 : ACode := .seq C91_2 C91_3
theorem u91_4 : VC C91_4.eq_1 := rfl
def C91_5 : ACode := .seq (.reg L91_1) C91_4
theorem u91_5 : VC C91_5.eq_1 := rfl
def F91 : AFunc := ⟨16, [.cell 4 2 true, .tmp 5], C91_5⟩
theorem cF91 : compB Try.prog 91 = some F91 := by kernel_rfl
attribute [local go_sem ↓] u91_0 u91_1 u91_2 u91_3 u91_4 u91_5 v91_0 v91_1 v91_2 v91_3 v91_4 v91_5 v91_6 v91_7 v91_8 v91_9
theorem c_checked (f : Flat) (p n : CV) (b : Bool) (h : H) (hf : SlF h p n f) (hn : smF f) :
    callK (bm Try.prog 91 [.agg [p, n], .one (.bool b)] h) fun r h' => Grow h h' ∧ ∃ p' n', r = .tup [.agg [p', n'], .one (.bool (b && okFlat f))] ∧ NwF h h' p' n' (if (b && okFlat f) = true then f else ⟨[], []⟩) := by
  refine bm_of cF91 ?_
  simp +contextual (maxSteps := 2000000) only [go_sem, Nat.reduceEqDiff, reduceCtorEq, Nat.reduceAdd, Nat.reduceLeDiff, F91, c_ValidFlat _ _ _ _ hf.pl hf.nl hn]
  cases b with
  | false =>
    simp +contextual (maxSteps := 2000000) only [go_sem, Nat.reduceEqDiff, reduceCtorEq, Nat.reduceAdd, Nat.reduceLeDiff, Bool.false_and, if_false]
    exact ⟨Grow.refl h, _, _, rfl, .nil⟩
  | true =>
    cases hok : okFlat f with
    | false =>
      simp +contextual (maxSteps := 2000000) only [go_sem, Nat.reduceEqDiff, reduceCtorEq, Nat.reduceAdd, Nat.reduceLeDiff, hok, Bool.true_and, if_false]
      exact ⟨Grow.refl h, _, _, rfl, .nil⟩
    | true =>
      simp +contextual (maxSteps := 2000000) only [go_sem, Nat.reduceEqDiff, reduceCtorEq, Nat.reduceAdd, Nat.reduceLeDiff, hok, Bool.true_and, if_true]
      refine wp_call (c_copyOfF f p n h hf hn) ?_
      rintro r h1 ⟨g1, p', n', rfl, n1⟩
      simp +contextual (maxSteps := 2000000) only [go_sem, Nat.reduceEqDiff, reduceCtorEq, Nat.reduceAdd, Nat.reduceLeDiff]
      exact gcK_of ⟨g1, _, _, rfl, n1⟩ (fun hs _ => ⟨Grow.refl h, _, _, rfl, n1.scalar (by simpa [AV.scalar, AV.scalars, CV.scalar] using hs) h⟩)
end Go.Proofs.Ytnphlonhogcedaa.Am
