/- Contracts of the program: copies, calls over each other. -/
import Derived.Test.YtcbnihbilmlokaaA3
namespace Go.Proofs.Ytcbnihbilmlokaa.Am
open Go
set_option maxRecDepth 100000
set_option maxHeartbeats 4000000
set_option linter.unusedSimpArgs false
set_option linter.unusedVariables false
attribute [local go_sem ↓] bv_t bv_c ev_t ev_c put_same put_ne put_none kill_at pro_at lb_same lb_ne start_zero start_succ wpC_seq wpC_reg wpC_cond wpC_block wpC_skip wpC_exit wpC_ret thenQ_normal thenQ_exit thenQ_ret inBlk_normal inBlk_exit inBlk_ret wpS_nil wpS_step wpS_again wpS_guard wpO_mov wpO_load wpO_faddr wpO_nilCheck wpO_pick wpO_build wpO_bin wpO_eqb wpO_eqst wpO_eqnil wpO_not wpO_conv wpO_bytesStr wpO_iaddr wpO_idxStr wpO_field wpO_extract wpO_len wpO_lenStr wpO_cap wpO_min wpO_slice wpO_sliceStr wpO_alloc wpO_box wpO_store wpO_call wpO_callv wpO_mkfn wpO_buildSlice wpO_mkslice wpO_append wpO_appz proA_nil proA_cons tmpX_nil tmpX_tmp tmpX_cell doneB_normal doneB_ret agK_cons agK_nil pureB_load results_one results_two results_nil resBs_cons resBs_nil resB_tmp resB_cell
attribute [local go_sem] kill_v kill_lp_ne kill_lp_same pro_v pro_lp_same pro_lp_ne av_v av_lp optB_some optX_some valX_eq ldX_lp ldX_v faX_lp faX_v ncX_lp ncX_ptr ncX_fn boxK_one boxK_agg stL_some stK_lp_one stK_lp_agg stK_v_one stK_v_agg proM_v proM_lp callG_mk callVG_mk callvK_fn fnG_mk ptrsA_nil ptrsA_cons callH_some whenA_true whenA_false guardH_tt guardH_ff guardH_tf guardH_ft guardH_undef agV_one agV_agg lenO_sl lenStrO_str notO_bool pickO_bool convO_int eqbO_bool eqnilO_sl extractO_tup capO_sl minO_int loadL_one loadL_all storeL_eq fillA_nil fillA_one fillA_agg nat_ge neg_ge nat_lt neg_lt buildO bin_add bin_sub bin_mul bin_eql bin_neq bin_lss bin_leq bin_gtr bin_geq str_eql str_neq str_lss str_leq str_gtr str_geq retK_some endK_mk gcK_same gcK_int gcK_bool tupO_one tupO_agg rdy_self ib ii Option.map_none Option.map_some Option.some.injEq exists_eq_left' exists_eq_left ne_eq not_false_eq_true if_true if_false List.map_cons List.map_nil List.getElem?_cons_zero List.getElem?_cons_succ List.length_cons List.length_nil List.take_succ_cons List.take_zero List.take_nil List.drop_succ_cons List.drop_zero List.drop_nil List.cons_append List.nil_append List.append_nil List.set_cons_zero List.set_cons_succ Nat.zero_add forall_const true_and and_true and_self Bool.false_eq_true false_implies true_implies implies_true Bool.not_true Bool.not_false Bool.not_eq_true' Bool.not_eq_false' beq_self_eq_true Bool.bne_true Bool.bne_false
attribute [local go_sem] lenI lenS lenP lenQ lenB lenL lenT encI_0 encS_0 encP_0 encP_1 encQ_0 encQ_1 encQ_2 encQ_3 encB_0 encB_1 encL_0 encL_1 encT_0 encT_1
attribute [local go_sem low] whenA_bool guardH_bool
section
variable {P : Program} {T : Tb} {L : Lb} {h : H} {Q : PostC} {K : Post}
/-! slices.Clip(()int,int) -/
def L224_0 : List AStep := [⟨.mov (.c (.sl none 0 (some 0))), (some 2), none, []⟩]
theorem v224_0 : wpS P L224_0 T L (rdy h) K = wpS P ([⟨.mov (.c (.sl none 0 (some 0))), (some 2), none, []⟩]) T L (rdy h) K := rfl
def L224_1 : List AStep := [⟨.mov (.t 8), (some 2), none, []⟩]
theorem v224_1 : wpS P L224_1 T L (rdy h) K = wpS P ([⟨.mov (.t 8), (some 2), none, []⟩]) T L (rdy h) K := rfl
def L224_2 : List AStep := ⟨.len (.t 6), (some 7), none, []⟩ :: ⟨.slice 3 1 (.t 3) none (some (.t 5)) (some (.t 7)), (some 8), none, []⟩ :: L224_1
theorem v224_2 : wpS P L224_2 T L (rdy h) K = wpS P (⟨.len (.t 6), (some 7), none, []⟩ :: ⟨.slice 3 1 (.t 3) none (some (.t 5)) (some (.t 7)), (some 8), none, []⟩ :: L224_1) T L (rdy h) K := rfl
def L224_3 : List AStep := ⟨.len (.t 4), (some 5), none, []⟩ :: ⟨.mov (.t 0), (some 6), none, []⟩ :: L224_2
theorem v224_3 : wpS P L224_3 T L (rdy h) K = wpS P (⟨.len (.t 4), (some 5), none, []⟩ :: ⟨.mov (.t 0), (some 6), none, []⟩ :: L224_2) T L (rdy h) K := rfl
def L224_4 : List AStep := ⟨.mov (.t 0), (some 3), none, []⟩ :: ⟨.mov (.t 0), (some 4), none, []⟩ :: L224_3
theorem v224_4 : wpS P L224_4 T L (rdy h) K = wpS P (⟨.mov (.t 0), (some 3), none, []⟩ :: ⟨.mov (.t 0), (some 4), none, []⟩ :: L224_3) T L (rdy h) K := rfl
def C224_0 : ACode := .seq (.reg L224_4) .ret
theorem u224_0 : wpC P C224_0 T L (rdy h) Q = wpC P (.seq (.reg L224_4) .ret) T L (rdy h) Q := rfl
def C224_1 : ACode := .seq (.reg L224_0) C224_0
theorem u224_1 : wpC P C224_1 T L (rdy h) Q = wpC P (.seq (.reg L224_0) C224_0) T L (rdy h) Q := rfl
def F224 : AFunc := ⟨9, [.tmp 2], C224_1⟩
theorem cF224 : compB Try.prog 224 = some F224 := by kernel_rfl
end
attribute [local go_sem ↓] u224_0 u224_1 v224_0 v224_1 v224_2 v224_3 v224_4
theorem c_clipI {h0 : H} (l : List Int) (v : AV) (h : H) (hl : NwI h0 h v l) : callK (bm Try.prog 224 [v] h) fun r h' => h' = h ∧ NwI h0 h r l := by
  refine bm_of cF224 ?_
  obtain ⟨w, e1, n1⟩ := hl.clipO (kd := .i64) (kd' := .i64)
  simp +contextual (maxSteps := 2000000) only [go_sem, Nat.reduceEqDiff, reduceCtorEq, Nat.reduceAdd, Nat.reduceLeDiff, F224, hl.length, e1]
  exact n1
section
variable {P : Program} {T : Tb} {L : Lb} {h : H} {Q : PostC} {K : Post}
/-! slices.Clone(()int,int) -/
def L225_0 : List AStep := [⟨.mov (.c (.sl none 0 (some 0))), (some 2), none, []⟩]
theorem v225_0 : wpS P L225_0 T L (rdy h) K = wpS P ([⟨.mov (.c (.sl none 0 (some 0))), (some 2), none, []⟩]) T L (rdy h) K := rfl
def L225_1 : List AStep := [⟨.mov (.t 0), (some 3), none, []⟩, ⟨.eqnil false (.t 3) (.c (.sl none 0 (some 0))), (some 4), none, []⟩]
theorem v225_1 : wpS P L225_1 T L (rdy h) K = wpS P ([⟨.mov (.t 0), (some 3), none, []⟩, ⟨.eqnil false (.t 3) (.c (.sl none 0 (some 0))), (some 4), none, []⟩]) T L (rdy h) K := rfl
def L225_2 : List AStep := [⟨.mov (.c (.sl none 0 (some 0))), (some 2), none, []⟩]
theorem v225_2 : wpS P L225_2 T L (rdy h) K = wpS P ([⟨.mov (.c (.sl none 0 (some 0))), (some 2), none, []⟩]) T L (rdy h) K := rfl
def L225_3 : List AStep := [⟨.append 3 1 8 (.t 5) (.t 6), (some 7), none, []⟩, ⟨.mov (.t 7), (some 2), none, []⟩]
theorem v225_3 : wpS P L225_3 T L (rdy h) K = wpS P ([⟨.append 3 1 8 (.t 5) (.t 6), (some 7), none, []⟩, ⟨.mov (.t 7), (some 2), none, []⟩]) T L (rdy h) K := rfl
def L225_4 : List AStep := ⟨.buildSlice 3 0 [(.int .i64 0)] [], (some 5), none, []⟩ :: ⟨.mov (.t 0), (some 6), none, []⟩ :: L225_3
theorem v225_4 : wpS P L225_4 T L (rdy h) K = wpS P (⟨.buildSlice 3 0 [(.int .i64 0)] [], (some 5), none, []⟩ :: ⟨.mov (.t 0), (some 6), none, []⟩ :: L225_3) T L (rdy h) K := rfl
def C225_0 : ACode := .seq (.reg L225_2) .ret
theorem u225_0 : wpC P C225_0 T L (rdy h) Q = wpC P (.seq (.reg L225_2) .ret) T L (rdy h) Q := rfl
def C225_1 : ACode := .cond (.t 4) C225_0 .skip
theorem u225_1 : wpC P C225_1 T L (rdy h) Q = wpC P (.cond (.t 4) C225_0 .skip) T L (rdy h) Q := rfl
def C225_2 : ACode := .seq (.reg L225_1) C225_1
theorem u225_2 : wpC P C225_2 T L (rdy h) Q = wpC P (.seq (.reg L225_1) C225_1) T L (rdy h) Q := rfl
def C225_3 : ACode := .seq (.reg L225_4) .ret
theorem u225_3 : wpC P C225_3 T L (rdy h) Q = wpC P (.seq (.reg L225_4) .ret) T L (rdy h) Q := rfl
def C225_4 : ACode := .seq C225_2 C225_3
theorem u225_4 : wpC P C225_4 T L (rdy h) Q = wpC P (.seq C225_2 C225_3) T L (rdy h) Q := rfl
def C225_5 : ACode := .seq (.reg L225_0) C225_4
theorem u225_5 : wpC P C225_5 T L (rdy h) Q = wpC P (.seq (.reg L225_0) C225_4) T L (rdy h) Q := rfl
def F225 : AFunc := ⟨8, [.tmp 2], C225_5⟩
theorem cF225 : compB Try.prog 225 = some F225 := by kernel_rfl
end
attribute [local go_sem ↓] u225_0 u225_1 u225_2 u225_3 u225_4 u225_5 v225_0 v225_1 v225_2 v225_3 v225_4
theorem c_clone0I (l : List Int) (v : AV) (h : H) (hl : SlI h v l) (hn : l.length ≤ big) : callK (bm Try.prog 225 [v] h) fun r h' => Grow h h' ∧ NwI h h' r l := by
  refine bm_of cF225 ?_
  obtain ⟨b, e1, e2⟩ := hl.isNil
  simp +contextual (maxSteps := 2000000) only [go_sem, Nat.reduceEqDiff, reduceCtorEq, Nat.reduceAdd, Nat.reduceLeDiff, F225, e1]
  cases b with
  | true =>
    obtain rfl := e2 rfl
    simp +contextual (maxSteps := 2000000) only [go_sem, Nat.reduceEqDiff, reduceCtorEq, Nat.reduceAdd, Nat.reduceLeDiff]
    exact ⟨Grow.refl h, .nil⟩
  | false =>
    simp +contextual (maxSteps := 2000000) only [go_sem, Nat.reduceEqDiff, reduceCtorEq, Nat.reduceAdd, Nat.reduceLeDiff]
    refine wp_lit (enc := encI) (k := 1) (l := []) rfl rfl ?_
    intro h1 w g1 n1 _
    simp +contextual (maxSteps := 2000000) only [go_sem, Nat.reduceEqDiff, reduceCtorEq, Nat.reduceAdd, Nat.reduceLeDiff]
    refine wp_append lenI n1 (hl.grow g1) g1 (by have := hn; unfold big at this; simp; omega) ?_
    intro h2 s g2 n2 _ _
    simp +contextual (maxSteps := 2000000) only [go_sem, Nat.reduceEqDiff, reduceCtorEq, Nat.reduceAdd, Nat.reduceLeDiff]
    exact gcK_of ⟨g2, n2⟩ (fun hs _ => ⟨Grow.refl h, n2.scalar hs h⟩)
section
variable {P : Program} {T : Tb} {L : Lb} {h : H} {Q : PostC} {K : Post}
/-! impl.clone(int) -/
def L173_0 : List AStep := [⟨.mov (.c (.sl none 0 (some 0))), (some 2), none, []⟩]
theorem v173_0 : wpS P L173_0 T L (rdy h) K = wpS P ([⟨.mov (.c (.sl none 0 (some 0))), (some 2), none, []⟩]) T L (rdy h) K := rfl
def L173_1 : List AStep := [⟨.call 224 [(.t 4)], (some 5), none, []⟩, ⟨.mov (.t 5), (some 2), none, []⟩]
theorem v173_1 : wpS P L173_1 T L (rdy h) K = wpS P ([⟨.call 224 [(.t 4)], (some 5), none, []⟩, ⟨.mov (.t 5), (some 2), none, []⟩]) T L (rdy h) K := rfl
def L173_2 : List AStep := ⟨.mov (.t 0), (some 3), none, []⟩ :: ⟨.call 225 [(.t 3)], (some 4), none, []⟩ :: L173_1
theorem v173_2 : wpS P L173_2 T L (rdy h) K = wpS P (⟨.mov (.t 0), (some 3), none, []⟩ :: ⟨.call 225 [(.t 3)], (some 4), none, []⟩ :: L173_1) T L (rdy h) K := rfl
def C173_0 : ACode := .seq (.reg L173_2) .ret
theorem u173_0 : wpC P C173_0 T L (rdy h) Q = wpC P (.seq (.reg L173_2) .ret) T L (rdy h) Q := rfl
def C173_1 : ACode := .seq (.reg L173_0) C173_0
theorem u173_1 : wpC P C173_1 T L (rdy h) Q = wpC P (.seq (.reg L173_0) C173_0) T L (rdy h) Q := rfl
def F173 : AFunc := ⟨6, [.tmp 2], C173_1⟩
theorem cF173 : compB Try.prog 173 = some F173 := by kernel_rfl
end
attribute [local go_sem ↓] u173_0 u173_1 v173_0 v173_1 v173_2
theorem c_cloneI (l : List Int) (v : AV) (h : H) (hl : SlI h v l) (hn : l.length ≤ big) : callK (bm Try.prog 173 [v] h) fun r h' => Grow h h' ∧ NwI h h' r l := by
  refine bm_of cF173 ?_
  simp +contextual (maxSteps := 2000000) only [go_sem, Nat.reduceEqDiff, reduceCtorEq, Nat.reduceAdd, Nat.reduceLeDiff, F173]
  refine wp_call (c_clone0I l v h hl hn) ?_
  rintro r h1 ⟨g1, n1⟩
  simp +contextual (maxSteps := 2000000) only [go_sem, Nat.reduceEqDiff, reduceCtorEq, Nat.reduceAdd, Nat.reduceLeDiff]
  refine wp_call (c_clipI l r h1 n1) ?_
  rintro r2 h2 ⟨rfl, n2⟩
  simp +contextual (maxSteps := 2000000) only [go_sem, Nat.reduceEqDiff, reduceCtorEq, Nat.reduceAdd, Nat.reduceLeDiff]
  exact gcK_of ⟨g1, n2⟩ (fun hs _ => ⟨Grow.refl h, n2.scalar hs h⟩)
section
variable {P : Program} {T : Tb} {L : Lb} {h : H} {Q : PostC} {K : Post}
/-! slices.Clip(()impl.Pair,impl.Pair) -/
def L182_0 : List AStep := [⟨.mov (.c (.sl none 0 (some 0))), (some 2), none, []⟩]
theorem v182_0 : wpS P L182_0 T L (rdy h) K = wpS P ([⟨.mov (.c (.sl none 0 (some 0))), (some 2), none, []⟩]) T L (rdy h) K := rfl
def L182_1 : List AStep := [⟨.mov (.t 8), (some 2), none, []⟩]
theorem v182_1 : wpS P L182_1 T L (rdy h) K = wpS P ([⟨.mov (.t 8), (some 2), none, []⟩]) T L (rdy h) K := rfl
def L182_2 : List AStep := ⟨.len (.t 6), (some 7), none, []⟩ :: ⟨.slice 133 2 (.t 3) none (some (.t 5)) (some (.t 7)), (some 8), none, []⟩ :: L182_1
theorem v182_2 : wpS P L182_2 T L (rdy h) K = wpS P (⟨.len (.t 6), (some 7), none, []⟩ :: ⟨.slice 133 2 (.t 3) none (some (.t 5)) (some (.t 7)), (some 8), none, []⟩ :: L182_1) T L (rdy h) K := rfl
def L182_3 : List AStep := ⟨.len (.t 4), (some 5), none, []⟩ :: ⟨.mov (.t 0), (some 6), none, []⟩ :: L182_2
theorem v182_3 : wpS P L182_3 T L (rdy h) K = wpS P (⟨.len (.t 4), (some 5), none, []⟩ :: ⟨.mov (.t 0), (some 6), none, []⟩ :: L182_2) T L (rdy h) K := rfl
def L182_4 : List AStep := ⟨.mov (.t 0), (some 3), none, []⟩ :: ⟨.mov (.t 0), (some 4), none, []⟩ :: L182_3
theorem v182_4 : wpS P L182_4 T L (rdy h) K = wpS P (⟨.mov (.t 0), (some 3), none, []⟩ :: ⟨.mov (.t 0), (some 4), none, []⟩ :: L182_3) T L (rdy h) K := rfl
def C182_0 : ACode := .seq (.reg L182_4) .ret
theorem u182_0 : wpC P C182_0 T L (rdy h) Q = wpC P (.seq (.reg L182_4) .ret) T L (rdy h) Q := rfl
def C182_1 : ACode := .seq (.reg L182_0) C182_0
theorem u182_1 : wpC P C182_1 T L (rdy h) Q = wpC P (.seq (.reg L182_0) C182_0) T L (rdy h) Q := rfl
def F182 : AFunc := ⟨9, [.tmp 2], C182_1⟩
theorem cF182 : compB Try.prog 182 = some F182 := by kernel_rfl
end
attribute [local go_sem ↓] u182_0 u182_1 v182_0 v182_1 v182_2 v182_3 v182_4
theorem c_clipP {h0 : H} (l : List Pair) (v : AV) (h : H) (hl : NwP h0 h v l) : callK (bm Try.prog 182 [v] h) fun r h' => h' = h ∧ NwP h0 h r l := by
  refine bm_of cF182 ?_
  obtain ⟨w, e1, n1⟩ := hl.clipO (kd := .i64) (kd' := .i64)
  simp +contextual (maxSteps := 2000000) only [go_sem, Nat.reduceEqDiff, reduceCtorEq, Nat.reduceAdd, Nat.reduceLeDiff, F182, hl.length, e1]
  exact n1
section
variable {P : Program} {T : Tb} {L : Lb} {h : H} {Q : PostC} {K : Post}
/-! slices.Clone(()impl.Pair,impl.Pair) -/
def L226_0 : List AStep := [⟨.mov (.c (.sl none 0 (some 0))), (some 2), none, []⟩]
theorem v226_0 : wpS P L226_0 T L (rdy h) K = wpS P ([⟨.mov (.c (.sl none 0 (some 0))), (some 2), none, []⟩]) T L (rdy h) K := rfl
def L226_1 : List AStep := [⟨.mov (.t 0), (some 3), none, []⟩, ⟨.eqnil false (.t 3) (.c (.sl none 0 (some 0))), (some 4), none, []⟩]
theorem v226_1 : wpS P L226_1 T L (rdy h) K = wpS P ([⟨.mov (.t 0), (some 3), none, []⟩, ⟨.eqnil false (.t 3) (.c (.sl none 0 (some 0))), (some 4), none, []⟩]) T L (rdy h) K := rfl
def L226_2 : List AStep := [⟨.mov (.c (.sl none 0 (some 0))), (some 2), none, []⟩]
theorem v226_2 : wpS P L226_2 T L (rdy h) K = wpS P ([⟨.mov (.c (.sl none 0 (some 0))), (some 2), none, []⟩]) T L (rdy h) K := rfl
def L226_3 : List AStep := [⟨.append 133 2 24 (.t 5) (.t 6), (some 7), none, []⟩, ⟨.mov (.t 7), (some 2), none, []⟩]
theorem v226_3 : wpS P L226_3 T L (rdy h) K = wpS P ([⟨.append 133 2 24 (.t 5) (.t 6), (some 7), none, []⟩, ⟨.mov (.t 7), (some 2), none, []⟩]) T L (rdy h) K := rfl
def L226_4 : List AStep := ⟨.buildSlice 133 0 [(.str (strOfNums [])), (.int .i64 0)] [], (some 5), none, []⟩ :: ⟨.mov (.t 0), (some 6), none, []⟩ :: L226_3
theorem v226_4 : wpS P L226_4 T L (rdy h) K = wpS P (⟨.buildSlice 133 0 [(.str (strOfNums [])), (.int .i64 0)] [], (some 5), none, []⟩ :: ⟨.mov (.t 0), (some 6), none, []⟩ :: L226_3) T L (rdy h) K := rfl
def C226_0 : ACode := .seq (.reg L226_2) .ret
theorem u226_0 : wpC P C226_0 T L (rdy h) Q = wpC P (.seq (.reg L226_2) .ret) T L (rdy h) Q := rfl
def C226_1 : ACode := .cond (.t 4) C226_0 .skip
theorem u226_1 : wpC P C226_1 T L (rdy h) Q = wpC P (.cond (.t 4) C226_0 .skip) T L (rdy h) Q := rfl
def C226_2 : ACode := .seq (.reg L226_1) C226_1
theorem u226_2 : wpC P C226_2 T L (rdy h) Q = wpC P (.seq (.reg L226_1) C226_1) T L (rdy h) Q := rfl
def C226_3 : ACode := .seq (.reg L226_4) .ret
theorem u226_3 : wpC P C226_3 T L (rdy h) Q = wpC P (.seq (.reg L226_4) .ret) T L (rdy h) Q := rfl
def C226_4 : ACode := .seq C226_2 C226_3
theorem u226_4 : wpC P C226_4 T L (rdy h) Q = wpC P (.seq C226_2 C226_3) T L (rdy h) Q := rfl
def C226_5 : ACode := .seq (.reg L226_0) C226_4
theorem u226_5 : wpC P C226_5 T L (rdy h) Q = wpC P (.seq (.reg L226_0) C226_4) T L (rdy h) Q := rfl
def F226 : AFunc := ⟨8, [.tmp 2], C226_5⟩
theorem cF226 : compB Try.prog 226 = some F226 := by kernel_rfl
end
attribute [local go_sem ↓] u226_0 u226_1 u226_2 u226_3 u226_4 u226_5 v226_0 v226_1 v226_2 v226_3 v226_4
theorem c_clone0P (l : List Pair) (v : AV) (h : H) (hl : SlP h v l) (hn : l.length ≤ big) : callK (bm Try.prog 226 [v] h) fun r h' => Grow h h' ∧ NwP h h' r l := by
  refine bm_of cF226 ?_
  obtain ⟨b, e1, e2⟩ := hl.isNil
  simp +contextual (maxSteps := 2000000) only [go_sem, Nat.reduceEqDiff, reduceCtorEq, Nat.reduceAdd, Nat.reduceLeDiff, F226, e1]
  cases b with
  | true =>
    obtain rfl := e2 rfl
    simp +contextual (maxSteps := 2000000) only [go_sem, Nat.reduceEqDiff, reduceCtorEq, Nat.reduceAdd, Nat.reduceLeDiff]
    exact ⟨Grow.refl h, .nil⟩
  | false =>
    simp +contextual (maxSteps := 2000000) only [go_sem, Nat.reduceEqDiff, reduceCtorEq, Nat.reduceAdd, Nat.reduceLeDiff]
    refine wp_lit (enc := encP) (k := 2) (l := []) rfl rfl ?_
    intro h1 w g1 n1 _
    simp +contextual (maxSteps := 2000000) only [go_sem, Nat.reduceEqDiff, reduceCtorEq, Nat.reduceAdd, Nat.reduceLeDiff]
    refine wp_append lenP n1 (hl.grow g1) g1 (by have := hn; unfold big at this; simp; omega) ?_
    intro h2 s g2 n2 _ _
    simp +contextual (maxSteps := 2000000) only [go_sem, Nat.reduceEqDiff, reduceCtorEq, Nat.reduceAdd, Nat.reduceLeDiff]
    exact gcK_of ⟨g2, n2⟩ (fun hs _ => ⟨Grow.refl h, n2.scalar hs h⟩)
section
variable {P : Program} {T : Tb} {L : Lb} {h : H} {Q : PostC} {K : Post}
/-! impl.clone(impl.Pair) -/
def L174_0 : List AStep := [⟨.mov (.c (.sl none 0 (some 0))), (some 2), none, []⟩]
theorem v174_0 : wpS P L174_0 T L (rdy h) K = wpS P ([⟨.mov (.c (.sl none 0 (some 0))), (some 2), none, []⟩]) T L (rdy h) K := rfl
def L174_1 : List AStep := [⟨.call 182 [(.t 4)], (some 5), none, []⟩, ⟨.mov (.t 5), (some 2), none, []⟩]
theorem v174_1 : wpS P L174_1 T L (rdy h) K = wpS P ([⟨.call 182 [(.t 4)], (some 5), none, []⟩, ⟨.mov (.t 5), (some 2), none, []⟩]) T L (rdy h) K := rfl
def L174_2 : List AStep := ⟨.mov (.t 0), (some 3), none, []⟩ :: ⟨.call 226 [(.t 3)], (some 4), none, []⟩ :: L174_1
theorem v174_2 : wpS P L174_2 T L (rdy h) K = wpS P (⟨.mov (.t 0), (some 3), none, []⟩ :: ⟨.call 226 [(.t 3)], (some 4), none, []⟩ :: L174_1) T L (rdy h) K := rfl
def C174_0 : ACode := .seq (.reg L174_2) .ret
theorem u174_0 : wpC P C174_0 T L (rdy h) Q = wpC P (.seq (.reg L174_2) .ret) T L (rdy h) Q := rfl
def C174_1 : ACode := .seq (.reg L174_0) C174_0
theorem u174_1 : wpC P C174_1 T L (rdy h) Q = wpC P (.seq (.reg L174_0) C174_0) T L (rdy h) Q := rfl
def F174 : AFunc := ⟨6, [.tmp 2], C174_1⟩
theorem cF174 : compB Try.prog 174 = some F174 := by kernel_rfl
end
attribute [local go_sem ↓] u174_0 u174_1 v174_0 v174_1 v174_2
theorem c_cloneP (l : List Pair) (v : AV) (h : H) (hl : SlP h v l) (hn : l.length ≤ big) : callK (bm Try.prog 174 [v] h) fun r h' => Grow h h' ∧ NwP h h' r l := by
  refine bm_of cF174 ?_
  simp +contextual (maxSteps := 2000000) only [go_sem, Nat.reduceEqDiff, reduceCtorEq, Nat.reduceAdd, Nat.reduceLeDiff, F174]
  refine wp_call (c_clone0P l v h hl hn) ?_
  rintro r h1 ⟨g1, n1⟩
  simp +contextual (maxSteps := 2000000) only [go_sem, Nat.reduceEqDiff, reduceCtorEq, Nat.reduceAdd, Nat.reduceLeDiff]
  refine wp_call (c_clipP l r h1 n1) ?_
  rintro r2 h2 ⟨rfl, n2⟩
  simp +contextual (maxSteps := 2000000) only [go_sem, Nat.reduceEqDiff, reduceCtorEq, Nat.reduceAdd, Nat.reduceLeDiff]
  exact gcK_of ⟨g1, n2⟩ (fun hs _ => ⟨Grow.refl h, n2.scalar hs h⟩)
section
variable {P : Program} {T : Tb} {L : Lb} {h : H} {Q : PostC} {K : Post}
/-! (impl.Flat).copyOf -/
def L84_0 : List AStep := [⟨.box 31 (.t 0), (some 1), none, []⟩, ⟨.alloc 31 [(.sl none 0 (some 0)), (.sl none 0 (some 0))], (some 2), none, []⟩]
theorem v84_0 : wpS P L84_0 T L (rdy h) K = wpS P ([⟨.box 31 (.t 0), (some 1), none, []⟩, ⟨.alloc 31 [(.sl none 0 (some 0)), (.sl none 0 (some 0))], (some 2), none, []⟩]) T L (rdy h) K := rfl
def L84_1 : List AStep := [⟨.build [(.sl none 0 (some 0)), (.sl none 0 (some 0))] [(0, 1, (.t 5)), (1, 1, (.t 8))], (some 9), none, []⟩, ⟨.store 2 (.t 2) (.t 9), none, none, []⟩]
theorem v84_1 : wpS P L84_1 T L (rdy h) K = wpS P ([⟨.build [(.sl none 0 (some 0)), (.sl none 0 (some 0))] [(0, 1, (.t 5)), (1, 1, (.t 8))], (some 9), none, []⟩, ⟨.store 2 (.t 2) (.t 9), none, none, []⟩]) T L (rdy h) K := rfl
def L84_2 : List AStep := ⟨.call 173 [(.t 4)], (some 5), none, [(.load 1 false (.t 6), (some 7), none)]⟩ :: ⟨.call 174 [(.t 7)], (some 8), none, []⟩ :: L84_1
theorem v84_2 : wpS P L84_2 T L (rdy h) K = wpS P (⟨.call 173 [(.t 4)], (some 5), none, [(.load 1 false (.t 6), (some 7), none)]⟩ :: ⟨.call 174 [(.t 7)], (some 8), none, []⟩ :: L84_1) T L (rdy h) K := rfl
def L84_3 : List AStep := ⟨.faddr 1 (.t 1), (some 6), none, []⟩ :: ⟨.load 1 false (.t 6), (some 7), none, []⟩ :: L84_2
theorem v84_3 : wpS P L84_3 T L (rdy h) K = wpS P (⟨.faddr 1 (.t 1), (some 6), none, []⟩ :: ⟨.load 1 false (.t 6), (some 7), none, []⟩ :: L84_2) T L (rdy h) K := rfl
def L84_4 : List AStep := ⟨.faddr 0 (.t 1), (some 3), none, []⟩ :: ⟨.load 1 false (.t 3), (some 4), none, []⟩ :: L84_3
theorem v84_4 : wpS P L84_4 T L (rdy h) K = wpS P (⟨.faddr 0 (.t 1), (some 3), none, []⟩ :: ⟨.load 1 false (.t 3), (some 4), none, []⟩ :: L84_3) T L (rdy h) K := rfl
def C84_0 : ACode := .seq (.reg L84_4) .ret
theorem u84_0 : wpC P C84_0 T L (rdy h) Q = wpC P (.seq (.reg L84_4) .ret) T L (rdy h) Q := rfl
def C84_1 : ACode := .seq (.reg L84_0) C84_0
theorem u84_1 : wpC P C84_1 T L (rdy h) Q = wpC P (.seq (.reg L84_0) C84_0) T L (rdy h) Q := rfl
def F84 : AFunc := ⟨10, [.cell 2 2 true], C84_1⟩
theorem cF84 : compB Try.prog 84 = some F84 := by kernel_rfl
end
attribute [local go_sem ↓] u84_0 u84_1 v84_0 v84_1 v84_2 v84_3 v84_4
theorem c_copyOfF (f : Flat) (p n : CV) (h : H) (hf : SlF h p n f) (hn : smF f) : callK (bm Try.prog 84 [.agg [p, n]] h) fun r h' => Grow h h' ∧ ∃ p' n', r = .agg [p', n'] ∧ NwF h h' p' n' f := by
  refine bm_of cF84 ?_
  simp +contextual (maxSteps := 2000000) only [go_sem, Nat.reduceEqDiff, reduceCtorEq, Nat.reduceAdd, Nat.reduceLeDiff, F84]
  refine wp_call (c_cloneI _ _ h hf.pl hn.pl) ?_
  rintro r h1 ⟨g1, n1⟩
  obtain ⟨p', rfl⟩ := n1.one
  simp +contextual (maxSteps := 2000000) only [go_sem, Nat.reduceEqDiff, reduceCtorEq, Nat.reduceAdd, Nat.reduceLeDiff]
  refine wp_call (c_cloneP _ _ h1 (hf.nl.grow g1) hn.nl.1) ?_
  rintro r h2 ⟨g2, n2⟩
  obtain ⟨n', rfl⟩ := n2.one
  simp +contextual (maxSteps := 2000000) only [go_sem, Nat.reduceEqDiff, reduceCtorEq, Nat.reduceAdd, Nat.reduceLeDiff]
  have n3 : NwF h h2 p' n' f := ⟨n1.grow g2, n2.from g1.n, n1.apart n2⟩
  exact gcK_of ⟨g1.trans g2, _, _, rfl, n3⟩ (fun hs _ => ⟨Grow.refl h, _, _, rfl, n3.scalar hs h⟩)
end Go.Proofs.Ytcbnihbilmlokaa.Am
