/- Contracts: one call over the other, of the laws' own reckoning. -/
import Derived.Test.YtekkimfdcbgcoabA1
namespace Go.Proofs.Ytekkimfdcbgcoab.Am
open Go
set_option maxRecDepth 100000
set_option maxHeartbeats 4000000
set_option linter.unusedSimpArgs false
set_option linter.unusedVariables false
attribute [local go_sem ↓] bv_t bv_c ev_t ev_c put_same put_ne put_none kill_at pro_at lb_same lb_ne start_zero start_succ wpC_seq wpC_reg wpC_cond wpC_block wpC_skip wpC_exit wpC_ret thenQ_normal thenQ_exit thenQ_ret inBlk_normal inBlk_exit inBlk_ret wpS_nil wpS_step wpS_again wpS_guard wpO_mov wpO_load wpO_faddr wpO_nilCheck wpO_pick wpO_build wpO_bin wpO_eqb wpO_eqst wpO_eqnil wpO_not wpO_conv wpO_bytesStr wpO_iaddr wpO_idxStr wpO_field wpO_extract wpO_len wpO_lenStr wpO_cap wpO_min wpO_slice wpO_sliceStr wpO_alloc wpO_box wpO_store wpO_call wpO_callv wpO_mkfn wpO_buildSlice wpO_mkslice wpO_append wpO_appz proA_nil proA_cons tmpX_nil tmpX_tmp tmpX_cell doneB_normal doneB_ret agK_cons agK_nil agK_guard agG_tt agG_ff agG_tf agG_ft agG_undef pureB_load results_one results_two results_nil resBs_cons resBs_nil resB_tmp resB_cell
attribute [local go_sem] kill_v kill_lp_ne kill_lp_same pro_v pro_lp_same pro_lp_ne av_v av_lp optB_some optX_some valX_eq ldX_lp ldX_v faX_lp faX_v ncX_lp ncX_ptr ncX_fn boxK_one boxK_agg stL_some stK_lp_one stK_lp_agg stK_v_one stK_v_agg proM_v proM_lp callG_mk callVG_mk callvK_fn fnG_mk ptrsA_nil ptrsA_cons callH_some whenA_true whenA_false guardH_tt guardH_ff guardH_tf guardH_ft guardH_undef agV_one agV_agg lenO_sl lenStrO_str notO_bool pickO_bool convO_int eqbO_bool eqnilO_sl extractO_tup capO_sl minO_int loadL_one loadL_all storeL_eq fillA_nil fillA_one fillA_agg nat_ge neg_ge nat_lt neg_lt buildO bin_add bin_sub bin_mul bin_eql bin_neq bin_lss bin_leq bin_gtr bin_geq str_eql str_neq str_lss str_leq str_gtr str_geq retK_some endK_mk gcK_same gcK_int gcK_bool tupO_one tupO_agg rdy_self ib ii Option.map_none Option.map_some Option.some.injEq exists_eq_left' exists_eq_left ne_eq not_false_eq_true if_true if_false List.map_cons List.map_nil List.getElem?_cons_zero List.getElem?_cons_succ List.length_cons List.length_nil List.take_succ_cons List.take_zero List.take_nil List.drop_succ_cons List.drop_zero List.drop_nil List.cons_append List.nil_append List.append_nil List.set_cons_zero List.set_cons_succ Nat.zero_add forall_const true_and and_true and_self Bool.false_eq_true false_implies true_implies implies_true Bool.not_true Bool.not_false Bool.not_eq_true' Bool.not_eq_false' beq_self_eq_true Bool.bne_true Bool.bne_false
attribute [local go_sem] lenI lenS lenP lenQ lenB lenL lenT encI_0 encS_0 encP_0 encP_1 encQ_0 encQ_1 encQ_2 encQ_3 encB_0 encB_1 encL_0 encL_1 encT_0 encT_1
attribute [local go_sem low] whenA_bool guardH_bool
/-! spec.copyParams -/
def L55_0 : List AStep := [⟨.mov (.c (.sl none 0 (some 0))), (some 2), none, []⟩]
theorem v55_0 : VS L55_0.eq_1 := rfl
def L55_1 : List AStep := [⟨.append 39 4 40 (.t 3) (.t 4), (some 5), none, []⟩, ⟨.mov (.t 5), (some 2), none, []⟩]
theorem v55_1 : VS L55_1.eq_1 := rfl
def L55_2 : List AStep := ⟨.buildSlice 39 0 [(.str (strOfNums [])), (.int .i64 0), (.bool false), (.int .i64 0)] [], (some 3), none, []⟩ :: ⟨.mov (.t 0), (some 4), none, []⟩ :: L55_1
theorem v55_2 : VS L55_2.eq_1 := rfl
def C55_0 : ACode := .seq (.reg L55_2) .ret
theorem u55_0 : VC C55_0.eq_1 := rfl
def C55_1 : ACode := .seq (.reg L55_0) C55_0
theorem u55_1 : VC C55_1.eq_1 := rfl
def F55 : AFunc := ⟨6, [.tmp 2], C55_1⟩
theorem cF55 : compB Try.prog 55 = some F55 := by kernel_rfl
attribute [local go_sem ↓] u55_0 u55_1 v55_0 v55_1 v55_2
theorem c_copyParams (l : List Param) (v : AV) (h : H) (hl : SlQ h v l) (hn : l.length ≤ big) : callK (bm Try.prog 55 [v] h) fun r h' => Grow h h' ∧ NwQ h h' r l := by
  refine bm_of cF55 ?_
  simp +contextual (maxSteps := 2000000) only [go_sem, Nat.reduceEqDiff, reduceCtorEq, Nat.reduceAdd, Nat.reduceLeDiff, F55]
  refine wp_lit (enc := encQ) (k := 4) (l := []) rfl rfl ?_
  intro h1 w g1 n1 _
  simp +contextual (maxSteps := 2000000) only [go_sem, Nat.reduceEqDiff, reduceCtorEq, Nat.reduceAdd, Nat.reduceLeDiff]
  refine wp_append lenQ n1 (hl.grow g1) g1 (by have := hn; unfold big at this; simp; omega) ?_
  intro h2 s g2 n2 _ _
  simp +contextual (maxSteps := 2000000) only [go_sem, Nat.reduceEqDiff, reduceCtorEq, Nat.reduceAdd, Nat.reduceLeDiff]
  exact gcK_of ⟨g2, n2⟩ (fun hs _ => ⟨Grow.refl h, n2.scalar hs h⟩)
/-! spec.putPair -/
def L87_0 : List AStep := [⟨.box 64 (.t 1), (some 3), none, []⟩, ⟨.mov (.c (.sl none 0 (some 0))), (some 4), none, []⟩]
theorem v87_0 : VS L87_0.eq_1 := rfl
def L87_1 : List AStep := [⟨.append 64 2 24 (.t 7) (.t 8), (some 9), none, []⟩, ⟨.mov (.t 9), (some 5), none, []⟩]
theorem v87_1 : VS L87_1.eq_1 := rfl
def L87_2 : List AStep := ⟨.buildSlice 64 0 [(.str (strOfNums [])), (.int .i64 0)] [], (some 7), none, []⟩ :: ⟨.mov (.t 0), (some 8), none, []⟩ :: L87_1
theorem v87_2 : VS L87_2.eq_1 := rfl
def L87_3 : List AStep := [⟨.mov (.t 13), (some 6), none, []⟩]
theorem v87_3 : VS L87_3.eq_1 := rfl
def L87_4 : List AStep := ⟨.load 1 false (.t 11), (some 12), none, []⟩ :: ⟨.call 131 [(.t 10), (.t 12)], (some 13), none, []⟩ :: L87_3
theorem v87_4 : VS L87_4.eq_1 := rfl
def L87_5 : List AStep := ⟨.mov (.t 5), (some 10), none, []⟩ :: ⟨.faddr 0 (.t 3), (some 11), none, []⟩ :: L87_4
theorem v87_5 : VS L87_5.eq_1 := rfl
def L87_6 : List AStep := [⟨.mov (.t 6), (some 14), none, []⟩, ⟨.bin .geq (.t 14) (.c (.int .i64 0)), (some 15), none, []⟩]
theorem v87_6 : VS L87_6.eq_1 := rfl
def L87_7 : List AStep := [⟨.store 2 (.t 19) (.t 18), none, none, []⟩]
theorem v87_7 : VS L87_7.eq_1 := rfl
def L87_8 : List AStep := ⟨.load 2 true (.t 3), (some 18), none, []⟩ :: ⟨.iaddr 2 (.t 16) (.t 17), (some 19), none, []⟩ :: L87_7
theorem v87_8 : VS L87_8.eq_1 := rfl
def L87_9 : List AStep := ⟨.mov (.t 5), (some 16), none, []⟩ :: ⟨.mov (.t 6), (some 17), none, []⟩ :: L87_8
theorem v87_9 : VS L87_9.eq_1 := rfl
def L87_10 : List AStep := [⟨.mov (.t 5), (some 20), none, []⟩, ⟨.mov (.t 20), (some 4), none, []⟩]
theorem v87_10 : VS L87_10.eq_1 := rfl
def L87_11 : List AStep := [⟨.mov (.t 24), (some 4), none, []⟩]
theorem v87_11 : VS L87_11.eq_1 := rfl
def L87_12 : List AStep := ⟨.buildSlice 64 1 [(.str (strOfNums [])), (.int .i64 0)] [(0, 2, (.t 22))], (some 23), none, []⟩ :: ⟨.append 64 2 24 (.t 21) (.t 23), (some 24), none, []⟩ :: L87_11
theorem v87_12 : VS L87_12.eq_1 := rfl
def L87_13 : List AStep := ⟨.mov (.t 5), (some 21), none, []⟩ :: ⟨.load 2 true (.t 3), (some 22), none, []⟩ :: L87_12
theorem v87_13 : VS L87_13.eq_1 := rfl
def C87_0 : ACode := .seq (.reg L87_10) .ret
theorem u87_0 : VC C87_0.eq_1 := rfl
def C87_1 : ACode := .seq (.reg L87_9) C87_0
theorem u87_1 : VC C87_1.eq_1 := rfl
def C87_2 : ACode := .cond (.t 15) C87_1 .skip
theorem u87_2 : VC C87_2.eq_1 := rfl
def C87_3 : ACode := .seq (.reg L87_6) C87_2
theorem u87_3 : VC C87_3.eq_1 := rfl
def C87_4 : ACode := .seq (.reg L87_13) .ret
theorem u87_4 : VC C87_4.eq_1 := rfl
def C87_5 : ACode := .seq C87_3 C87_4
theorem u87_5 : VC C87_5.eq_1 := rfl
def C87_6 : ACode := .seq (.reg L87_5) C87_5
theorem u87_6 : VC C87_6.eq_1 := rfl
def C87_7 : ACode := .seq (.reg L87_2) C87_6
theorem u87_7 : VC C87_7.eq_1 := rfl
def C87_8 : ACode := .seq (.reg L87_0) C87_7
theorem u87_8 : VC C87_8.eq_1 := rfl
def F87 : AFunc := ⟨25, [.tmp 4], C87_8⟩
theorem cF87 : compB Try.prog 87 = some F87 := by kernel_rfl
attribute [local go_sem ↓] u87_0 u87_1 u87_2 u87_3 u87_4 u87_5 u87_6 u87_7 u87_8 v87_0 v87_1 v87_2 v87_3 v87_4 v87_5 v87_6 v87_7 v87_8 v87_9 v87_10 v87_11 v87_12 v87_13
theorem c_putPair (l : List Pair) (v : AV) (x : Pair) (h : H) (hl : SlP h v l) (hn : smP l) : callK (bm Try.prog 87 [v, .agg (encP x)] h) fun r h' => Grow h h' ∧ NwP h h' r (putP l x) := by
  refine bm_of cF87 ?_
  simp +contextual (maxSteps := 2000000) only [go_sem, Nat.reduceEqDiff, reduceCtorEq, Nat.reduceAdd, Nat.reduceLeDiff, F87]
  refine wp_lit (enc := encP) (k := 2) (l := []) rfl rfl ?_
  intro h1 w g1 n1 _
  simp +contextual (maxSteps := 2000000) only [go_sem, Nat.reduceEqDiff, reduceCtorEq, Nat.reduceAdd, Nat.reduceLeDiff]
  refine wp_append lenP n1 (hl.grow g1) g1 (by have := hn.1; unfold big at this; simp; omega) ?_
  intro h2 s g2 n2 _ _
  rw [List.nil_append] at n2
  rcases idx_cases (fun q : Pair => decide (q.name = x.name)) l with e | ⟨j, hj, e, hs⟩ <;> (replace e := (show pairAt l x.name = _ from e))
  · simp +contextual (maxSteps := 2000000) only [go_sem, Nat.reduceEqDiff, reduceCtorEq, Nat.reduceAdd, Nat.reduceLeDiff, c_pairAt _ _ _ _ (n2.sl lenP) hn, e]
    refine wp_lit (enc := encP) (k := 2) (l := [x]) rfl rfl ?_
    intro h3 w2 g3 n3 _
    simp +contextual (maxSteps := 2000000) only [go_sem, Nat.reduceEqDiff, reduceCtorEq, Nat.reduceAdd, Nat.reduceLeDiff]
    refine wp_append lenP (n2.grow g3) (n3.sl lenP) (g2.trans g3) (by have := hn.1; unfold big at this; simp; omega) ?_
    intro h4 s4 g4 n4 _ _
    simp +contextual (maxSteps := 2000000) only [go_sem, Nat.reduceEqDiff, reduceCtorEq, Nat.reduceAdd, Nat.reduceLeDiff]
    rw [← putP_none e] at n4
    exact gcK_of ⟨g4, n4⟩ (fun hs _ => ⟨Grow.refl h, n4.scalar hs h⟩)
  · simp +contextual (maxSteps := 2000000) only [go_sem, Nat.reduceEqDiff, reduceCtorEq, Nat.reduceAdd, Nat.reduceLeDiff, c_pairAt _ _ _ _ (n2.sl lenP) hn, e, n2.iaddr hj]
    refine wp_setE (x := x) lenP n2 hj rfl rfl g2 ?_
    intro h3 g3 n3 st
    simp +contextual (maxSteps := 2000000) only [go_sem, Nat.reduceEqDiff, reduceCtorEq, Nat.reduceAdd, Nat.reduceLeDiff]
    rw [← putP_some e] at n3
    exact gcK_of ⟨g3, n3⟩ (fun hs _ => ⟨Grow.refl h, n3.scalar hs h⟩)
end Go.Proofs.Ytekkimfdcbgcoab.Am
