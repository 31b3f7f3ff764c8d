/- Contracts of the laws: copies, marks, and what is held, of structs of slices. -/
import Derived.Test.YtnphlonhogcedaaL3
namespace Go.Proofs.Ytnphlonhogcedaa.Am
open Go
set_option maxRecDepth 100000
set_option maxHeartbeats 4000000
set_option linter.unusedSimpArgs false
set_option linter.unusedVariables false
attribute [local go_sem ↓] bv_t bv_c ev_t ev_c put_same put_ne put_none kill_at pro_at lb_same lb_ne start_zero start_succ wpC_seq wpC_reg wpC_cond wpC_block wpC_skip wpC_exit wpC_ret thenQ_normal thenQ_exit thenQ_ret inBlk_normal inBlk_exit inBlk_ret wpS_nil wpS_step wpS_again wpS_guard wpO_mov wpO_load wpO_faddr wpO_nilCheck wpO_pick wpO_build wpO_bin wpO_eqb wpO_eqst wpO_eqnil wpO_not wpO_conv wpO_bytesStr wpO_iaddr wpO_idxStr wpO_field wpO_extract wpO_len wpO_lenStr wpO_cap wpO_min wpO_slice wpO_sliceStr wpO_alloc wpO_box wpO_store wpO_call wpO_callv wpO_mkfn wpO_buildSlice wpO_mkslice wpO_append wpO_appz proA_nil proA_cons tmpX_nil tmpX_tmp tmpX_cell doneB_normal doneB_ret agK_cons agK_nil agK_guard agG_tt agG_ff agG_tf agG_ft agG_undef pureB_load results_one results_two results_nil resBs_cons resBs_nil resB_tmp resB_cell
attribute [local go_sem] kill_v kill_lp_ne kill_lp_same pro_v pro_lp_same pro_lp_ne av_v av_lp optB_some optX_some valX_eq ldX_lp ldX_v faX_lp faX_v ncX_lp ncX_ptr ncX_fn boxK_one boxK_agg stL_some stK_lp_one stK_lp_agg stK_v_one stK_v_agg proM_v proM_lp callG_mk callVG_mk callvK_fn fnG_mk ptrsA_nil ptrsA_cons callH_some whenA_true whenA_false guardH_tt guardH_ff guardH_tf guardH_ft guardH_undef agV_one agV_agg lenO_sl lenStrO_str notO_bool pickO_bool convO_int eqbO_bool eqnilO_sl extractO_tup capO_sl minO_int loadL_one loadL_all storeL_eq fillA_nil fillA_one fillA_agg nat_ge neg_ge nat_lt neg_lt buildO bin_add bin_sub bin_mul bin_eql bin_neq bin_lss bin_leq bin_gtr bin_geq str_eql str_neq str_lss str_leq str_gtr str_geq retK_some endK_mk gcK_same gcK_int gcK_bool tupO_one tupO_agg rdy_self ib ii Option.map_none Option.map_some Option.some.injEq exists_eq_left' exists_eq_left ne_eq not_false_eq_true if_true if_false List.map_cons List.map_nil List.getElem?_cons_zero List.getElem?_cons_succ List.length_cons List.length_nil List.take_succ_cons List.take_zero List.take_nil List.drop_succ_cons List.drop_zero List.drop_nil List.cons_append List.nil_append List.append_nil List.set_cons_zero List.set_cons_succ Nat.zero_add forall_const true_and and_true and_self Bool.false_eq_true false_implies true_implies implies_true Bool.not_true Bool.not_false Bool.not_eq_true' Bool.not_eq_false' beq_self_eq_true Bool.bne_true Bool.bne_false
attribute [local go_sem] lenI lenS lenP lenQ lenB lenL lenT encI_0 encS_0 encP_0 encP_1 encQ_0 encQ_1 encQ_2 encQ_3 encB_0 encB_1 encL_0 encL_1 encT_0 encT_1
attribute [local go_sem low] whenA_bool guardH_bool
/-! laws.toHoles -/
def L56_0 : List AStep := [⟨.box 89 (.t 0), (some 1), none, []⟩, ⟨.alloc 41 [(.sl none 0 (some 0)), (.sl none 0 (some 0))], (some 2), none, []⟩]
theorem v56_0 : VS L56_0.eq_1 := rfl
def L56_1 : List AStep := [⟨.alloc 41 [(.sl none 0 (some 0)), (.sl none 0 (some 0))], (some 3), none, []⟩]
theorem v56_1 : VS L56_1.eq_1 := rfl
def L56_2 : List AStep := [⟨.store 1 (.t 7) (.t 6), none, none, []⟩]
theorem v56_2 : VS L56_2.eq_1 := rfl
def L56_3 : List AStep := ⟨.call 131 [(.t 5)], (some 6), none, []⟩ :: ⟨.faddr 0 (.t 3), (some 7), none, []⟩ :: L56_2
theorem v56_3 : VS L56_3.eq_1 := rfl
def L56_4 : List AStep := ⟨.faddr 0 (.t 1), (some 4), none, []⟩ :: ⟨.load 1 false (.t 4), (some 5), none, []⟩ :: L56_3
theorem v56_4 : VS L56_4.eq_1 := rfl
def L56_5 : List AStep := [⟨.store 1 (.t 11) (.t 10), none, none, []⟩]
theorem v56_5 : VS L56_5.eq_1 := rfl
def L56_6 : List AStep := ⟨.call 108 [(.t 9)], (some 10), none, []⟩ :: ⟨.faddr 1 (.t 3), (some 11), none, []⟩ :: L56_5
theorem v56_6 : VS L56_6.eq_1 := rfl
def L56_7 : List AStep := ⟨.faddr 1 (.t 1), (some 8), none, []⟩ :: ⟨.load 1 false (.t 8), (some 9), none, []⟩ :: L56_6
theorem v56_7 : VS L56_7.eq_1 := rfl
def L56_8 : List AStep := [⟨.load 2 true (.t 3), (some 12), none, []⟩, ⟨.store 2 (.t 2) (.t 12), none, none, []⟩]
theorem v56_8 : VS L56_8.eq_1 := rfl
def C56_0 : ACode := .seq (.reg L56_8) .ret
theorem u56_0 : VC C56_0.eq_1 := rfl
def C56_1 : ACode := .seq (.reg L56_7) C56_0
theorem u56_1 : VC C56_1.eq_1 := rfl
def C56_2 : ACode := .seq (.reg L56_4) C56_1
theorem u56_2 : VC C56_2.eq_1 := rfl
def C56_3 : ACode := .seq (.reg L56_1) C56_2
theorem u56_3 : VC C56_3.eq_1 := rfl
def C56_4 : ACode := .seq (.reg L56_0) C56_3
theorem u56_4 : VC C56_4.eq_1 := rfl
def F56 : AFunc := ⟨13, [.cell 2 2 true], C56_4⟩
theorem cF56 : compB Try.prog 56 = some F56 := by kernel_rfl
attribute [local go_sem ↓] u56_0 u56_1 u56_2 u56_3 u56_4 v56_0 v56_1 v56_2 v56_3 v56_4 v56_5 v56_6 v56_7 v56_8
theorem c_toHoles {t1 t2 : Nat} (f : Holes) (p n : CV) (h : H) (hp : Sl encL 2 t1 h (.one p) f.pl) (hq : Sl encP 2 t2 h (.one n) f.nl) (k0 : f.pl.length ≤ 1048576) (k1 : f.nl.length ≤ 1048576) :
    callK (bm Try.prog 56 [.agg [p, n]] h) fun r h' => Grow h h' ∧ ∃ p' n', r = .agg [p', n'] ∧ NwH h h' p' n' f := by
  refine bm_of cF56 ?_
  simp +contextual (maxSteps := 2000000) only [go_sem, Nat.reduceEqDiff, reduceCtorEq, Nat.reduceAdd, Nat.reduceLeDiff, F56]
  refine wp_call (c_toPlaceS f.pl _ _ hp k0) ?_
  rintro r h1 ⟨g1, n1⟩
  obtain ⟨c, rfl⟩ := n1.one
  simp +contextual (maxSteps := 2000000) only [go_sem, Nat.reduceEqDiff, reduceCtorEq, Nat.reduceAdd, Nat.reduceLeDiff]
  refine wp_call (c_toPairS f.nl _ _ (hq.grow g1) k1) ?_
  rintro r h2 ⟨g2, n2⟩
  obtain ⟨d, rfl⟩ := n2.one
  simp +contextual (maxSteps := 2000000) only [go_sem, Nat.reduceEqDiff, reduceCtorEq, Nat.reduceAdd, Nat.reduceLeDiff]
  have n3 : NwH h h2 c d f := ⟨n1.grow g2, n2.from g1.n, n1.apart n2⟩
  exact gcK_of ⟨g1.trans g2, _, _, rfl, n3⟩ (fun hs _ => ⟨Grow.refl h, _, _, rfl, n3.scalar hs h⟩)
/-! laws.markHoles -/
def L58_0 : List AStep := [⟨.box 41 (.t 0), (some 2), none, []⟩, ⟨.mov (.c (.int .i64 0)), (some 4), none, []⟩]
theorem v58_0 : VS L58_0.eq_1 := rfl
def L58_1 : List AStep := [⟨.mov (.t 8), (some 1), none, []⟩]
theorem v58_1 : VS L58_1.eq_1 := rfl
def L58_2 : List AStep := ⟨.mov (.t 1), (some 7), none, []⟩ :: ⟨.call 133 [(.t 6), (.t 7)], (some 8), none, []⟩ :: L58_1
theorem v58_2 : VS L58_2.eq_1 := rfl
def L58_3 : List AStep := ⟨.faddr 0 (.t 2), (some 5), none, []⟩ :: ⟨.load 1 false (.t 5), (some 6), none, []⟩ :: L58_2
theorem v58_3 : VS L58_3.eq_1 := rfl
def L58_4 : List AStep := [⟨.mov (.t 12), (some 1), none, []⟩]
theorem v58_4 : VS L58_4.eq_1 := rfl
def L58_5 : List AStep := ⟨.mov (.t 1), (some 11), none, []⟩ :: ⟨.call 113 [(.t 10), (.t 11)], (some 12), none, []⟩ :: L58_4
theorem v58_5 : VS L58_5.eq_1 := rfl
def L58_6 : List AStep := ⟨.faddr 1 (.t 2), (some 9), none, []⟩ :: ⟨.load 1 false (.t 9), (some 10), none, []⟩ :: L58_5
theorem v58_6 : VS L58_6.eq_1 := rfl
def L58_7 : List AStep := [⟨.mov (.t 1), (some 13), none, []⟩, ⟨.mov (.t 13), (some 4), none, []⟩]
theorem v58_7 : VS L58_7.eq_1 := rfl
def C58_0 : ACode := .seq (.reg L58_7) .ret
theorem u58_0 : VC C58_0.eq_1 := rfl
def C58_1 : ACode := .seq (.reg L58_6) C58_0
theorem u58_1 : VC C58_1.eq_1 := rfl
def C58_2 : ACode := .seq (.reg L58_3) C58_1
theorem u58_2 : VC C58_2.eq_1 := rfl
def C58_3 : ACode := .seq (.reg L58_0) C58_2
theorem u58_3 : VC C58_3.eq_1 := rfl
def F58 : AFunc := ⟨14, [.tmp 4], C58_3⟩
theorem cF58 : compB Try.prog 58 = some F58 := by kernel_rfl
attribute [local go_sem ↓] u58_0 u58_1 u58_2 u58_3 v58_0 v58_1 v58_2 v58_3 v58_4 v58_5 v58_6 v58_7
theorem c_markzHoles (f : Holes) (p n : CV) (k : Int) (h0 hb h : H) {f0 : Holes} (hf : NwH h0 h p n f) (ho : NwH h0 hb p n f0) (g : Grow h0 h) (k1 : 0 ≤ k) (k2 : k ≤ 2 ^ 32) (hn : f.pl.length ≤ 1048576) (hm : f.nl.length ≤ 1048576) :
    callK (bm Try.prog 58 [.agg [p, n], .one (.int .i64 k)] h) fun r h' => r = ii (k + (cellsH f : Nat)) ∧ Grow h0 h' ∧ NwH h0 h' p n (mkH k f) ∧ Mid h0.n hb.n h h' ∧ (∃ h1, Stay (.one p) h h1 ∧ Stay (.one n) h1 h') := by
  refine bm_of cF58 ?_
  simp +contextual (maxSteps := 2000000) only [go_sem, Nat.reduceEqDiff, reduceCtorEq, Nat.reduceAdd, Nat.reduceLeDiff, F58]
  refine wp_call (c_markPlaceS f.pl _ k h0 h hf.pl g k1 (by omega) (by omega)) ?_
  rintro r h1 ⟨rfl, g1, n1, s1⟩
  simp +contextual (maxSteps := 2000000) only [go_sem, Nat.reduceEqDiff, reduceCtorEq, Nat.reduceAdd, Nat.reduceLeDiff]
  refine wp_call (c_markPairS f.nl _ _ h0 h1 (hf.nl.stay s1 hf.sep.symm) g1 (by omega) (by omega) (by omega)) ?_
  rintro r h2 ⟨rfl, g2, n2, s2⟩
  simp +contextual (maxSteps := 2000000) only [go_sem, Nat.reduceEqDiff, reduceCtorEq, Nat.reduceAdd, Nat.reduceLeDiff]
  have e : k + ((2 * f.pl.length : Nat) : Int) + ((2 * f.nl.length : Nat) : Int) = k + (cellsH f : Nat) := by unfold cellsH; omega
  have m1 := n1.stay s2 hf.sep
  rw [e]
  exact gcK_of ⟨rfl, g2, ⟨m1, n2, hf.sep⟩, (ho.pl.mid s1).trans (ho.nl.mid s2), h1, s1, s2⟩ (fun _ gg => ⟨rfl, g, ⟨m1.back hf.pl gg, n2.back hf.nl gg, hf.sep⟩, (Grow.refl h).mid, h, (Grow.refl h).stay _, (Grow.refl h).stay _⟩)
theorem c_markHoles (f : Holes) (p n : CV) (k : Int) (h0 hb h : H) {f0 : Holes} (hf : NwH h0 h p n f) (ho : NwH h0 hb p n f0) (g : Grow h0 h) (k1 : 0 ≤ k) (k2 : k ≤ 2 ^ 32) (hn : f.pl.length ≤ 1048576) (hm : f.nl.length ≤ 1048576) :
    callK (bm Try.prog 58 [.agg [p, n], .one (.int .i64 k)] h) fun r h' => r = ii (k + (cellsH f : Nat)) ∧ Grow h0 h' ∧ NwH h0 h' p n (mkH k f) ∧ Mid h0.n hb.n h h' := by
  obtain ⟨r, h1, e, a1, a2, a3, a4, _⟩ := c_markzHoles f p n k h0 hb h hf ho g k1 k2 hn hm
  exact ⟨r, h1, e, a1, a2, a3, a4⟩
/-! laws.heldHoles -/
def L59_0 : List AStep := [⟨.box 41 (.t 0), (some 2), none, []⟩, ⟨.mov (.c (.int .i64 0)), (some 4), none, []⟩]
theorem v59_0 : VS L59_0.eq_1 := rfl
def L59_1 : List AStep := [⟨.mov (.t 8), (some 1), none, []⟩]
theorem v59_1 : VS L59_1.eq_1 := rfl
def L59_2 : List AStep := ⟨.mov (.t 1), (some 7), none, []⟩ :: ⟨.call 134 [(.t 6), (.t 7)], (some 8), none, []⟩ :: L59_1
theorem v59_2 : VS L59_2.eq_1 := rfl
def L59_3 : List AStep := ⟨.faddr 0 (.t 2), (some 5), none, []⟩ :: ⟨.load 1 false (.t 5), (some 6), none, []⟩ :: L59_2
theorem v59_3 : VS L59_3.eq_1 := rfl
def L59_4 : List AStep := [⟨.mov (.t 1), (some 9), none, []⟩, ⟨.bin .lss (.t 9) (.c (.int .i64 0)), (some 10), none, []⟩]
theorem v59_4 : VS L59_4.eq_1 := rfl
def L59_5 : List AStep := [⟨.mov (.c (.int .i64 (-1))), (some 4), none, []⟩]
theorem v59_5 : VS L59_5.eq_1 := rfl
def L59_6 : List AStep := [⟨.mov (.t 14), (some 1), none, []⟩]
theorem v59_6 : VS L59_6.eq_1 := rfl
def L59_7 : List AStep := ⟨.mov (.t 1), (some 13), none, []⟩ :: ⟨.call 120 [(.t 12), (.t 13)], (some 14), none, []⟩ :: L59_6
theorem v59_7 : VS L59_7.eq_1 := rfl
def L59_8 : List AStep := ⟨.faddr 1 (.t 2), (some 11), none, []⟩ :: ⟨.load 1 false (.t 11), (some 12), none, []⟩ :: L59_7
theorem v59_8 : VS L59_8.eq_1 := rfl
def L59_9 : List AStep := [⟨.mov (.t 1), (some 15), none, []⟩, ⟨.bin .lss (.t 15) (.c (.int .i64 0)), (some 16), none, []⟩]
theorem v59_9 : VS L59_9.eq_1 := rfl
def L59_10 : List AStep := [⟨.mov (.c (.int .i64 (-1))), (some 4), none, []⟩]
theorem v59_10 : VS L59_10.eq_1 := rfl
def L59_11 : List AStep := [⟨.mov (.t 1), (some 17), none, []⟩, ⟨.mov (.t 17), (some 4), none, []⟩]
theorem v59_11 : VS L59_11.eq_1 := rfl
def C59_0 : ACode := .seq (.reg L59_5) .ret
theorem u59_0 : VC C59_0.eq_1 := rfl
def C59_1 : ACode := .cond (.t 10) C59_0 .skip
theorem u59_1 : VC C59_1.eq_1 := rfl
def C59_2 : ACode := .seq (.reg L59_4) C59_1
theorem u59_2 : VC C59_2.eq_1 := rfl
def C59_3 : ACode := .seq (.reg L59_10) .ret
theorem u59_3 : VC C59_3.eq_1 := rfl
def C59_4 : ACode := .cond (.t 16) C59_3 .skip
theorem u59_4 : VC C59_4.eq_1 := rfl
def C59_5 : ACode := .seq (.reg L59_9) C59_4
theorem u59_5 : VC C59_5.eq_1 := rfl
def C59_6 : ACode := .seq (.reg L59_11) .ret
theorem u59_6 : VC C59_6.eq_1 := rfl
def C59_7 : ACode := .seq C59_5 C59_6
theorem u59_7 : VC C59_7.eq_1 := rfl
def C59_8 : ACode := .seq (.reg L59_8) C59_7
theorem u59_8 : VC C59_8.eq_1 := rfl
def C59_9 : ACode := .seq C59_2 C59_8
theorem u59_9 : VC C59_9.eq_1 := rfl
def C59_10 : ACode := .seq (.reg L59_3) C59_9
theorem u59_10 : VC C59_10.eq_1 := rfl
def C59_11 : ACode := .seq (.reg L59_0) C59_10
theorem u59_11 : VC C59_11.eq_1 := rfl
def F59 : AFunc := ⟨18, [.tmp 4], C59_11⟩
theorem cF59 : compB Try.prog 59 = some F59 := by kernel_rfl
attribute [local go_sem ↓] u59_0 u59_1 u59_2 u59_3 u59_4 u59_5 u59_6 u59_7 u59_8 u59_9 u59_10 u59_11 v59_0 v59_1 v59_2 v59_3 v59_4 v59_5 v59_6 v59_7 v59_8 v59_9 v59_10 v59_11
theorem c_heldHoles (f : Holes) (p n : CV) (k : Int) (h : H) (hf : SlH h p n (mkH k f)) (k1 : 0 ≤ k) (k2 : k ≤ 2 ^ 32) (hn : f.pl.length ≤ 1048576) (hm : f.nl.length ≤ 1048576) :
    bm Try.prog 59 [.agg [p, n], .one (.int .i64 k)] h = some (ii (k + (cellsH f : Nat)), h) := by
  refine bm_eq cF59 ?_
  have e1 := c_heldPlaceS f.pl.length (.one p) k h hf.pl k1 (by omega) (by omega)
  have e2 := c_heldPairS f.nl.length (.one n) _ h hf.nl (by omega) (by omega) (by omega)
  have e3 : k + ((2 * f.pl.length : Nat) : Int) + ((2 * f.nl.length : Nat) : Int) = k + (cellsH f : Nat) := by unfold cellsH; omega
  rw [e3] at e2
  simp +contextual (maxSteps := 2000000) only [go_sem, Nat.reduceEqDiff, reduceCtorEq, Nat.reduceAdd, Nat.reduceLeDiff, F59, e1, e2, decide_eq_false (show ¬ (k + ((2 * f.pl.length : Nat) : Int) < 0) by omega), decide_eq_false (show ¬ (k + (cellsH f : Nat) < 0) by omega)]
end Go.Proofs.Ytnphlonhogcedaa.Am
