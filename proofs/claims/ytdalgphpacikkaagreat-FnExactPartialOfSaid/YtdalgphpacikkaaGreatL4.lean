/- Contracts of the laws: copies, marks, and what is held, of structs of slices. -/
import Derived.Test.YtdalgphpacikkaaGreatL3
namespace Go.Proofs.YtdalgphpacikkaaGreat.Am
open Go
set_option maxRecDepth 100000
set_option maxHeartbeats 4000000
set_option linter.unusedSimpArgs false
set_option linter.unusedVariables false
attribute [local go_sem ↓] bv_t bv_c ev_t ev_c put_same put_ne put_none kill_at pro_at lb_same lb_ne start_zero start_succ wpC_seq wpC_reg wpC_cond wpC_block wpC_skip wpC_exit wpC_ret thenQ_normal thenQ_exit thenQ_ret inBlk_normal inBlk_exit inBlk_ret wpS_nil wpS_step wpS_again wpS_guard wpO_mov wpO_load wpO_faddr wpO_nilCheck wpO_pick wpO_build wpO_bin wpO_eqb wpO_eqst wpO_eqnil wpO_not wpO_conv wpO_bytesStr wpO_iaddr wpO_idxStr wpO_field wpO_extract wpO_len wpO_lenStr wpO_cap wpO_min wpO_slice wpO_sliceStr wpO_alloc wpO_box wpO_store wpO_call wpO_callv wpO_mkfn wpO_buildSlice wpO_mkslice wpO_append wpO_appz proA_nil proA_cons tmpX_nil tmpX_tmp tmpX_cell doneB_normal doneB_ret agK_cons agK_nil agK_guard agG_tt agG_ff agG_tf agG_ft agG_undef pureB_load results_one results_two results_nil resBs_cons resBs_nil resB_tmp resB_cell
attribute [local go_sem] kill_v kill_lp_ne kill_lp_same pro_v pro_lp_same pro_lp_ne av_v av_lp optB_some optX_some valX_eq ldX_lp ldX_v faX_lp faX_v ncX_lp ncX_ptr ncX_fn boxK_one boxK_agg stL_some stK_lp_one stK_lp_agg stK_v_one stK_v_agg proM_v proM_lp callG_mk callVG_mk callvK_fn fnG_mk ptrsA_nil ptrsA_cons callH_some whenA_true whenA_false guardH_tt guardH_ff guardH_tf guardH_ft guardH_undef agV_one agV_agg lenO_sl lenStrO_str notO_bool pickO_bool convO_int eqbO_bool eqnilO_sl extractO_tup capO_sl minO_int loadL_one loadL_all storeL_eq fillA_nil fillA_one fillA_agg nat_ge neg_ge nat_lt neg_lt buildO bin_add bin_sub bin_mul bin_eql bin_neq bin_lss bin_leq bin_gtr bin_geq str_eql str_neq str_lss str_leq str_gtr str_geq retK_some endK_mk gcK_same gcK_int gcK_bool tupO_one tupO_agg rdy_self ib ii Option.map_none Option.map_some Option.some.injEq exists_eq_left' exists_eq_left ne_eq not_false_eq_true if_true if_false List.map_cons List.map_nil List.getElem?_cons_zero List.getElem?_cons_succ List.length_cons List.length_nil List.take_succ_cons List.take_zero List.take_nil List.drop_succ_cons List.drop_zero List.drop_nil List.cons_append List.nil_append List.append_nil List.set_cons_zero List.set_cons_succ Nat.zero_add forall_const true_and and_true and_self Bool.false_eq_true false_implies true_implies implies_true Bool.not_true Bool.not_false Bool.not_eq_true' Bool.not_eq_false' beq_self_eq_true Bool.bne_true Bool.bne_false
attribute [local go_sem] lenI lenS lenP lenQ lenB lenL lenT encI_0 encS_0 encP_0 encP_1 encQ_0 encQ_1 encQ_2 encQ_3 encB_0 encB_1 encL_0 encL_1 encT_0 encT_1
attribute [local go_sem low] whenA_bool guardH_bool
/-! laws.toFlat -/
def L8_0 : List AStep := [⟨.box 28 (.t 0), (some 1), none, []⟩, ⟨.alloc 36 [(.sl none 0 (some 0)), (.sl none 0 (some 0))], (some 2), none, []⟩]
theorem v8_0 : VS L8_0.eq_1 := rfl
def L8_1 : List AStep := [⟨.alloc 36 [(.sl none 0 (some 0)), (.sl none 0 (some 0))], (some 3), none, []⟩]
theorem v8_1 : VS L8_1.eq_1 := rfl
def L8_2 : List AStep := [⟨.store 1 (.t 7) (.t 6), none, none, []⟩]
theorem v8_2 : VS L8_2.eq_1 := rfl
def L8_3 : List AStep := ⟨.call 24 [(.t 5)], (some 6), none, []⟩ :: ⟨.faddr 0 (.t 3), (some 7), none, []⟩ :: L8_2
theorem v8_3 : VS L8_3.eq_1 := rfl
def L8_4 : List AStep := ⟨.faddr 0 (.t 1), (some 4), none, []⟩ :: ⟨.load 1 false (.t 4), (some 5), none, []⟩ :: L8_3
theorem v8_4 : VS L8_4.eq_1 := rfl
def L8_5 : List AStep := [⟨.store 1 (.t 11) (.t 10), none, none, []⟩]
theorem v8_5 : VS L8_5.eq_1 := rfl
def L8_6 : List AStep := ⟨.call 25 [(.t 9)], (some 10), none, []⟩ :: ⟨.faddr 1 (.t 3), (some 11), none, []⟩ :: L8_5
theorem v8_6 : VS L8_6.eq_1 := rfl
def L8_7 : List AStep := ⟨.faddr 1 (.t 1), (some 8), none, []⟩ :: ⟨.load 1 false (.t 8), (some 9), none, []⟩ :: L8_6
theorem v8_7 : VS L8_7.eq_1 := rfl
def L8_8 : List AStep := [⟨.load 2 true (.t 3), (some 12), none, []⟩, ⟨.store 2 (.t 2) (.t 12), none, none, []⟩]
theorem v8_8 : VS L8_8.eq_1 := rfl
def C8_0 : ACode := .seq (.reg L8_8) .ret
theorem u8_0 : VC C8_0.eq_1 := rfl
def C8_1 : ACode := .seq (.reg L8_7) C8_0
theorem u8_1 : VC C8_1.eq_1 := rfl
def C8_2 : ACode := .seq (.reg L8_4) C8_1
theorem u8_2 : VC C8_2.eq_1 := rfl
def C8_3 : ACode := .seq (.reg L8_1) C8_2
theorem u8_3 : VC C8_3.eq_1 := rfl
def C8_4 : ACode := .seq (.reg L8_0) C8_3
theorem u8_4 : VC C8_4.eq_1 := rfl
def F8 : AFunc := ⟨13, [.cell 2 2 true], C8_4⟩
theorem cF8 : compB Tryz.prog 8 = some F8 := by kernel_rfl
attribute [local go_sem ↓] u8_0 u8_1 u8_2 u8_3 u8_4 v8_0 v8_1 v8_2 v8_3 v8_4 v8_5 v8_6 v8_7 v8_8
theorem c_toFlat {t1 t2 : Nat} (f : Flat) (p n : CV) (h : H) (hp : Sl encI 1 t1 h (.one p) f.pl) (hq : Sl encP 2 t2 h (.one n) f.nl) (k0 : f.pl.length ≤ 1048576) (k1 : f.nl.length ≤ 1048576) :
    callK (bm Tryz.prog 8 [.agg [p, n]] h) fun r h' => Grow h h' ∧ ∃ p' n', r = .agg [p', n'] ∧ NwF h h' p' n' f := by
  refine bm_of cF8 ?_
  simp +contextual (maxSteps := 2000000) only [go_sem, Nat.reduceEqDiff, reduceCtorEq, Nat.reduceAdd, Nat.reduceLeDiff, F8]
  refine wp_call (c_toIntS f.pl _ _ hp k0) ?_
  rintro r h1 ⟨g1, n1⟩
  obtain ⟨c, rfl⟩ := n1.one
  simp +contextual (maxSteps := 2000000) only [go_sem, Nat.reduceEqDiff, reduceCtorEq, Nat.reduceAdd, Nat.reduceLeDiff]
  refine wp_call (c_toPairS f.nl _ _ (hq.grow g1) k1) ?_
  rintro r h2 ⟨g2, n2⟩
  obtain ⟨d, rfl⟩ := n2.one
  simp +contextual (maxSteps := 2000000) only [go_sem, Nat.reduceEqDiff, reduceCtorEq, Nat.reduceAdd, Nat.reduceLeDiff]
  have n3 : NwF h h2 c d f := ⟨n1.grow g2, n2.from g1.n, n1.apart n2⟩
  exact gcK_of ⟨g1.trans g2, _, _, rfl, n3⟩ (fun hs _ => ⟨Grow.refl h, _, _, rfl, n3.scalar hs h⟩)
/-! laws.markFlat -/
def L14_0 : List AStep := [⟨.box 36 (.t 0), (some 2), none, []⟩, ⟨.mov (.c (.int .i64 0)), (some 4), none, []⟩]
theorem v14_0 : VS L14_0.eq_1 := rfl
def L14_1 : List AStep := [⟨.mov (.t 8), (some 1), none, []⟩]
theorem v14_1 : VS L14_1.eq_1 := rfl
def L14_2 : List AStep := ⟨.mov (.t 1), (some 7), none, []⟩ :: ⟨.call 33 [(.t 6), (.t 7)], (some 8), none, []⟩ :: L14_1
theorem v14_2 : VS L14_2.eq_1 := rfl
def L14_3 : List AStep := ⟨.faddr 0 (.t 2), (some 5), none, []⟩ :: ⟨.load 1 false (.t 5), (some 6), none, []⟩ :: L14_2
theorem v14_3 : VS L14_3.eq_1 := rfl
def L14_4 : List AStep := [⟨.mov (.t 12), (some 1), none, []⟩]
theorem v14_4 : VS L14_4.eq_1 := rfl
def L14_5 : List AStep := ⟨.mov (.t 1), (some 11), none, []⟩ :: ⟨.call 34 [(.t 10), (.t 11)], (some 12), none, []⟩ :: L14_4
theorem v14_5 : VS L14_5.eq_1 := rfl
def L14_6 : List AStep := ⟨.faddr 1 (.t 2), (some 9), none, []⟩ :: ⟨.load 1 false (.t 9), (some 10), none, []⟩ :: L14_5
theorem v14_6 : VS L14_6.eq_1 := rfl
def L14_7 : List AStep := [⟨.mov (.t 1), (some 13), none, []⟩, ⟨.mov (.t 13), (some 4), none, []⟩]
theorem v14_7 : VS L14_7.eq_1 := rfl
def C14_0 : ACode := .seq (.reg L14_7) .ret
theorem u14_0 : VC C14_0.eq_1 := rfl
def C14_1 : ACode := .seq (.reg L14_6) C14_0
theorem u14_1 : VC C14_1.eq_1 := rfl
def C14_2 : ACode := .seq (.reg L14_3) C14_1
theorem u14_2 : VC C14_2.eq_1 := rfl
def C14_3 : ACode := .seq (.reg L14_0) C14_2
theorem u14_3 : VC C14_3.eq_1 := rfl
def F14 : AFunc := ⟨14, [.tmp 4], C14_3⟩
theorem cF14 : compB Tryz.prog 14 = some F14 := by kernel_rfl
attribute [local go_sem ↓] u14_0 u14_1 u14_2 u14_3 v14_0 v14_1 v14_2 v14_3 v14_4 v14_5 v14_6 v14_7
theorem c_markzFlat (f : Flat) (p n : CV) (k : Int) (h0 hb h : H) {f0 : Flat} (hf : NwF h0 h p n f) (ho : NwF h0 hb p n f0) (g : Grow h0 h) (k1 : 0 ≤ k) (k2 : k ≤ 2 ^ 32) (hn : f.pl.length ≤ 1048576) (hm : f.nl.length ≤ 1048576) :
    callK (bm Tryz.prog 14 [.agg [p, n], .one (.int .i64 k)] h) fun r h' => r = ii (k + (cellsF f : Nat)) ∧ Grow h0 h' ∧ NwF h0 h' p n (mkF k f) ∧ Mid h0.n hb.n h h' ∧ (∃ h1, Stay (.one p) h h1 ∧ Stay (.one n) h1 h') := by
  refine bm_of cF14 ?_
  simp +contextual (maxSteps := 2000000) only [go_sem, Nat.reduceEqDiff, reduceCtorEq, Nat.reduceAdd, Nat.reduceLeDiff, F14]
  refine wp_call (c_markIntS f.pl _ k h0 h hf.pl g k1 (by omega) (by omega)) ?_
  rintro r h1 ⟨rfl, g1, n1, s1⟩
  simp +contextual (maxSteps := 2000000) only [go_sem, Nat.reduceEqDiff, reduceCtorEq, Nat.reduceAdd, Nat.reduceLeDiff]
  refine wp_call (c_markPairS f.nl _ _ h0 h1 (hf.nl.stay s1 hf.sep.symm) g1 (by omega) (by omega) (by omega)) ?_
  rintro r h2 ⟨rfl, g2, n2, s2⟩
  simp +contextual (maxSteps := 2000000) only [go_sem, Nat.reduceEqDiff, reduceCtorEq, Nat.reduceAdd, Nat.reduceLeDiff]
  have e : k + ((1 * f.pl.length : Nat) : Int) + ((2 * f.nl.length : Nat) : Int) = k + (cellsF f : Nat) := by unfold cellsF; omega
  have m1 := n1.stay s2 hf.sep
  rw [e]
  exact gcK_of ⟨rfl, g2, ⟨m1, n2, hf.sep⟩, (ho.pl.mid s1).trans (ho.nl.mid s2), h1, s1, s2⟩ (fun _ gg => ⟨rfl, g, ⟨m1.back hf.pl gg, n2.back hf.nl gg, hf.sep⟩, (Grow.refl h).mid, h, (Grow.refl h).stay _, (Grow.refl h).stay _⟩)
theorem c_markFlat (f : Flat) (p n : CV) (k : Int) (h0 hb h : H) {f0 : Flat} (hf : NwF h0 h p n f) (ho : NwF h0 hb p n f0) (g : Grow h0 h) (k1 : 0 ≤ k) (k2 : k ≤ 2 ^ 32) (hn : f.pl.length ≤ 1048576) (hm : f.nl.length ≤ 1048576) :
    callK (bm Tryz.prog 14 [.agg [p, n], .one (.int .i64 k)] h) fun r h' => r = ii (k + (cellsF f : Nat)) ∧ Grow h0 h' ∧ NwF h0 h' p n (mkF k f) ∧ Mid h0.n hb.n h h' := by
  obtain ⟨r, h1, e, a1, a2, a3, a4, _⟩ := c_markzFlat f p n k h0 hb h hf ho g k1 k2 hn hm
  exact ⟨r, h1, e, a1, a2, a3, a4⟩
/-! laws.heldFlat -/
def L36_0 : List AStep := [⟨.box 36 (.t 0), (some 2), none, []⟩, ⟨.mov (.c (.int .i64 0)), (some 4), none, []⟩]
theorem v36_0 : VS L36_0.eq_1 := rfl
def L36_1 : List AStep := [⟨.mov (.t 8), (some 1), none, []⟩]
theorem v36_1 : VS L36_1.eq_1 := rfl
def L36_2 : List AStep := ⟨.mov (.t 1), (some 7), none, []⟩ :: ⟨.call 51 [(.t 6), (.t 7)], (some 8), none, []⟩ :: L36_1
theorem v36_2 : VS L36_2.eq_1 := rfl
def L36_3 : List AStep := ⟨.faddr 0 (.t 2), (some 5), none, []⟩ :: ⟨.load 1 false (.t 5), (some 6), none, []⟩ :: L36_2
theorem v36_3 : VS L36_3.eq_1 := rfl
def L36_4 : List AStep := [⟨.mov (.t 1), (some 9), none, []⟩, ⟨.bin .lss (.t 9) (.c (.int .i64 0)), (some 10), none, []⟩]
theorem v36_4 : VS L36_4.eq_1 := rfl
def L36_5 : List AStep := [⟨.mov (.c (.int .i64 (-1))), (some 4), none, []⟩]
theorem v36_5 : VS L36_5.eq_1 := rfl
def L36_6 : List AStep := [⟨.mov (.t 14), (some 1), none, []⟩]
theorem v36_6 : VS L36_6.eq_1 := rfl
def L36_7 : List AStep := ⟨.mov (.t 1), (some 13), none, []⟩ :: ⟨.call 52 [(.t 12), (.t 13)], (some 14), none, []⟩ :: L36_6
theorem v36_7 : VS L36_7.eq_1 := rfl
def L36_8 : List AStep := ⟨.faddr 1 (.t 2), (some 11), none, []⟩ :: ⟨.load 1 false (.t 11), (some 12), none, []⟩ :: L36_7
theorem v36_8 : VS L36_8.eq_1 := rfl
def L36_9 : List AStep := [⟨.mov (.t 1), (some 15), none, []⟩, ⟨.bin .lss (.t 15) (.c (.int .i64 0)), (some 16), none, []⟩]
theorem v36_9 : VS L36_9.eq_1 := rfl
def L36_10 : List AStep := [⟨.mov (.c (.int .i64 (-1))), (some 4), none, []⟩]
theorem v36_10 : VS L36_10.eq_1 := rfl
def L36_11 : List AStep := [⟨.mov (.t 1), (some 17), none, []⟩, ⟨.mov (.t 17), (some 4), none, []⟩]
theorem v36_11 : VS L36_11.eq_1 := rfl
def C36_0 : ACode := .seq (.reg L36_5) .ret
theorem u36_0 : VC C36_0.eq_1 := rfl
def C36_1 : ACode := .cond (.t 10) C36_0 .skip
theorem u36_1 : VC C36_1.eq_1 := rfl
def C36_2 : ACode := .seq (.reg L36_4) C36_1
theorem u36_2 : VC C36_2.eq_1 := rfl
def C36_3 : ACode := .seq (.reg L36_10) .ret
theorem u36_3 : VC C36_3.eq_1 := rfl
def C36_4 : ACode := .cond (.t 16) C36_3 .skip
theorem u36_4 : VC C36_4.eq_1 := rfl
def C36_5 : ACode := .seq (.reg L36_9) C36_4
theorem u36_5 : VC C36_5.eq_1 := rfl
def C36_6 : ACode := .seq (.reg L36_11) .ret
theorem u36_6 : VC C36_6.eq_1 := rfl
def C36_7 : ACode := .seq C36_5 C36_6
theorem u36_7 : VC C36_7.eq_1 := rfl
def C36_8 : ACode := .seq (.reg L36_8) C36_7
theorem u36_8 : VC C36_8.eq_1 := rfl
def C36_9 : ACode := .seq C36_2 C36_8
theorem u36_9 : VC C36_9.eq_1 := rfl
def C36_10 : ACode := .seq (.reg L36_3) C36_9
theorem u36_10 : VC C36_10.eq_1 := rfl
def C36_11 : ACode := .seq (.reg L36_0) C36_10
theorem u36_11 : VC C36_11.eq_1 := rfl
def F36 : AFunc := ⟨18, [.tmp 4], C36_11⟩
theorem cF36 : compB Tryz.prog 36 = some F36 := by kernel_rfl
attribute [local go_sem ↓] u36_0 u36_1 u36_2 u36_3 u36_4 u36_5 u36_6 u36_7 u36_8 u36_9 u36_10 u36_11 v36_0 v36_1 v36_2 v36_3 v36_4 v36_5 v36_6 v36_7 v36_8 v36_9 v36_10 v36_11
theorem c_heldFlat (f : Flat) (p n : CV) (k : Int) (h : H) (hf : SlF h p n (mkF k f)) (k1 : 0 ≤ k) (k2 : k ≤ 2 ^ 32) (hn : f.pl.length ≤ 1048576) (hm : f.nl.length ≤ 1048576) :
    bm Tryz.prog 36 [.agg [p, n], .one (.int .i64 k)] h = some (ii (k + (cellsF f : Nat)), h) := by
  refine bm_eq cF36 ?_
  have e1 := c_heldIntS f.pl.length (.one p) k h hf.pl k1 (by omega) (by omega)
  have e2 := c_heldPairS f.nl.length (.one n) _ h hf.nl (by omega) (by omega) (by omega)
  have e3 : k + ((1 * f.pl.length : Nat) : Int) + ((2 * f.nl.length : Nat) : Int) = k + (cellsF f : Nat) := by unfold cellsF; omega
  rw [e3] at e2
  simp +contextual (maxSteps := 2000000) only [go_sem, Nat.reduceEqDiff, reduceCtorEq, Nat.reduceAdd, Nat.reduceLeDiff, F36, e1, e2, decide_eq_false (show ¬ (k + ((1 * f.pl.length : Nat) : Int) < 0) by omega), decide_eq_false (show ¬ (k + (cellsF f : Nat) < 0) by omega)]
end Go.Proofs.YtdalgphpacikkaaGreat.Am
