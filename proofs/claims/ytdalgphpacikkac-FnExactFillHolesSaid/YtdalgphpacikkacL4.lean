/- Contracts of the laws: copies, marks, and what is held, of structs of slices. -/
import Derived.Test.YtdalgphpacikkacL3
namespace Go.Proofs.Ytdalgphpacikkac.Am
open Go
set_option maxRecDepth 100000
set_option maxHeartbeats 4000000
set_option linter.unusedSimpArgs false
set_option linter.unusedVariables false
attribute [local go_sem ↓] bv_t bv_c ev_t ev_c put_same put_ne put_none kill_at pro_at lb_same lb_ne start_zero start_succ wpC_seq wpC_reg wpC_cond wpC_block wpC_skip wpC_exit wpC_ret thenQ_normal thenQ_exit thenQ_ret inBlk_normal inBlk_exit inBlk_ret wpS_nil wpS_step wpS_again wpS_guard wpO_mov wpO_load wpO_faddr wpO_nilCheck wpO_pick wpO_build wpO_bin wpO_eqb wpO_eqst wpO_eqnil wpO_not wpO_conv wpO_bytesStr wpO_iaddr wpO_idxStr wpO_field wpO_extract wpO_len wpO_lenStr wpO_cap wpO_min wpO_slice wpO_sliceStr wpO_alloc wpO_box wpO_store wpO_call wpO_callv wpO_mkfn wpO_buildSlice wpO_mkslice wpO_append wpO_appz proA_nil proA_cons tmpX_nil tmpX_tmp tmpX_cell doneB_normal doneB_ret agK_cons agK_nil agK_guard agG_tt agG_ff agG_tf agG_ft agG_undef pureB_load results_one results_two results_nil resBs_cons resBs_nil resB_tmp resB_cell
attribute [local go_sem] kill_v kill_lp_ne kill_lp_same pro_v pro_lp_same pro_lp_ne av_v av_lp optB_some optX_some valX_eq ldX_lp ldX_v faX_lp faX_v ncX_lp ncX_ptr ncX_fn boxK_one boxK_agg stL_some stK_lp_one stK_lp_agg stK_v_one stK_v_agg proM_v proM_lp callG_mk callVG_mk callvK_fn fnG_mk ptrsA_nil ptrsA_cons callH_some whenA_true whenA_false guardH_tt guardH_ff guardH_tf guardH_ft guardH_undef agV_one agV_agg lenO_sl lenStrO_str notO_bool pickO_bool convO_int eqbO_bool eqnilO_sl extractO_tup capO_sl minO_int loadL_one loadL_all storeL_eq fillA_nil fillA_one fillA_agg nat_ge neg_ge nat_lt neg_lt buildO bin_add bin_sub bin_mul bin_eql bin_neq bin_lss bin_leq bin_gtr bin_geq str_eql str_neq str_lss str_leq str_gtr str_geq retK_some endK_mk gcK_same gcK_int gcK_bool tupO_one tupO_agg rdy_self ib ii Option.map_none Option.map_some Option.some.injEq exists_eq_left' exists_eq_left ne_eq not_false_eq_true if_true if_false List.map_cons List.map_nil List.getElem?_cons_zero List.getElem?_cons_succ List.length_cons List.length_nil List.take_succ_cons List.take_zero List.take_nil List.drop_succ_cons List.drop_zero List.drop_nil List.cons_append List.nil_append List.append_nil List.set_cons_zero List.set_cons_succ Nat.zero_add forall_const true_and and_true and_self Bool.false_eq_true false_implies true_implies implies_true Bool.not_true Bool.not_false Bool.not_eq_true' Bool.not_eq_false' beq_self_eq_true Bool.bne_true Bool.bne_false
attribute [local go_sem] lenI lenS lenP lenQ lenB lenL lenT encI_0 encS_0 encP_0 encP_1 encQ_0 encQ_1 encQ_2 encQ_3 encB_0 encB_1 encL_0 encL_1 encT_0 encT_1
attribute [local go_sem low] whenA_bool guardH_bool
/-! laws.toFlat -/
def L12_0 : List AStep := [⟨.box 28 (.t 0), (some 1), none, []⟩, ⟨.alloc 33 [(.sl none 0 (some 0)), (.sl none 0 (some 0))], (some 2), none, []⟩]
theorem v12_0 : VS L12_0.eq_1 := rfl
def L12_1 : List AStep := [⟨.alloc 33 [(.sl none 0 (some 0)), (.sl none 0 (some 0))], (some 3), none, []⟩]
theorem v12_1 : VS L12_1.eq_1 := rfl
def L12_2 : List AStep := [⟨.store 1 (.t 7) (.t 6), none, none, []⟩]
theorem v12_2 : VS L12_2.eq_1 := rfl
def L12_3 : List AStep := ⟨.call 47 [(.t 5)], (some 6), none, []⟩ :: ⟨.faddr 0 (.t 3), (some 7), none, []⟩ :: L12_2
theorem v12_3 : VS L12_3.eq_1 := rfl
def L12_4 : List AStep := ⟨.faddr 0 (.t 1), (some 4), none, []⟩ :: ⟨.load 1 false (.t 4), (some 5), none, []⟩ :: L12_3
theorem v12_4 : VS L12_4.eq_1 := rfl
def L12_5 : List AStep := [⟨.store 1 (.t 11) (.t 10), none, none, []⟩]
theorem v12_5 : VS L12_5.eq_1 := rfl
def L12_6 : List AStep := ⟨.call 46 [(.t 9)], (some 10), none, []⟩ :: ⟨.faddr 1 (.t 3), (some 11), none, []⟩ :: L12_5
theorem v12_6 : VS L12_6.eq_1 := rfl
def L12_7 : List AStep := ⟨.faddr 1 (.t 1), (some 8), none, []⟩ :: ⟨.load 1 false (.t 8), (some 9), none, []⟩ :: L12_6
theorem v12_7 : VS L12_7.eq_1 := rfl
def L12_8 : List AStep := [⟨.load 2 true (.t 3), (some 12), none, []⟩, ⟨.store 2 (.t 2) (.t 12), none, none, []⟩]
theorem v12_8 : VS L12_8.eq_1 := rfl
def C12_0 : ACode := .seq (.reg L12_8) .ret
theorem u12_0 : VC C12_0.eq_1 := rfl
def C12_1 : ACode := .seq (.reg L12_7) C12_0
theorem u12_1 : VC C12_1.eq_1 := rfl
def C12_2 : ACode := .seq (.reg L12_4) C12_1
theorem u12_2 : VC C12_2.eq_1 := rfl
def C12_3 : ACode := .seq (.reg L12_1) C12_2
theorem u12_3 : VC C12_3.eq_1 := rfl
def C12_4 : ACode := .seq (.reg L12_0) C12_3
theorem u12_4 : VC C12_4.eq_1 := rfl
def F12 : AFunc := ⟨13, [.cell 2 2 true], C12_4⟩
theorem cF12 : compB Try.prog 12 = some F12 := by kernel_rfl
attribute [local go_sem ↓] u12_0 u12_1 u12_2 u12_3 u12_4 v12_0 v12_1 v12_2 v12_3 v12_4 v12_5 v12_6 v12_7 v12_8
theorem c_toFlat {t1 t2 : Nat} (f : Flat) (p n : CV) (h : H) (hp : Sl encI 1 t1 h (.one p) f.pl) (hq : Sl encP 2 t2 h (.one n) f.nl) (k0 : f.pl.length ≤ 1048576) (k1 : f.nl.length ≤ 1048576) :
    callK (bm Try.prog 12 [.agg [p, n]] h) fun r h' => Grow h h' ∧ ∃ p' n', r = .agg [p', n'] ∧ NwF h h' p' n' f := by
  refine bm_of cF12 ?_
  simp +contextual (maxSteps := 2000000) only [go_sem, Nat.reduceEqDiff, reduceCtorEq, Nat.reduceAdd, Nat.reduceLeDiff, F12]
  refine wp_call (c_toIntS f.pl _ _ hp k0) ?_
  rintro r h1 ⟨g1, n1⟩
  obtain ⟨c, rfl⟩ := n1.one
  simp +contextual (maxSteps := 2000000) only [go_sem, Nat.reduceEqDiff, reduceCtorEq, Nat.reduceAdd, Nat.reduceLeDiff]
  refine wp_call (c_toPairS f.nl _ _ (hq.grow g1) k1) ?_
  rintro r h2 ⟨g2, n2⟩
  obtain ⟨d, rfl⟩ := n2.one
  simp +contextual (maxSteps := 2000000) only [go_sem, Nat.reduceEqDiff, reduceCtorEq, Nat.reduceAdd, Nat.reduceLeDiff]
  have n3 : NwF h h2 c d f := ⟨n1.grow g2, n2.from g1.n, n1.apart n2⟩
  exact gcK_of ⟨g1.trans g2, _, _, rfl, n3⟩ (fun hs _ => ⟨Grow.refl h, _, _, rfl, n3.scalar hs h⟩)
/-! laws.markFlat -/
def L17_0 : List AStep := [⟨.box 33 (.t 0), (some 2), none, []⟩, ⟨.mov (.c (.int .i64 0)), (some 4), none, []⟩]
theorem v17_0 : VS L17_0.eq_1 := rfl
def L17_1 : List AStep := [⟨.mov (.t 8), (some 1), none, []⟩]
theorem v17_1 : VS L17_1.eq_1 := rfl
def L17_2 : List AStep := ⟨.mov (.t 1), (some 7), none, []⟩ :: ⟨.call 56 [(.t 6), (.t 7)], (some 8), none, []⟩ :: L17_1
theorem v17_2 : VS L17_2.eq_1 := rfl
def L17_3 : List AStep := ⟨.faddr 0 (.t 2), (some 5), none, []⟩ :: ⟨.load 1 false (.t 5), (some 6), none, []⟩ :: L17_2
theorem v17_3 : VS L17_3.eq_1 := rfl
def L17_4 : List AStep := [⟨.mov (.t 12), (some 1), none, []⟩]
theorem v17_4 : VS L17_4.eq_1 := rfl
def L17_5 : List AStep := ⟨.mov (.t 1), (some 11), none, []⟩ :: ⟨.call 55 [(.t 10), (.t 11)], (some 12), none, []⟩ :: L17_4
theorem v17_5 : VS L17_5.eq_1 := rfl
def L17_6 : List AStep := ⟨.faddr 1 (.t 2), (some 9), none, []⟩ :: ⟨.load 1 false (.t 9), (some 10), none, []⟩ :: L17_5
theorem v17_6 : VS L17_6.eq_1 := rfl
def L17_7 : List AStep := [⟨.mov (.t 1), (some 13), none, []⟩, ⟨.mov (.t 13), (some 4), none, []⟩]
theorem v17_7 : VS L17_7.eq_1 := rfl
def C17_0 : ACode := .seq (.reg L17_7) .ret
theorem u17_0 : VC C17_0.eq_1 := rfl
def C17_1 : ACode := .seq (.reg L17_6) C17_0
theorem u17_1 : VC C17_1.eq_1 := rfl
def C17_2 : ACode := .seq (.reg L17_3) C17_1
theorem u17_2 : VC C17_2.eq_1 := rfl
def C17_3 : ACode := .seq (.reg L17_0) C17_2
theorem u17_3 : VC C17_3.eq_1 := rfl
def F17 : AFunc := ⟨14, [.tmp 4], C17_3⟩
theorem cF17 : compB Try.prog 17 = some F17 := by kernel_rfl
attribute [local go_sem ↓] u17_0 u17_1 u17_2 u17_3 v17_0 v17_1 v17_2 v17_3 v17_4 v17_5 v17_6 v17_7
theorem c_markzFlat (f : Flat) (p n : CV) (k : Int) (h0 hb h : H) {f0 : Flat} (hf : NwF h0 h p n f) (ho : NwF h0 hb p n f0) (g : Grow h0 h) (k1 : 0 ≤ k) (k2 : k ≤ 2 ^ 32) (hn : f.pl.length ≤ 1048576) (hm : f.nl.length ≤ 1048576) :
    callK (bm Try.prog 17 [.agg [p, n], .one (.int .i64 k)] h) fun r h' => r = ii (k + (cellsF f : Nat)) ∧ Grow h0 h' ∧ NwF h0 h' p n (mkF k f) ∧ Mid h0.n hb.n h h' ∧ (∃ h1, Stay (.one p) h h1 ∧ Stay (.one n) h1 h') := by
  refine bm_of cF17 ?_
  simp +contextual (maxSteps := 2000000) only [go_sem, Nat.reduceEqDiff, reduceCtorEq, Nat.reduceAdd, Nat.reduceLeDiff, F17]
  refine wp_call (c_markIntS f.pl _ k h0 h hf.pl g k1 (by omega) (by omega)) ?_
  rintro r h1 ⟨rfl, g1, n1, s1⟩
  simp +contextual (maxSteps := 2000000) only [go_sem, Nat.reduceEqDiff, reduceCtorEq, Nat.reduceAdd, Nat.reduceLeDiff]
  refine wp_call (c_markPairS f.nl _ _ h0 h1 (hf.nl.stay s1 hf.sep.symm) g1 (by omega) (by omega) (by omega)) ?_
  rintro r h2 ⟨rfl, g2, n2, s2⟩
  simp +contextual (maxSteps := 2000000) only [go_sem, Nat.reduceEqDiff, reduceCtorEq, Nat.reduceAdd, Nat.reduceLeDiff]
  have e : k + ((1 * f.pl.length : Nat) : Int) + ((2 * f.nl.length : Nat) : Int) = k + (cellsF f : Nat) := by unfold cellsF; omega
  have m1 := n1.stay s2 hf.sep
  rw [e]
  exact gcK_of ⟨rfl, g2, ⟨m1, n2, hf.sep⟩, (ho.pl.mid s1).trans (ho.nl.mid s2), h1, s1, s2⟩ (fun _ gg => ⟨rfl, g, ⟨m1.back hf.pl gg, n2.back hf.nl gg, hf.sep⟩, (Grow.refl h).mid, h, (Grow.refl h).stay _, (Grow.refl h).stay _⟩)
theorem c_markFlat (f : Flat) (p n : CV) (k : Int) (h0 hb h : H) {f0 : Flat} (hf : NwF h0 h p n f) (ho : NwF h0 hb p n f0) (g : Grow h0 h) (k1 : 0 ≤ k) (k2 : k ≤ 2 ^ 32) (hn : f.pl.length ≤ 1048576) (hm : f.nl.length ≤ 1048576) :
    callK (bm Try.prog 17 [.agg [p, n], .one (.int .i64 k)] h) fun r h' => r = ii (k + (cellsF f : Nat)) ∧ Grow h0 h' ∧ NwF h0 h' p n (mkF k f) ∧ Mid h0.n hb.n h h' := by
  obtain ⟨r, h1, e, a1, a2, a3, a4, _⟩ := c_markzFlat f p n k h0 hb h hf ho g k1 k2 hn hm
  exact ⟨r, h1, e, a1, a2, a3, a4⟩
/-! laws.heldFlat -/
def L18_0 : List AStep := [⟨.box 33 (.t 0), (some 2), none, []⟩, ⟨.mov (.c (.int .i64 0)), (some 4), none, []⟩]
theorem v18_0 : VS L18_0.eq_1 := rfl
def L18_1 : List AStep := [⟨.mov (.t 8), (some 1), none, []⟩]
theorem v18_1 : VS L18_1.eq_1 := rfl
def L18_2 : List AStep := ⟨.mov (.t 1), (some 7), none, []⟩ :: ⟨.call 57 [(.t 6), (.t 7)], (some 8), none, []⟩ :: L18_1
theorem v18_2 : VS L18_2.eq_1 := rfl
def L18_3 : List AStep := ⟨.faddr 0 (.t 2), (some 5), none, []⟩ :: ⟨.load 1 false (.t 5), (some 6), none, []⟩ :: L18_2
theorem v18_3 : VS L18_3.eq_1 := rfl
def L18_4 : List AStep := [⟨.mov (.t 1), (some 9), none, []⟩, ⟨.bin .lss (.t 9) (.c (.int .i64 0)), (some 10), none, []⟩]
theorem v18_4 : VS L18_4.eq_1 := rfl
def L18_5 : List AStep := [⟨.mov (.c (.int .i64 (-1))), (some 4), none, []⟩]
theorem v18_5 : VS L18_5.eq_1 := rfl
def L18_6 : List AStep := [⟨.mov (.t 14), (some 1), none, []⟩]
theorem v18_6 : VS L18_6.eq_1 := rfl
def L18_7 : List AStep := ⟨.mov (.t 1), (some 13), none, []⟩ :: ⟨.call 58 [(.t 12), (.t 13)], (some 14), none, []⟩ :: L18_6
theorem v18_7 : VS L18_7.eq_1 := rfl
def L18_8 : List AStep := ⟨.faddr 1 (.t 2), (some 11), none, []⟩ :: ⟨.load 1 false (.t 11), (some 12), none, []⟩ :: L18_7
theorem v18_8 : VS L18_8.eq_1 := rfl
def L18_9 : List AStep := [⟨.mov (.t 1), (some 15), none, []⟩, ⟨.bin .lss (.t 15) (.c (.int .i64 0)), (some 16), none, []⟩]
theorem v18_9 : VS L18_9.eq_1 := rfl
def L18_10 : List AStep := [⟨.mov (.c (.int .i64 (-1))), (some 4), none, []⟩]
theorem v18_10 : VS L18_10.eq_1 := rfl
def L18_11 : List AStep := [⟨.mov (.t 1), (some 17), none, []⟩, ⟨.mov (.t 17), (some 4), none, []⟩]
theorem v18_11 : VS L18_11.eq_1 := rfl
def C18_0 : ACode := .seq (.reg L18_5) .ret
theorem u18_0 : VC C18_0.eq_1 := rfl
def C18_1 : ACode := .cond (.t 10) C18_0 .skip
theorem u18_1 : VC C18_1.eq_1 := rfl
def C18_2 : ACode := .seq (.reg L18_4) C18_1
theorem u18_2 : VC C18_2.eq_1 := rfl
def C18_3 : ACode := .seq (.reg L18_10) .ret
theorem u18_3 : VC C18_3.eq_1 := rfl
def C18_4 : ACode := .cond (.t 16) C18_3 .skip
theorem u18_4 : VC C18_4.eq_1 := rfl
def C18_5 : ACode := .seq (.reg L18_9) C18_4
theorem u18_5 : VC C18_5.eq_1 := rfl
def C18_6 : ACode := .seq (.reg L18_11) .ret
theorem u18_6 : VC C18_6.eq_1 := rfl
def C18_7 : ACode := .seq C18_5 C18_6
theorem u18_7 : VC C18_7.eq_1 := rfl
def C18_8 : ACode := .seq (.reg L18_8) C18_7
theorem u18_8 : VC C18_8.eq_1 := rfl
def C18_9 : ACode := .seq C18_2 C18_8
theorem u18_9 : VC C18_9.eq_1 := rfl
def C18_10 : ACode := .seq (.reg L18_3) C18_9
theorem u18_10 : VC C18_10.eq_1 := rfl
def C18_11 : ACode := .seq (.reg L18_0) C18_10
theorem u18_11 : VC C18_11.eq_1 := rfl
def F18 : AFunc := ⟨18, [.tmp 4], C18_11⟩
theorem cF18 : compB Try.prog 18 = some F18 := by kernel_rfl
attribute [local go_sem ↓] u18_0 u18_1 u18_2 u18_3 u18_4 u18_5 u18_6 u18_7 u18_8 u18_9 u18_10 u18_11 v18_0 v18_1 v18_2 v18_3 v18_4 v18_5 v18_6 v18_7 v18_8 v18_9 v18_10 v18_11
theorem c_heldFlat (f : Flat) (p n : CV) (k : Int) (h : H) (hf : SlF h p n (mkF k f)) (k1 : 0 ≤ k) (k2 : k ≤ 2 ^ 32) (hn : f.pl.length ≤ 1048576) (hm : f.nl.length ≤ 1048576) :
    bm Try.prog 18 [.agg [p, n], .one (.int .i64 k)] h = some (ii (k + (cellsF f : Nat)), h) := by
  refine bm_eq cF18 ?_
  have e1 := c_heldIntS f.pl.length (.one p) k h hf.pl k1 (by omega) (by omega)
  have e2 := c_heldPairS f.nl.length (.one n) _ h hf.nl (by omega) (by omega) (by omega)
  have e3 : k + ((1 * f.pl.length : Nat) : Int) + ((2 * f.nl.length : Nat) : Int) = k + (cellsF f : Nat) := by unfold cellsF; omega
  rw [e3] at e2
  simp +contextual (maxSteps := 2000000) only [go_sem, Nat.reduceEqDiff, reduceCtorEq, Nat.reduceAdd, Nat.reduceLeDiff, F18, e1, e2, decide_eq_false (show ¬ (k + ((1 * f.pl.length : Nat) : Int) < 0) by omega), decide_eq_false (show ¬ (k + (cellsF f : Nat) < 0) by omega)]
/-! laws.toHoles -/
def L11_0 : List AStep := [⟨.box 25 (.t 0), (some 1), none, []⟩, ⟨.alloc 38 [(.sl none 0 (some 0)), (.sl none 0 (some 0))], (some 2), none, []⟩]
theorem v11_0 : VS L11_0.eq_1 := rfl
def L11_1 : List AStep := [⟨.alloc 38 [(.sl none 0 (some 0)), (.sl none 0 (some 0))], (some 3), none, []⟩]
theorem v11_1 : VS L11_1.eq_1 := rfl
def L11_2 : List AStep := [⟨.store 1 (.t 7) (.t 6), none, none, []⟩]
theorem v11_2 : VS L11_2.eq_1 := rfl
def L11_3 : List AStep := ⟨.call 45 [(.t 5)], (some 6), none, []⟩ :: ⟨.faddr 0 (.t 3), (some 7), none, []⟩ :: L11_2
theorem v11_3 : VS L11_3.eq_1 := rfl
def L11_4 : List AStep := ⟨.faddr 0 (.t 1), (some 4), none, []⟩ :: ⟨.load 1 false (.t 4), (some 5), none, []⟩ :: L11_3
theorem v11_4 : VS L11_4.eq_1 := rfl
def L11_5 : List AStep := [⟨.store 1 (.t 11) (.t 10), none, none, []⟩]
theorem v11_5 : VS L11_5.eq_1 := rfl
def L11_6 : List AStep := ⟨.call 46 [(.t 9)], (some 10), none, []⟩ :: ⟨.faddr 1 (.t 3), (some 11), none, []⟩ :: L11_5
theorem v11_6 : VS L11_6.eq_1 := rfl
def L11_7 : List AStep := ⟨.faddr 1 (.t 1), (some 8), none, []⟩ :: ⟨.load 1 false (.t 8), (some 9), none, []⟩ :: L11_6
theorem v11_7 : VS L11_7.eq_1 := rfl
def L11_8 : List AStep := [⟨.load 2 true (.t 3), (some 12), none, []⟩, ⟨.store 2 (.t 2) (.t 12), none, none, []⟩]
theorem v11_8 : VS L11_8.eq_1 := rfl
def C11_0 : ACode := .seq (.reg L11_8) .ret
theorem u11_0 : VC C11_0.eq_1 := rfl
def C11_1 : ACode := .seq (.reg L11_7) C11_0
theorem u11_1 : VC C11_1.eq_1 := rfl
def C11_2 : ACode := .seq (.reg L11_4) C11_1
theorem u11_2 : VC C11_2.eq_1 := rfl
def C11_3 : ACode := .seq (.reg L11_1) C11_2
theorem u11_3 : VC C11_3.eq_1 := rfl
def C11_4 : ACode := .seq (.reg L11_0) C11_3
theorem u11_4 : VC C11_4.eq_1 := rfl
def F11 : AFunc := ⟨13, [.cell 2 2 true], C11_4⟩
theorem cF11 : compB Try.prog 11 = some F11 := by kernel_rfl
attribute [local go_sem ↓] u11_0 u11_1 u11_2 u11_3 u11_4 v11_0 v11_1 v11_2 v11_3 v11_4 v11_5 v11_6 v11_7 v11_8
theorem c_toHoles {t1 t2 : Nat} (f : Holes) (p n : CV) (h : H) (hp : Sl encL 2 t1 h (.one p) f.pl) (hq : Sl encP 2 t2 h (.one n) f.nl) (k0 : f.pl.length ≤ 1048576) (k1 : f.nl.length ≤ 1048576) :
    callK (bm Try.prog 11 [.agg [p, n]] h) fun r h' => Grow h h' ∧ ∃ p' n', r = .agg [p', n'] ∧ NwH h h' p' n' f := by
  refine bm_of cF11 ?_
  simp +contextual (maxSteps := 2000000) only [go_sem, Nat.reduceEqDiff, reduceCtorEq, Nat.reduceAdd, Nat.reduceLeDiff, F11]
  refine wp_call (c_toPlaceS f.pl _ _ hp k0) ?_
  rintro r h1 ⟨g1, n1⟩
  obtain ⟨c, rfl⟩ := n1.one
  simp +contextual (maxSteps := 2000000) only [go_sem, Nat.reduceEqDiff, reduceCtorEq, Nat.reduceAdd, Nat.reduceLeDiff]
  refine wp_call (c_toPairS f.nl _ _ (hq.grow g1) k1) ?_
  rintro r h2 ⟨g2, n2⟩
  obtain ⟨d, rfl⟩ := n2.one
  simp +contextual (maxSteps := 2000000) only [go_sem, Nat.reduceEqDiff, reduceCtorEq, Nat.reduceAdd, Nat.reduceLeDiff]
  have n3 : NwH h h2 c d f := ⟨n1.grow g2, n2.from g1.n, n1.apart n2⟩
  exact gcK_of ⟨g1.trans g2, _, _, rfl, n3⟩ (fun hs _ => ⟨Grow.refl h, _, _, rfl, n3.scalar hs h⟩)
/-! laws.markHoles -/
def L16_0 : List AStep := [⟨.box 38 (.t 0), (some 2), none, []⟩, ⟨.mov (.c (.int .i64 0)), (some 4), none, []⟩]
theorem v16_0 : VS L16_0.eq_1 := rfl
def L16_1 : List AStep := [⟨.mov (.t 8), (some 1), none, []⟩]
theorem v16_1 : VS L16_1.eq_1 := rfl
def L16_2 : List AStep := ⟨.mov (.t 1), (some 7), none, []⟩ :: ⟨.call 54 [(.t 6), (.t 7)], (some 8), none, []⟩ :: L16_1
theorem v16_2 : VS L16_2.eq_1 := rfl
def L16_3 : List AStep := ⟨.faddr 0 (.t 2), (some 5), none, []⟩ :: ⟨.load 1 false (.t 5), (some 6), none, []⟩ :: L16_2
theorem v16_3 : VS L16_3.eq_1 := rfl
def L16_4 : List AStep := [⟨.mov (.t 12), (some 1), none, []⟩]
theorem v16_4 : VS L16_4.eq_1 := rfl
def L16_5 : List AStep := ⟨.mov (.t 1), (some 11), none, []⟩ :: ⟨.call 55 [(.t 10), (.t 11)], (some 12), none, []⟩ :: L16_4
theorem v16_5 : VS L16_5.eq_1 := rfl
def L16_6 : List AStep := ⟨.faddr 1 (.t 2), (some 9), none, []⟩ :: ⟨.load 1 false (.t 9), (some 10), none, []⟩ :: L16_5
theorem v16_6 : VS L16_6.eq_1 := rfl
def L16_7 : List AStep := [⟨.mov (.t 1), (some 13), none, []⟩, ⟨.mov (.t 13), (some 4), none, []⟩]
theorem v16_7 : VS L16_7.eq_1 := rfl
def C16_0 : ACode := .seq (.reg L16_7) .ret
theorem u16_0 : VC C16_0.eq_1 := rfl
def C16_1 : ACode := .seq (.reg L16_6) C16_0
theorem u16_1 : VC C16_1.eq_1 := rfl
def C16_2 : ACode := .seq (.reg L16_3) C16_1
theorem u16_2 : VC C16_2.eq_1 := rfl
def C16_3 : ACode := .seq (.reg L16_0) C16_2
theorem u16_3 : VC C16_3.eq_1 := rfl
def F16 : AFunc := ⟨14, [.tmp 4], C16_3⟩
theorem cF16 : compB Try.prog 16 = some F16 := by kernel_rfl
attribute [local go_sem ↓] u16_0 u16_1 u16_2 u16_3 v16_0 v16_1 v16_2 v16_3 v16_4 v16_5 v16_6 v16_7
theorem c_markzHoles (f : Holes) (p n : CV) (k : Int) (h0 hb h : H) {f0 : Holes} (hf : NwH h0 h p n f) (ho : NwH h0 hb p n f0) (g : Grow h0 h) (k1 : 0 ≤ k) (k2 : k ≤ 2 ^ 32) (hn : f.pl.length ≤ 1048576) (hm : f.nl.length ≤ 1048576) :
    callK (bm Try.prog 16 [.agg [p, n], .one (.int .i64 k)] h) fun r h' => r = ii (k + (cellsH f : Nat)) ∧ Grow h0 h' ∧ NwH h0 h' p n (mkH k f) ∧ Mid h0.n hb.n h h' ∧ (∃ h1, Stay (.one p) h h1 ∧ Stay (.one n) h1 h') := by
  refine bm_of cF16 ?_
  simp +contextual (maxSteps := 2000000) only [go_sem, Nat.reduceEqDiff, reduceCtorEq, Nat.reduceAdd, Nat.reduceLeDiff, F16]
  refine wp_call (c_markPlaceS f.pl _ k h0 h hf.pl g k1 (by omega) (by omega)) ?_
  rintro r h1 ⟨rfl, g1, n1, s1⟩
  simp +contextual (maxSteps := 2000000) only [go_sem, Nat.reduceEqDiff, reduceCtorEq, Nat.reduceAdd, Nat.reduceLeDiff]
  refine wp_call (c_markPairS f.nl _ _ h0 h1 (hf.nl.stay s1 hf.sep.symm) g1 (by omega) (by omega) (by omega)) ?_
  rintro r h2 ⟨rfl, g2, n2, s2⟩
  simp +contextual (maxSteps := 2000000) only [go_sem, Nat.reduceEqDiff, reduceCtorEq, Nat.reduceAdd, Nat.reduceLeDiff]
  have e : k + ((2 * f.pl.length : Nat) : Int) + ((2 * f.nl.length : Nat) : Int) = k + (cellsH f : Nat) := by unfold cellsH; omega
  have m1 := n1.stay s2 hf.sep
  rw [e]
  exact gcK_of ⟨rfl, g2, ⟨m1, n2, hf.sep⟩, (ho.pl.mid s1).trans (ho.nl.mid s2), h1, s1, s2⟩ (fun _ gg => ⟨rfl, g, ⟨m1.back hf.pl gg, n2.back hf.nl gg, hf.sep⟩, (Grow.refl h).mid, h, (Grow.refl h).stay _, (Grow.refl h).stay _⟩)
theorem c_markHoles (f : Holes) (p n : CV) (k : Int) (h0 hb h : H) {f0 : Holes} (hf : NwH h0 h p n f) (ho : NwH h0 hb p n f0) (g : Grow h0 h) (k1 : 0 ≤ k) (k2 : k ≤ 2 ^ 32) (hn : f.pl.length ≤ 1048576) (hm : f.nl.length ≤ 1048576) :
    callK (bm Try.prog 16 [.agg [p, n], .one (.int .i64 k)] h) fun r h' => r = ii (k + (cellsH f : Nat)) ∧ Grow h0 h' ∧ NwH h0 h' p n (mkH k f) ∧ Mid h0.n hb.n h h' := by
  obtain ⟨r, h1, e, a1, a2, a3, a4, _⟩ := c_markzHoles f p n k h0 hb h hf ho g k1 k2 hn hm
  exact ⟨r, h1, e, a1, a2, a3, a4⟩
end Go.Proofs.Ytdalgphpacikkac.Am
