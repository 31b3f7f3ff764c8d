/- The kinds of the laws' arguments and answers. -/
import Derived.Test.YtdalgphpacikkaaGreatL1
import Derived.Test.YtdalgphpacikkaaGreatL2
import Derived.Test.YtdalgphpacikkaaGreatL4
import Derived.Test.YtdalgphpacikkaaGreatDom
namespace Go.Proofs.YtdalgphpacikkaaGreat.Am
open Go
set_option maxRecDepth 100000
set_option maxHeartbeats 4000000
set_option linter.unusedSimpArgs false
set_option linter.unusedVariables false
attribute [local go_sem ↓] bv_t bv_c ev_t ev_c put_same put_ne put_none kill_at pro_at lb_same lb_ne start_zero start_succ wpC_seq wpC_reg wpC_cond wpC_block wpC_skip wpC_exit wpC_ret thenQ_normal thenQ_exit thenQ_ret inBlk_normal inBlk_exit inBlk_ret wpS_nil wpS_step wpS_again wpS_guard wpO_mov wpO_load wpO_faddr wpO_nilCheck wpO_pick wpO_build wpO_bin wpO_eqb wpO_eqst wpO_eqnil wpO_not wpO_conv wpO_bytesStr wpO_iaddr wpO_idxStr wpO_field wpO_extract wpO_len wpO_lenStr wpO_cap wpO_min wpO_slice wpO_sliceStr wpO_alloc wpO_box wpO_store wpO_call wpO_callv wpO_mkfn wpO_buildSlice wpO_mkslice wpO_append wpO_appz proA_nil proA_cons tmpX_nil tmpX_tmp tmpX_cell doneB_normal doneB_ret agK_cons agK_nil agK_guard agG_tt agG_ff agG_tf agG_ft agG_undef pureB_load results_one results_two results_nil resBs_cons resBs_nil resB_tmp resB_cell
attribute [local go_sem] kill_v kill_lp_ne kill_lp_same pro_v pro_lp_same pro_lp_ne av_v av_lp optB_some optX_some valX_eq ldX_lp ldX_v faX_lp faX_v ncX_lp ncX_ptr ncX_fn boxK_one boxK_agg stL_some stK_lp_one stK_lp_agg stK_v_one stK_v_agg proM_v proM_lp callG_mk callVG_mk callvK_fn fnG_mk ptrsA_nil ptrsA_cons callH_some whenA_true whenA_false guardH_tt guardH_ff guardH_tf guardH_ft guardH_undef agV_one agV_agg lenO_sl lenStrO_str notO_bool pickO_bool convO_int eqbO_bool eqnilO_sl extractO_tup capO_sl minO_int loadL_one loadL_all storeL_eq fillA_nil fillA_one fillA_agg nat_ge neg_ge nat_lt neg_lt buildO bin_add bin_sub bin_mul bin_eql bin_neq bin_lss bin_leq bin_gtr bin_geq str_eql str_neq str_lss str_leq str_gtr str_geq retK_some endK_mk gcK_same gcK_int gcK_bool tupO_one tupO_agg rdy_self ib ii Option.map_none Option.map_some Option.some.injEq exists_eq_left' exists_eq_left ne_eq not_false_eq_true if_true if_false List.map_cons List.map_nil List.getElem?_cons_zero List.getElem?_cons_succ List.length_cons List.length_nil List.take_succ_cons List.take_zero List.take_nil List.drop_succ_cons List.drop_zero List.drop_nil List.cons_append List.nil_append List.append_nil List.set_cons_zero List.set_cons_succ Nat.zero_add forall_const true_and and_true and_self Bool.false_eq_true false_implies true_implies implies_true Bool.not_true Bool.not_false Bool.not_eq_true' Bool.not_eq_false' beq_self_eq_true Bool.bne_true Bool.bne_false
attribute [local go_sem] lenI lenS lenP lenQ lenB lenL lenT encI_0 encS_0 encP_0 encP_1 encQ_0 encQ_1 encQ_2 encQ_3 encB_0 encB_1 encL_0 encL_1 encT_0 encT_1
attribute [local go_sem low] whenA_bool guardH_bool
theorem k_szF (x : Flat) (p n : CV) (left : Int) (h : H) (h1 : 0 ≤ left) (h2 : left ≤ 1048576) (d : DomF h p n x) : bm Tryz.prog 5 [.agg [p, n], .one (.int .i64 left)] h = some (ii (szr left (wtF x)), h) := c_szFlat x p n left h h1 h2 d.pl d.nl d.k0 d.k1 d.k2
theorem k_toF (x : Flat) (p n : CV) (h : H) (d : DomF h p n x) (m : miniF x) : callK (bm Tryz.prog 8 [.agg [p, n]] h) fun r h' => Grow h h' ∧ ∃ p' n', r = .agg [p', n'] ∧ NwF h h' p' n' x := c_toFlat x p n h d.pl d.nl m.pl m.nl
theorem k_eqF (x y : Flat) (p n q r : CV) (h : H) (a : SlF h p n x) (b : SlF h q r y) (m : miniF x) : bm Tryz.prog 12 [.agg [p, n], .agg [q, r]] h = some (ib (decide (x = y)), h) := c_eqFlat x y p n q r h a.pl a.nl b.pl b.nl m.sm.pl m.sm.nl.1
theorem k_markF (x : Flat) (p n : CV) (k : Int) (h0 hb h : H) {x0 : Flat} (a : NwF h0 h p n x) (b : NwF h0 hb p n x0) (g : Grow h0 h) (k1 : 0 ≤ k) (k2 : k ≤ 2 ^ 32) (m : miniF x) :
    callK (bm Tryz.prog 14 [.agg [p, n], .one (.int .i64 k)] h) fun r h' => r = ii (k + (cellsF x : Nat)) ∧ Grow h0 h' ∧ SlF h' p n (mkF k x) ∧ Mid h0.n hb.n h h' := by
  obtain ⟨r, h1, e, e1, g1, n1, M1⟩ := c_markFlat x p n k h0 hb h a b g k1 k2 m.pl m.nl
  exact ⟨_, h1, e, e1, g1, n1.sl, M1⟩
theorem k_heldF (x : Flat) (p n : CV) (k : Int) (h : H) (a : SlF h p n (mkF k x)) (k1 : 0 ≤ k) (k2 : k ≤ 2 ^ 32) (m : miniF x) : bm Tryz.prog 36 [.agg [p, n], .one (.int .i64 k)] h = some (ii (k + (cellsF x : Nat)), h) := c_heldFlat x p n k h a k1 k2 m.pl m.nl
theorem k_szG (x : List Param) (p : CV) (left : Int) (h : H) (h1 : 0 ≤ left) (h2 : left ≤ 1048576) (d : DomG h p x) : bm Tryz.prog 4 [.agg [p], .one (.int .i64 left)] h = some (ii (szr left (wtG x)), h) := c_szSignature x _ left h h1 h2 d.sl d.k0 d.k1
/-! laws.toSignature -/
def L7_0 : List AStep := [⟨.box 24 (.t 0), (some 1), none, []⟩, ⟨.alloc 33 [(.sl none 0 (some 0))], (some 2), none, []⟩]
theorem v7_0 : VS L7_0.eq_1 := rfl
def L7_1 : List AStep := [⟨.alloc 33 [(.sl none 0 (some 0))], (some 3), none, []⟩]
theorem v7_1 : VS L7_1.eq_1 := rfl
def L7_2 : List AStep := [⟨.store 1 (.t 7) (.t 6), none, none, []⟩]
theorem v7_2 : VS L7_2.eq_1 := rfl
def L7_3 : List AStep := ⟨.call 23 [(.t 5)], (some 6), none, []⟩ :: ⟨.faddr 0 (.t 3), (some 7), none, []⟩ :: L7_2
theorem v7_3 : VS L7_3.eq_1 := rfl
def L7_4 : List AStep := ⟨.faddr 0 (.t 1), (some 4), none, []⟩ :: ⟨.load 1 false (.t 4), (some 5), none, []⟩ :: L7_3
theorem v7_4 : VS L7_4.eq_1 := rfl
def L7_5 : List AStep := [⟨.load 1 true (.t 3), (some 8), none, []⟩, ⟨.store 1 (.t 2) (.t 8), none, none, []⟩]
theorem v7_5 : VS L7_5.eq_1 := rfl
def C7_0 : ACode := .seq (.reg L7_5) .ret
theorem u7_0 : VC C7_0.eq_1 := rfl
def C7_1 : ACode := .seq (.reg L7_4) C7_0
theorem u7_1 : VC C7_1.eq_1 := rfl
def C7_2 : ACode := .seq (.reg L7_1) C7_1
theorem u7_2 : VC C7_2.eq_1 := rfl
def C7_3 : ACode := .seq (.reg L7_0) C7_2
theorem u7_3 : VC C7_3.eq_1 := rfl
def F7 : AFunc := ⟨9, [.cell 2 1 true], C7_3⟩
theorem cF7 : compB Tryz.prog 7 = some F7 := by kernel_rfl
attribute [local go_sem ↓] u7_0 u7_1 u7_2 u7_3 v7_0 v7_1 v7_2 v7_3 v7_4 v7_5
theorem k_toG (x : List Param) (p : CV) (h : H) (d : DomG h p x) (m : miniG x) : callK (bm Tryz.prog 7 [.agg [p]] h) fun r h' => Grow h h' ∧ ∃ p', r = .agg [p'] ∧ NwG h h' p' x := by
  refine bm_of cF7 ?_
  simp +contextual (maxSteps := 2000000) only [go_sem, Nat.reduceEqDiff, reduceCtorEq, Nat.reduceAdd, Nat.reduceLeDiff, F7]
  refine wp_call (c_toParamS x _ _ d.sl m.len) ?_
  rintro r h1 ⟨g1, n1⟩
  obtain ⟨c, rfl⟩ := n1.one
  simp +contextual (maxSteps := 2000000) only [go_sem, Nat.reduceEqDiff, reduceCtorEq, Nat.reduceAdd, Nat.reduceLeDiff]
  exact gcK_of ⟨g1, _, rfl, ⟨n1⟩⟩ (fun hs _ => ⟨Grow.refl h, _, rfl, ⟨n1.scalar (by simpa [AV.scalar] using hs) h⟩⟩)
theorem c_to1G {ty : Nat} (x : List Param) (p : CV) (h : H) (d : Sl encQ 4 ty h (.one p) x) (m : x.length ≤ 1048576) : callK (bm Tryz.prog 7 [.agg [p]] h) fun r h' => Grow h h' ∧ ∃ p', r = .agg [p'] ∧ NwQ h h' (.one p') x := by
  refine bm_of cF7 ?_
  simp +contextual (maxSteps := 2000000) only [go_sem, Nat.reduceEqDiff, reduceCtorEq, Nat.reduceAdd, Nat.reduceLeDiff, F7]
  refine wp_call (c_toParamS x _ _ d m) ?_
  rintro r h1 ⟨g1, n1⟩
  obtain ⟨c, rfl⟩ := n1.one
  simp +contextual (maxSteps := 2000000) only [go_sem, Nat.reduceEqDiff, reduceCtorEq, Nat.reduceAdd, Nat.reduceLeDiff]
  exact gcK_of ⟨g1, _, rfl, n1⟩ (fun hs _ => ⟨Grow.refl h, _, rfl, n1.scalar (by simpa [AV.scalar] using hs) h⟩)
/-! laws.markSignature -/
def L13_0 : List AStep := [⟨.box 33 (.t 0), (some 2), none, []⟩, ⟨.mov (.c (.int .i64 0)), (some 4), none, []⟩]
theorem v13_0 : VS L13_0.eq_1 := rfl
def L13_1 : List AStep := [⟨.mov (.t 8), (some 1), none, []⟩]
theorem v13_1 : VS L13_1.eq_1 := rfl
def L13_2 : List AStep := ⟨.mov (.t 1), (some 7), none, []⟩ :: ⟨.call 32 [(.t 6), (.t 7)], (some 8), none, []⟩ :: L13_1
theorem v13_2 : VS L13_2.eq_1 := rfl
def L13_3 : List AStep := ⟨.faddr 0 (.t 2), (some 5), none, []⟩ :: ⟨.load 1 false (.t 5), (some 6), none, []⟩ :: L13_2
theorem v13_3 : VS L13_3.eq_1 := rfl
def L13_4 : List AStep := [⟨.mov (.t 1), (some 9), none, []⟩, ⟨.mov (.t 9), (some 4), none, []⟩]
theorem v13_4 : VS L13_4.eq_1 := rfl
def C13_0 : ACode := .seq (.reg L13_4) .ret
theorem u13_0 : VC C13_0.eq_1 := rfl
def C13_1 : ACode := .seq (.reg L13_3) C13_0
theorem u13_1 : VC C13_1.eq_1 := rfl
def C13_2 : ACode := .seq (.reg L13_0) C13_1
theorem u13_2 : VC C13_2.eq_1 := rfl
def F13 : AFunc := ⟨10, [.tmp 4], C13_2⟩
theorem cF13 : compB Tryz.prog 13 = some F13 := by kernel_rfl
attribute [local go_sem ↓] u13_0 u13_1 u13_2 v13_0 v13_1 v13_2 v13_3 v13_4
theorem c_mark1G (x : List Param) (p : CV) (k : Int) (h0 h : H) (a : NwQ h0 h (.one p) x) (g : Grow h0 h) (k1 : 0 ≤ k) (k2 : k ≤ 2 ^ 32) (m : miniG x) :
    callK (bm Tryz.prog 13 [.agg [p], .one (.int .i64 k)] h) fun r h' => r = ii (k + (cellsG x : Nat)) ∧ Grow h0 h' ∧ NwQ h0 h' (.one p) (mkG k x) ∧ Stay (.one p) h h' := by
  refine bm_of cF13 ?_
  simp +contextual (maxSteps := 2000000) only [go_sem, Nat.reduceEqDiff, reduceCtorEq, Nat.reduceAdd, Nat.reduceLeDiff, F13]
  refine wp_call (c_markParamS x _ k h0 h a g k1 (by omega) (by have := m.len; omega)) ?_
  rintro r h1 ⟨rfl, g1, n1, s1⟩
  simp +contextual (maxSteps := 2000000) only [go_sem, Nat.reduceEqDiff, reduceCtorEq, Nat.reduceAdd, Nat.reduceLeDiff]
  exact gcK_of ⟨rfl, g1, n1, s1⟩ (fun _ gg => ⟨rfl, g, n1.back a gg, (Grow.refl h).stay _⟩)
theorem k_markG (x : List Param) (p : CV) (k : Int) (h0 hb h : H) {x0 : List Param} (a : NwG h0 h p x) (b : NwG h0 hb p x0) (g : Grow h0 h) (k1 : 0 ≤ k) (k2 : k ≤ 2 ^ 32) (m : miniG x) :
    callK (bm Tryz.prog 13 [.agg [p], .one (.int .i64 k)] h) fun r h' => r = ii (k + (cellsG x : Nat)) ∧ Grow h0 h' ∧ SlG h' p (mkG k x) ∧ Mid h0.n hb.n h h' := by
  refine bm_of cF13 ?_
  simp +contextual (maxSteps := 2000000) only [go_sem, Nat.reduceEqDiff, reduceCtorEq, Nat.reduceAdd, Nat.reduceLeDiff, F13]
  refine wp_call (c_markParamS x _ k h0 h a.out g k1 (by omega) (by have := m.len; omega)) ?_
  rintro r h1 ⟨rfl, g1, n1, s1⟩
  simp +contextual (maxSteps := 2000000) only [go_sem, Nat.reduceEqDiff, reduceCtorEq, Nat.reduceAdd, Nat.reduceLeDiff]
  exact gcK_of ⟨rfl, g1, ⟨n1.sl lenQ⟩, b.out.mid s1⟩ (fun _ gg => ⟨rfl, g, ⟨(n1.back a.out gg).sl lenQ⟩, (Grow.refl h).mid⟩)
/-! laws.heldSignature -/
def L35_0 : List AStep := [⟨.box 33 (.t 0), (some 2), none, []⟩, ⟨.mov (.c (.int .i64 0)), (some 4), none, []⟩]
theorem v35_0 : VS L35_0.eq_1 := rfl
def L35_1 : List AStep := [⟨.mov (.t 8), (some 1), none, []⟩]
theorem v35_1 : VS L35_1.eq_1 := rfl
def L35_2 : List AStep := ⟨.mov (.t 1), (some 7), none, []⟩ :: ⟨.call 50 [(.t 6), (.t 7)], (some 8), none, []⟩ :: L35_1
theorem v35_2 : VS L35_2.eq_1 := rfl
def L35_3 : List AStep := ⟨.faddr 0 (.t 2), (some 5), none, []⟩ :: ⟨.load 1 false (.t 5), (some 6), none, []⟩ :: L35_2
theorem v35_3 : VS L35_3.eq_1 := rfl
def L35_4 : List AStep := [⟨.mov (.t 1), (some 9), none, []⟩, ⟨.bin .lss (.t 9) (.c (.int .i64 0)), (some 10), none, []⟩]
theorem v35_4 : VS L35_4.eq_1 := rfl
def L35_5 : List AStep := [⟨.mov (.c (.int .i64 (-1))), (some 4), none, []⟩]
theorem v35_5 : VS L35_5.eq_1 := rfl
def L35_6 : List AStep := [⟨.mov (.t 1), (some 11), none, []⟩, ⟨.mov (.t 11), (some 4), none, []⟩]
theorem v35_6 : VS L35_6.eq_1 := rfl
def C35_0 : ACode := .seq (.reg L35_5) .ret
theorem u35_0 : VC C35_0.eq_1 := rfl
def C35_1 : ACode := .cond (.t 10) C35_0 .skip
theorem u35_1 : VC C35_1.eq_1 := rfl
def C35_2 : ACode := .seq (.reg L35_4) C35_1
theorem u35_2 : VC C35_2.eq_1 := rfl
def C35_3 : ACode := .seq (.reg L35_6) .ret
theorem u35_3 : VC C35_3.eq_1 := rfl
def C35_4 : ACode := .seq C35_2 C35_3
theorem u35_4 : VC C35_4.eq_1 := rfl
def C35_5 : ACode := .seq (.reg L35_3) C35_4
theorem u35_5 : VC C35_5.eq_1 := rfl
def C35_6 : ACode := .seq (.reg L35_0) C35_5
theorem u35_6 : VC C35_6.eq_1 := rfl
def F35 : AFunc := ⟨12, [.tmp 4], C35_6⟩
theorem cF35 : compB Tryz.prog 35 = some F35 := by kernel_rfl
attribute [local go_sem ↓] u35_0 u35_1 u35_2 u35_3 u35_4 u35_5 u35_6 v35_0 v35_1 v35_2 v35_3 v35_4 v35_5 v35_6
theorem k_heldG (x : List Param) (p : CV) (k : Int) (h : H) (a : SlG h p (mkG k x)) (k1 : 0 ≤ k) (k2 : k ≤ 2 ^ 32) (m : miniG x) : bm Tryz.prog 35 [.agg [p], .one (.int .i64 k)] h = some (ii (k + (cellsG x : Nat)), h) := by
  refine bm_eq cF35 ?_
  have e1 := c_heldParamS x.length _ k h a.out k1 (by omega) (by have := m.len; omega)
  simp +contextual (maxSteps := 2000000) only [go_sem, Nat.reduceEqDiff, reduceCtorEq, Nat.reduceAdd, Nat.reduceLeDiff, F35, e1, decide_eq_false (show ¬ (k + ((4 * x.length : Nat) : Int) < 0) by omega)]
  rfl
theorem k_eqG (x y : List Param) (p q : CV) (h : H) (a : SlG h p x) (b : SlG h q y) (m : miniG x) : bm Tryz.prog 11 [.agg [p], .agg [q]] h = some (ib (decide (x = y)), h) := c_eqSignature x y _ _ h a.out b.out (Nat.le_trans m.len (by decide))
end Go.Proofs.YtdalgphpacikkaaGreat.Am
