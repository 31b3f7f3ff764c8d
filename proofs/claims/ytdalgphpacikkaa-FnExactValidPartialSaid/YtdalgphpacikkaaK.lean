/- The kinds of the laws' arguments and answers. -/
import Derived.Test.YtdalgphpacikkaaL1
import Derived.Test.YtdalgphpacikkaaL2
import Derived.Test.YtdalgphpacikkaaL4
import Derived.Test.YtdalgphpacikkaaDom
namespace Go.Proofs.Ytdalgphpacikkaa.Am
open Go
set_option maxRecDepth 100000
set_option maxHeartbeats 4000000
set_option linter.unusedSimpArgs false
set_option linter.unusedVariables false
attribute [local go_sem ↓] bv_t bv_c ev_t ev_c put_same put_ne put_none kill_at pro_at lb_same lb_ne start_zero start_succ wpC_seq wpC_reg wpC_cond wpC_block wpC_skip wpC_exit wpC_ret thenQ_normal thenQ_exit thenQ_ret inBlk_normal inBlk_exit inBlk_ret wpS_nil wpS_step wpS_again wpS_guard wpO_mov wpO_load wpO_faddr wpO_nilCheck wpO_pick wpO_build wpO_bin wpO_eqb wpO_eqst wpO_eqnil wpO_not wpO_conv wpO_bytesStr wpO_iaddr wpO_idxStr wpO_field wpO_extract wpO_len wpO_lenStr wpO_cap wpO_min wpO_slice wpO_sliceStr wpO_alloc wpO_box wpO_store wpO_call wpO_callv wpO_mkfn wpO_buildSlice wpO_mkslice wpO_append wpO_appz proA_nil proA_cons tmpX_nil tmpX_tmp tmpX_cell doneB_normal doneB_ret agK_cons agK_nil agK_guard agG_tt agG_ff agG_tf agG_ft agG_undef pureB_load results_one results_two results_nil resBs_cons resBs_nil resB_tmp resB_cell
attribute [local go_sem] kill_v kill_lp_ne kill_lp_same pro_v pro_lp_same pro_lp_ne av_v av_lp optB_some optX_some valX_eq ldX_lp ldX_v faX_lp faX_v ncX_lp ncX_ptr ncX_fn boxK_one boxK_agg stL_some stK_lp_one stK_lp_agg stK_v_one stK_v_agg proM_v proM_lp callG_mk callVG_mk callvK_fn fnG_mk ptrsA_nil ptrsA_cons callH_some whenA_true whenA_false guardH_tt guardH_ff guardH_tf guardH_ft guardH_undef agV_one agV_agg lenO_sl lenStrO_str notO_bool pickO_bool convO_int eqbO_bool eqnilO_sl extractO_tup capO_sl minO_int loadL_one loadL_all storeL_eq fillA_nil fillA_one fillA_agg nat_ge neg_ge nat_lt neg_lt buildO bin_add bin_sub bin_mul bin_eql bin_neq bin_lss bin_leq bin_gtr bin_geq str_eql str_neq str_lss str_leq str_gtr str_geq retK_some endK_mk gcK_same gcK_int gcK_bool tupO_one tupO_agg rdy_self ib ii Option.map_none Option.map_some Option.some.injEq exists_eq_left' exists_eq_left ne_eq not_false_eq_true if_true if_false List.map_cons List.map_nil List.getElem?_cons_zero List.getElem?_cons_succ List.length_cons List.length_nil List.take_succ_cons List.take_zero List.take_nil List.drop_succ_cons List.drop_zero List.drop_nil List.cons_append List.nil_append List.append_nil List.set_cons_zero List.set_cons_succ Nat.zero_add forall_const true_and and_true and_self Bool.false_eq_true false_implies true_implies implies_true Bool.not_true Bool.not_false Bool.not_eq_true' Bool.not_eq_false' beq_self_eq_true Bool.bne_true Bool.bne_false
attribute [local go_sem] lenI lenS lenP lenQ lenB lenL lenT encI_0 encS_0 encP_0 encP_1 encQ_0 encQ_1 encQ_2 encQ_3 encB_0 encB_1 encL_0 encL_1 encT_0 encT_1
attribute [local go_sem low] whenA_bool guardH_bool
theorem k_szF (x : Flat) (p n : CV) (left : Int) (h : H) (h1 : 0 ≤ left) (h2 : left ≤ 1048576) (d : DomF h p n x) : bm Try.prog 9 [.agg [p, n], .one (.int .i64 left)] h = some (ii (szr left (wtF x)), h) := c_szFlat x p n left h h1 h2 d.pl d.nl d.k0 d.k1 d.k2
theorem k_toF (x : Flat) (p n : CV) (h : H) (d : DomF h p n x) (m : miniF x) : callK (bm Try.prog 12 [.agg [p, n]] h) fun r h' => Grow h h' ∧ ∃ p' n', r = .agg [p', n'] ∧ NwF h h' p' n' x := c_toFlat x p n h d.pl d.nl m.pl m.nl
theorem k_eqF (x y : Flat) (p n q r : CV) (h : H) (a : SlF h p n x) (b : SlF h q r y) (m : miniF x) : bm Try.prog 16 [.agg [p, n], .agg [q, r]] h = some (ib (decide (x = y)), h) := c_eqFlat x y p n q r h a.pl a.nl b.pl b.nl m.sm.pl m.sm.nl.1
theorem k_markF (x : Flat) (p n : CV) (k : Int) (h0 hb h : H) {x0 : Flat} (a : NwF h0 h p n x) (b : NwF h0 hb p n x0) (g : Grow h0 h) (k1 : 0 ≤ k) (k2 : k ≤ 2 ^ 32) (m : miniF x) :
    callK (bm Try.prog 18 [.agg [p, n], .one (.int .i64 k)] h) fun r h' => r = ii (k + (cellsF x : Nat)) ∧ Grow h0 h' ∧ SlF h' p n (mkF k x) ∧ Mid h0.n hb.n h h' := by
  obtain ⟨r, h1, e, e1, g1, n1, M1⟩ := c_markFlat x p n k h0 hb h a b g k1 k2 m.pl m.nl
  exact ⟨_, h1, e, e1, g1, n1.sl, M1⟩
theorem k_szG (x : List Param) (p : CV) (left : Int) (h : H) (h1 : 0 ≤ left) (h2 : left ≤ 1048576) (d : DomG h p x) : bm Try.prog 8 [.agg [p], .one (.int .i64 left)] h = some (ii (szr left (wtG x)), h) := c_szSignature x _ left h h1 h2 d.sl d.k0 d.k1
/-! laws.toSignature -/
def L11_0 : List AStep := [⟨.box 24 (.t 0), (some 1), none, []⟩, ⟨.alloc 38 [(.sl none 0 (some 0))], (some 2), none, []⟩]
theorem v11_0 : VS L11_0.eq_1 := rfl
def L11_1 : List AStep := [⟨.alloc 38 [(.sl none 0 (some 0))], (some 3), none, []⟩]
theorem v11_1 : VS L11_1.eq_1 := rfl
def L11_2 : List AStep := [⟨.store 1 (.t 7) (.t 6), none, none, []⟩]
theorem v11_2 : VS L11_2.eq_1 := rfl
def L11_3 : List AStep := ⟨.call 41 [(.t 5)], (some 6), none, []⟩ :: ⟨.faddr 0 (.t 3), (some 7), none, []⟩ :: L11_2
theorem v11_3 : VS L11_3.eq_1 := rfl
def L11_4 : List AStep := ⟨.faddr 0 (.t 1), (some 4), none, []⟩ :: ⟨.load 1 false (.t 4), (some 5), none, []⟩ :: L11_3
theorem v11_4 : VS L11_4.eq_1 := rfl
def L11_5 : List AStep := [⟨.load 1 true (.t 3), (some 8), none, []⟩, ⟨.store 1 (.t 2) (.t 8), none, none, []⟩]
theorem v11_5 : VS L11_5.eq_1 := rfl
def C11_0 : ACode := .seq (.reg L11_5) .ret
theorem u11_0 : VC C11_0.eq_1 := rfl
def C11_1 : ACode := .seq (.reg L11_4) C11_0
theorem u11_1 : VC C11_1.eq_1 := rfl
def C11_2 : ACode := .seq (.reg L11_1) C11_1
theorem u11_2 : VC C11_2.eq_1 := rfl
def C11_3 : ACode := .seq (.reg L11_0) C11_2
theorem u11_3 : VC C11_3.eq_1 := rfl
def F11 : AFunc := ⟨9, [.cell 2 1 true], C11_3⟩
theorem cF11 : compB Try.prog 11 = some F11 := by kernel_rfl
attribute [local go_sem ↓] u11_0 u11_1 u11_2 u11_3 v11_0 v11_1 v11_2 v11_3 v11_4 v11_5
theorem k_toG (x : List Param) (p : CV) (h : H) (d : DomG h p x) (m : miniG x) : callK (bm Try.prog 11 [.agg [p]] h) fun r h' => Grow h h' ∧ ∃ p', r = .agg [p'] ∧ NwG h h' p' x := by
  refine bm_of cF11 ?_
  simp +contextual (maxSteps := 2000000) only [go_sem, Nat.reduceEqDiff, reduceCtorEq, Nat.reduceAdd, Nat.reduceLeDiff, F11]
  refine wp_call (c_toParamS x _ _ d.sl m.len) ?_
  rintro r h1 ⟨g1, n1⟩
  obtain ⟨c, rfl⟩ := n1.one
  simp +contextual (maxSteps := 2000000) only [go_sem, Nat.reduceEqDiff, reduceCtorEq, Nat.reduceAdd, Nat.reduceLeDiff]
  exact gcK_of ⟨g1, _, rfl, ⟨n1⟩⟩ (fun hs _ => ⟨Grow.refl h, _, rfl, ⟨n1.scalar (by simpa [AV.scalar] using hs) h⟩⟩)
theorem c_to1G {ty : Nat} (x : List Param) (p : CV) (h : H) (d : Sl encQ 4 ty h (.one p) x) (m : x.length ≤ 1048576) : callK (bm Try.prog 11 [.agg [p]] h) fun r h' => Grow h h' ∧ ∃ p', r = .agg [p'] ∧ NwQ h h' (.one p') x := by
  refine bm_of cF11 ?_
  simp +contextual (maxSteps := 2000000) only [go_sem, Nat.reduceEqDiff, reduceCtorEq, Nat.reduceAdd, Nat.reduceLeDiff, F11]
  refine wp_call (c_toParamS x _ _ d m) ?_
  rintro r h1 ⟨g1, n1⟩
  obtain ⟨c, rfl⟩ := n1.one
  simp +contextual (maxSteps := 2000000) only [go_sem, Nat.reduceEqDiff, reduceCtorEq, Nat.reduceAdd, Nat.reduceLeDiff]
  exact gcK_of ⟨g1, _, rfl, n1⟩ (fun hs _ => ⟨Grow.refl h, _, rfl, n1.scalar (by simpa [AV.scalar] using hs) h⟩)
/-! laws.markSignature -/
def L17_0 : List AStep := [⟨.box 38 (.t 0), (some 2), none, []⟩, ⟨.mov (.c (.int .i64 0)), (some 4), none, []⟩]
theorem v17_0 : VS L17_0.eq_1 := rfl
def L17_1 : List AStep := [⟨.mov (.t 8), (some 1), none, []⟩]
theorem v17_1 : VS L17_1.eq_1 := rfl
def L17_2 : List AStep := ⟨.mov (.t 1), (some 7), none, []⟩ :: ⟨.call 50 [(.t 6), (.t 7)], (some 8), none, []⟩ :: L17_1
theorem v17_2 : VS L17_2.eq_1 := rfl
def L17_3 : List AStep := ⟨.faddr 0 (.t 2), (some 5), none, []⟩ :: ⟨.load 1 false (.t 5), (some 6), none, []⟩ :: L17_2
theorem v17_3 : VS L17_3.eq_1 := rfl
def L17_4 : List AStep := [⟨.mov (.t 1), (some 9), none, []⟩, ⟨.mov (.t 9), (some 4), none, []⟩]
theorem v17_4 : VS L17_4.eq_1 := rfl
def C17_0 : ACode := .seq (.reg L17_4) .ret
theorem u17_0 : VC C17_0.eq_1 := rfl
def C17_1 : ACode := .seq (.reg L17_3) C17_0
theorem u17_1 : VC C17_1.eq_1 := rfl
def C17_2 : ACode := .seq (.reg L17_0) C17_1
theorem u17_2 : VC C17_2.eq_1 := rfl
def F17 : AFunc := ⟨10, [.tmp 4], C17_2⟩
theorem cF17 : compB Try.prog 17 = some F17 := by kernel_rfl
attribute [local go_sem ↓] u17_0 u17_1 u17_2 v17_0 v17_1 v17_2 v17_3 v17_4
theorem c_mark1G (x : List Param) (p : CV) (k : Int) (h0 h : H) (a : NwQ h0 h (.one p) x) (g : Grow h0 h) (k1 : 0 ≤ k) (k2 : k ≤ 2 ^ 32) (m : miniG x) :
    callK (bm Try.prog 17 [.agg [p], .one (.int .i64 k)] h) fun r h' => r = ii (k + (cellsG x : Nat)) ∧ Grow h0 h' ∧ NwQ h0 h' (.one p) (mkG k x) ∧ Stay (.one p) h h' := by
  refine bm_of cF17 ?_
  simp +contextual (maxSteps := 2000000) only [go_sem, Nat.reduceEqDiff, reduceCtorEq, Nat.reduceAdd, Nat.reduceLeDiff, F17]
  refine wp_call (c_markParamS x _ k h0 h a g k1 (by omega) (by have := m.len; omega)) ?_
  rintro r h1 ⟨rfl, g1, n1, s1⟩
  simp +contextual (maxSteps := 2000000) only [go_sem, Nat.reduceEqDiff, reduceCtorEq, Nat.reduceAdd, Nat.reduceLeDiff]
  exact gcK_of ⟨rfl, g1, n1, s1⟩ (fun _ gg => ⟨rfl, g, n1.back a gg, (Grow.refl h).stay _⟩)
theorem k_markG (x : List Param) (p : CV) (k : Int) (h0 hb h : H) {x0 : List Param} (a : NwG h0 h p x) (b : NwG h0 hb p x0) (g : Grow h0 h) (k1 : 0 ≤ k) (k2 : k ≤ 2 ^ 32) (m : miniG x) :
    callK (bm Try.prog 17 [.agg [p], .one (.int .i64 k)] h) fun r h' => r = ii (k + (cellsG x : Nat)) ∧ Grow h0 h' ∧ SlG h' p (mkG k x) ∧ Mid h0.n hb.n h h' := by
  refine bm_of cF17 ?_
  simp +contextual (maxSteps := 2000000) only [go_sem, Nat.reduceEqDiff, reduceCtorEq, Nat.reduceAdd, Nat.reduceLeDiff, F17]
  refine wp_call (c_markParamS x _ k h0 h a.out g k1 (by omega) (by have := m.len; omega)) ?_
  rintro r h1 ⟨rfl, g1, n1, s1⟩
  simp +contextual (maxSteps := 2000000) only [go_sem, Nat.reduceEqDiff, reduceCtorEq, Nat.reduceAdd, Nat.reduceLeDiff]
  exact gcK_of ⟨rfl, g1, ⟨n1.sl lenQ⟩, b.out.mid s1⟩ (fun _ gg => ⟨rfl, g, ⟨(n1.back a.out gg).sl lenQ⟩, (Grow.refl h).mid⟩)
theorem k_eqG (x y : List Param) (p q : CV) (h : H) (a : SlG h p x) (b : SlG h q y) (m : miniG x) : bm Try.prog 15 [.agg [p], .agg [q]] h = some (ib (decide (x = y)), h) := c_eqSignature x y _ _ h a.out b.out (Nat.le_trans m.len (by decide))
end Go.Proofs.Ytdalgphpacikkaa.Am
