/- Contracts: draws of two: calls with holes and flat calls. -/
import Derived.Test.YtnphlonhogcedaaDH
import Derived.Test.YtnphlonhogcedaaDom
namespace Go.Proofs.Ytnphlonhogcedaa.Am
open Go
set_option maxRecDepth 100000
set_option maxHeartbeats 4000000
set_option linter.unusedSimpArgs false
set_option linter.unusedVariables false
attribute [local go_sem ↓] bv_t bv_c ev_t ev_c put_same put_ne put_none kill_at pro_at lb_same lb_ne start_zero start_succ wpC_seq wpC_reg wpC_cond wpC_block wpC_skip wpC_exit wpC_ret thenQ_normal thenQ_exit thenQ_ret inBlk_normal inBlk_exit inBlk_ret wpS_nil wpS_step wpS_again wpS_guard wpO_mov wpO_load wpO_faddr wpO_nilCheck wpO_pick wpO_build wpO_bin wpO_eqb wpO_eqst wpO_eqnil wpO_not wpO_conv wpO_bytesStr wpO_iaddr wpO_idxStr wpO_field wpO_extract wpO_len wpO_lenStr wpO_cap wpO_min wpO_slice wpO_sliceStr wpO_alloc wpO_box wpO_store wpO_call wpO_callv wpO_mkfn wpO_buildSlice wpO_mkslice wpO_append wpO_appz proA_nil proA_cons tmpX_nil tmpX_tmp tmpX_cell doneB_normal doneB_ret agK_cons agK_nil agK_guard agG_tt agG_ff agG_tf agG_ft agG_undef pureB_load results_one results_two results_nil resBs_cons resBs_nil resB_tmp resB_cell
attribute [local go_sem] kill_v kill_lp_ne kill_lp_same pro_v pro_lp_same pro_lp_ne av_v av_lp optB_some optX_some valX_eq ldX_lp ldX_v faX_lp faX_v ncX_lp ncX_ptr ncX_fn boxK_one boxK_agg stL_some stK_lp_one stK_lp_agg stK_v_one stK_v_agg proM_v proM_lp callG_mk callVG_mk callvK_fn fnG_mk ptrsA_nil ptrsA_cons callH_some whenA_true whenA_false guardH_tt guardH_ff guardH_tf guardH_ft guardH_undef agV_one agV_agg lenO_sl lenStrO_str notO_bool pickO_bool convO_int eqbO_bool eqnilO_sl extractO_tup capO_sl minO_int loadL_one loadL_all storeL_eq fillA_nil fillA_one fillA_agg nat_ge neg_ge nat_lt neg_lt buildO bin_add bin_sub bin_mul bin_eql bin_neq bin_lss bin_leq bin_gtr bin_geq str_eql str_neq str_lss str_leq str_gtr str_geq retK_some endK_mk gcK_same gcK_int gcK_bool tupO_one tupO_agg rdy_self ib ii Option.map_none Option.map_some Option.some.injEq exists_eq_left' exists_eq_left ne_eq not_false_eq_true if_true if_false List.map_cons List.map_nil List.getElem?_cons_zero List.getElem?_cons_succ List.length_cons List.length_nil List.take_succ_cons List.take_zero List.take_nil List.drop_succ_cons List.drop_zero List.drop_nil List.cons_append List.nil_append List.append_nil List.set_cons_zero List.set_cons_succ Nat.zero_add forall_const true_and and_true and_self Bool.false_eq_true false_implies true_implies implies_true Bool.not_true Bool.not_false Bool.not_eq_true' Bool.not_eq_false' beq_self_eq_true Bool.bne_true Bool.bne_false
attribute [local go_sem] lenI lenS lenP lenQ lenB lenL lenT encI_0 encS_0 encP_0 encP_1 encQ_0 encQ_1 encQ_2 encQ_3 encB_0 encB_1 encL_0 encL_1 encT_0 encT_1
attribute [local go_sem low] whenA_bool guardH_bool
theorem dByte {h : H} {m : Nat} (cs : List CV) (hk : okA Try.prog h (m + 1) 5 cs) : ∃ x : Int, cs = encU x ∧ (0 ≤ x ∧ x ≤ 255) := by
  obtain ⟨x, e, w⟩ := okA_int (k := .u8) Try.underlying5 hk
  refine ⟨x, e, ?_⟩
  have e1 : IntKind.u8.min = 0 := rfl
  have e2 : IntKind.u8.max = 255 := rfl
  simp [Lit.wf] at w
  omega
theorem dBytes {h : H} {m : Nat} {v : AV} (hk : okV Try.prog h (m + 2) 22 v) : ∃ p l, v = .one p ∧ Sl encU 1 5 h (.one p) l ∧ (∀ x ∈ l, 0 ≤ x ∧ x ≤ 255) ∧ l.length ≤ far := by
  obtain ⟨c, rfl, hj⟩ := okV_one (by kernel_rfl) hk
  obtain ⟨p, l, e, s1, k1, k2⟩ := okA_list lenU Try.underlying22 (by kernel_rfl) dByte hj
  obtain rfl : c = p := by simpa using e
  exact ⟨c, l, rfl, s1, k2, k1⟩
theorem Drew.out {h h1 h2 : H} {b c : Nat} {p : Int} (d : Drew b p c h1 h2) (g : Grow h h1) (hb : h.n ≤ b) : Grow h h2 :=
  ⟨Nat.le_trans g.n d.st.n, fun i hi => (d.st.f i (Nat.lt_of_lt_of_le hi g.n) (fun e => by simp [bR, baseOf] at e; omega)).trans (g.f i hi)⟩
/-! spec.DrawShiftHoles -/
def L21_0 : List AStep := [⟨.alloc 41 [(.sl none 0 (some 0)), (.sl none 0 (some 0))], (some 2), none, []⟩, ⟨.alloc 41 [(.sl none 0 (some 0)), (.sl none 0 (some 0))], (some 3), none, []⟩]
theorem v21_0 : VS L21_0.eq_1 := rfl
def L21_1 : List AStep := [⟨.mov (.t 6), (some 4), none, []⟩]
theorem v21_1 : VS L21_1.eq_1 := rfl
def L21_2 : List AStep := ⟨.mov (.t 0), (some 5), none, []⟩ :: ⟨.call 75 [(.t 5)], (some 6), none, []⟩ :: L21_1
theorem v21_2 : VS L21_2.eq_1 := rfl
def L21_3 : List AStep := [⟨.store 2 (.t 2) (.t 8), none, none, []⟩, ⟨.store 2 (.t 3) (.t 10), none, none, []⟩]
theorem v21_3 : VS L21_3.eq_1 := rfl
def L21_4 : List AStep := ⟨.mov (.t 4), (some 9), none, []⟩ :: ⟨.call 82 [(.t 9)], (some 10), none, []⟩ :: L21_3
theorem v21_4 : VS L21_4.eq_1 := rfl
def L21_5 : List AStep := ⟨.mov (.t 4), (some 7), none, []⟩ :: ⟨.call 82 [(.t 7)], (some 8), none, []⟩ :: L21_4
theorem v21_5 : VS L21_5.eq_1 := rfl
def C21_0 : ACode := .seq (.reg L21_5) .ret
theorem u21_0 : VC C21_0.eq_1 := rfl
def C21_1 : ACode := .seq (.reg L21_2) C21_0
theorem u21_1 : VC C21_1.eq_1 := rfl
def C21_2 : ACode := .seq (.reg L21_0) C21_1
theorem u21_2 : VC C21_2.eq_1 := rfl
def F21 : AFunc := ⟨11, [.cell 2 2 true, .cell 3 2 true], C21_2⟩
theorem cF21 : compB Try.prog 21 = some F21 := by kernel_rfl
attribute [local go_sem ↓] u21_0 u21_1 u21_2 v21_0 v21_1 v21_2 v21_3 v21_4 v21_5
theorem c_drawShiftHoles (code : List Int) (v : CV) (h : H) (hl : Sl encU 1 5 h (.one v) code) (hc : ∀ x ∈ code, 0 ≤ x ∧ x ≤ 255) : callK (bm Try.prog 21 [.one v] h) fun q h' => Grow h h' ∧ ∃ x y u w f g, q = .tup [.agg [x, y], .agg [u, w]] ∧ NwH h h' x y f ∧ NwH h h' u w g ∧ miniH f ∧ miniH g := by
  refine bm_of cF21 ?_
  simp +contextual (maxSteps := 2000000) only [go_sem, Nat.reduceEqDiff, reduceCtorEq, Nat.reduceAdd, Nat.reduceLeDiff, F21]
  refine wp_call (c_newReader code v h hl hc) ?_
  rintro q h1 ⟨g1, b, rfl, r1, hb⟩
  have hbn := r1.lt
  simp +contextual (maxSteps := 2000000) only [go_sem, Nat.reduceEqDiff, reduceCtorEq, Nat.reduceAdd, Nat.reduceLeDiff]
  refine wp_call (c_someHoles b 0 h1 r1 (by decide)) ?_
  rintro q h2 ⟨⟨x, y, f, rfl, z2, mf⟩, d2⟩
  obtain ⟨p2, hp1, hp2, r2⟩ := d2.ex
  simp +contextual (maxSteps := 2000000) only [go_sem, Nat.reduceEqDiff, reduceCtorEq, Nat.reduceAdd, Nat.reduceLeDiff]
  refine wp_call (c_someHoles b p2 h2 r2 (by omega)) ?_
  rintro q h3 ⟨⟨u, w, g, rfl, z3, mg⟩, d3⟩
  have z4 := (z2.drew d3 hbn).from g1.n
  have z5 := z3.from (Nat.le_trans g1.n d2.st.n)
  have d3 := d3.then d2.st (by omega) hp2
  have G := d3.out g1 hb
  simp +contextual (maxSteps := 2000000) only [go_sem, Nat.reduceEqDiff, reduceCtorEq, Nat.reduceAdd, Nat.reduceLeDiff]
  exact gcK_of ⟨G, x, y, u, w, f, g, rfl, z4, z5, mf, mg⟩ (fun hs _ => by
    simp [AV.scalar, AV.scalars] at hs
    exact ⟨Grow.refl h, x, y, u, w, f, g, rfl, ⟨z4.pl.scalar hs.1.1 h, z4.nl.scalar hs.1.2 h, z4.sep⟩, ⟨z5.pl.scalar hs.2.1 h, z5.nl.scalar hs.2.2 h, z5.sep⟩, mf, mg⟩)
end Go.Proofs.Ytnphlonhogcedaa.Am
