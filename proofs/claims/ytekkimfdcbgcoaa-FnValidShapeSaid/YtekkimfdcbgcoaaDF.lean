/- Contracts: draws of flat calls, of two of them, and of shapes. -/
import Derived.Test.YtekkimfdcbgcoaaDI
import Derived.Test.YtekkimfdcbgcoaaFX
import Derived.Test.YtekkimfdcbgcoaaB2
namespace Go.Proofs.Ytekkimfdcbgcoaa.Am
open Go
set_option maxRecDepth 100000
set_option maxHeartbeats 4000000
set_option linter.unusedSimpArgs false
set_option linter.unusedVariables false
attribute [local go_sem ↓] bv_t bv_c ev_t ev_c put_same put_ne put_none kill_at pro_at lb_same lb_ne start_zero start_succ wpC_seq wpC_reg wpC_cond wpC_block wpC_skip wpC_exit wpC_ret thenQ_normal thenQ_exit thenQ_ret inBlk_normal inBlk_exit inBlk_ret wpS_nil wpS_step wpS_again wpS_guard wpO_mov wpO_load wpO_faddr wpO_nilCheck wpO_pick wpO_build wpO_bin wpO_eqb wpO_eqst wpO_eqnil wpO_not wpO_conv wpO_bytesStr wpO_iaddr wpO_idxStr wpO_field wpO_extract wpO_len wpO_lenStr wpO_cap wpO_min wpO_slice wpO_sliceStr wpO_alloc wpO_box wpO_store wpO_call wpO_callv wpO_mkfn wpO_buildSlice wpO_mkslice wpO_append wpO_appz proA_nil proA_cons tmpX_nil tmpX_tmp tmpX_cell doneB_normal doneB_ret agK_cons agK_nil agK_guard agG_tt agG_ff agG_tf agG_ft agG_undef pureB_load results_one results_two results_nil resBs_cons resBs_nil resB_tmp resB_cell
attribute [local go_sem] kill_v kill_lp_ne kill_lp_same pro_v pro_lp_same pro_lp_ne av_v av_lp optB_some optX_some valX_eq ldX_lp ldX_v faX_lp faX_v ncX_lp ncX_ptr ncX_fn boxK_one boxK_agg stL_some stK_lp_one stK_lp_agg stK_v_one stK_v_agg proM_v proM_lp callG_mk callVG_mk callvK_fn fnG_mk ptrsA_nil ptrsA_cons callH_some whenA_true whenA_false guardH_tt guardH_ff guardH_tf guardH_ft guardH_undef agV_one agV_agg lenO_sl lenStrO_str notO_bool pickO_bool convO_int eqbO_bool eqnilO_sl extractO_tup capO_sl minO_int loadL_one loadL_all storeL_eq fillA_nil fillA_one fillA_agg nat_ge neg_ge nat_lt neg_lt buildO bin_add bin_sub bin_mul bin_eql bin_neq bin_lss bin_leq bin_gtr bin_geq str_eql str_neq str_lss str_leq str_gtr str_geq retK_some endK_mk gcK_same gcK_int gcK_bool tupO_one tupO_agg rdy_self ib ii Option.map_none Option.map_some Option.some.injEq exists_eq_left' exists_eq_left ne_eq not_false_eq_true if_true if_false List.map_cons List.map_nil List.getElem?_cons_zero List.getElem?_cons_succ List.length_cons List.length_nil List.take_succ_cons List.take_zero List.take_nil List.drop_succ_cons List.drop_zero List.drop_nil List.cons_append List.nil_append List.append_nil List.set_cons_zero List.set_cons_succ Nat.zero_add forall_const true_and and_true and_self Bool.false_eq_true false_implies true_implies implies_true Bool.not_true Bool.not_false Bool.not_eq_true' Bool.not_eq_false' beq_self_eq_true Bool.bne_true Bool.bne_false
attribute [local go_sem] lenI lenS lenP lenQ lenB lenL lenT encI_0 encS_0 encP_0 encP_1 encQ_0 encQ_1 encQ_2 encQ_3 encB_0 encB_1 encL_0 encL_1 encT_0 encT_1
attribute [local go_sem low] whenA_bool guardH_bool
theorem NwX.drew {b c : Nat} {p : Int} {h0 h1 h2 : H} {x y : CV} {s : Shape} (z : NwX h0 h1 x y s) (d : Drew b p c h1 h2) (hb : b < h0.n) : NwX h0 h2 x y s := ⟨z.c, z.out.drew d hb⟩
theorem NwX.from {h0 h h1 : H} {x y : CV} {s : Shape} (z : NwX h1 h x y s) (g : h0.n ≤ h1.n) : NwX h0 h x y s := ⟨z.c, z.out.from g⟩
/-! spec.twoFlats -/
def L76_0 : List AStep := [⟨.alloc 27 [(.sl none 0 (some 0)), (.sl none 0 (some 0))], (some 2), none, []⟩, ⟨.alloc 27 [(.sl none 0 (some 0)), (.sl none 0 (some 0))], (some 3), none, []⟩]
theorem v76_0 : VS L76_0.eq_1 := rfl
def L76_1 : List AStep := [⟨.alloc 27 [(.sl none 0 (some 0)), (.sl none 0 (some 0))], (some 4), none, []⟩, ⟨.store 2 (.t 4) (.t 7), none, none, []⟩]
theorem v76_1 : VS L76_1.eq_1 := rfl
def L76_2 : List AStep := ⟨.mov (.t 0), (some 6), none, []⟩ :: ⟨.call 53 [(.t 6)], (some 7), none, []⟩ :: L76_1
theorem v76_2 : VS L76_2.eq_1 := rfl
def L76_3 : List AStep := [⟨.pick (.t 12) (.t 15) (.c (.bool false)), (some 16), none, []⟩]
theorem v76_3 : VS L76_3.eq_1 := rfl
def L76_4 : List AStep := ⟨.call 106 [(.t 13), (.c (.int .i64 2))], (some 14), (some (12, true)), []⟩ :: ⟨.bin .eql (.t 14) (.c (.int .i64 0)), (some 15), (some (12, true)), []⟩ :: L76_3
theorem v76_4 : VS L76_4.eq_1 := rfl
def L76_5 : List AStep := ⟨.mov (.t 11), (some 12), none, []⟩ :: ⟨.mov (.t 0), (some 13), (some (12, true)), []⟩ :: L76_4
theorem v76_5 : VS L76_5.eq_1 := rfl
def L76_6 : List AStep := ⟨.len (.t 9), (some 10), none, []⟩ :: ⟨.bin .gtr (.t 10) (.c (.int .i64 1)), (some 11), none, []⟩ :: L76_5
theorem v76_6 : VS L76_6.eq_1 := rfl
def L76_7 : List AStep := ⟨.faddr 1 (.t 4), (some 8), none, []⟩ :: ⟨.load 1 false (.t 8), (some 9), none, []⟩ :: L76_6
theorem v76_7 : VS L76_7.eq_1 := rfl
def L76_8 : List AStep := [⟨.alloc 27 [(.sl none 0 (some 0)), (.sl none 0 (some 0))], (some 5), none, []⟩, ⟨.store 2 (.t 5) (.t 18), none, none, []⟩]
theorem v76_8 : VS L76_8.eq_1 := rfl
def L76_9 : List AStep := ⟨.load 2 true (.t 4), (some 17), none, []⟩ :: ⟨.call 59 [(.t 17)], (some 18), none, []⟩ :: L76_8
theorem v76_9 : VS L76_9.eq_1 := rfl
def L76_10 : List AStep := [⟨.store 1 (.t 30) (.t 29), none, none, []⟩]
theorem v76_10 : VS L76_10.eq_1 := rfl
def L76_11 : List AStep := ⟨.append 53 2 24 (.t 23) (.t 28), (some 29), none, []⟩ :: ⟨.faddr 1 (.t 5), (some 30), none, []⟩ :: L76_10
theorem v76_11 : VS L76_11.eq_1 := rfl
def L76_12 : List AStep := ⟨.buildSlice 53 1 [(.str (strOfNums [])), (.int .i64 0)] [(0, 2, (.t 27))], (some 28), none, []⟩ :: ⟨.append 53 2 24 (.t 19) (.t 22), (some 23), none, [(.load 1 false (.t 24), (some 25), none), (.load 2 true (.t 26), (some 27), none)]⟩ :: L76_11
theorem v76_12 : VS L76_12.eq_1 := rfl
def L76_13 : List AStep := ⟨.iaddr 2 (.t 25) (.c (.int .i64 0)), (some 26), none, []⟩ :: ⟨.load 2 true (.t 26), (some 27), none, []⟩ :: L76_12
theorem v76_13 : VS L76_13.eq_1 := rfl
def L76_14 : List AStep := ⟨.faddr 1 (.t 4), (some 24), none, []⟩ :: ⟨.load 1 false (.t 24), (some 25), none, []⟩ :: L76_13
theorem v76_14 : VS L76_14.eq_1 := rfl
def L76_15 : List AStep := ⟨.load 1 false (.t 20), (some 21), none, []⟩ :: ⟨.slice 53 2 (.t 21) (some (.c (.int .i64 1))) none none, (some 22), none, []⟩ :: L76_14
theorem v76_15 : VS L76_15.eq_1 := rfl
def L76_16 : List AStep := ⟨.buildSlice 53 0 [(.str (strOfNums [])), (.int .i64 0)] [], (some 19), none, []⟩ :: ⟨.faddr 1 (.t 4), (some 20), none, []⟩ :: L76_15
theorem v76_16 : VS L76_16.eq_1 := rfl
def L76_17 : List AStep := [⟨.store 2 (.t 2) (.t 31), none, none, [(.load 2 true (.t 5), (some 32), none)]⟩, ⟨.store 2 (.t 3) (.t 32), none, none, []⟩]
theorem v76_17 : VS L76_17.eq_1 := rfl
def L76_18 : List AStep := ⟨.load 2 true (.t 4), (some 31), none, []⟩ :: ⟨.load 2 true (.t 5), (some 32), none, []⟩ :: L76_17
theorem v76_18 : VS L76_18.eq_1 := rfl
def L76_19 : List AStep := [⟨.store 2 (.t 3) (.t 35), none, none, []⟩]
theorem v76_19 : VS L76_19.eq_1 := rfl
def L76_20 : List AStep := ⟨.call 53 [(.t 34)], (some 35), none, [(.load 2 true (.t 4), (some 33), none)]⟩ :: ⟨.store 2 (.t 2) (.t 33), none, none, []⟩ :: L76_19
theorem v76_20 : VS L76_20.eq_1 := rfl
def L76_21 : List AStep := ⟨.load 2 true (.t 4), (some 33), none, []⟩ :: ⟨.mov (.t 0), (some 34), none, []⟩ :: L76_20
theorem v76_21 : VS L76_21.eq_1 := rfl
def C76_0 : ACode := .seq (.reg L76_18) .ret
theorem u76_0 : VC C76_0.eq_1 := rfl
def C76_1 : ACode := .seq (.reg L76_16) C76_0
theorem u76_1 : VC C76_1.eq_1 := rfl
def C76_2 : ACode := .seq (.reg L76_9) C76_1
theorem u76_2 : VC C76_2.eq_1 := rfl
def C76_3 : ACode := .cond (.t 16) C76_2 .skip
theorem u76_3 : VC C76_3.eq_1 := rfl
def C76_4 : ACode := .seq (.reg L76_7) C76_3
theorem u76_4 : VC C76_4.eq_1 := rfl
def C76_5 : ACode := .seq (.reg L76_21) .ret
theorem u76_5 : VC C76_5.eq_1 := rfl
def C76_6 : ACode := .seq C76_4 C76_5
theorem u76_6 : VC C76_6.eq_1 := rfl
def C76_7 : ACode := .seq (.reg L76_2) C76_6
theorem u76_7 : VC C76_7.eq_1 := rfl
def C76_8 : ACode := .seq (.reg L76_0) C76_7
theorem u76_8 : VC C76_8.eq_1 := rfl
def F76 : AFunc := ⟨36, [.cell 2 2 true, .cell 3 2 true], C76_8⟩
theorem cF76 : compB Try.prog 76 = some F76 := by kernel_rfl
attribute [local go_sem ↓] u76_0 u76_1 u76_2 u76_3 u76_4 u76_5 u76_6 u76_7 u76_8 v76_0 v76_1 v76_2 v76_3 v76_4 v76_5 v76_6 v76_7 v76_8 v76_9 v76_10 v76_11 v76_12 v76_13 v76_14 v76_15 v76_16 v76_17 v76_18 v76_19 v76_20 v76_21
theorem c_twoFlats (b : Nat) (p : Int) (h : H) (r : Rd h b p) (hp : p ≤ 2 ^ 37) : callK (bm Try.prog 76 [.one (.ptr (some (b, 0)))] h) fun q h' => (∃ x y u w f g, q = .tup [.agg [x, y], .agg [u, w]] ∧ NwF h h' x y f ∧ NwF h h' u w g ∧ miniF f ∧ miniF g) ∧ Drew b p 43 h h' := by
  refine bm_of cF76 ?_
  have hbn := r.lt
  simp +contextual (maxSteps := 2000000) only [go_sem, Nat.reduceEqDiff, reduceCtorEq, Nat.reduceAdd, Nat.reduceLeDiff, F76]
  refine wp_call (c_someFlat b p h r (by omega)) ?_
  rintro q h1 ⟨⟨x, y, f, rfl, z1, mf⟩, d1⟩
  obtain ⟨p1, hp1, hp2, r1⟩ := d1.ex
  have more : ∀ (p' : Int) (h' : H), Stay (bR b) h h' → NwF h h' x y f → Rd h' b p' → p < p' → p' ≤ p + ((22 : Nat) : Int) → callK (bm Try.prog 53 [.one (.ptr (some (b, 0)))] h') fun q h2 => (∃ u w g, q = .agg [u, w] ∧ NwF h h2 x y f ∧ NwF h h2 u w g ∧ miniF g) ∧ Drew b p 43 h h2 := fun p' h' st z r' h3 h4 => by
    refine callK_mono (c_someFlat b p' h' r' (by omega)) ?_
    rintro q h2 ⟨⟨u, w, g, rfl, z2, mg⟩, d2⟩
    exact ⟨⟨u, w, g, rfl, z.drew d2 hbn, z2.from st.n, mg⟩, d2.then st (by omega) h4⟩
  cases e1 : decide ((f.nl.length : Int) > 1) with
  | false =>
    simp +contextual (maxSteps := 2000000) only [go_sem, Nat.reduceEqDiff, reduceCtorEq, Nat.reduceAdd, Nat.reduceLeDiff, z1.nl.length, e1]
    refine wp_call (more p1 h1 d1.st z1 r1 hp1 (by omega)) ?_
    rintro q h2 ⟨⟨u, w, g, rfl, z2, z3, mg⟩, d2⟩
    simp +contextual (maxSteps := 2000000) only [go_sem, Nat.reduceEqDiff, reduceCtorEq, Nat.reduceAdd, Nat.reduceLeDiff]
    exact gcK_drew r d2 ⟨⟨x, y, u, w, f, g, rfl, z2, z3, mf, mg⟩, d2⟩
  | true =>
  simp +contextual (maxSteps := 2000000) only [go_sem, Nat.reduceEqDiff, reduceCtorEq, Nat.reduceAdd, Nat.reduceLeDiff, z1.nl.length, e1]
  refine wp_call (c_pick b 2 p1 h1 r1 (by omega)) ?_
  rintro q h2 ⟨⟨k, rfl, k0, k1⟩, d2⟩
  have z2 := z1.drew d2 hbn
  obtain ⟨p2, hq1, hq2, r2⟩ := d2.ex
  have d2 := d2.then d1.st (by omega) hp2
  cases e2 : decide (k = 0) with
  | false =>
    simp +contextual (maxSteps := 2000000) only [go_sem, Nat.reduceEqDiff, reduceCtorEq, Nat.reduceAdd, Nat.reduceLeDiff, e2]
    refine wp_call (more p2 h2 d2.st z2 r2 (by omega) (by omega)) ?_
    rintro q h3 ⟨⟨u, w, g, rfl, z3, z4, mg⟩, d3⟩
    simp +contextual (maxSteps := 2000000) only [go_sem, Nat.reduceEqDiff, reduceCtorEq, Nat.reduceAdd, Nat.reduceLeDiff]
    exact gcK_drew r d3 ⟨⟨x, y, u, w, f, g, rfl, z3, z4, mf, mg⟩, d3⟩
  | true =>
  have hn : 1 ≤ f.nl.length := by have := of_decide_eq_true e1; omega
  have hn0 : 0 < f.nl.length := hn
  simp +contextual (maxSteps := 2000000) only [go_sem, Nat.reduceEqDiff, reduceCtorEq, Nat.reduceAdd, Nat.reduceLeDiff, e2]
  refine wp_call (c_copyFlat f x y h2 z2.sl mf.sm) ?_
  rintro q h3 ⟨g3, u, w, rfl, z3⟩
  simp +contextual (maxSteps := 2000000) only [go_sem, Nat.reduceEqDiff, reduceCtorEq, Nat.reduceAdd, Nat.reduceLeDiff]
  refine wp_lit (enc := encP) (k := 2) (l := []) rfl rfl ?_
  intro h4 w4 g4 n4 b4
  have g24 := g3.trans g4
  have sl4 := (z2.grow g24).sl.nl
  obtain ⟨p3, ep3, sp3⟩ := sl4.dropO hn (kd := .i64)
  obtain ⟨p3, rfl⟩ := sp3.isOne
  have ep3 : cutO 53 2 h4 (.one y) (some (.one (.int .i64 1))) none none = some (.one p3) := ep3
  have ia : iaddrO 2 (.one y) (.one (.int .i64 0)) = some (.one (.ptr (some (elem 2 (.one y) 0)))) := sl4.iaddr hn0
  simp +contextual (maxSteps := 2000000) only [go_sem, Nat.reduceEqDiff, reduceCtorEq, Nat.reduceAdd, Nat.reduceLeDiff, ep3, ia, sl4.whole hn0]
  refine wp_lit (enc := encP) (k := 2) (l := [f.nl[0]]) rfl rfl ?_
  intro h5 w5 g5 n5 b5
  have g25 := g24.trans g5
  have hby : ∀ j, baseOf (.one y) = some j → j < h2.n := fun j hj => z2.sl.nl.ltB hj
  simp +contextual (maxSteps := 2000000) only [go_sem, Nat.reduceEqDiff, reduceCtorEq, Nat.reduceAdd, Nat.reduceLeDiff]
  refine wp_append lenP (n4.grow g5) (sp3.grow g5) (g4.trans g5) (by have := mf.nl; simp; omega) ?_
  intro h6 s6 g6 n6 st6 hb6
  have hsep : Sep (.one y) w4 := fun j hj e => by have := hby j hj; have := b4 j e; have := g3.n; omega
  have sl6 := (sl4.grow g5).of_stay st6 hsep
  simp +contextual (maxSteps := 2000000) only [go_sem, Nat.reduceEqDiff, reduceCtorEq, Nat.reduceAdd, Nat.reduceLeDiff, ia, sl6.whole hn0]
  refine wp_append lenP n6 ((n5.sl lenP).of_stay st6 fun j hj e => by have := b5 j hj; have := (n4.lt e).1; omega) g6 (by have := mf.nl; simp; omega) ?_
  intro h7 s7 g7 n7 st7 hb7
  obtain ⟨c7, rfl⟩ := n7.one
  have g27 : Grow h2 h7 := g3.trans g7
  have z7 := z2.grow g27
  have m7 : miniF ⟨f.pl, [] ++ f.nl.drop 1 ++ [f.nl[0]]⟩ := ⟨mf.pl, by have := mf.nl; simp; omega, fun a ha => by
    rcases List.mem_append.1 ha with ha | ha
    · rw [List.nil_append] at ha; exact mf.nm a (List.mem_of_mem_drop ha)
    · rw [List.mem_singleton.1 ha]; exact mf.nm _ (List.getElem_mem _)⟩
  have z8 : NwF h h7 u c7 ⟨f.pl, [] ++ f.nl.drop 1 ++ [f.nl[0]]⟩ := ⟨(z3.pl.grow g7).from d2.st.n, n7.from (Nat.le_trans d2.st.n g3.n), z3.pl.apart n7⟩
  have d7 := (d2.grow g27).more (show 21 + 1 ≤ 43 by omega)
  simp +contextual (maxSteps := 2000000) only [go_sem, Nat.reduceEqDiff, reduceCtorEq, Nat.reduceAdd, Nat.reduceLeDiff]
  exact gcK_drew r d7 ⟨⟨x, y, u, c7, f, _, rfl, z7, z8, mf, m7⟩, d7⟩
/-! spec.DrawSameFlat -/
def L26_0 : List AStep := [⟨.alloc 27 [(.sl none 0 (some 0)), (.sl none 0 (some 0))], (some 2), none, []⟩, ⟨.alloc 27 [(.sl none 0 (some 0)), (.sl none 0 (some 0))], (some 3), none, []⟩]
theorem v26_0 : VS L26_0.eq_1 := rfl
def L26_1 : List AStep := [⟨.store 2 (.t 3) (.t 8), none, none, []⟩]
theorem v26_1 : VS L26_1.eq_1 := rfl
def L26_2 : List AStep := ⟨.extract (.t 6) 1, (some 8), none, []⟩ :: ⟨.store 2 (.t 2) (.t 7), none, none, []⟩ :: L26_1
theorem v26_2 : VS L26_2.eq_1 := rfl
def L26_3 : List AStep := ⟨.call 76 [(.t 5)], (some 6), none, []⟩ :: ⟨.extract (.t 6) 0, (some 7), none, []⟩ :: L26_2
theorem v26_3 : VS L26_3.eq_1 := rfl
def L26_4 : List AStep := ⟨.mov (.t 0), (some 4), none, []⟩ :: ⟨.call 51 [(.t 4)], (some 5), none, []⟩ :: L26_3
theorem v26_4 : VS L26_4.eq_1 := rfl
def C26_0 : ACode := .seq (.reg L26_4) .ret
theorem u26_0 : VC C26_0.eq_1 := rfl
def C26_1 : ACode := .seq (.reg L26_0) C26_0
theorem u26_1 : VC C26_1.eq_1 := rfl
def F26 : AFunc := ⟨9, [.cell 2 2 true, .cell 3 2 true], C26_1⟩
theorem cF26 : compB Try.prog 26 = some F26 := by kernel_rfl
attribute [local go_sem ↓] u26_0 u26_1 v26_0 v26_1 v26_2 v26_3 v26_4
theorem c_drawSameFlat (code : List Int) (v : CV) (h : H) (hl : Sl encBy 1 5 h (.one v) code) (hc : ∀ x ∈ code, 0 ≤ x ∧ x ≤ 255) : callK (bm Try.prog 26 [.one v] h) fun q h' => Grow h h' ∧ ∃ x y u w f g, q = .tup [.agg [x, y], .agg [u, w]] ∧ NwF h h' x y f ∧ NwF h h' u w g ∧ miniF f ∧ miniF g := by
  refine bm_of cF26 ?_
  simp +contextual (maxSteps := 2000000) only [go_sem, Nat.reduceEqDiff, reduceCtorEq, Nat.reduceAdd, Nat.reduceLeDiff, F26]
  refine wp_call (c_newReader code v h hl hc) ?_
  rintro q h1 ⟨g1, b, rfl, r1, hb⟩
  simp +contextual (maxSteps := 2000000) only [go_sem, Nat.reduceEqDiff, reduceCtorEq, Nat.reduceAdd, Nat.reduceLeDiff]
  refine wp_call (c_twoFlats b 0 h1 r1 (by decide)) ?_
  rintro q h2 ⟨⟨x, y, u, w, f, g, rfl, z2, z3, mf, mg⟩, d2⟩
  have z4 := z2.from g1.n
  have z5 := z3.from g1.n
  have G := d2.out g1 hb
  simp +contextual (maxSteps := 2000000) only [go_sem, Nat.reduceEqDiff, reduceCtorEq, Nat.reduceAdd, Nat.reduceLeDiff]
  exact gcK_of ⟨G, x, y, u, w, f, g, rfl, z4, z5, mf, mg⟩ (fun hs _ => by
    simp [AV.scalar, AV.scalars] at hs
    exact ⟨Grow.refl h, x, y, u, w, f, g, rfl, ⟨z4.pl.scalar hs.1.1 h, z4.nl.scalar hs.1.2 h, z4.sep⟩, ⟨z5.pl.scalar hs.2.1 h, z5.nl.scalar hs.2.2 h, z5.sep⟩, mf, mg⟩)
/-! spec.DrawSortFlat -/
def L22_0 : List AStep := [⟨.alloc 27 [(.sl none 0 (some 0)), (.sl none 0 (some 0))], (some 2), none, []⟩]
theorem v22_0 : VS L22_0.eq_1 := rfl
def L22_1 : List AStep := [⟨.call 53 [(.t 4)], (some 5), none, []⟩, ⟨.store 2 (.t 2) (.t 5), none, none, []⟩]
theorem v22_1 : VS L22_1.eq_1 := rfl
def L22_2 : List AStep := ⟨.mov (.t 0), (some 3), none, []⟩ :: ⟨.call 51 [(.t 3)], (some 4), none, []⟩ :: L22_1
theorem v22_2 : VS L22_2.eq_1 := rfl
def C22_0 : ACode := .seq (.reg L22_2) .ret
theorem u22_0 : VC C22_0.eq_1 := rfl
def C22_1 : ACode := .seq (.reg L22_0) C22_0
theorem u22_1 : VC C22_1.eq_1 := rfl
def F22 : AFunc := ⟨6, [.cell 2 2 true], C22_1⟩
theorem cF22 : compB Try.prog 22 = some F22 := by kernel_rfl
attribute [local go_sem ↓] u22_0 u22_1 v22_0 v22_1 v22_2
theorem c_drawSortFlat (code : List Int) (v : CV) (h : H) (hl : Sl encBy 1 5 h (.one v) code) (hc : ∀ x ∈ code, 0 ≤ x ∧ x ≤ 255) : callK (bm Try.prog 22 [.one v] h) fun q h' => Grow h h' ∧ ∃ x y f, q = .agg [x, y] ∧ NwF h h' x y f ∧ miniF f := by
  refine bm_of cF22 ?_
  simp +contextual (maxSteps := 2000000) only [go_sem, Nat.reduceEqDiff, reduceCtorEq, Nat.reduceAdd, Nat.reduceLeDiff, F22]
  refine wp_call (c_newReader code v h hl hc) ?_
  rintro q h1 ⟨g1, b, rfl, r1, hb⟩
  simp +contextual (maxSteps := 2000000) only [go_sem, Nat.reduceEqDiff, reduceCtorEq, Nat.reduceAdd, Nat.reduceLeDiff]
  refine wp_call (c_someFlat b 0 h1 r1 (by decide)) ?_
  rintro q h2 ⟨⟨x, y, f, rfl, z2, mf⟩, d2⟩
  have z4 := z2.from g1.n
  have G := d2.out g1 hb
  simp +contextual (maxSteps := 2000000) only [go_sem, Nat.reduceEqDiff, reduceCtorEq, Nat.reduceAdd, Nat.reduceLeDiff]
  exact gcK_of ⟨G, x, y, f, rfl, z4, mf⟩ (fun hs _ => ⟨Grow.refl h, x, y, f, rfl, z4.scalar hs h, mf⟩)
/-! spec.DrawShapeOf -/
def L32_0 : List AStep := [⟨.alloc 27 [(.sl none 0 (some 0)), (.sl none 0 (some 0))], (some 2), none, []⟩]
theorem v32_0 : VS L32_0.eq_1 := rfl
def L32_1 : List AStep := [⟨.call 53 [(.t 4)], (some 5), none, []⟩, ⟨.store 2 (.t 2) (.t 5), none, none, []⟩]
theorem v32_1 : VS L32_1.eq_1 := rfl
def L32_2 : List AStep := ⟨.mov (.t 0), (some 3), none, []⟩ :: ⟨.call 51 [(.t 3)], (some 4), none, []⟩ :: L32_1
theorem v32_2 : VS L32_2.eq_1 := rfl
def C32_0 : ACode := .seq (.reg L32_2) .ret
theorem u32_0 : VC C32_0.eq_1 := rfl
def C32_1 : ACode := .seq (.reg L32_0) C32_0
theorem u32_1 : VC C32_1.eq_1 := rfl
def F32 : AFunc := ⟨6, [.cell 2 2 true], C32_1⟩
theorem cF32 : compB Try.prog 32 = some F32 := by kernel_rfl
attribute [local go_sem ↓] u32_0 u32_1 v32_0 v32_1 v32_2
theorem c_drawShapeOf (code : List Int) (v : CV) (h : H) (hl : Sl encBy 1 5 h (.one v) code) (hc : ∀ x ∈ code, 0 ≤ x ∧ x ≤ 255) : callK (bm Try.prog 32 [.one v] h) fun q h' => Grow h h' ∧ ∃ x y f, q = .agg [x, y] ∧ NwF h h' x y f ∧ miniF f := by
  refine bm_of cF32 ?_
  simp +contextual (maxSteps := 2000000) only [go_sem, Nat.reduceEqDiff, reduceCtorEq, Nat.reduceAdd, Nat.reduceLeDiff, F32]
  refine wp_call (c_newReader code v h hl hc) ?_
  rintro q h1 ⟨g1, b, rfl, r1, hb⟩
  simp +contextual (maxSteps := 2000000) only [go_sem, Nat.reduceEqDiff, reduceCtorEq, Nat.reduceAdd, Nat.reduceLeDiff]
  refine wp_call (c_someFlat b 0 h1 r1 (by decide)) ?_
  rintro q h2 ⟨⟨x, y, f, rfl, z2, mf⟩, d2⟩
  have z4 := z2.from g1.n
  have G := d2.out g1 hb
  simp +contextual (maxSteps := 2000000) only [go_sem, Nat.reduceEqDiff, reduceCtorEq, Nat.reduceAdd, Nat.reduceLeDiff]
  exact gcK_of ⟨G, x, y, f, rfl, z4, mf⟩ (fun hs _ => ⟨Grow.refl h, x, y, f, rfl, z4.scalar hs h, mf⟩)
/-! spec.someShape -/
def L87_0 : List AStep := [⟨.alloc 67 [(.int .i64 0), (.sl none 0 (some 0))], (some 2), none, []⟩]
theorem v87_0 : VS L87_0.eq_1 := rfl
def L87_1 : List AStep := [⟨.store 2 (.t 3) (.t 6), none, none, []⟩]
theorem v87_1 : VS L87_1.eq_1 := rfl
def L87_2 : List AStep := ⟨.call 85 [(.t 5)], (some 6), none, []⟩ :: ⟨.alloc 67 [(.int .i64 0), (.sl none 0 (some 0))], (some 3), none, []⟩ :: L87_1
theorem v87_2 : VS L87_2.eq_1 := rfl
def L87_3 : List AStep := ⟨.mov (.t 0), (some 4), none, []⟩ :: ⟨.call 108 [(.t 4)], (some 5), none, []⟩ :: L87_2
theorem v87_3 : VS L87_3.eq_1 := rfl
def L87_4 : List AStep := [⟨.mov (.t 0), (some 7), none, []⟩, ⟨.call 106 [(.t 7), (.c (.int .i64 20))], (some 8), none, []⟩]
theorem v87_4 : VS L87_4.eq_1 := rfl
def L87_5 : List AStep := [⟨.bin .eql (.t 8) (.c (.int .i64 0)), (some 10), none, []⟩, ⟨.mov (.t 10), (some 9), none, []⟩]
theorem v87_5 : VS L87_5.eq_1 := rfl
def L87_6 : List AStep := [⟨.store 1 (.t 14) (.t 13), none, none, []⟩]
theorem v87_6 : VS L87_6.eq_1 := rfl
def L87_7 : List AStep := ⟨.call 109 [(.t 11), (.t 12)], (some 13), none, []⟩ :: ⟨.faddr 0 (.t 3), (some 14), none, []⟩ :: L87_6
theorem v87_7 : VS L87_7.eq_1 := rfl
def L87_8 : List AStep := ⟨.mov (.t 0), (some 11), none, []⟩ :: ⟨.buildSlice 3 3 [(.int .i64 0)] [(0, 1, (.c (.int .i64 (-1)))), (1, 1, (.c (.int .i64 9))), (2, 1, (.c (.int .i64 8)))], (some 12), none, []⟩ :: L87_7
theorem v87_8 : VS L87_8.eq_1 := rfl
def L87_9 : List AStep := [⟨.bin .eql (.t 8) (.c (.int .i64 1)), (some 16), none, []⟩, ⟨.mov (.t 16), (some 15), none, []⟩]
theorem v87_9 : VS L87_9.eq_1 := rfl
def L87_10 : List AStep := [⟨.faddr 1 (.t 3), (some 23), none, []⟩, ⟨.store 1 (.t 23) (.t 22), none, none, []⟩]
theorem v87_10 : VS L87_10.eq_1 := rfl
def L87_11 : List AStep := ⟨.buildSlice 9 1 [(.str (strOfNums []))] [(0, 1, (.t 20))], (some 21), none, []⟩ :: ⟨.append 9 1 16 (.t 18) (.t 21), (some 22), none, []⟩ :: L87_10
theorem v87_11 : VS L87_11.eq_1 := rfl
def L87_12 : List AStep := ⟨.mov (.t 0), (some 19), none, []⟩ :: ⟨.call 107 [(.t 19)], (some 20), none, [(.load 1 false (.t 17), (some 18), none)]⟩ :: L87_11
theorem v87_12 : VS L87_12.eq_1 := rfl
def L87_13 : List AStep := ⟨.faddr 1 (.t 3), (some 17), none, []⟩ :: ⟨.load 1 false (.t 17), (some 18), none, []⟩ :: L87_12
theorem v87_13 : VS L87_13.eq_1 := rfl
def L87_14 : List AStep := [⟨.load 2 true (.t 3), (some 24), none, []⟩, ⟨.store 2 (.t 2) (.t 24), none, none, []⟩]
theorem v87_14 : VS L87_14.eq_1 := rfl
def C87_0 : ACode := .cond (.t 15) (.reg L87_13) .skip
theorem u87_0 : VC C87_0.eq_1 := rfl
def C87_1 : ACode := .seq (.reg L87_9) C87_0
theorem u87_1 : VC C87_1.eq_1 := rfl
def C87_2 : ACode := .cond (.t 9) (.reg L87_8) C87_1
theorem u87_2 : VC C87_2.eq_1 := rfl
def C87_3 : ACode := .seq (.reg L87_5) C87_2
theorem u87_3 : VC C87_3.eq_1 := rfl
def C87_4 : ACode := .block 0 C87_3
theorem u87_4 : VC C87_4.eq_1 := rfl
def C87_5 : ACode := .seq (.reg L87_4) C87_4
theorem u87_5 : VC C87_5.eq_1 := rfl
def C87_6 : ACode := .seq (.reg L87_14) .ret
theorem u87_6 : VC C87_6.eq_1 := rfl
def C87_7 : ACode := .seq C87_5 C87_6
theorem u87_7 : VC C87_7.eq_1 := rfl
def C87_8 : ACode := .seq (.reg L87_3) C87_7
theorem u87_8 : VC C87_8.eq_1 := rfl
def C87_9 : ACode := .seq (.reg L87_0) C87_8
theorem u87_9 : VC C87_9.eq_1 := rfl
def F87 : AFunc := ⟨25, [.cell 2 2 true], C87_9⟩
theorem cF87 : compB Try.prog 87 = some F87 := by kernel_rfl
attribute [local go_sem ↓] u87_0 u87_1 u87_2 u87_3 u87_4 u87_5 u87_6 u87_7 u87_8 u87_9 v87_0 v87_1 v87_2 v87_3 v87_4 v87_5 v87_6 v87_7 v87_8 v87_9 v87_10 v87_11 v87_12 v87_13 v87_14
theorem c_someShape (b : Nat) (p : Int) (h : H) (r : Rd h b p) (hp : p ≤ 2 ^ 37) : callK (bm Try.prog 87 [.one (.ptr (some (b, 0)))] h) fun q h' => (∃ x y s, q = .agg [x, y] ∧ NwX h h' x y s ∧ miniX s) ∧ Drew b p 19 h h' := by
  refine bm_of cF87 ?_
  have hbn := r.lt
  simp +contextual (maxSteps := 2000000) only [go_sem, Nat.reduceEqDiff, reduceCtorEq, Nat.reduceAdd, Nat.reduceLeDiff, F87]
  refine wp_call (c_goodFlat b p h r (by omega)) ?_
  rintro q h1 ⟨⟨x, y, f, rfl, z1, tf⟩, d1⟩
  simp +contextual (maxSteps := 2000000) only [go_sem, Nat.reduceEqDiff, reduceCtorEq, Nat.reduceAdd, Nat.reduceLeDiff]
  refine wp_call (c_shapeOf f x y h1 z1.sl (by have := tf.pl; omega) (by have := tf.nl; omega)) ?_
  rintro q h2 ⟨g2, c, w, rfl, x2⟩
  have hil := insAll_perm (l := f.nl) (Nat.le_refl _)
  rw [List.take_length] at hil
  generalize hs : (⟨f.pl.length, (insAll f.nl f.nl.length).map Pair.name⟩ : Shape) = s at x2
  have ms : s.names.length ≤ 10 ∧ ∀ a ∈ s.names, a.size ≤ 10 := by
    subst hs
    refine ⟨by simp only [List.length_map, hil.length_eq]; exact tf.nl, fun a ha => ?_⟩
    obtain ⟨q, hq, rfl⟩ := List.mem_map.1 ha
    exact tf.nm q (hil.mem_iff.1 hq)
  have x2 := x2.from d1.st.n
  have d2 := d1.grow g2
  obtain ⟨p2, hp1, hp2, r2⟩ := d2.ex
  simp +contextual (maxSteps := 2000000) only [go_sem, Nat.reduceEqDiff, reduceCtorEq, Nat.reduceAdd, Nat.reduceLeDiff]
  refine wp_call (c_pick b 20 p2 h2 r2 (by omega)) ?_
  rintro q h3 ⟨⟨k, rfl, k0, k1⟩, d3⟩
  have x3 := x2.drew d3 hbn
  obtain ⟨p3, hq1, hq2, r3⟩ := d3.ex
  have d3 := d3.then d2.st (by omega) hp2
  by_cases e0 : k = 0
  · simp +contextual (maxSteps := 2000000) only [go_sem, Nat.reduceEqDiff, reduceCtorEq, Nat.reduceAdd, Nat.reduceLeDiff, decide_eq_true e0]
    refine wp_lit (enc := encI) (k := 1) (l := [-1, 9, 8]) rfl rfl ?_
    intro h4 w4 g4 n4 b4
    simp +contextual (maxSteps := 2000000) only [go_sem, Nat.reduceEqDiff, reduceCtorEq, Nat.reduceAdd, Nat.reduceLeDiff]
    refine wp_call (c_one b p3 _ w4 h4 (r3.grow g4) (by omega) (n4.sl lenI) (fun i hi => Nat.lt_of_lt_of_le r3.lt (b4 i hi)) (by decide) (by decide)) ?_
    rintro q h5 ⟨⟨n, _, rfl⟩, d5⟩
    have x5 : NwX h h5 (.int .i64 n) w ⟨n, s.names⟩ := ⟨rfl, ((x3.out.grow g4).drew d5 hbn)⟩
    have d5 := ((d5.pre g4).then d3.st (by omega) (show p3 ≤ p + ((16 + 1 : Nat) : Int) by omega)).more (show 16 + 1 + 1 ≤ 19 by omega)
    obtain rfl := x3.c
    simp +contextual (maxSteps := 2000000) only [go_sem, Nat.reduceEqDiff, reduceCtorEq, Nat.reduceAdd, Nat.reduceLeDiff]
    exact gcK_drew r d5 ⟨⟨_, w, _, rfl, x5, ⟨Nat.le_trans ms.1 (by decide), fun a ha => Nat.le_trans (ms.2 a ha) (by decide)⟩⟩, d5⟩
  by_cases e1 : k = 1
  · simp +contextual (maxSteps := 2000000) only [go_sem, Nat.reduceEqDiff, reduceCtorEq, Nat.reduceAdd, Nat.reduceLeDiff, decide_eq_false e0, decide_eq_true e1]
    refine wp_call (c_anyName b p3 h3 r3 (by omega)) ?_
    rintro q h4 ⟨⟨t, rfl, ht⟩, d4⟩
    have x4 := x3.drew d4 hbn
    have d4 := d4.then d3.st (by omega) (show p3 ≤ p + ((16 + 1 : Nat) : Int) by omega)
    obtain rfl := x3.c
    simp +contextual (maxSteps := 2000000) only [go_sem, Nat.reduceEqDiff, reduceCtorEq, Nat.reduceAdd, Nat.reduceLeDiff]
    refine wp_lit (enc := encS) (k := 1) (l := [t]) rfl rfl ?_
    intro h5 w5 g5 n5 b5
    simp +contextual (maxSteps := 2000000) only [go_sem, Nat.reduceEqDiff, reduceCtorEq, Nat.reduceAdd, Nat.reduceLeDiff]
    refine wp_appendD lenS (x4.out.grow g5) (n5.sl lenS) (Nat.le_trans d4.st.n g5.n) (by have := ms.1; simp; omega) ?_
    intro h6 s6 n6 st6 hb6
    obtain ⟨c6, rfl⟩ := n6.one
    have x6 : NwX h h6 (.int .i64 s.count) c6 ⟨s.count, s.names ++ [t]⟩ := ⟨rfl, n6⟩
    have d6 := (d4.grow g5).stay st6 (fun i hi => (x4.out.lt hi).2) hbn
    simp +contextual (maxSteps := 2000000) only [go_sem, Nat.reduceEqDiff, reduceCtorEq, Nat.reduceAdd, Nat.reduceLeDiff]
    refine gcK_drew r d6 ⟨⟨_, c6, _, rfl, x6, ⟨by have := ms.1; simp; omega, fun a ha => ?_⟩⟩, d6⟩
    rcases List.mem_append.1 ha with e | e
    · exact Nat.le_trans (ms.2 a e) (by decide)
    · rw [List.mem_singleton.1 e]; exact Nat.le_trans ht (by decide)
  · have d4 := d3.more (show 16 + 1 ≤ 19 by omega)
    simp +contextual (maxSteps := 2000000) only [go_sem, Nat.reduceEqDiff, reduceCtorEq, Nat.reduceAdd, Nat.reduceLeDiff, decide_eq_false e0, decide_eq_false e1]
    exact gcK_drew r d4 ⟨⟨c, w, s, rfl, x3, ⟨Nat.le_trans ms.1 (by decide), fun a ha => Nat.le_trans (ms.2 a ha) (by decide)⟩⟩, d4⟩
/-! spec.DrawFlatOf -/
def L37_0 : List AStep := [⟨.alloc 67 [(.int .i64 0), (.sl none 0 (some 0))], (some 2), none, []⟩]
theorem v37_0 : VS L37_0.eq_1 := rfl
def L37_1 : List AStep := [⟨.call 87 [(.t 4)], (some 5), none, []⟩, ⟨.store 2 (.t 2) (.t 5), none, none, []⟩]
theorem v37_1 : VS L37_1.eq_1 := rfl
def L37_2 : List AStep := ⟨.mov (.t 0), (some 3), none, []⟩ :: ⟨.call 51 [(.t 3)], (some 4), none, []⟩ :: L37_1
theorem v37_2 : VS L37_2.eq_1 := rfl
def C37_0 : ACode := .seq (.reg L37_2) .ret
theorem u37_0 : VC C37_0.eq_1 := rfl
def C37_1 : ACode := .seq (.reg L37_0) C37_0
theorem u37_1 : VC C37_1.eq_1 := rfl
def F37 : AFunc := ⟨6, [.cell 2 2 true], C37_1⟩
theorem cF37 : compB Try.prog 37 = some F37 := by kernel_rfl
attribute [local go_sem ↓] u37_0 u37_1 v37_0 v37_1 v37_2
theorem c_drawFlatOf (code : List Int) (v : CV) (h : H) (hl : Sl encBy 1 5 h (.one v) code) (hc : ∀ x ∈ code, 0 ≤ x ∧ x ≤ 255) : callK (bm Try.prog 37 [.one v] h) fun q h' => Grow h h' ∧ ∃ x y s, q = .agg [x, y] ∧ NwX h h' x y s ∧ miniX s := by
  refine bm_of cF37 ?_
  simp +contextual (maxSteps := 2000000) only [go_sem, Nat.reduceEqDiff, reduceCtorEq, Nat.reduceAdd, Nat.reduceLeDiff, F37]
  refine wp_call (c_newReader code v h hl hc) ?_
  rintro q h1 ⟨g1, b, rfl, r1, hb⟩
  simp +contextual (maxSteps := 2000000) only [go_sem, Nat.reduceEqDiff, reduceCtorEq, Nat.reduceAdd, Nat.reduceLeDiff]
  refine wp_call (c_someShape b 0 h1 r1 (by decide)) ?_
  rintro q h2 ⟨⟨x, y, s, rfl, z2, ms⟩, d2⟩
  have z4 := z2.from g1.n
  have G := d2.out g1 hb
  simp +contextual (maxSteps := 2000000) only [go_sem, Nat.reduceEqDiff, reduceCtorEq, Nat.reduceAdd, Nat.reduceLeDiff]
  exact gcK_of ⟨G, x, y, s, rfl, z4, ms⟩ (fun hs _ => ⟨Grow.refl h, x, y, s, rfl, z4.scalar hs h, ms⟩)
/-! spec.DrawValidShape -/
def L40_0 : List AStep := [⟨.alloc 67 [(.int .i64 0), (.sl none 0 (some 0))], (some 2), none, []⟩]
theorem v40_0 : VS L40_0.eq_1 := rfl
def L40_1 : List AStep := [⟨.call 87 [(.t 4)], (some 5), none, []⟩, ⟨.store 2 (.t 2) (.t 5), none, none, []⟩]
theorem v40_1 : VS L40_1.eq_1 := rfl
def L40_2 : List AStep := ⟨.mov (.t 0), (some 3), none, []⟩ :: ⟨.call 51 [(.t 3)], (some 4), none, []⟩ :: L40_1
theorem v40_2 : VS L40_2.eq_1 := rfl
def C40_0 : ACode := .seq (.reg L40_2) .ret
theorem u40_0 : VC C40_0.eq_1 := rfl
def C40_1 : ACode := .seq (.reg L40_0) C40_0
theorem u40_1 : VC C40_1.eq_1 := rfl
def F40 : AFunc := ⟨6, [.cell 2 2 true], C40_1⟩
theorem cF40 : compB Try.prog 40 = some F40 := by kernel_rfl
attribute [local go_sem ↓] u40_0 u40_1 v40_0 v40_1 v40_2
theorem c_drawValidShape (code : List Int) (v : CV) (h : H) (hl : Sl encBy 1 5 h (.one v) code) (hc : ∀ x ∈ code, 0 ≤ x ∧ x ≤ 255) : callK (bm Try.prog 40 [.one v] h) fun q h' => Grow h h' ∧ ∃ x y s, q = .agg [x, y] ∧ NwX h h' x y s ∧ miniX s := by
  refine bm_of cF40 ?_
  simp +contextual (maxSteps := 2000000) only [go_sem, Nat.reduceEqDiff, reduceCtorEq, Nat.reduceAdd, Nat.reduceLeDiff, F40]
  refine wp_call (c_newReader code v h hl hc) ?_
  rintro q h1 ⟨g1, b, rfl, r1, hb⟩
  simp +contextual (maxSteps := 2000000) only [go_sem, Nat.reduceEqDiff, reduceCtorEq, Nat.reduceAdd, Nat.reduceLeDiff]
  refine wp_call (c_someShape b 0 h1 r1 (by decide)) ?_
  rintro q h2 ⟨⟨x, y, s, rfl, z2, ms⟩, d2⟩
  have z4 := z2.from g1.n
  have G := d2.out g1 hb
  simp +contextual (maxSteps := 2000000) only [go_sem, Nat.reduceEqDiff, reduceCtorEq, Nat.reduceAdd, Nat.reduceLeDiff]
  exact gcK_of ⟨G, x, y, s, rfl, z4, ms⟩ (fun hs _ => ⟨Grow.refl h, x, y, s, rfl, z4.scalar hs h, ms⟩)
end Go.Proofs.Ytekkimfdcbgcoaa.Am
