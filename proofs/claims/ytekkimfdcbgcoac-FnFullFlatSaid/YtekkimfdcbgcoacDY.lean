/- Contracts: calls of partial calls that are drawn. -/
import Derived.Test.YtekkimfdcbgcoacDP
import Derived.Test.YtekkimfdcbgcoacPV
namespace Go.Proofs.Ytekkimfdcbgcoac.Am
open Go
attribute [local go_sem] loadL_agg
set_option maxRecDepth 100000
set_option maxHeartbeats 4000000
set_option linter.unusedSimpArgs false
set_option linter.unusedVariables false
attribute [local go_sem ↓] bv_t bv_c ev_t ev_c put_same put_ne put_none kill_at pro_at lb_same lb_ne start_zero start_succ wpC_seq wpC_reg wpC_cond wpC_block wpC_skip wpC_exit wpC_ret thenQ_normal thenQ_exit thenQ_ret inBlk_normal inBlk_exit inBlk_ret wpS_nil wpS_step wpS_again wpS_guard wpO_mov wpO_load wpO_faddr wpO_nilCheck wpO_pick wpO_build wpO_bin wpO_eqb wpO_eqst wpO_eqnil wpO_not wpO_conv wpO_bytesStr wpO_iaddr wpO_idxStr wpO_field wpO_extract wpO_len wpO_lenStr wpO_cap wpO_min wpO_slice wpO_sliceStr wpO_alloc wpO_box wpO_store wpO_call wpO_callv wpO_mkfn wpO_buildSlice wpO_mkslice wpO_append wpO_appz proA_nil proA_cons tmpX_nil tmpX_tmp tmpX_cell doneB_normal doneB_ret agK_cons agK_nil agK_guard agG_tt agG_ff agG_tf agG_ft agG_undef pureB_load results_one results_two results_nil resBs_cons resBs_nil resB_tmp resB_cell
attribute [local go_sem] kill_v kill_lp_ne kill_lp_same pro_v pro_lp_same pro_lp_ne av_v av_lp optB_some optX_some valX_eq ldX_lp ldX_v faX_lp faX_v ncX_lp ncX_ptr ncX_fn boxK_one boxK_agg stL_some stK_lp_one stK_lp_agg stK_v_one stK_v_agg proM_v proM_lp callG_mk callVG_mk callvK_fn fnG_mk ptrsA_nil ptrsA_cons callH_some whenA_true whenA_false guardH_tt guardH_ff guardH_tf guardH_ft guardH_undef agV_one agV_agg lenO_sl lenStrO_str notO_bool pickO_bool convO_int eqbO_bool eqnilO_sl extractO_tup capO_sl minO_int loadL_one loadL_all storeL_eq fillA_nil fillA_one fillA_agg nat_ge neg_ge nat_lt neg_lt buildO bin_add bin_sub bin_mul bin_eql bin_neq bin_lss bin_leq bin_gtr bin_geq str_eql str_neq str_lss str_leq str_gtr str_geq retK_some endK_mk gcK_same gcK_int gcK_bool tupO_one tupO_agg rdy_self ib ii Option.map_none Option.map_some Option.some.injEq exists_eq_left' exists_eq_left ne_eq not_false_eq_true if_true if_false List.map_cons List.map_nil List.getElem?_cons_zero List.getElem?_cons_succ List.length_cons List.length_nil List.take_succ_cons List.take_zero List.take_nil List.drop_succ_cons List.drop_zero List.drop_nil List.cons_append List.nil_append List.append_nil List.set_cons_zero List.set_cons_succ Nat.zero_add forall_const true_and and_true and_self Bool.false_eq_true false_implies true_implies implies_true Bool.not_true Bool.not_false Bool.not_eq_true' Bool.not_eq_false' beq_self_eq_true Bool.bne_true Bool.bne_false
attribute [local go_sem] lenI lenS lenP lenQ lenB lenL lenT encI_0 encS_0 encP_0 encP_1 encQ_0 encQ_1 encQ_2 encQ_3 encB_0 encB_1 encL_0 encL_1 encT_0 encT_1
attribute [local go_sem low] whenA_bool guardH_bool
/-! spec.partialCall -/
def L77_0 : List AStep := [⟨.alloc 31 [(.sl none 0 (some 0)), (.sl none 0 (some 0)), (.sl none 0 (some 0))], (some 2), none, []⟩, ⟨.alloc 29 [(.sl none 0 (some 0)), (.sl none 0 (some 0))], (some 3), none, []⟩]
theorem v77_0 : VS L77_0.eq_1 := rfl
def L77_1 : List AStep := [⟨.alloc 31 [(.sl none 0 (some 0)), (.sl none 0 (some 0)), (.sl none 0 (some 0))], (some 4), none, []⟩, ⟨.store 3 (.t 4) (.t 9), none, none, []⟩]
theorem v77_1 : VS L77_1.eq_1 := rfl
def L77_2 : List AStep := ⟨.mov (.t 0), (some 8), none, []⟩ :: ⟨.call 47 [(.t 8)], (some 9), none, []⟩ :: L77_1
theorem v77_2 : VS L77_2.eq_1 := rfl
def L77_3 : List AStep := [⟨.store 1 (.t 5) (.t 13), none, none, []⟩, ⟨.mov (.t 14), (some 6), none, []⟩]
theorem v77_3 : VS L77_3.eq_1 := rfl
def L77_4 : List AStep := ⟨.extract (.t 10) 1, (some 14), none, []⟩ :: ⟨.alloc 25 [(.sl none 0 (some 0))], (some 5), none, []⟩ :: L77_3
theorem v77_4 : VS L77_4.eq_1 := rfl
def L77_5 : List AStep := ⟨.mov (.t 12), (some 10), none, []⟩ :: ⟨.extract (.t 10) 0, (some 13), none, []⟩ :: L77_4
theorem v77_5 : VS L77_5.eq_1 := rfl
def L77_6 : List AStep := ⟨.load 3 true (.t 4), (some 11), none, []⟩ :: ⟨.call 24 [(.t 11)], (some 12), none, []⟩ :: L77_5
theorem v77_6 : VS L77_6.eq_1 := rfl
def L77_7 : List AStep := [⟨.pick (.t 17) (.c (.bool true)) (.t 20), (some 21), none, []⟩]
theorem v77_7 : VS L77_7.eq_1 := rfl
def L77_8 : List AStep := ⟨.call 92 [(.t 18), (.c (.int .i64 6))], (some 19), (some (17, false)), []⟩ :: ⟨.bin .eql (.t 19) (.c (.int .i64 0)), (some 20), (some (17, false)), []⟩ :: L77_7
theorem v77_8 : VS L77_8.eq_1 := rfl
def L77_9 : List AStep := ⟨.mov (.t 16), (some 17), none, []⟩ :: ⟨.mov (.t 0), (some 18), (some (17, false)), []⟩ :: L77_8
theorem v77_9 : VS L77_9.eq_1 := rfl
def L77_10 : List AStep := ⟨.mov (.t 6), (some 15), none, []⟩ :: ⟨.not (.t 15), (some 16), none, []⟩ :: L77_9
theorem v77_10 : VS L77_10.eq_1 := rfl
def L77_11 : List AStep := [⟨.store 2 (.t 3) (.t 24), none, none, []⟩]
theorem v77_11 : VS L77_11.eq_1 := rfl
def L77_12 : List AStep := ⟨.call 93 [(.t 23)], (some 24), none, [(.load 3 true (.t 4), (some 22), none)]⟩ :: ⟨.store 3 (.t 2) (.t 22), none, none, []⟩ :: L77_11
theorem v77_12 : VS L77_12.eq_1 := rfl
def L77_13 : List AStep := ⟨.load 3 true (.t 4), (some 22), none, []⟩ :: ⟨.mov (.t 0), (some 23), none, []⟩ :: L77_12
theorem v77_13 : VS L77_13.eq_1 := rfl
def L77_14 : List AStep := [⟨.store 2 (.t 7) (.t 27), none, none, []⟩]
theorem v77_14 : VS L77_14.eq_1 := rfl
def L77_15 : List AStep := ⟨.call 118 [(.t 25), (.t 26)], (some 27), none, []⟩ :: ⟨.alloc 29 [(.sl none 0 (some 0)), (.sl none 0 (some 0))], (some 7), none, []⟩ :: L77_14
theorem v77_15 : VS L77_15.eq_1 := rfl
def L77_16 : List AStep := ⟨.mov (.t 0), (some 25), none, []⟩ :: ⟨.load 1 true (.t 5), (some 26), none, []⟩ :: L77_15
theorem v77_16 : VS L77_16.eq_1 := rfl
def L77_17 : List AStep := [⟨.bin .eql (.t 29) (.c (.int .i64 0)), (some 30), none, []⟩]
theorem v77_17 : VS L77_17.eq_1 := rfl
def L77_18 : List AStep := ⟨.mov (.t 0), (some 28), none, []⟩ :: ⟨.call 92 [(.t 28), (.c (.int .i64 5))], (some 29), none, []⟩ :: L77_17
theorem v77_18 : VS L77_18.eq_1 := rfl
def L77_19 : List AStep := [⟨.faddr 1 (.t 7), (some 39), none, []⟩, ⟨.store 1 (.t 39) (.t 38), none, none, []⟩]
theorem v77_19 : VS L77_19.eq_1 := rfl
def L77_20 : List AStep := ⟨.build [(.str (strOfNums [])), (.int .i64 0)] [(0, 1, (.t 34)), (1, 1, (.t 36))], (some 37), none, []⟩ :: ⟨.call 119 [(.t 32), (.t 37)], (some 38), none, []⟩ :: L77_19
theorem v77_20 : VS L77_20.eq_1 := rfl
def L77_21 : List AStep := ⟨.call 120 [(.t 33)], (some 34), none, [(.load 1 false (.t 31), (some 32), none)]⟩ :: ⟨.call 121 [(.t 35)], (some 36), none, [(.load 1 false (.t 31), (some 32), none)]⟩ :: L77_20
theorem v77_21 : VS L77_21.eq_1 := rfl
def L77_22 : List AStep := ⟨.mov (.t 0), (some 33), none, []⟩ :: ⟨.mov (.t 0), (some 35), none, []⟩ :: L77_21
theorem v77_22 : VS L77_22.eq_1 := rfl
def L77_23 : List AStep := ⟨.faddr 1 (.t 7), (some 31), none, []⟩ :: ⟨.load 1 false (.t 31), (some 32), none, []⟩ :: L77_22
theorem v77_23 : VS L77_23.eq_1 := rfl
def L77_24 : List AStep := [⟨.store 3 (.t 2) (.t 40), none, none, [(.load 2 true (.t 7), (some 41), none)]⟩, ⟨.store 2 (.t 3) (.t 41), none, none, []⟩]
theorem v77_24 : VS L77_24.eq_1 := rfl
def L77_25 : List AStep := ⟨.load 3 true (.t 4), (some 40), none, []⟩ :: ⟨.load 2 true (.t 7), (some 41), none, []⟩ :: L77_24
theorem v77_25 : VS L77_25.eq_1 := rfl
def C77_0 : ACode := .seq (.reg L77_13) .ret
theorem u77_0 : VC C77_0.eq_1 := rfl
def C77_1 : ACode := .cond (.t 21) C77_0 .skip
theorem u77_1 : VC C77_1.eq_1 := rfl
def C77_2 : ACode := .seq (.reg L77_10) C77_1
theorem u77_2 : VC C77_2.eq_1 := rfl
def C77_3 : ACode := .cond (.t 30) (.reg L77_23) .skip
theorem u77_3 : VC C77_3.eq_1 := rfl
def C77_4 : ACode := .seq (.reg L77_18) C77_3
theorem u77_4 : VC C77_4.eq_1 := rfl
def C77_5 : ACode := .seq (.reg L77_25) .ret
theorem u77_5 : VC C77_5.eq_1 := rfl
def C77_6 : ACode := .seq C77_4 C77_5
theorem u77_6 : VC C77_6.eq_1 := rfl
def C77_7 : ACode := .seq (.reg L77_16) C77_6
theorem u77_7 : VC C77_7.eq_1 := rfl
def C77_8 : ACode := .seq C77_2 C77_7
theorem u77_8 : VC C77_8.eq_1 := rfl
def C77_9 : ACode := .seq (.reg L77_6) C77_8
theorem u77_9 : VC C77_9.eq_1 := rfl
def C77_10 : ACode := .seq (.reg L77_2) C77_9
theorem u77_10 : VC C77_10.eq_1 := rfl
def C77_11 : ACode := .seq (.reg L77_0) C77_10
theorem u77_11 : VC C77_11.eq_1 := rfl
def F77 : AFunc := ⟨42, [.cell 2 3 true, .cell 3 2 true], C77_11⟩
theorem cF77 : compB Try.prog 77 = some F77 := by kernel_rfl
attribute [local go_sem ↓] u77_0 u77_1 u77_2 u77_3 u77_4 u77_5 u77_6 u77_7 u77_8 u77_9 u77_10 u77_11 v77_0 v77_1 v77_2 v77_3 v77_4 v77_5 v77_6 v77_7 v77_8 v77_9 v77_10 v77_11 v77_12 v77_13 v77_14 v77_15 v77_16 v77_17 v77_18 v77_19 v77_20 v77_21 v77_22 v77_23 v77_24 v77_25
theorem c_partialCall (b : Nat) (p : Int) (h : H) (r : Rd h b p) (hp : p ≤ 2 ^ 35) : callK (bm Try.prog 77 [.one (.ptr (some (b, 0)))] h) fun q h' => (∃ u x y c d l f g, q = .tup [.agg [u, x, y], .agg [c, d]] ∧ SlQ h' (.one u) l ∧ SlF h' x y f ∧ SlF h' c d g ∧ tinyQ l ∧ miniF f ∧ miniF g) ∧ Drew b p 186 h h' := by
  refine bm_of cF77 ?_
  have hbn := r.lt
  simp +contextual (maxSteps := 2000000) only [go_sem, Nat.reduceEqDiff, reduceCtorEq, Nat.reduceAdd, Nat.reduceLeDiff, F77]
  refine wp_call (c_somePartial b p h r (by omega)) ?_
  rintro q h1 ⟨⟨u, x, y, l, f, rfl, zq, zf, tl, mf⟩, d1⟩
  obtain ⟨p1, hp1, hp2, r1⟩ := d1.ex
  have sd : SlD h1 u x y ⟨l, f⟩ := ⟨⟨zq.sl lenQ⟩, zf.sl⟩
  have md : miniD ⟨l, f⟩ := ⟨tl.mini, mf⟩
  simp +contextual (maxSteps := 2000000) only [go_sem, Nat.reduceEqDiff, reduceCtorEq, Nat.reduceAdd, Nat.reduceLeDiff]
  refine wp_call (k_sPartialSignature ⟨l, f⟩ u x y h1 sd md) ?_
  rintro q h2 ⟨g2, w, rfl, zw⟩
  have zq := zq.grow g2
  have zf := zf.grow g2
  have r2 := r1.grow g2
  have d2 := d1.grow g2
  have hx : baseOf (.one w) ≠ some b := fun e => by have := (zw.lt e).2; have := r1.lt; omega
  have fin : ∀ {h5 : H} {c d : CV} {g : Flat} {n : Nat}, NwQ h h5 (.one u) l → FrF h h5 x y f → SlF h5 c d g → miniF g → Drew b p n h h5 → n ≤ 186 → gcK h (.tup [.agg [u, x, y], .agg [c, d]]) (rdy h5) fun q h' => (∃ u x y c d l f g, q = .tup [.agg [u, x, y], .agg [c, d]] ∧ SlQ h' (.one u) l ∧ SlF h' x y f ∧ SlF h' c d g ∧ tinyQ l ∧ miniF f ∧ miniF g) ∧ Drew b p 186 h h' := fun zq zf zg mg d hn =>
    gcK_drew r (d.more hn) ⟨⟨u, x, y, _, _, l, f, _, rfl, zq.sl lenQ, zf.sl, zg, tl, mf, mg⟩, d.more hn⟩
  cases eo : psOk l f with
  | false =>
    simp +contextual (maxSteps := 2000000) only [go_sem, Nat.reduceEqDiff, reduceCtorEq, Nat.reduceAdd, Nat.reduceLeDiff, eo]
    refine wp_call (c_someFlat b p1 h2 r2 (by omega)) ?_
    rintro q h3 ⟨⟨c, d, g, rfl, z3, mg⟩, d3⟩
    simp +contextual (maxSteps := 2000000) only [go_sem, Nat.reduceEqDiff, reduceCtorEq, Nat.reduceAdd, Nat.reduceLeDiff]
    exact fin (zq.drew d3 hbn) (zf.drew d3 hbn) z3.sl mg (d3.then d2.st (by omega) hp2) (by omega)
  | true =>
  have ok := (ps_parts eo).2.1
  rw [← (ps_parts eo).2.2] at ok
  have nm10 : ∀ x ∈ psF l f, x.name.size ≤ 10 := fun x hx => Nat.le_trans (okSig_name ok x hx) (by decide)
  simp +contextual (maxSteps := 2000000) only [go_sem, Nat.reduceEqDiff, reduceCtorEq, Nat.reduceAdd, Nat.reduceLeDiff, eo]
  refine wp_call (c_pick b 6 p1 h2 r2 (by omega)) ?_
  rintro q h3 ⟨⟨k, rfl, _, _⟩, d3⟩
  have zw3 := zw.stay d3.st fun i hi e => by have := (zw.lt hi).2; have := r1.lt; simp [bR, baseOf] at e; omega
  have zq3 := zq.drew d3 hbn
  have zf3 := zf.drew d3 hbn
  obtain ⟨p3, hq1, hq2, r3⟩ := d3.ex
  have d3 := d3.then d2.st (by omega) hp2
  by_cases e0 : k = 0
  · simp +contextual (maxSteps := 2000000) only [go_sem, Nat.reduceEqDiff, reduceCtorEq, Nat.reduceAdd, Nat.reduceLeDiff, decide_eq_true e0]
    refine wp_call (c_someFlat b p3 h3 r3 (by omega)) ?_
    rintro q h4 ⟨⟨c, d, g, rfl, z4, mg⟩, d4⟩
    simp +contextual (maxSteps := 2000000) only [go_sem, Nat.reduceEqDiff, reduceCtorEq, Nat.reduceAdd, Nat.reduceLeDiff]
    exact fin (zq3.drew d4 hbn) (zf3.drew d4 hbn) z4.sl mg (d4.then d3.st (by omega) (show p3 ≤ p + ((117 + 1 : Nat) : Int) by omega)) (by omega)
  · simp +contextual (maxSteps := 2000000) only [go_sem, Nat.reduceEqDiff, reduceCtorEq, Nat.reduceAdd, Nat.reduceLeDiff, decide_eq_false e0]
    refine wp_call (c_callFor b p3 (psF l f) w h3 r3 (by omega) (zw3.sl lenQ) hx (okSig_len ok) nm10) ?_
    rintro q h4 ⟨⟨c, d, g, rfl, z4, y1, y2, y3⟩, d4⟩
    have zq4 := zq3.drew d4 hbn
    have zf4 := zf3.drew d4 hbn
    have zg := (FrF.of z4).from d3.st.n
    obtain ⟨p4, hs1, hs2, r4⟩ := d4.ex
    have d4 := d4.then d3.st (by omega) (show p3 ≤ p + ((117 + 1 : Nat) : Int) by omega)
    simp +contextual (maxSteps := 2000000) only [go_sem, Nat.reduceEqDiff, reduceCtorEq, Nat.reduceAdd, Nat.reduceLeDiff]
    refine wp_call (c_pick b 5 p4 h4 r4 (by omega)) ?_
    rintro q h5 ⟨⟨k5, rfl, _, _⟩, d5⟩
    have zq5 := zq4.drew d5 hbn
    have zf5 := zf4.drew d5 hbn
    have zg5 := zg.drew d5 hbn
    obtain ⟨p5, hu1, hu2, r5⟩ := d5.ex
    have d5 := d5.then d4.st (by omega) (show p4 ≤ p + ((117 + 1 + 65 : Nat) : Int) by omega)
    by_cases e5 : k5 = 0
    · simp +contextual (maxSteps := 2000000) only [go_sem, Nat.reduceEqDiff, reduceCtorEq, Nat.reduceAdd, Nat.reduceLeDiff, decide_eq_true e5]
      refine wp_call (c_aName b p5 h5 r5 (by omega)) ?_
      rintro q h6 ⟨⟨s, rfl, hs⟩, d6⟩
      have zq6 := zq5.drew d6 hbn
      have zf6 := zf5.drew d6 hbn
      have zg6 := zg5.drew d6 hbn
      obtain ⟨p6, hv1, hv2, r6⟩ := d6.ex
      have d6 := d6.then d5.st (by omega) (show p5 ≤ p + ((117 + 1 + 65 + 1 : Nat) : Int) by omega)
      simp +contextual (maxSteps := 2000000) only [go_sem, Nat.reduceEqDiff, reduceCtorEq, Nat.reduceAdd, Nat.reduceLeDiff]
      refine wp_call (c_aNumber b p6 h6 r6 (by omega)) ?_
      rintro q h7 ⟨⟨n, rfl⟩, d7⟩
      have zq7 := zq6.drew d7 hbn
      have zf7 := zf6.drew d7 hbn
      have zg7 := zg6.drew d7 hbn
      have d7 := d7.then d6.st (by omega) (show p6 ≤ p + ((117 + 1 + 65 + 1 + 1 : Nat) : Int) by omega)
      have sp : smP g.nl := ⟨Nat.le_trans y2 (by decide), fun a ha => Nat.le_trans (y3 a ha) (by decide)⟩
      simp +contextual (maxSteps := 2000000) only [go_sem, Nat.reduceEqDiff, reduceCtorEq, Nat.reduceAdd, Nat.reduceLeDiff]
      refine wp_call (c_putPair g.nl (.one d) ⟨s, n⟩ h7 zg7.sl.nl sp) ?_
      rintro q h8 ⟨g8, z8⟩
      obtain ⟨c8, rfl⟩ := z8.one
      have mg : miniF ⟨g.pl, putP g.nl ⟨s, n⟩⟩ := ⟨Nat.le_trans y1 (by decide), Nat.le_trans putP_short (by omega), fun a ha => by
        rcases putP_mem ha with e | rfl
        · exact Nat.le_trans (y3 a e) (by decide)
        · exact Nat.le_trans hs (by decide)⟩
      simp +contextual (maxSteps := 2000000) only [go_sem, Nat.reduceEqDiff, reduceCtorEq, Nat.reduceAdd, Nat.reduceLeDiff]
      exact fin (g := ⟨g.pl, putP g.nl ⟨s, n⟩⟩) (zq7.grow g8) (zf7.grow g8) ⟨zg7.sl.pl.grow g8, z8.sl lenP⟩ mg (d7.grow g8) (by omega)
    · simp +contextual (maxSteps := 2000000) only [go_sem, Nat.reduceEqDiff, reduceCtorEq, Nat.reduceAdd, Nat.reduceLeDiff, decide_eq_false e5]
      exact fin zq5 zf5 zg5.sl ⟨Nat.le_trans y1 (by decide), Nat.le_trans y2 (by decide), fun a ha => Nat.le_trans (y3 a ha) (by decide)⟩ d5 (by omega)
/-! spec.DrawFullFlat -/
def L34_0 : List AStep := [⟨.alloc 31 [(.sl none 0 (some 0)), (.sl none 0 (some 0)), (.sl none 0 (some 0))], (some 2), none, []⟩, ⟨.alloc 29 [(.sl none 0 (some 0)), (.sl none 0 (some 0))], (some 3), none, []⟩]
theorem v34_0 : VS L34_0.eq_1 := rfl
def L34_1 : List AStep := [⟨.store 2 (.t 3) (.t 8), none, none, []⟩]
theorem v34_1 : VS L34_1.eq_1 := rfl
def L34_2 : List AStep := ⟨.extract (.t 6) 1, (some 8), none, []⟩ :: ⟨.store 3 (.t 2) (.t 7), none, none, []⟩ :: L34_1
theorem v34_2 : VS L34_2.eq_1 := rfl
def L34_3 : List AStep := ⟨.call 77 [(.t 5)], (some 6), none, []⟩ :: ⟨.extract (.t 6) 0, (some 7), none, []⟩ :: L34_2
theorem v34_3 : VS L34_3.eq_1 := rfl
def L34_4 : List AStep := ⟨.mov (.t 0), (some 4), none, []⟩ :: ⟨.call 48 [(.t 4)], (some 5), none, []⟩ :: L34_3
theorem v34_4 : VS L34_4.eq_1 := rfl
def C34_0 : ACode := .seq (.reg L34_4) .ret
theorem u34_0 : VC C34_0.eq_1 := rfl
def C34_1 : ACode := .seq (.reg L34_0) C34_0
theorem u34_1 : VC C34_1.eq_1 := rfl
def F34 : AFunc := ⟨9, [.cell 2 3 true, .cell 3 2 true], C34_1⟩
theorem cF34 : compB Try.prog 34 = some F34 := by kernel_rfl
attribute [local go_sem ↓] u34_0 u34_1 v34_0 v34_1 v34_2 v34_3 v34_4
theorem c_drawFullFlat (code : List Int) (v : CV) (h : H) (hl : Sl encBy 1 5 h (.one v) code) (hc : ∀ x ∈ code, 0 ≤ x ∧ x ≤ 255) : callK (bm Try.prog 34 [.one v] h) fun q h' => Grow h h' ∧ ∃ u x y c d l f g, q = .tup [.agg [u, x, y], .agg [c, d]] ∧ SlQ h' (.one u) l ∧ SlF h' x y f ∧ SlF h' c d g ∧ tinyQ l ∧ miniF f ∧ miniF g := by
  refine bm_of cF34 ?_
  simp +contextual (maxSteps := 2000000) only [go_sem, Nat.reduceEqDiff, reduceCtorEq, Nat.reduceAdd, Nat.reduceLeDiff, F34]
  refine wp_call (c_newReader code v h hl hc) ?_
  rintro q h1 ⟨g1, b, rfl, r1, hb⟩
  simp +contextual (maxSteps := 2000000) only [go_sem, Nat.reduceEqDiff, reduceCtorEq, Nat.reduceAdd, Nat.reduceLeDiff]
  refine wp_call (c_partialCall b 0 h1 r1 (by decide)) ?_
  rintro q h2 ⟨⟨u, x, y, c, d, l, f, g, rfl, sq, sf, sg, tl, mf, mg⟩, d2⟩
  have G := d2.out g1 hb
  simp +contextual (maxSteps := 2000000) only [go_sem, Nat.reduceEqDiff, reduceCtorEq, Nat.reduceAdd, Nat.reduceLeDiff]
  exact gcK_of ⟨G, u, x, y, c, d, l, f, g, rfl, sq, sf, sg, tl, mf, mg⟩ (fun hs _ => by
    simp [AV.scalar, AV.scalars] at hs
    exact ⟨Grow.refl h, u, x, y, c, d, l, f, g, rfl, sq.scalar hs.1.1 h, ⟨sf.pl.scalar hs.1.2.1 h, sf.nl.scalar hs.1.2.2 h⟩, ⟨sg.pl.scalar hs.2.1 h, sg.nl.scalar hs.2.2 h⟩, tl, mf, mg⟩)
end Go.Proofs.Ytekkimfdcbgcoac.Am
