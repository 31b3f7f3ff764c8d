/- Contracts: wrapped calls that are drawn. -/
import Derived.Test.YtekkimfdcbgcoabWR
import Derived.Test.YtekkimfdcbgcoabDW
import Derived.Test.YtekkimfdcbgcoabDP
namespace Go.Proofs.Ytekkimfdcbgcoab.Am
open Go
set_option maxRecDepth 100000
set_option maxHeartbeats 4000000
set_option linter.unusedSimpArgs false
set_option linter.unusedVariables false
attribute [local go_sem ↓] bv_t bv_c ev_t ev_c put_same put_ne put_none kill_at pro_at lb_same lb_ne start_zero start_succ wpC_seq wpC_reg wpC_cond wpC_block wpC_skip wpC_exit wpC_ret thenQ_normal thenQ_exit thenQ_ret inBlk_normal inBlk_exit inBlk_ret wpS_nil wpS_step wpS_again wpS_guard wpO_mov wpO_load wpO_faddr wpO_nilCheck wpO_pick wpO_build wpO_bin wpO_eqb wpO_eqst wpO_eqnil wpO_not wpO_conv wpO_bytesStr wpO_iaddr wpO_idxStr wpO_field wpO_extract wpO_len wpO_lenStr wpO_cap wpO_min wpO_slice wpO_sliceStr wpO_alloc wpO_box wpO_store wpO_call wpO_callv wpO_mkfn wpO_buildSlice wpO_mkslice wpO_append wpO_appz proA_nil proA_cons tmpX_nil tmpX_tmp tmpX_cell doneB_normal doneB_ret agK_cons agK_nil agK_guard agG_tt agG_ff agG_tf agG_ft agG_undef pureB_load results_one results_two results_nil resBs_cons resBs_nil resB_tmp resB_cell
attribute [local go_sem] kill_v kill_lp_ne kill_lp_same pro_v pro_lp_same pro_lp_ne av_v av_lp optB_some optX_some valX_eq ldX_lp ldX_v faX_lp faX_v ncX_lp ncX_ptr ncX_fn boxK_one boxK_agg stL_some stK_lp_one stK_lp_agg stK_v_one stK_v_agg proM_v proM_lp callG_mk callVG_mk callvK_fn fnG_mk ptrsA_nil ptrsA_cons callH_some whenA_true whenA_false guardH_tt guardH_ff guardH_tf guardH_ft guardH_undef agV_one agV_agg lenO_sl lenStrO_str notO_bool pickO_bool convO_int eqbO_bool eqnilO_sl extractO_tup capO_sl minO_int loadL_one loadL_all storeL_eq fillA_nil fillA_one fillA_agg nat_ge neg_ge nat_lt neg_lt buildO bin_add bin_sub bin_mul bin_eql bin_neq bin_lss bin_leq bin_gtr bin_geq str_eql str_neq str_lss str_leq str_gtr str_geq retK_some endK_mk gcK_same gcK_int gcK_bool tupO_one tupO_agg rdy_self ib ii Option.map_none Option.map_some Option.some.injEq exists_eq_left' exists_eq_left ne_eq not_false_eq_true if_true if_false List.map_cons List.map_nil List.getElem?_cons_zero List.getElem?_cons_succ List.length_cons List.length_nil List.take_succ_cons List.take_zero List.take_nil List.drop_succ_cons List.drop_zero List.drop_nil List.cons_append List.nil_append List.append_nil List.set_cons_zero List.set_cons_succ Nat.zero_add forall_const true_and and_true and_self Bool.false_eq_true false_implies true_implies implies_true Bool.not_true Bool.not_false Bool.not_eq_true' Bool.not_eq_false' beq_self_eq_true Bool.bne_true Bool.bne_false
attribute [local go_sem] lenI lenS lenP lenQ lenB lenL lenT encI_0 encS_0 encP_0 encP_1 encQ_0 encQ_1 encQ_2 encQ_3 encB_0 encB_1 encL_0 encL_1 encT_0 encT_1
attribute [local go_sem low] whenA_bool guardH_bool
/-! spec.DrawAcceptsWrapped -/
def L38_0 : List AStep := [⟨.alloc 29 [(.sl none 0 (some 0)), (.sl none 0 (some 0))], (some 4), none, []⟩]
theorem v38_0 : VS L38_0.eq_1 := rfl
def L38_1 : List AStep := ⟨.alloc 25 [(.sl none 0 (some 0))], (some 2), none, []⟩ :: ⟨.alloc 25 [(.sl none 0 (some 0))], (some 3), none, []⟩ :: L38_0
theorem v38_1 : VS L38_1.eq_1 := rfl
def L38_2 : List AStep := [⟨.mov (.t 12), (some 5), none, []⟩]
theorem v38_2 : VS L38_2.eq_1 := rfl
def L38_3 : List AStep := ⟨.mov (.t 0), (some 11), none, []⟩ :: ⟨.call 50 [(.t 11)], (some 12), none, []⟩ :: L38_2
theorem v38_3 : VS L38_3.eq_1 := rfl
def L38_4 : List AStep := [⟨.alloc 25 [(.sl none 0 (some 0))], (some 6), none, []⟩, ⟨.store 1 (.t 6) (.t 14), none, none, []⟩]
theorem v38_4 : VS L38_4.eq_1 := rfl
def L38_5 : List AStep := ⟨.mov (.t 5), (some 13), none, []⟩ :: ⟨.call 85 [(.t 13)], (some 14), none, []⟩ :: L38_4
theorem v38_5 : VS L38_5.eq_1 := rfl
def L38_6 : List AStep := [⟨.alloc 25 [(.sl none 0 (some 0))], (some 7), none, []⟩, ⟨.store 1 (.t 7) (.t 16), none, none, []⟩]
theorem v38_6 : VS L38_6.eq_1 := rfl
def L38_7 : List AStep := ⟨.mov (.t 5), (some 15), none, []⟩ :: ⟨.call 58 [(.t 15)], (some 16), none, []⟩ :: L38_6
theorem v38_7 : VS L38_7.eq_1 := rfl
def L38_8 : List AStep := [⟨.mov (.t 22), (some 9), none, []⟩]
theorem v38_8 : VS L38_8.eq_1 := rfl
def L38_9 : List AStep := ⟨.alloc 25 [(.sl none 0 (some 0))], (some 8), none, []⟩ :: ⟨.store 1 (.t 8) (.t 21), none, none, []⟩ :: L38_8
theorem v38_9 : VS L38_9.eq_1 := rfl
def L38_10 : List AStep := ⟨.extract (.t 17) 0, (some 21), none, []⟩ :: ⟨.extract (.t 17) 1, (some 22), none, []⟩ :: L38_9
theorem v38_10 : VS L38_10.eq_1 := rfl
def L38_11 : List AStep := ⟨.call 40 [(.t 18), (.t 19)], (some 20), none, []⟩ :: ⟨.mov (.t 20), (some 17), none, []⟩ :: L38_10
theorem v38_11 : VS L38_11.eq_1 := rfl
def L38_12 : List AStep := ⟨.load 1 true (.t 6), (some 18), none, []⟩ :: ⟨.load 1 true (.t 7), (some 19), none, []⟩ :: L38_11
theorem v38_12 : VS L38_12.eq_1 := rfl
def L38_13 : List AStep := [⟨.bin .gtr (.t 26) (.c (.int .i64 0)), (some 27), (some (24, true)), []⟩, ⟨.pick (.t 24) (.t 27) (.c (.bool false)), (some 28), none, []⟩]
theorem v38_13 : VS L38_13.eq_1 := rfl
def L38_14 : List AStep := ⟨.mov (.t 5), (some 25), (some (24, true)), []⟩ :: ⟨.call 69 [(.t 25), (.c (.int .i64 4))], (some 26), (some (24, true)), []⟩ :: L38_13
theorem v38_14 : VS L38_14.eq_1 := rfl
def L38_15 : List AStep := ⟨.mov (.t 9), (some 23), none, []⟩ :: ⟨.mov (.t 23), (some 24), none, []⟩ :: L38_14
theorem v38_15 : VS L38_15.eq_1 := rfl
def L38_16 : List AStep := [⟨.store 2 (.t 10) (.t 31), none, none, []⟩]
theorem v38_16 : VS L38_16.eq_1 := rfl
def L38_17 : List AStep := ⟨.call 86 [(.t 29), (.t 30)], (some 31), none, []⟩ :: ⟨.alloc 29 [(.sl none 0 (some 0)), (.sl none 0 (some 0))], (some 10), none, []⟩ :: L38_16
theorem v38_17 : VS L38_17.eq_1 := rfl
def L38_18 : List AStep := ⟨.mov (.t 5), (some 29), none, []⟩ :: ⟨.load 1 true (.t 8), (some 30), none, []⟩ :: L38_17
theorem v38_18 : VS L38_18.eq_1 := rfl
def L38_19 : List AStep := [⟨.bin .eql (.t 33) (.c (.int .i64 0)), (some 34), none, []⟩]
theorem v38_19 : VS L38_19.eq_1 := rfl
def L38_20 : List AStep := ⟨.mov (.t 5), (some 32), none, []⟩ :: ⟨.call 69 [(.t 32), (.c (.int .i64 4))], (some 33), none, []⟩ :: L38_19
theorem v38_20 : VS L38_20.eq_1 := rfl
def L38_21 : List AStep := [⟨.faddr 1 (.t 10), (some 43), none, []⟩, ⟨.store 1 (.t 43) (.t 42), none, none, []⟩]
theorem v38_21 : VS L38_21.eq_1 := rfl
def L38_22 : List AStep := ⟨.build [(.str (strOfNums [])), (.int .i64 0)] [(0, 1, (.t 38)), (1, 1, (.t 40))], (some 41), none, []⟩ :: ⟨.call 87 [(.t 36), (.t 41)], (some 42), none, []⟩ :: L38_21
theorem v38_22 : VS L38_22.eq_1 := rfl
def L38_23 : List AStep := ⟨.call 88 [(.t 37)], (some 38), none, [(.load 1 false (.t 35), (some 36), none)]⟩ :: ⟨.call 89 [(.t 39)], (some 40), none, [(.load 1 false (.t 35), (some 36), none)]⟩ :: L38_22
theorem v38_23 : VS L38_23.eq_1 := rfl
def L38_24 : List AStep := ⟨.mov (.t 5), (some 37), none, []⟩ :: ⟨.mov (.t 5), (some 39), none, []⟩ :: L38_23
theorem v38_24 : VS L38_24.eq_1 := rfl
def L38_25 : List AStep := ⟨.faddr 1 (.t 10), (some 35), none, []⟩ :: ⟨.load 1 false (.t 35), (some 36), none, []⟩ :: L38_24
theorem v38_25 : VS L38_25.eq_1 := rfl
def L38_26 : List AStep := [⟨.store 1 (.t 3) (.t 45), none, none, [(.load 2 true (.t 10), (some 46), none)]⟩, ⟨.store 2 (.t 4) (.t 46), none, none, []⟩]
theorem v38_26 : VS L38_26.eq_1 := rfl
def L38_27 : List AStep := ⟨.load 2 true (.t 10), (some 46), none, []⟩ :: ⟨.store 1 (.t 2) (.t 44), none, none, [(.load 1 true (.t 7), (some 45), none), (.load 2 true (.t 10), (some 46), none)]⟩ :: L38_26
theorem v38_27 : VS L38_27.eq_1 := rfl
def L38_28 : List AStep := ⟨.load 1 true (.t 6), (some 44), none, []⟩ :: ⟨.load 1 true (.t 7), (some 45), none, []⟩ :: L38_27
theorem v38_28 : VS L38_28.eq_1 := rfl
def L38_29 : List AStep := [⟨.store 2 (.t 4) (.t 50), none, none, []⟩]
theorem v38_29 : VS L38_29.eq_1 := rfl
def L38_30 : List AStep := ⟨.store 1 (.t 2) (.t 47), none, none, [(.load 1 true (.t 7), (some 48), none)]⟩ :: ⟨.store 1 (.t 3) (.t 48), none, none, []⟩ :: L38_29
theorem v38_30 : VS L38_30.eq_1 := rfl
def L38_31 : List AStep := ⟨.mov (.t 5), (some 49), none, []⟩ :: ⟨.call 90 [(.t 49)], (some 50), none, [(.load 1 true (.t 6), (some 47), none), (.load 1 true (.t 7), (some 48), none)]⟩ :: L38_30
theorem v38_31 : VS L38_31.eq_1 := rfl
def L38_32 : List AStep := ⟨.load 1 true (.t 6), (some 47), none, []⟩ :: ⟨.load 1 true (.t 7), (some 48), none, []⟩ :: L38_31
theorem v38_32 : VS L38_32.eq_1 := rfl
def C38_0 : ACode := .cond (.t 34) (.reg L38_25) .skip
theorem u38_0 : VC C38_0.eq_1 := rfl
def C38_1 : ACode := .seq (.reg L38_20) C38_0
theorem u38_1 : VC C38_1.eq_1 := rfl
def C38_2 : ACode := .seq (.reg L38_28) .ret
theorem u38_2 : VC C38_2.eq_1 := rfl
def C38_3 : ACode := .seq C38_1 C38_2
theorem u38_3 : VC C38_3.eq_1 := rfl
def C38_4 : ACode := .seq (.reg L38_18) C38_3
theorem u38_4 : VC C38_4.eq_1 := rfl
def C38_5 : ACode := .cond (.t 28) C38_4 .skip
theorem u38_5 : VC C38_5.eq_1 := rfl
def C38_6 : ACode := .seq (.reg L38_15) C38_5
theorem u38_6 : VC C38_6.eq_1 := rfl
def C38_7 : ACode := .seq (.reg L38_32) .ret
theorem u38_7 : VC C38_7.eq_1 := rfl
def C38_8 : ACode := .seq C38_6 C38_7
theorem u38_8 : VC C38_8.eq_1 := rfl
def C38_9 : ACode := .seq (.reg L38_12) C38_8
theorem u38_9 : VC C38_9.eq_1 := rfl
def C38_10 : ACode := .seq (.reg L38_7) C38_9
theorem u38_10 : VC C38_10.eq_1 := rfl
def C38_11 : ACode := .seq (.reg L38_5) C38_10
theorem u38_11 : VC C38_11.eq_1 := rfl
def C38_12 : ACode := .seq (.reg L38_3) C38_11
theorem u38_12 : VC C38_12.eq_1 := rfl
def C38_13 : ACode := .seq (.reg L38_1) C38_12
theorem u38_13 : VC C38_13.eq_1 := rfl
def F38 : AFunc := ⟨51, [.cell 2 1 true, .cell 3 1 true, .cell 4 2 true], C38_13⟩
theorem cF38 : compB Try.prog 38 = some F38 := by kernel_rfl
attribute [local go_sem ↓] u38_0 u38_1 u38_2 u38_3 u38_4 u38_5 u38_6 u38_7 u38_8 u38_9 u38_10 u38_11 u38_12 u38_13 v38_0 v38_1 v38_2 v38_3 v38_4 v38_5 v38_6 v38_7 v38_8 v38_9 v38_10 v38_11 v38_12 v38_13 v38_14 v38_15 v38_16 v38_17 v38_18 v38_19 v38_20 v38_21 v38_22 v38_23 v38_24 v38_25 v38_26 v38_27 v38_28 v38_29 v38_30 v38_31 v38_32
theorem c_drawAcceptsWrapped (code : List Int) (v : CV) (h : H) (hl : Sl encBy 1 5 h (.one v) code) (hc : ∀ x ∈ code, 0 ≤ x ∧ x ≤ 255) : callK (bm Try.prog 38 [.one v] h) fun q h' => Grow h h' ∧ ∃ x x2 u w l m f, q = .tup [.agg [x], .agg [x2], .agg [u, w]] ∧ SlG h' x l ∧ SlG h' x2 m ∧ SlF h' u w f ∧ tinyQ l ∧ tinyQ m ∧ miniF f := by
  refine bm_of cF38 ?_
  simp +contextual (maxSteps := 2000000) only [go_sem, Nat.reduceEqDiff, reduceCtorEq, Nat.reduceAdd, Nat.reduceLeDiff, F38]
  refine wp_call (c_newReader code v h hl hc) ?_
  rintro q h1 ⟨g1, b, rfl, r1, hb⟩
  have hbn := r1.lt
  simp +contextual (maxSteps := 2000000) only [go_sem, Nat.reduceEqDiff, reduceCtorEq, Nat.reduceAdd, Nat.reduceLeDiff]
  refine wp_call (c_aWrapper b 0 h1 r1 (by decide)) ?_
  rintro q h2 ⟨⟨x, l, rfl, z2, tl⟩, d2⟩
  obtain ⟨p2, hp1, hp2, r2⟩ := d2.ex
  simp +contextual (maxSteps := 2000000) only [go_sem, Nat.reduceEqDiff, reduceCtorEq, Nat.reduceAdd, Nat.reduceLeDiff]
  refine wp_call (c_someSignature b p2 h2 r2 (by omega)) ?_
  rintro q h3 ⟨⟨x2, m, rfl, z3, tm⟩, d3⟩
  have zl := z2.drew d3 hbn
  have zm := z3.from d2.st.n
  obtain ⟨p3, hq1, hq2, r3⟩ := d3.ex
  have d3 := d3.then d2.st (by omega) hp2
  simp +contextual (maxSteps := 2000000) only [go_sem, Nat.reduceEqDiff, reduceCtorEq, Nat.reduceAdd, Nat.reduceLeDiff]
  refine wp_call (k_sWrappedSignature l m x x2 h3 ⟨zl.sl lenQ⟩ ⟨zm.sl lenQ⟩ tl.mini tm.mini) ?_
  rintro q h4 ⟨g4, w4, rfl, z4⟩
  have zl := zl.grow g4
  have zm := zm.grow g4
  have r4 := r3.grow g4
  have d4 := d3.grow g4
  have hx : baseOf (.one w4) ≠ some b := fun e => by have := (z4.lt e).2; have := r3.lt; omega
  have fin : ∀ {h5 : H} {u w : CV} {f : Flat}, NwQ h1 h5 (.one x) l → NwQ h1 h5 (.one x2) m → SlF h5 u w f → miniF f → Grow h h5 → gcK h (.tup [.agg [x], .agg [x2], .agg [u, w]]) (rdy h5) fun q h' => Grow h h' ∧ ∃ x x2 u w l m f, q = .tup [.agg [x], .agg [x2], .agg [u, w]] ∧ SlG h' x l ∧ SlG h' x2 m ∧ SlF h' u w f ∧ tinyQ l ∧ tinyQ m ∧ miniF f := fun zq zm zf mf G =>
    gcK_of ⟨G, x, x2, _, _, l, m, _, rfl, ⟨zq.sl lenQ⟩, ⟨zm.sl lenQ⟩, zf, tl, tm, mf⟩ (fun hs _ => by
      simp [AV.scalar, AV.scalars] at hs
      exact ⟨Grow.refl h, x, x2, _, _, l, m, _, rfl, ⟨(zq.sl lenQ).scalar hs.1 h⟩, ⟨(zm.sl lenQ).scalar hs.2.1 h⟩, ⟨zf.pl.scalar hs.2.2.1 h, zf.nl.scalar hs.2.2.2 h⟩, tl, tm, mf⟩)
  have other : ∀ {h5 : H} {p' : Int} {c : Nat}, NwQ h1 h5 (.one x) l → NwQ h1 h5 (.one x2) m → Drew b 0 c h1 h5 → Rd h5 b p' → 0 < p' → p' ≤ 0 + (c : Int) → c ≤ 200 → callK (bm Try.prog 90 [.one (.ptr (some (b, 0)))] h5) fun q h' => ∃ u w f, q = .agg [u, w] ∧ NwQ h1 h' (.one x) l ∧ NwQ h1 h' (.one x2) m ∧ SlF h' u w f ∧ miniF f ∧ Grow h h' := fun zq zm d r h5 h6 h7 => by
    refine callK_mono (c_someFlat b _ _ r (by omega)) ?_
    rintro q h4 ⟨⟨u, w, f, rfl, z4, mf⟩, d4⟩
    exact ⟨u, w, f, rfl, zq.drew d4 hbn, zm.drew d4 hbn, z4.sl, mf, (d4.then d.st (by omega) h6).out g1 hb⟩
  cases eo : wrapOk l m with
  | false =>
    simp +contextual (maxSteps := 2000000) only [go_sem, Nat.reduceEqDiff, reduceCtorEq, Nat.reduceAdd, Nat.reduceLeDiff, eo]
    refine wp_call (other zl zm d4 r4 (by omega) (by omega) (by omega)) ?_
    rintro q h5 ⟨u, w, f, rfl, zq, zm, zf, mf, G⟩
    simp +contextual (maxSteps := 2000000) only [go_sem, Nat.reduceEqDiff, reduceCtorEq, Nat.reduceAdd, Nat.reduceLeDiff]
    exact fin zq zm zf mf G
  | true =>
  have ok := (wrapSig_ok eo).2.2.2
  rw [← (wrapSig_ok eo).1] at ok
  have nm10 : ∀ x ∈ wrapSig l m, x.name.size ≤ 10 := fun x hx => Nat.le_trans (okSig_name ok x hx) (by decide)
  simp +contextual (maxSteps := 2000000) only [go_sem, Nat.reduceEqDiff, reduceCtorEq, Nat.reduceAdd, Nat.reduceLeDiff, eo]
  refine wp_call (c_pick b 4 p3 h4 r4 (by omega)) ?_
  rintro q h5 ⟨⟨k, rfl, k0, _⟩, d5⟩
  have z5 := z4.stay d5.st fun i hi e => by have := (z4.lt hi).2; have := r3.lt; simp [bR, baseOf] at e; omega
  have zl5 := zl.drew d5 hbn
  have zm5 := zm.drew d5 hbn
  obtain ⟨p5, hs1, hs2, r5⟩ := d5.ex
  have d5 := d5.then d4.st (by omega) (show p3 ≤ 0 + ((47 + 46 : Nat) : Int) by omega)
  by_cases e0 : k > 0
  · simp +contextual (maxSteps := 2000000) only [go_sem, Nat.reduceEqDiff, reduceCtorEq, Nat.reduceAdd, Nat.reduceLeDiff, decide_eq_true e0]
    refine wp_call (c_callFor b p5 (wrapSig l m) w4 h5 r5 (by omega) (z5.sl lenQ) hx (okSig_len ok) nm10) ?_
    rintro q h6 ⟨⟨u, w, f, rfl, z6, y1, y2, y3⟩, d6⟩
    have zl6 := zl5.drew d6 hbn
    have zm6 := zm5.drew d6 hbn
    have zf := (FrF.of z6).from d5.st.n
    obtain ⟨p6, hu1, hu2, r6⟩ := d6.ex
    have d6 := d6.then d5.st (by omega) (show p5 ≤ 0 + ((47 + 46 + 1 : Nat) : Int) by omega)
    simp +contextual (maxSteps := 2000000) only [go_sem, Nat.reduceEqDiff, reduceCtorEq, Nat.reduceAdd, Nat.reduceLeDiff]
    refine wp_call (c_pick b 4 p6 h6 r6 (by omega)) ?_
    rintro q h7 ⟨⟨k7, rfl, _, _⟩, d7⟩
    have zl7 := zl6.drew d7 hbn
    have zm7 := zm6.drew d7 hbn
    have zf7 := zf.drew d7 hbn
    obtain ⟨p7, hv1, hv2, r7⟩ := d7.ex
    have d7 := d7.then d6.st (by omega) (show p6 ≤ 0 + ((47 + 46 + 1 + 65 : Nat) : Int) by omega)
    by_cases e7 : k7 = 0
    · simp +contextual (maxSteps := 2000000) only [go_sem, Nat.reduceEqDiff, reduceCtorEq, Nat.reduceAdd, Nat.reduceLeDiff, decide_eq_true e7]
      refine wp_call (c_aName b p7 h7 r7 (by omega)) ?_
      rintro q h8 ⟨⟨s, rfl, hs⟩, d8⟩
      have zl8 := zl7.drew d8 hbn
      have zm8 := zm7.drew d8 hbn
      have zf8 := zf7.drew d8 hbn
      obtain ⟨p8, hw1, hw2, r8⟩ := d8.ex
      have d8 := d8.then d7.st (by omega) (show p7 ≤ 0 + ((47 + 46 + 1 + 65 + 1 : Nat) : Int) by omega)
      simp +contextual (maxSteps := 2000000) only [go_sem, Nat.reduceEqDiff, reduceCtorEq, Nat.reduceAdd, Nat.reduceLeDiff]
      refine wp_call (c_aNumber b p8 h8 r8 (by omega)) ?_
      rintro q h9 ⟨⟨n, rfl⟩, d9⟩
      have zl9 := zl8.drew d9 hbn
      have zm9 := zm8.drew d9 hbn
      have zf9 := zf8.drew d9 hbn
      have d9 := d9.then d8.st (by omega) (show p8 ≤ 0 + ((47 + 46 + 1 + 65 + 1 + 1 : Nat) : Int) by omega)
      have sp : smP f.nl := ⟨Nat.le_trans y2 (by decide), fun a ha => Nat.le_trans (y3 a ha) (by decide)⟩
      simp +contextual (maxSteps := 2000000) only [go_sem, Nat.reduceEqDiff, reduceCtorEq, Nat.reduceAdd, Nat.reduceLeDiff]
      refine wp_call (c_putPair f.nl (.one w) ⟨s, n⟩ h9 zf9.sl.nl sp) ?_
      rintro q h10 ⟨g10, z10⟩
      obtain ⟨c10, rfl⟩ := z10.one
      have d10 := d9.grow g10
      have mf : miniF ⟨f.pl, putP f.nl ⟨s, n⟩⟩ := ⟨Nat.le_trans y1 (by decide), Nat.le_trans putP_short (by omega), fun a ha => by
        rcases putP_mem ha with e | rfl
        · exact Nat.le_trans (y3 a e) (by decide)
        · exact Nat.le_trans hs (by decide)⟩
      simp +contextual (maxSteps := 2000000) only [go_sem, Nat.reduceEqDiff, reduceCtorEq, Nat.reduceAdd, Nat.reduceLeDiff]
      exact fin (f := ⟨f.pl, putP f.nl ⟨s, n⟩⟩) (zl9.grow g10) (zm9.grow g10) ⟨zf9.sl.pl.grow g10, z10.sl lenP⟩ mf (d10.out g1 hb)
    · simp +contextual (maxSteps := 2000000) only [go_sem, Nat.reduceEqDiff, reduceCtorEq, Nat.reduceAdd, Nat.reduceLeDiff, decide_eq_false e7]
      exact fin zl7 zm7 zf7.sl ⟨Nat.le_trans y1 (by decide), Nat.le_trans y2 (by decide), fun a ha => Nat.le_trans (y3 a ha) (by decide)⟩ (d7.out g1 hb)
  · simp +contextual (maxSteps := 2000000) only [go_sem, Nat.reduceEqDiff, reduceCtorEq, Nat.reduceAdd, Nat.reduceLeDiff, decide_eq_false e0]
    refine wp_call (other zl5 zm5 d5 r5 (by omega) (by omega) (by omega)) ?_
    rintro q h6 ⟨u, w, f, rfl, zq, zm, zf, mf, G⟩
    simp +contextual (maxSteps := 2000000) only [go_sem, Nat.reduceEqDiff, reduceCtorEq, Nat.reduceAdd, Nat.reduceLeDiff]
    exact fin zq zm zf mf G
end Go.Proofs.Ytekkimfdcbgcoab.Am
