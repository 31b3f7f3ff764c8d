/- Contracts: shapes of flat calls, of both sides. -/
import Derived.Test.YtekkimfdcbgcoaaFS
import Derived.Test.YtekkimfdcbgcoaaSX
import Derived.Test.YtekkimfdcbgcoaaL1
namespace Go.Proofs.Ytekkimfdcbgcoaa.Am
open Go
set_option maxRecDepth 100000
set_option maxHeartbeats 4000000
set_option linter.unusedSimpArgs false
set_option linter.unusedVariables false
attribute [local go_sem ↓] bv_t bv_c ev_t ev_c put_same put_ne put_none kill_at pro_at lb_same lb_ne start_zero start_succ wpC_seq wpC_reg wpC_cond wpC_block wpC_skip wpC_exit wpC_ret thenQ_normal thenQ_exit thenQ_ret inBlk_normal inBlk_exit inBlk_ret wpS_nil wpS_step wpS_again wpS_guard wpO_mov wpO_load wpO_faddr wpO_nilCheck wpO_pick wpO_build wpO_bin wpO_eqb wpO_eqst wpO_eqnil wpO_not wpO_conv wpO_bytesStr wpO_iaddr wpO_idxStr wpO_field wpO_extract wpO_len wpO_lenStr wpO_cap wpO_min wpO_slice wpO_sliceStr wpO_alloc wpO_box wpO_store wpO_call wpO_callv wpO_mkfn wpO_buildSlice wpO_mkslice wpO_append wpO_appz proA_nil proA_cons tmpX_nil tmpX_tmp tmpX_cell doneB_normal doneB_ret agK_cons agK_nil agK_guard agG_tt agG_ff agG_tf agG_ft agG_undef pureB_load results_one results_two results_nil resBs_cons resBs_nil resB_tmp resB_cell
attribute [local go_sem] kill_v kill_lp_ne kill_lp_same pro_v pro_lp_same pro_lp_ne av_v av_lp optB_some optX_some valX_eq ldX_lp ldX_v faX_lp faX_v ncX_lp ncX_ptr ncX_fn boxK_one boxK_agg stL_some stK_lp_one stK_lp_agg stK_v_one stK_v_agg proM_v proM_lp callG_mk callVG_mk callvK_fn fnG_mk ptrsA_nil ptrsA_cons callH_some whenA_true whenA_false guardH_tt guardH_ff guardH_tf guardH_ft guardH_undef agV_one agV_agg lenO_sl lenStrO_str notO_bool pickO_bool convO_int eqbO_bool eqnilO_sl extractO_tup capO_sl minO_int loadL_one loadL_all storeL_eq fillA_nil fillA_one fillA_agg nat_ge neg_ge nat_lt neg_lt buildO bin_add bin_sub bin_mul bin_eql bin_neq bin_lss bin_leq bin_gtr bin_geq str_eql str_neq str_lss str_leq str_gtr str_geq retK_some endK_mk gcK_same gcK_int gcK_bool tupO_one tupO_agg rdy_self ib ii Option.map_none Option.map_some Option.some.injEq exists_eq_left' exists_eq_left ne_eq not_false_eq_true if_true if_false List.map_cons List.map_nil List.getElem?_cons_zero List.getElem?_cons_succ List.length_cons List.length_nil List.take_succ_cons List.take_zero List.take_nil List.drop_succ_cons List.drop_zero List.drop_nil List.cons_append List.nil_append List.append_nil List.set_cons_zero List.set_cons_succ Nat.zero_add forall_const true_and and_true and_self Bool.false_eq_true false_implies true_implies implies_true Bool.not_true Bool.not_false Bool.not_eq_true' Bool.not_eq_false' beq_self_eq_true Bool.bne_true Bool.bne_false
attribute [local go_sem] lenI lenS lenP lenQ lenB lenL lenT encI_0 encS_0 encP_0 encP_1 encQ_0 encQ_1 encQ_2 encQ_3 encB_0 encB_1 encL_0 encL_1 encT_0 encT_1
attribute [local go_sem low] whenA_bool guardH_bool
theorem NwX.nil {h0 h : H} : NwX h0 h (.int .i64 0) (.sl none 0 (some 0)) ⟨0, []⟩ := ⟨rfl, .nil⟩
theorem NwX.scalar {h0 h : H} {c p : CV} {x : Shape} (a : NwX h0 h c p x) (hs : (AV.agg [c, p]).scalar = true) (h2 : H) : NwX h0 h2 c p x := by
  simp [AV.scalar] at hs
  exact ⟨a.c, a.out.scalar (by simpa [AV.scalar] using hs.2) h2⟩
theorem miniX.of {x : Shape} (h : okShape x = true) : miniX x := by
  unfold okShape at h
  simp only [Bool.and_eq_true, decide_eq_true_iff] at h
  refine ⟨by omega, fun s hs => ?_⟩
  obtain ⟨i, hi, rfl⟩ := List.getElem_of_mem hs
  have := okNames_name h.1 hi
  unfold okName at this
  simp only [Bool.and_eq_true, decide_eq_true_iff] at this
  omega
theorem miniX.nil : miniX ⟨0, []⟩ := ⟨by simp, fun s hs => by simp at hs⟩
theorem miniX.shape {f : Flat} : miniX (shapeF f) := by
  cases b : okFlat f with
  | true => exact .of (shape_ok b)
  | false => rw [show shapeF f = ⟨0, []⟩ by unfold shapeF; rw [b]; rfl]; exact .nil
def zeroF (x : Shape) : Flat := if okShape x = true then flatS x else ⟨[], []⟩
theorem zeroF_ok {x : Shape} (h : okShape x = true) : zeroF x = flatS x := by unfold zeroF; rw [if_pos h]
theorem miniF.zero {x : Shape} : miniF (zeroF x) := by
  unfold zeroF
  split
  · exact .of (okShape_flat ‹_›)
  · exact .nil
theorem take_map {α β : Type} {f : α → β} {l : List α} {i : Nat} (hi : i < l.length) : (l.take (i + 1)).map f = (l.take i).map f ++ [f l[i]] := by
  rw [List.take_succ_eq_append_getElem hi, List.map_append]
  rfl
/-! spec.shapeOf -/
def L85_0 : List AStep := [⟨.box 27 (.t 0), (some 1), none, []⟩, ⟨.alloc 67 [(.int .i64 0), (.sl none 0 (some 0))], (some 2), none, []⟩]
theorem v85_0 : VS L85_0.eq_1 := rfl
def L85_1 : List AStep := [⟨.store 2 (.t 3) (.t 10), none, none, []⟩]
theorem v85_1 : VS L85_1.eq_1 := rfl
def L85_2 : List AStep := ⟨.build [(.int .i64 0), (.sl none 0 (some 0))] [(0, 1, (.t 8)), (1, 1, (.t 9))], (some 10), none, []⟩ :: ⟨.alloc 67 [(.int .i64 0), (.sl none 0 (some 0))], (some 3), none, []⟩ :: L85_1
theorem v85_2 : VS L85_2.eq_1 := rfl
def L85_3 : List AStep := ⟨.len (.t 7), (some 8), none, []⟩ :: ⟨.buildSlice 9 0 [(.str (strOfNums []))] [], (some 9), none, []⟩ :: L85_2
theorem v85_3 : VS L85_3.eq_1 := rfl
def L85_4 : List AStep := ⟨.faddr 0 (.t 1), (some 6), none, []⟩ :: ⟨.load 1 false (.t 6), (some 7), none, []⟩ :: L85_3
theorem v85_4 : VS L85_4.eq_1 := rfl
def L85_5 : List AStep := [⟨.call 73 [(.t 12)], (some 13), none, []⟩, ⟨.mov (.t 13), (some 4), none, []⟩]
theorem v85_5 : VS L85_5.eq_1 := rfl
def L85_6 : List AStep := ⟨.faddr 1 (.t 1), (some 11), none, []⟩ :: ⟨.load 1 false (.t 11), (some 12), none, []⟩ :: L85_5
theorem v85_6 : VS L85_6.eq_1 := rfl
def L85_7 : List AStep := [⟨.mov (.c (.int .i64 0)), (some 5), none, []⟩]
theorem v85_7 : VS L85_7.eq_1 := rfl
def L85_8 : List AStep := [⟨.len (.t 15), (some 16), none, []⟩, ⟨.bin .lss (.t 14) (.t 16), (some 17), none, []⟩]
theorem v85_8 : VS L85_8.eq_1 := rfl
def L85_9 : List AStep := ⟨.mov (.t 5), (some 14), none, []⟩ :: ⟨.mov (.t 4), (some 15), none, []⟩ :: L85_8
theorem v85_9 : VS L85_9.eq_1 := rfl
def L85_10 : List AStep := [⟨.store 1 (.t 29) (.t 28), none, none, []⟩]
theorem v85_10 : VS L85_10.eq_1 := rfl
def L85_11 : List AStep := ⟨.append 9 1 16 (.t 21) (.t 27), (some 28), none, []⟩ :: ⟨.faddr 1 (.t 3), (some 29), none, []⟩ :: L85_10
theorem v85_11 : VS L85_11.eq_1 := rfl
def L85_12 : List AStep := ⟨.load 1 false (.t 25), (some 26), none, []⟩ :: ⟨.buildSlice 9 1 [(.str (strOfNums []))] [(0, 1, (.t 26))], (some 27), none, []⟩ :: L85_11
theorem v85_12 : VS L85_12.eq_1 := rfl
def L85_13 : List AStep := ⟨.iaddr 2 (.t 22) (.t 23), (some 24), none, []⟩ :: ⟨.faddr 0 (.t 24), (some 25), none, []⟩ :: L85_12
theorem v85_13 : VS L85_13.eq_1 := rfl
def L85_14 : List AStep := ⟨.mov (.t 4), (some 22), none, []⟩ :: ⟨.mov (.t 5), (some 23), none, []⟩ :: L85_13
theorem v85_14 : VS L85_14.eq_1 := rfl
def L85_15 : List AStep := ⟨.faddr 1 (.t 3), (some 20), none, []⟩ :: ⟨.load 1 false (.t 20), (some 21), none, []⟩ :: L85_14
theorem v85_15 : VS L85_15.eq_1 := rfl
def L85_16 : List AStep := [⟨.mov (.t 19), (some 5), none, []⟩]
theorem v85_16 : VS L85_16.eq_1 := rfl
def L85_17 : List AStep := ⟨.mov (.t 5), (some 18), none, []⟩ :: ⟨.bin .add (.t 18) (.c (.int .i64 1)), (some 19), none, []⟩ :: L85_16
theorem v85_17 : VS L85_17.eq_1 := rfl
def L85_18 : List AStep := [⟨.load 2 true (.t 3), (some 30), none, []⟩, ⟨.store 2 (.t 2) (.t 30), none, none, []⟩]
theorem v85_18 : VS L85_18.eq_1 := rfl
def C85_0 : ACode := .cond (.t 17) .skip (.exit 0)
theorem u85_0 : VC C85_0.eq_1 := rfl
def C85_1 : ACode := .seq (.reg L85_9) C85_0
theorem u85_1 : VC C85_1.eq_1 := rfl
def C85_2 : ACode := .block 1 (.reg L85_15)
theorem u85_2 : VC C85_2.eq_1 := rfl
def C85_3 : ACode := .seq C85_2 (.reg L85_17)
theorem u85_3 : VC C85_3.eq_1 := rfl
def C85_4 : ACode := .seq C85_1 C85_3
theorem u85_4 : VC C85_4.eq_1 := rfl
def C85_5 : ACode := .block 0 (.loop C85_4)
theorem u85_5 : VC C85_5.eq_1 := rfl
def C85_6 : ACode := .seq (.reg L85_7) C85_5
theorem u85_6 : VC C85_6.eq_1 := rfl
def C85_7 : ACode := .seq (.reg L85_18) .ret
theorem u85_7 : VC C85_7.eq_1 := rfl
def C85_8 : ACode := .seq C85_6 C85_7
theorem u85_8 : VC C85_8.eq_1 := rfl
def C85_9 : ACode := .seq (.reg L85_6) C85_8
theorem u85_9 : VC C85_9.eq_1 := rfl
def C85_10 : ACode := .seq (.reg L85_4) C85_9
theorem u85_10 : VC C85_10.eq_1 := rfl
def C85_11 : ACode := .seq (.reg L85_0) C85_10
theorem u85_11 : VC C85_11.eq_1 := rfl
def F85 : AFunc := ⟨31, [.cell 2 2 true], C85_11⟩
theorem cF85 : compB Try.prog 85 = some F85 := by kernel_rfl
attribute [local go_sem ↓] u85_0 u85_1 u85_2 u85_3 u85_4 u85_5 u85_6 u85_7 u85_8 u85_9 u85_10 u85_11 v85_0 v85_1 v85_2 v85_3 v85_4 v85_5 v85_6 v85_7 v85_8 v85_9 v85_10 v85_11 v85_12 v85_13 v85_14 v85_15 v85_16 v85_17 v85_18
theorem c_shapeOf (f : Flat) (p n : CV) (h : H) (hf : SlF h p n f) (h8 : f.pl.length ≤ 100) (h9 : f.nl.length ≤ 100) : callK (bm Try.prog 85 [.agg [p, n]] h) fun r h' => Grow h h' ∧ ∃ c w, r = .agg [c, w] ∧ NwX h h' c w ⟨f.pl.length, (insAll f.nl f.nl.length).map Pair.name⟩ := by
  refine bm_of cF85 ?_
  simp +contextual (maxSteps := 2000000) only [go_sem, Nat.reduceEqDiff, reduceCtorEq, Nat.reduceAdd, Nat.reduceLeDiff, F85, hf.pl.len]
  refine wp_lit (enc := encS) (k := 1) (l := []) rfl rfl ?_
  intro h1 w1 g1 n1 b1
  obtain ⟨c1, rfl⟩ := n1.one
  simp +contextual (maxSteps := 2000000) only [go_sem, Nat.reduceEqDiff, reduceCtorEq, Nat.reduceAdd, Nat.reduceLeDiff]
  refine wp_call (c_sortedPairs f.nl (.one n) h1 (hf.nl.grow g1) h9) ?_
  rintro r h2 ⟨g2, n2⟩
  have g12 := g1.trans g2
  have hil := insAll_len (l := f.nl) (Nat.le_refl _)
  generalize insAll f.nl f.nl.length = m at n2 hil
  have hm := n2.sl lenP
  simp +contextual (maxSteps := 2000000) only [go_sem, Nat.reduceEqDiff, reduceCtorEq, Nat.reduceAdd, Nat.reduceLeDiff]
  refine wpC_loop (fun i T L h' => Grow h h' ∧ SlP h' r m ∧ T 2 = .lp 2 0 ∧ (L 2).2 = [.int .i64 0, .sl none 0 (some 0)] ∧ T 3 = .lp 3 0 ∧ (∃ w, (L 3).2 = [.int .i64 f.pl.length, w] ∧ NwS h h' (.one w) ((m.take i).map Pair.name) ∧ Sep r (.one w)) ∧ T 4 = .v r ∧ T 5 = .v (.one (.int .i64 i))) m.length ?_ ?_ (Nat.zero_le _) ?_
  · rintro i T L h' hi ⟨g, hl, t2, l2, t3, ⟨w, l3, y, sw⟩, t4, t5⟩
    simp +contextual (maxSteps := 2000000) only [go_sem, Nat.reduceEqDiff, reduceCtorEq, Nat.reduceAdd, Nat.reduceLeDiff, t2, l2, t3, l3, t4, t5, hl.len, hl.iaddr hi, hl.fieldO hi, lt_true hi]
    refine wp_lit (enc := encS) (k := 1) (l := [m[i].name]) rfl rfl ?_
    intro h3 w3 g3 n3 b3
    simp +contextual (maxSteps := 2000000) only [go_sem, Nat.reduceEqDiff, reduceCtorEq, Nat.reduceAdd, Nat.reduceLeDiff, t2, l2, t3, l3, t4, t5]
    refine wp_append lenS (y.grow g3) (n3.sl lenS) (g.trans g3) (by simp; omega) ?_
    intro h4 s4 g4 n4 st4 hb4
    obtain ⟨c4, rfl⟩ := n4.one
    have hl4 := (hl.grow g3).of_stay st4 sw
    have sw4 : Sep r (.one c4) := fun j hj e => by
      rcases hb4 j e with e | e
      · exact sw j hj e
      · have := (hl.grow g3).ltB hj; omega
    simp +contextual (maxSteps := 2000000) only [go_sem, Nat.reduceEqDiff, reduceCtorEq, Nat.reduceAdd, Nat.reduceLeDiff, t2, l2, t3, l3, t4, t5]
    exact ⟨g4, hl4, ⟨c4, rfl, by rw [take_map hi]; exact n4, sw4⟩, by rw [wrap_next hi (by omega)]⟩
  · rintro T L h' ⟨g, hl, t2, l2, t3, ⟨w, l3, y, sw⟩, t4, t5⟩
    rw [List.take_length] at y
    simp +contextual (maxSteps := 2000000) only [go_sem, Nat.reduceEqDiff, reduceCtorEq, Nat.reduceAdd, Nat.reduceLeDiff, t2, l2, t3, l3, t4, t5, hl.len, lt_false]
    have y2 : NwX h h' (.int .i64 f.pl.length) w ⟨f.pl.length, m.map Pair.name⟩ := ⟨rfl, y⟩
    exact gcK_of ⟨g, _, _, rfl, y2⟩ (fun hs _ => ⟨Grow.refl h, _, _, rfl, y2.scalar hs h⟩)
  · simp +contextual (maxSteps := 2000000) only [go_sem, Nat.reduceEqDiff, reduceCtorEq, Nat.reduceAdd, Nat.reduceLeDiff]
    exact ⟨g12, hm, ⟨c1, rfl, n1.grow g2, (n1.apart n2).symm⟩, rfl⟩
/-! spec.ShapeOf -/
def L35_0 : List AStep := [⟨.box 27 (.t 0), (some 1), none, []⟩, ⟨.alloc 67 [(.int .i64 0), (.sl none 0 (some 0))], (some 2), none, []⟩]
theorem v35_0 : VS L35_0.eq_1 := rfl
def L35_1 : List AStep := [⟨.not (.t 4), (some 5), none, []⟩]
theorem v35_1 : VS L35_1.eq_1 := rfl
def L35_2 : List AStep := ⟨.load 2 true (.t 1), (some 3), none, []⟩ :: ⟨.call 58 [(.t 3)], (some 4), none, []⟩ :: L35_1
theorem v35_2 : VS L35_2.eq_1 := rfl
def L35_3 : List AStep := [⟨.build [(.int .i64 0), (.sl none 0 (some 0))] [], (some 6), none, []⟩, ⟨.store 2 (.t 2) (.t 6), none, none, []⟩]
theorem v35_3 : VS L35_3.eq_1 := rfl
def L35_4 : List AStep := [⟨.store 2 (.t 2) (.t 8), none, none, []⟩]
theorem v35_4 : VS L35_4.eq_1 := rfl
def L35_5 : List AStep := ⟨.load 2 true (.t 1), (some 7), none, []⟩ :: ⟨.call 85 [(.t 7)], (some 8), none, []⟩ :: L35_4
theorem v35_5 : VS L35_5.eq_1 := rfl
def C35_0 : ACode := .seq (.reg L35_3) .ret
theorem u35_0 : VC C35_0.eq_1 := rfl
def C35_1 : ACode := .cond (.t 5) C35_0 .skip
theorem u35_1 : VC C35_1.eq_1 := rfl
def C35_2 : ACode := .seq (.reg L35_2) C35_1
theorem u35_2 : VC C35_2.eq_1 := rfl
def C35_3 : ACode := .seq (.reg L35_5) .ret
theorem u35_3 : VC C35_3.eq_1 := rfl
def C35_4 : ACode := .seq C35_2 C35_3
theorem u35_4 : VC C35_4.eq_1 := rfl
def C35_5 : ACode := .seq (.reg L35_0) C35_4
theorem u35_5 : VC C35_5.eq_1 := rfl
def F35 : AFunc := ⟨9, [.cell 2 2 true], C35_5⟩
theorem cF35 : compB Try.prog 35 = some F35 := by kernel_rfl
attribute [local go_sem ↓] u35_0 u35_1 u35_2 u35_3 u35_4 u35_5 v35_0 v35_1 v35_2 v35_3 v35_4 v35_5
theorem k_sShapeOf (f : Flat) (p n : CV) (h : H) (hf : SlF h p n f) (hm : miniF f) : callK (bm Try.prog 35 [.agg [p, n]] h) fun r h' => Grow h h' ∧ ∃ c w, r = .agg [c, w] ∧ NwX h h' c w (shapeF f) := by
  refine bm_of cF35 ?_
  cases b : okFlat f with
  | false =>
    rw [show shapeF f = ⟨0, []⟩ by unfold shapeF; rw [b]; rfl]
    simp +contextual (maxSteps := 2000000) only [go_sem, Nat.reduceEqDiff, reduceCtorEq, Nat.reduceAdd, Nat.reduceLeDiff, F35, c_validFlat _ _ _ _ hf.pl hf.nl hm.sm, b]
    exact ⟨Grow.refl h, _, _, rfl, NwX.nil⟩
  | true =>
    obtain ⟨h8, h9, _⟩ := okFlat_sm b
    simp +contextual (maxSteps := 2000000) only [go_sem, Nat.reduceEqDiff, reduceCtorEq, Nat.reduceAdd, Nat.reduceLeDiff, F35, c_validFlat _ _ _ _ hf.pl hf.nl hm.sm, b]
    refine wp_call (c_shapeOf f p n h hf (by omega) (by omega)) ?_
    rintro r h1 ⟨g1, c, w, rfl, y⟩
    rw [insAll_eq (okFlat_apart b), ← shapeF_ok b] at y
    simp +contextual (maxSteps := 2000000) only [go_sem, Nat.reduceEqDiff, reduceCtorEq, Nat.reduceAdd, Nat.reduceLeDiff]
    exact gcK_of ⟨g1, _, _, rfl, y⟩ (fun hs _ => ⟨Grow.refl h, _, _, rfl, y.scalar hs h⟩)
/-! impl.ShapeOf -/
def L33_0 : List AStep := [⟨.box 27 (.t 0), (some 1), none, []⟩, ⟨.alloc 67 [(.int .i64 0), (.sl none 0 (some 0))], (some 2), none, []⟩]
theorem v33_0 : VS L33_0.eq_1 := rfl
def L33_1 : List AStep := [⟨.not (.t 7), (some 8), none, []⟩]
theorem v33_1 : VS L33_1.eq_1 := rfl
def L33_2 : List AStep := ⟨.load 2 true (.t 1), (some 6), none, []⟩ :: ⟨.call 17 [(.t 6)], (some 7), none, []⟩ :: L33_1
theorem v33_2 : VS L33_2.eq_1 := rfl
def L33_3 : List AStep := [⟨.build [(.int .i64 0), (.sl none 0 (some 0))] [], (some 9), none, []⟩, ⟨.store 2 (.t 2) (.t 9), none, none, []⟩]
theorem v33_3 : VS L33_3.eq_1 := rfl
def L33_4 : List AStep := [⟨.mov (.c (.sl none 0 (some 0))), (some 3), none, []⟩]
theorem v33_4 : VS L33_4.eq_1 := rfl
def L33_5 : List AStep := [⟨.mov (.c (.int .i64 0)), (some 14), none, []⟩]
theorem v33_5 : VS L33_5.eq_1 := rfl
def L33_6 : List AStep := ⟨.call 72 [(.t 11)], (some 12), none, []⟩ :: ⟨.len (.t 12), (some 13), none, []⟩ :: L33_5
theorem v33_6 : VS L33_6.eq_1 := rfl
def L33_7 : List AStep := ⟨.faddr 1 (.t 1), (some 10), none, []⟩ :: ⟨.load 1 false (.t 10), (some 11), none, []⟩ :: L33_6
theorem v33_7 : VS L33_7.eq_1 := rfl
def L33_8 : List AStep := [⟨.bin .lss (.t 14) (.t 13), (some 15), none, []⟩]
theorem v33_8 : VS L33_8.eq_1 := rfl
def L33_9 : List AStep := [⟨.alloc 53 [(.str (strOfNums [])), (.int .i64 0)], (some 5), none, []⟩, ⟨.store 2 (.t 5) (.t 17), none, none, []⟩]
theorem v33_9 : VS L33_9.eq_1 := rfl
def L33_10 : List AStep := ⟨.iaddr 2 (.t 12) (.t 14), (some 16), none, []⟩ :: ⟨.load 2 true (.t 16), (some 17), none, []⟩ :: L33_9
theorem v33_10 : VS L33_10.eq_1 := rfl
def L33_11 : List AStep := [⟨.append 9 1 16 (.t 18) (.t 21), (some 22), none, []⟩, ⟨.mov (.t 22), (some 3), none, []⟩]
theorem v33_11 : VS L33_11.eq_1 := rfl
def L33_12 : List AStep := ⟨.load 1 false (.t 19), (some 20), none, []⟩ :: ⟨.buildSlice 9 1 [(.str (strOfNums []))] [(0, 1, (.t 20))], (some 21), none, []⟩ :: L33_11
theorem v33_12 : VS L33_12.eq_1 := rfl
def L33_13 : List AStep := ⟨.mov (.t 3), (some 18), none, []⟩ :: ⟨.faddr 0 (.t 5), (some 19), none, []⟩ :: L33_12
theorem v33_13 : VS L33_13.eq_1 := rfl
def L33_14 : List AStep := [⟨.bin .add (.t 14) (.c (.int .i64 1)), (some 23), none, []⟩, ⟨.mov (.t 23), (some 14), none, []⟩]
theorem v33_14 : VS L33_14.eq_1 := rfl
def L33_15 : List AStep := [⟨.store 2 (.t 2) (.t 29), none, none, []⟩]
theorem v33_15 : VS L33_15.eq_1 := rfl
def L33_16 : List AStep := ⟨.call 83 [(.t 27)], (some 28), none, [(.load 1 false (.t 24), (some 25), none)]⟩ :: ⟨.build [(.int .i64 0), (.sl none 0 (some 0))] [(0, 1, (.t 26)), (1, 1, (.t 28))], (some 29), none, []⟩ :: L33_15
theorem v33_16 : VS L33_16.eq_1 := rfl
def L33_17 : List AStep := ⟨.len (.t 25), (some 26), none, []⟩ :: ⟨.mov (.t 3), (some 27), none, []⟩ :: L33_16
theorem v33_17 : VS L33_17.eq_1 := rfl
def L33_18 : List AStep := ⟨.faddr 0 (.t 1), (some 24), none, []⟩ :: ⟨.load 1 false (.t 24), (some 25), none, []⟩ :: L33_17
theorem v33_18 : VS L33_18.eq_1 := rfl
def C33_0 : ACode := .seq (.reg L33_3) .ret
theorem u33_0 : VC C33_0.eq_1 := rfl
def C33_1 : ACode := .cond (.t 8) C33_0 .skip
theorem u33_1 : VC C33_1.eq_1 := rfl
def C33_2 : ACode := .seq (.reg L33_2) C33_1
theorem u33_2 : VC C33_2.eq_1 := rfl
def C33_3 : ACode := .cond (.t 15) .skip (.exit 0)
theorem u33_3 : VC C33_3.eq_1 := rfl
def C33_4 : ACode := .seq (.reg L33_10) (.reg L33_13)
theorem u33_4 : VC C33_4.eq_1 := rfl
def C33_5 : ACode := .block 1 C33_4
theorem u33_5 : VC C33_5.eq_1 := rfl
def C33_6 : ACode := .seq C33_5 (.reg L33_14)
theorem u33_6 : VC C33_6.eq_1 := rfl
def C33_7 : ACode := .seq C33_3 C33_6
theorem u33_7 : VC C33_7.eq_1 := rfl
def C33_8 : ACode := .seq (.reg L33_8) C33_7
theorem u33_8 : VC C33_8.eq_1 := rfl
def C33_9 : ACode := .block 0 (.loop C33_8)
theorem u33_9 : VC C33_9.eq_1 := rfl
def C33_10 : ACode := .seq (.reg L33_7) C33_9
theorem u33_10 : VC C33_10.eq_1 := rfl
def C33_11 : ACode := .seq (.reg L33_18) .ret
theorem u33_11 : VC C33_11.eq_1 := rfl
def C33_12 : ACode := .seq C33_10 C33_11
theorem u33_12 : VC C33_12.eq_1 := rfl
def C33_13 : ACode := .seq (.reg L33_4) C33_12
theorem u33_13 : VC C33_13.eq_1 := rfl
def C33_14 : ACode := .seq C33_2 C33_13
theorem u33_14 : VC C33_14.eq_1 := rfl
def C33_15 : ACode := .seq (.reg L33_0) C33_14
theorem u33_15 : VC C33_15.eq_1 := rfl
def F33 : AFunc := ⟨30, [.cell 2 2 true], C33_15⟩
theorem cF33 : compB Try.prog 33 = some F33 := by kernel_rfl
attribute [local go_sem ↓] u33_0 u33_1 u33_2 u33_3 u33_4 u33_5 u33_6 u33_7 u33_8 u33_9 u33_10 u33_11 u33_12 u33_13 u33_14 u33_15 v33_0 v33_1 v33_2 v33_3 v33_4 v33_5 v33_6 v33_7 v33_8 v33_9 v33_10 v33_11 v33_12 v33_13 v33_14 v33_15 v33_16 v33_17 v33_18
theorem k_iShapeOf (f : Flat) (p n : CV) (h : H) (hf : SlF h p n f) (hm : miniF f) : callK (bm Try.prog 33 [.agg [p, n]] h) fun r h' => Grow h h' ∧ ∃ c w, r = .agg [c, w] ∧ NwX h h' c w (shapeF f) := by
  refine bm_of cF33 ?_
  cases b : okFlat f with
  | false =>
    rw [show shapeF f = ⟨0, []⟩ by unfold shapeF; rw [b]; rfl]
    simp +contextual (maxSteps := 2000000) only [go_sem, Nat.reduceEqDiff, reduceCtorEq, Nat.reduceAdd, Nat.reduceLeDiff, F33, c_ValidFlat _ _ _ _ hf.pl hf.nl hm.sm, b]
    exact ⟨Grow.refl h, _, _, rfl, NwX.nil⟩
  | true =>
    obtain ⟨h8, h9, _⟩ := okFlat_sm b
    simp +contextual (maxSteps := 2000000) only [go_sem, Nat.reduceEqDiff, reduceCtorEq, Nat.reduceAdd, Nat.reduceLeDiff, F33, c_ValidFlat _ _ _ _ hf.pl hf.nl hm.sm, b]
    refine wp_call (k_byName f.nl (.one n) h hf.nl (by omega)) ?_
    rintro r h2 ⟨g2, n2⟩
    have hil := isort_len (lt := ltP) (l := f.nl)
    rw [shapeF_ok b]
    generalize isort ltP f.nl = m at n2 hil
    have hm := n2.sl lenP
    simp +contextual (maxSteps := 2000000) only [go_sem, Nat.reduceEqDiff, reduceCtorEq, Nat.reduceAdd, Nat.reduceLeDiff, hm.len]
    refine wpC_loop (fun i T L h' => Grow h h' ∧ SlP h' r m ∧ T 1 = .lp 1 0 ∧ (L 1).2 = [p, n] ∧ T 2 = .lp 2 0 ∧ (L 2).2 = [.int .i64 0, .sl none 0 (some 0)] ∧ (∃ w, T 3 = .v (.one w) ∧ NwS h h' (.one w) ((m.take i).map Pair.name) ∧ Sep r (.one w)) ∧ T 12 = .v r ∧ T 13 = .v (.one (.int .i64 m.length)) ∧ T 14 = .v (.one (.int .i64 i))) m.length ?_ ?_ (Nat.zero_le _) ?_
    · rintro i T L h' hi ⟨g, hl, t1, l1, t2, l2, ⟨w, t3, y, sw⟩, t12, t13, t14⟩
      simp +contextual (maxSteps := 2000000) only [go_sem, Nat.reduceEqDiff, reduceCtorEq, Nat.reduceAdd, Nat.reduceLeDiff, t1, l1, t2, l2, t3, t12, t13, t14, hl.iaddr hi, hl.whole hi, lt_true hi, encP]
      refine wp_lit (enc := encS) (k := 1) (l := [m[i].name]) rfl rfl ?_
      intro h3 w3 g3 n3 b3
      simp +contextual (maxSteps := 2000000) only [go_sem, Nat.reduceEqDiff, reduceCtorEq, Nat.reduceAdd, Nat.reduceLeDiff, t1, l1, t2, l2, t3, t12, t13, t14]
      refine wp_append lenS (y.grow g3) (n3.sl lenS) (g.trans g3) (by simp; omega) ?_
      intro h4 s4 g4 n4 st4 hb4
      obtain ⟨c4, rfl⟩ := n4.one
      have hl4 := (hl.grow g3).of_stay st4 sw
      have sw4 : Sep r (.one c4) := fun j hj e => by
        rcases hb4 j e with e | e
        · exact sw j hj e
        · have := (hl.grow g3).ltB hj; omega
      simp +contextual (maxSteps := 2000000) only [go_sem, Nat.reduceEqDiff, reduceCtorEq, Nat.reduceAdd, Nat.reduceLeDiff, t1, l1, t2, l2, t3, t12, t13, t14]
      exact ⟨g4, hl4, ⟨c4, rfl, by rw [take_map hi]; exact n4, sw4⟩, by rw [wrap_next hi (by omega)]⟩
    · rintro T L h' ⟨g, hl, t1, l1, t2, l2, ⟨w, t3, y, sw⟩, t12, t13, t14⟩
      rw [List.take_length] at y
      simp +contextual (maxSteps := 2000000) only [go_sem, Nat.reduceEqDiff, reduceCtorEq, Nat.reduceAdd, Nat.reduceLeDiff, t1, l1, t2, l2, t3, t12, t13, t14, lt_false, (hf.grow g).pl.len]
      refine wp_call (c_clipS _ _ h' y) ?_
      rintro q h5 ⟨rfl, y5⟩
      obtain ⟨c5, rfl⟩ := y5.one
      simp +contextual (maxSteps := 2000000) only [go_sem, Nat.reduceEqDiff, reduceCtorEq, Nat.reduceAdd, Nat.reduceLeDiff, t1, l1, t2, l2]
      have y2 : NwX h h5 (.int .i64 f.pl.length) c5 ⟨f.pl.length, m.map Pair.name⟩ := ⟨rfl, y5⟩
      exact gcK_of ⟨g, _, _, rfl, y2⟩ (fun hs _ => ⟨Grow.refl h, _, _, rfl, y2.scalar hs h⟩)
    · simp +contextual (maxSteps := 2000000) only [go_sem, Nat.reduceEqDiff, reduceCtorEq, Nat.reduceAdd, Nat.reduceLeDiff]
      exact ⟨g2, hm, ⟨_, rfl, .nil, Sep.nil.symm⟩, rfl⟩
/-! spec.FlatOf -/
def L39_0 : List AStep := [⟨.box 67 (.t 0), (some 1), none, []⟩, ⟨.alloc 27 [(.sl none 0 (some 0)), (.sl none 0 (some 0))], (some 2), none, []⟩]
theorem v39_0 : VS L39_0.eq_1 := rfl
def L39_1 : List AStep := [⟨.not (.t 4), (some 5), none, []⟩]
theorem v39_1 : VS L39_1.eq_1 := rfl
def L39_2 : List AStep := ⟨.load 2 true (.t 1), (some 3), none, []⟩ :: ⟨.call 88 [(.t 3)], (some 4), none, []⟩ :: L39_1
theorem v39_2 : VS L39_2.eq_1 := rfl
def L39_3 : List AStep := [⟨.build [(.sl none 0 (some 0)), (.sl none 0 (some 0))] [], (some 6), none, []⟩, ⟨.store 2 (.t 2) (.t 6), none, none, []⟩]
theorem v39_3 : VS L39_3.eq_1 := rfl
def L39_4 : List AStep := [⟨.store 2 (.t 2) (.t 8), none, none, []⟩]
theorem v39_4 : VS L39_4.eq_1 := rfl
def L39_5 : List AStep := ⟨.load 2 true (.t 1), (some 7), none, []⟩ :: ⟨.call 89 [(.t 7)], (some 8), none, []⟩ :: L39_4
theorem v39_5 : VS L39_5.eq_1 := rfl
def C39_0 : ACode := .seq (.reg L39_3) .ret
theorem u39_0 : VC C39_0.eq_1 := rfl
def C39_1 : ACode := .cond (.t 5) C39_0 .skip
theorem u39_1 : VC C39_1.eq_1 := rfl
def C39_2 : ACode := .seq (.reg L39_2) C39_1
theorem u39_2 : VC C39_2.eq_1 := rfl
def C39_3 : ACode := .seq (.reg L39_5) .ret
theorem u39_3 : VC C39_3.eq_1 := rfl
def C39_4 : ACode := .seq C39_2 C39_3
theorem u39_4 : VC C39_4.eq_1 := rfl
def C39_5 : ACode := .seq (.reg L39_0) C39_4
theorem u39_5 : VC C39_5.eq_1 := rfl
def F39 : AFunc := ⟨9, [.cell 2 2 true], C39_5⟩
theorem cF39 : compB Try.prog 39 = some F39 := by kernel_rfl
attribute [local go_sem ↓] u39_0 u39_1 u39_2 u39_3 u39_4 u39_5 v39_0 v39_1 v39_2 v39_3 v39_4 v39_5
theorem k_sFlatOf (x : Shape) (c p : CV) (h : H) (a : SlX h c p x) (m : miniX x) : callK (bm Try.prog 39 [.agg [c, p]] h) fun r h' => Grow h h' ∧ ∃ p' n', r = .agg [p', n'] ∧ NwF h h' p' n' (zeroF x) := by
  refine bm_of cF39 ?_
  cases b : okShape x with
  | false =>
    rw [show zeroF x = ⟨[], []⟩ by unfold zeroF; rw [b]; rfl]
    simp +contextual (maxSteps := 2000000) only [go_sem, Nat.reduceEqDiff, reduceCtorEq, Nat.reduceAdd, Nat.reduceLeDiff, F39, c_validShape _ _ _ _ a m, b]
    exact ⟨Grow.refl h, _, _, rfl, NwF.nil⟩
  | true =>
    rw [zeroF_ok b]
    simp +contextual (maxSteps := 2000000) only [go_sem, Nat.reduceEqDiff, reduceCtorEq, Nat.reduceAdd, Nat.reduceLeDiff, F39, c_validShape _ _ _ _ a m, b]
    refine wp_call (c_flatOf x c p h a b) ?_
    rintro r h1 ⟨g1, p', n', rfl, y⟩
    simp +contextual (maxSteps := 2000000) only [go_sem, Nat.reduceEqDiff, reduceCtorEq, Nat.reduceAdd, Nat.reduceLeDiff]
    exact gcK_of ⟨g1, _, _, rfl, y⟩ (fun hs _ => ⟨Grow.refl h, _, _, rfl, y.scalar hs h⟩)
theorem k_iFlatOf (x : Shape) (c p : CV) (h : H) (a : SlX h c p x) (m : miniX x) : callK (bm Try.prog 38 [.agg [c, p]] h) fun r h' => Grow h h' ∧ ∃ p' n', r = .agg [p', n'] ∧ NwF h h' p' n' (zeroF x) := by
  cases b : okShape x with
  | true => rw [zeroF_ok b]; exact c_FlatOf x c p h a m b
  | false =>
    rw [show zeroF x = ⟨[], []⟩ by unfold zeroF; rw [b]; rfl]
    exact c_FlatOfNo x c p h a m b
/-! spec.ValidShape -/
def L41_0 : List AStep := [⟨.box 67 (.t 0), (some 1), none, []⟩, ⟨.mov (.c (.bool false)), (some 2), none, []⟩]
theorem v41_0 : VS L41_0.eq_1 := rfl
def L41_1 : List AStep := [⟨.mov (.t 4), (some 2), none, []⟩]
theorem v41_1 : VS L41_1.eq_1 := rfl
def L41_2 : List AStep := ⟨.load 2 true (.t 1), (some 3), none, []⟩ :: ⟨.call 88 [(.t 3)], (some 4), none, []⟩ :: L41_1
theorem v41_2 : VS L41_2.eq_1 := rfl
def C41_0 : ACode := .seq (.reg L41_2) .ret
theorem u41_0 : VC C41_0.eq_1 := rfl
def C41_1 : ACode := .seq (.reg L41_0) C41_0
theorem u41_1 : VC C41_1.eq_1 := rfl
def F41 : AFunc := ⟨5, [.tmp 2], C41_1⟩
theorem cF41 : compB Try.prog 41 = some F41 := by kernel_rfl
attribute [local go_sem ↓] u41_0 u41_1 v41_0 v41_1 v41_2
theorem k_sValidShape (x : Shape) (c p : CV) (h : H) (a : SlX h c p x) (m : miniX x) : bm Try.prog 41 [.agg [c, p]] h = some (ib (okShape x), h) := by
  refine bm_eq cF41 ?_
  simp +contextual (maxSteps := 2000000) only [go_sem, Nat.reduceEqDiff, reduceCtorEq, Nat.reduceAdd, Nat.reduceLeDiff, F41, c_validShape _ _ _ _ a m]
end Go.Proofs.Ytekkimfdcbgcoaa.Am
