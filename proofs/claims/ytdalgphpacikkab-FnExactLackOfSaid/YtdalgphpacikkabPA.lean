/- Contracts: what is free in a partial call, and what a wrapper passes on, of both sides. -/
import Derived.Test.YtdalgphpacikkabBL
import Derived.Test.YtdalgphpacikkabHS
namespace Go.Proofs.Ytdalgphpacikkab.Am
open Go
set_option maxRecDepth 100000
set_option maxHeartbeats 4000000
set_option linter.unusedSimpArgs false
set_option linter.unusedVariables false
attribute [local go_sem ↓] bv_t bv_c ev_t ev_c put_same put_ne put_none kill_at pro_at lb_same lb_ne start_zero start_succ wpC_seq wpC_reg wpC_cond wpC_block wpC_skip wpC_exit wpC_ret thenQ_normal thenQ_exit thenQ_ret inBlk_normal inBlk_exit inBlk_ret wpS_nil wpS_step wpS_again wpS_guard wpO_mov wpO_load wpO_faddr wpO_nilCheck wpO_pick wpO_build wpO_bin wpO_eqb wpO_eqst wpO_eqnil wpO_not wpO_conv wpO_bytesStr wpO_iaddr wpO_idxStr wpO_field wpO_extract wpO_len wpO_lenStr wpO_cap wpO_min wpO_slice wpO_sliceStr wpO_alloc wpO_box wpO_store wpO_call wpO_callv wpO_mkfn wpO_buildSlice wpO_mkslice wpO_append wpO_appz proA_nil proA_cons tmpX_nil tmpX_tmp tmpX_cell doneB_normal doneB_ret agK_cons agK_nil agK_guard agG_tt agG_ff agG_tf agG_ft agG_undef pureB_load results_one results_two results_nil resBs_cons resBs_nil resB_tmp resB_cell
attribute [local go_sem] kill_v kill_lp_ne kill_lp_same pro_v pro_lp_same pro_lp_ne av_v av_lp optB_some optX_some valX_eq ldX_lp ldX_v faX_lp faX_v ncX_lp ncX_ptr ncX_fn boxK_one boxK_agg stL_some stK_lp_one stK_lp_agg stK_v_one stK_v_agg proM_v proM_lp callG_mk callVG_mk callvK_fn fnG_mk ptrsA_nil ptrsA_cons callH_some whenA_true whenA_false guardH_tt guardH_ff guardH_tf guardH_ft guardH_undef agV_one agV_agg lenO_sl lenStrO_str notO_bool pickO_bool convO_int eqbO_bool eqnilO_sl extractO_tup capO_sl minO_int loadL_one loadL_all storeL_eq fillA_nil fillA_one fillA_agg nat_ge neg_ge nat_lt neg_lt buildO bin_add bin_sub bin_mul bin_eql bin_neq bin_lss bin_leq bin_gtr bin_geq str_eql str_neq str_lss str_leq str_gtr str_geq retK_some endK_mk gcK_same gcK_int gcK_bool tupO_one tupO_agg rdy_self ib ii Option.map_none Option.map_some Option.some.injEq exists_eq_left' exists_eq_left ne_eq not_false_eq_true if_true if_false List.map_cons List.map_nil List.getElem?_cons_zero List.getElem?_cons_succ List.length_cons List.length_nil List.take_succ_cons List.take_zero List.take_nil List.drop_succ_cons List.drop_zero List.drop_nil List.cons_append List.nil_append List.append_nil List.set_cons_zero List.set_cons_succ Nat.zero_add forall_const true_and and_true and_self Bool.false_eq_true false_implies true_implies implies_true Bool.not_true Bool.not_false Bool.not_eq_true' Bool.not_eq_false' beq_self_eq_true Bool.bne_true Bool.bne_false
attribute [local go_sem] lenI lenS lenP lenQ lenB lenL lenT encI_0 encS_0 encP_0 encP_1 encQ_0 encQ_1 encQ_2 encQ_3 encB_0 encB_1 encL_0 encL_1 encT_0 encT_1
attribute [local go_sem low] whenA_bool guardH_bool
attribute [local go_sem] lenY encY_0 encY_1 encY_2 loadL_agg
/-! spec.FreeParams -/
def L10_0 : List AStep := [⟨.box 41 (.t 0), (some 1), none, []⟩, ⟨.mov (.c (.sl none 0 (some 0))), (some 2), none, []⟩]
theorem v10_0 : VS L10_0.eq_1 := rfl
def L10_1 : List AStep := [⟨.not (.t 8), (some 9), none, []⟩]
theorem v10_1 : VS L10_1.eq_1 := rfl
def L10_2 : List AStep := ⟨.load 3 true (.t 1), (some 7), none, []⟩ :: ⟨.call 44 [(.t 7)], (some 8), none, []⟩ :: L10_1
theorem v10_2 : VS L10_2.eq_1 := rfl
def L10_3 : List AStep := [⟨.mov (.c (.sl none 0 (some 0))), (some 2), none, []⟩]
theorem v10_3 : VS L10_3.eq_1 := rfl
def L10_4 : List AStep := [⟨.buildSlice 9 0 [(.str (strOfNums []))] [], (some 10), none, []⟩, ⟨.mov (.t 10), (some 3), none, []⟩]
theorem v10_4 : VS L10_4.eq_1 := rfl
def L10_5 : List AStep := [⟨.mov (.t 18), (some 5), none, []⟩]
theorem v10_5 : VS L10_5.eq_1 := rfl
def L10_6 : List AStep := ⟨.alloc 75 [(.sl none 0 (some 0))], (some 4), none, []⟩ :: ⟨.store 1 (.t 4) (.t 17), none, none, []⟩ :: L10_5
theorem v10_6 : VS L10_6.eq_1 := rfl
def L10_7 : List AStep := ⟨.extract (.t 11) 0, (some 17), none, []⟩ :: ⟨.extract (.t 11) 1, (some 18), none, []⟩ :: L10_6
theorem v10_7 : VS L10_7.eq_1 := rfl
def L10_8 : List AStep := ⟨.call 45 [(.t 13), (.t 15)], (some 16), none, []⟩ :: ⟨.mov (.t 16), (some 11), none, []⟩ :: L10_7
theorem v10_8 : VS L10_8.eq_1 := rfl
def L10_9 : List AStep := ⟨.faddr 1 (.t 1), (some 14), none, []⟩ :: ⟨.load 2 true (.t 14), (some 15), none, []⟩ :: L10_8
theorem v10_9 : VS L10_9.eq_1 := rfl
def L10_10 : List AStep := ⟨.faddr 0 (.t 1), (some 12), none, []⟩ :: ⟨.load 1 true (.t 12), (some 13), none, []⟩ :: L10_9
theorem v10_10 : VS L10_10.eq_1 := rfl
def L10_11 : List AStep := [⟨.mov (.c (.int .i64 0)), (some 6), none, []⟩]
theorem v10_11 : VS L10_11.eq_1 := rfl
def L10_12 : List AStep := [⟨.bin .lss (.t 19) (.t 22), (some 23), none, []⟩]
theorem v10_12 : VS L10_12.eq_1 := rfl
def L10_13 : List AStep := ⟨.load 1 false (.t 20), (some 21), none, []⟩ :: ⟨.len (.t 21), (some 22), none, []⟩ :: L10_12
theorem v10_13 : VS L10_13.eq_1 := rfl
def L10_14 : List AStep := ⟨.mov (.t 6), (some 19), none, []⟩ :: ⟨.faddr 0 (.t 4), (some 20), none, []⟩ :: L10_13
theorem v10_14 : VS L10_14.eq_1 := rfl
def L10_15 : List AStep := [⟨.not (.t 39), (some 40), (some (33, true)), []⟩, ⟨.pick (.t 33) (.t 40) (.c (.bool false)), (some 41), none, []⟩]
theorem v10_15 : VS L10_15.eq_1 := rfl
def L10_16 : List AStep := ⟨.faddr 0 (.t 37), (some 38), (some (33, true)), []⟩ :: ⟨.load 1 false (.t 38), (some 39), (some (33, true)), []⟩ :: L10_15
theorem v10_16 : VS L10_16.eq_1 := rfl
def L10_17 : List AStep := ⟨.mov (.t 6), (some 36), (some (33, true)), []⟩ :: ⟨.iaddr 3 (.t 35) (.t 36), (some 37), (some (33, true)), []⟩ :: L10_16
theorem v10_17 : VS L10_17.eq_1 := rfl
def L10_18 : List AStep := ⟨.faddr 0 (.t 4), (some 34), (some (33, true)), []⟩ :: ⟨.load 1 false (.t 34), (some 35), (some (33, true)), []⟩ :: L10_17
theorem v10_18 : VS L10_18.eq_1 := rfl
def L10_19 : List AStep := ⟨.call 46 [(.t 31)], (some 32), none, []⟩ :: ⟨.mov (.t 32), (some 33), none, []⟩ :: L10_18
theorem v10_19 : VS L10_19.eq_1 := rfl
def L10_20 : List AStep := ⟨.iaddr 4 (.t 28) (.t 29), (some 30), none, []⟩ :: ⟨.load 4 true (.t 30), (some 31), none, []⟩ :: L10_19
theorem v10_20 : VS L10_20.eq_1 := rfl
def L10_21 : List AStep := ⟨.load 1 false (.t 27), (some 28), none, []⟩ :: ⟨.mov (.t 6), (some 29), none, []⟩ :: L10_20
theorem v10_21 : VS L10_21.eq_1 := rfl
def L10_22 : List AStep := ⟨.faddr 0 (.t 1), (some 26), none, []⟩ :: ⟨.faddr 0 (.t 26), (some 27), none, []⟩ :: L10_21
theorem v10_22 : VS L10_22.eq_1 := rfl
def L10_23 : List AStep := [⟨.mov (.t 51), (some 3), none, []⟩]
theorem v10_23 : VS L10_23.eq_1 := rfl
def L10_24 : List AStep := ⟨.buildSlice 9 1 [(.str (strOfNums []))] [(0, 1, (.t 49))], (some 50), none, []⟩ :: ⟨.append 9 1 16 (.t 42) (.t 50), (some 51), none, []⟩ :: L10_23
theorem v10_24 : VS L10_24.eq_1 := rfl
def L10_25 : List AStep := ⟨.faddr 0 (.t 47), (some 48), none, []⟩ :: ⟨.load 1 false (.t 48), (some 49), none, []⟩ :: L10_24
theorem v10_25 : VS L10_25.eq_1 := rfl
def L10_26 : List AStep := ⟨.mov (.t 6), (some 46), none, []⟩ :: ⟨.iaddr 4 (.t 45) (.t 46), (some 47), none, []⟩ :: L10_25
theorem v10_26 : VS L10_26.eq_1 := rfl
def L10_27 : List AStep := ⟨.faddr 0 (.t 43), (some 44), none, []⟩ :: ⟨.load 1 false (.t 44), (some 45), none, []⟩ :: L10_26
theorem v10_27 : VS L10_27.eq_1 := rfl
def L10_28 : List AStep := ⟨.mov (.t 3), (some 42), none, []⟩ :: ⟨.faddr 0 (.t 1), (some 43), none, []⟩ :: L10_27
theorem v10_28 : VS L10_28.eq_1 := rfl
def L10_29 : List AStep := [⟨.mov (.t 25), (some 6), none, []⟩]
theorem v10_29 : VS L10_29.eq_1 := rfl
def L10_30 : List AStep := ⟨.mov (.t 6), (some 24), none, []⟩ :: ⟨.bin .add (.t 24) (.c (.int .i64 1)), (some 25), none, []⟩ :: L10_29
theorem v10_30 : VS L10_30.eq_1 := rfl
def L10_31 : List AStep := [⟨.mov (.t 3), (some 52), none, []⟩, ⟨.mov (.t 52), (some 2), none, []⟩]
theorem v10_31 : VS L10_31.eq_1 := rfl
def C10_0 : ACode := .seq (.reg L10_3) .ret
theorem u10_0 : VC C10_0.eq_1 := rfl
def C10_1 : ACode := .cond (.t 9) C10_0 .skip
theorem u10_1 : VC C10_1.eq_1 := rfl
def C10_2 : ACode := .seq (.reg L10_2) C10_1
theorem u10_2 : VC C10_2.eq_1 := rfl
def C10_3 : ACode := .cond (.t 23) .skip (.exit 0)
theorem u10_3 : VC C10_3.eq_1 := rfl
def C10_4 : ACode := .seq (.reg L10_14) C10_3
theorem u10_4 : VC C10_4.eq_1 := rfl
def C10_5 : ACode := .cond (.t 41) (.reg L10_28) .skip
theorem u10_5 : VC C10_5.eq_1 := rfl
def C10_6 : ACode := .seq (.reg L10_22) C10_5
theorem u10_6 : VC C10_6.eq_1 := rfl
def C10_7 : ACode := .block 1 C10_6
theorem u10_7 : VC C10_7.eq_1 := rfl
def C10_8 : ACode := .seq C10_7 (.reg L10_30)
theorem u10_8 : VC C10_8.eq_1 := rfl
def C10_9 : ACode := .seq C10_4 C10_8
theorem u10_9 : VC C10_9.eq_1 := rfl
def C10_10 : ACode := .block 0 (.loop C10_9)
theorem u10_10 : VC C10_10.eq_1 := rfl
def C10_11 : ACode := .seq (.reg L10_11) C10_10
theorem u10_11 : VC C10_11.eq_1 := rfl
def C10_12 : ACode := .seq (.reg L10_31) .ret
theorem u10_12 : VC C10_12.eq_1 := rfl
def C10_13 : ACode := .seq C10_11 C10_12
theorem u10_13 : VC C10_13.eq_1 := rfl
def C10_14 : ACode := .seq (.reg L10_10) C10_13
theorem u10_14 : VC C10_14.eq_1 := rfl
def C10_15 : ACode := .seq (.reg L10_4) C10_14
theorem u10_15 : VC C10_15.eq_1 := rfl
def C10_16 : ACode := .seq C10_2 C10_15
theorem u10_16 : VC C10_16.eq_1 := rfl
def C10_17 : ACode := .seq (.reg L10_0) C10_16
theorem u10_17 : VC C10_17.eq_1 := rfl
def F10 : AFunc := ⟨53, [.tmp 2], C10_17⟩
theorem cF10 : compB Try.prog 10 = some F10 := by kernel_rfl
attribute [local go_sem ↓] u10_0 u10_1 u10_2 u10_3 u10_4 u10_5 u10_6 u10_7 u10_8 u10_9 u10_10 u10_11 u10_12 u10_13 u10_14 u10_15 u10_16 u10_17 v10_0 v10_1 v10_2 v10_3 v10_4 v10_5 v10_6 v10_7 v10_8 v10_9 v10_10 v10_11 v10_12 v10_13 v10_14 v10_15 v10_16 v10_17 v10_18 v10_19 v10_20 v10_21 v10_22 v10_23 v10_24 v10_25 v10_26 v10_27 v10_28 v10_29 v10_30 v10_31
theorem k_sFreeParams (x : Part) (q p n : CV) (h : H) (a : SlD h q p n x) (m : miniD x) : callK (bm Try.prog 10 [.agg [q, p, n]] h) fun r h' => Grow h h' ∧ ∃ w, r = .one w ∧ NwZ h h' w (freeAll x.sig x.flat) := by
  refine bm_of cF10 ?_
  have vp := c_validPartial x.sig x.flat q p n h a.g a.f m.g m.f
  unfold freeAll freeF
  cases b1 : partOk x.sig x.flat with
  | false =>
    rw [b1] at vp
    simp +contextual (maxSteps := 2000000) only [go_sem, Nat.reduceEqDiff, reduceCtorEq, Nat.reduceAdd, Nat.reduceLeDiff, F10, vp, if_false]
    exact ⟨Grow.refl h, _, rfl, ⟨.nil⟩⟩
  | true =>
  rw [b1] at vp
  obtain ⟨ok1, ok2⟩ := part_fits b1
  have hn := okSig_len ok1
  simp +contextual (maxSteps := 2000000) only [go_sem, Nat.reduceEqDiff, reduceCtorEq, Nat.reduceAdd, Nat.reduceLeDiff, F10, vp, if_true]
  refine wp_lit (enc := encS) (k := 1) (l := []) rfl rfl ?_
  intro h1 w g1 n1 _
  obtain ⟨w, rfl⟩ := n1.one
  simp +contextual (maxSteps := 2000000) only [go_sem, Nat.reduceEqDiff, reduceCtorEq, Nat.reduceAdd, Nat.reduceLeDiff]
  refine wp_call (c_bound x.sig x.flat q p n h1 (a.g.out.grow g1) (a.f.grow g1) ok1 ok2) ?_
  rintro r h2 ⟨g2, v, w2, rs, rfl, y0⟩
  simp +contextual (maxSteps := 2000000) only [go_sem, Nat.reduceEqDiff, reduceCtorEq, Nat.reduceAdd, Nat.reduceLeDiff]
  refine wpC_loop (fun i T L h' => Grow h h' ∧ h2.n ≤ h'.n ∧ NwY h1 h' v rs (boundS x.sig x.flat) ∧ T 1 = .lp 1 0 ∧ (L 1).2 = [q, p, n] ∧ T 4 = .lp 4 0 ∧ (L 4).2 = [v] ∧ (∃ w, T 3 = .v (.one w) ∧ NwS h h' (.one w) (pickF (isFree (fun _ => true) x.sig (boundS x.sig x.flat)) (nameAt x.sig) i) ∧ ∀ j, baseOf (.one w) = some j → j < h1.n ∨ h2.n ≤ j) ∧ T 6 = .v (.one (.int .i64 i))) x.sig.length ?_ ?_ (Nat.zero_le _) ?_
  · rintro i T L h' hi ⟨gh, gn, yy, t1, l1, t4, l4, ⟨w, t3, z, zb⟩, t6⟩
    have k := a.g.out.grow gh
    have y := yy.out.rd
    have hsl : i < (boundS x.sig x.flat).length := by rw [boundS_len]; exact hi
    have hrs : i < rs.length := by rw [y.len]; exact hsl
    have ye := y.el i hrs
    rw [getY_eq hsl] at ye
    have yl : lenO (.one v) = some (ii x.sig.length) := by rw [y.out.len, y.len, boundS_len]
    have yi : iaddrO 3 (.one v) (.one (.int .i64 i)) = some (.one (.ptr (some (elem 3 (.one v) i)))) := y.out.iaddr hrs
    have yg := y.out.fieldO (off := 0) hrs (by omega)
    rw [encY_0, ye.given] at yg
    have el := isFree_eq (q := fun _ => true) hi hsl
    have pn := pickF_next (t := isFree (fun _ => true) x.sig (boundS x.sig x.flat)) (nm := nameAt x.sig) (i := i)
    have pl := pickF_len (t := isFree (fun _ => true) x.sig (boundS x.sig x.flat)) (nm := nameAt x.sig) (i := i)
    cases b1 : single x.sig[i] with
    | false =>
      rw [b1, Bool.false_and] at el
      rw [el, if_neg (by simp), List.append_nil] at pn
      simp +contextual (maxSteps := 2000000) only [go_sem, Nat.reduceEqDiff, reduceCtorEq, Nat.reduceAdd, Nat.reduceLeDiff, t1, l1, t3, t4, l4, t6, yl, lt_true hi, k.iaddr hi, k.whole hi, c_isSingle, b1]
      exact ⟨gh, gn, yy, ⟨w, rfl, by rw [pn]; exact z, zb⟩, by rw [wrap_next hi (by omega)]⟩
    | true =>
    cases b2 : (boundS x.sig x.flat)[i].given with
    | true =>
      rw [b1, b2] at el
      rw [el, if_neg (by simp), List.append_nil] at pn
      rw [b2] at yg
      simp +contextual (maxSteps := 2000000) only [go_sem, Nat.reduceEqDiff, reduceCtorEq, Nat.reduceAdd, Nat.reduceLeDiff, t1, l1, t3, t4, l4, t6, yl, lt_true hi, k.iaddr hi, k.whole hi, c_isSingle, b1, yi, yg]
      exact ⟨gh, gn, yy, ⟨w, rfl, by rw [pn]; exact z, zb⟩, by rw [wrap_next hi (by omega)]⟩
    | false =>
      rw [b1, b2] at el
      rw [el, if_pos (by simp), nameAt_eq hi] at pn
      rw [b2] at yg
      simp +contextual (maxSteps := 2000000) only [go_sem, Nat.reduceEqDiff, reduceCtorEq, Nat.reduceAdd, Nat.reduceLeDiff, t1, l1, t3, t4, l4, t6, yl, lt_true hi, k.iaddr hi, k.whole hi, k.fieldO hi, c_isSingle, b1, yi, yg]
      refine wp_lit (enc := encS) (k := 1) (l := [x.sig[i].name]) rfl rfl ?_
      intro h3 w3 g3 n3 _
      simp +contextual (maxSteps := 2000000) only [go_sem, Nat.reduceEqDiff, reduceCtorEq, Nat.reduceAdd, Nat.reduceLeDiff, t1, l1, t3, t4, l4, t6]
      refine wp_append lenS (z.grow g3) (n3.sl lenS) (gh.trans g3) (by simp; omega) ?_
      intro h4 s4 g4 n4 st4 hb4
      obtain ⟨c4, rfl⟩ := n4.one
      simp +contextual (maxSteps := 2000000) only [go_sem, Nat.reduceEqDiff, reduceCtorEq, Nat.reduceAdd, Nat.reduceLeDiff, t1, l1, t3, t4, l4, t6]
      refine ⟨g4, (by show h2.n ≤ h4.n; have := g3.n; have := st4.n; omega), y0.sl.stayOut (yy.grow g3) st4 zb, ⟨c4, rfl, by rw [pn]; exact n4, fun j hj => ?_⟩, by rw [wrap_next hi (by omega)]⟩
      rcases hb4 j hj with e | e
      · exact zb j e
      · have := g3.n; right; omega
  · rintro T L h' ⟨gh, gn, yy, t1, l1, t4, l4, ⟨w, t3, z, zb⟩, t6⟩
    have y := yy.out.rd
    have yl : lenO (.one v) = some (ii x.sig.length) := by rw [y.out.len, y.len, boundS_len]
    simp +contextual (maxSteps := 2000000) only [go_sem, Nat.reduceEqDiff, reduceCtorEq, Nat.reduceAdd, Nat.reduceLeDiff, t1, l1, t3, t4, l4, t6, yl, lt_false]
    exact gcK_of ⟨gh, _, rfl, ⟨z⟩⟩ (fun hs _ => ⟨Grow.refl h, _, rfl, ⟨z.scalar hs h⟩⟩)
  · simp +contextual (maxSteps := 2000000) only [go_sem, Nat.reduceEqDiff, reduceCtorEq, Nat.reduceAdd, Nat.reduceLeDiff]
    exact ⟨g1.trans g2, Nat.le_refl _, y0.sl, ⟨_, rfl, n1.grow g2, fun j hj => .inl (n1.lt hj).1⟩, rfl⟩
/-! impl.free -/
def L47_0 : List AStep := [⟨.box 41 (.t 0), (some 2), none, []⟩, ⟨.mov (.c (.sl none 0 (some 0))), (some 4), none, []⟩]
theorem v47_0 : VS L47_0.eq_1 := rfl
def L47_1 : List AStep := [⟨.mov (.t 17), (some 6), none, []⟩]
theorem v47_1 : VS L47_1.eq_1 := rfl
def L47_2 : List AStep := ⟨.alloc 75 [(.sl none 0 (some 0))], (some 5), none, []⟩ :: ⟨.store 1 (.t 5) (.t 16), none, none, []⟩ :: L47_1
theorem v47_2 : VS L47_2.eq_1 := rfl
def L47_3 : List AStep := ⟨.extract (.t 10) 0, (some 16), none, []⟩ :: ⟨.extract (.t 10) 1, (some 17), none, []⟩ :: L47_2
theorem v47_3 : VS L47_3.eq_1 := rfl
def L47_4 : List AStep := ⟨.call 85 [(.t 12), (.t 14)], (some 15), none, []⟩ :: ⟨.mov (.t 15), (some 10), none, []⟩ :: L47_3
theorem v47_4 : VS L47_4.eq_1 := rfl
def L47_5 : List AStep := ⟨.faddr 1 (.t 2), (some 13), none, []⟩ :: ⟨.load 2 true (.t 13), (some 14), none, []⟩ :: L47_4
theorem v47_5 : VS L47_5.eq_1 := rfl
def L47_6 : List AStep := ⟨.faddr 0 (.t 2), (some 11), none, []⟩ :: ⟨.load 1 true (.t 11), (some 12), none, []⟩ :: L47_5
theorem v47_6 : VS L47_6.eq_1 := rfl
def L47_7 : List AStep := [⟨.mov (.t 6), (some 18), none, []⟩, ⟨.not (.t 18), (some 19), none, []⟩]
theorem v47_7 : VS L47_7.eq_1 := rfl
def L47_8 : List AStep := [⟨.mov (.c (.sl none 0 (some 0))), (some 4), none, []⟩]
theorem v47_8 : VS L47_8.eq_1 := rfl
def L47_9 : List AStep := [⟨.mov (.c (.sl none 0 (some 0))), (some 7), none, []⟩]
theorem v47_9 : VS L47_9.eq_1 := rfl
def L47_10 : List AStep := [⟨.mov (.c (.int .i64 0)), (some 24), none, []⟩]
theorem v47_10 : VS L47_10.eq_1 := rfl
def L47_11 : List AStep := ⟨.load 1 false (.t 21), (some 22), none, []⟩ :: ⟨.len (.t 22), (some 23), none, []⟩ :: L47_10
theorem v47_11 : VS L47_11.eq_1 := rfl
def L47_12 : List AStep := ⟨.faddr 0 (.t 2), (some 20), none, []⟩ :: ⟨.faddr 0 (.t 20), (some 21), none, []⟩ :: L47_11
theorem v47_12 : VS L47_12.eq_1 := rfl
def L47_13 : List AStep := [⟨.bin .lss (.t 24) (.t 23), (some 25), none, []⟩]
theorem v47_13 : VS L47_13.eq_1 := rfl
def L47_14 : List AStep := [⟨.mov (.t 26), (some 8), none, []⟩, ⟨.store 4 (.t 9) (.t 28), none, none, []⟩]
theorem v47_14 : VS L47_14.eq_1 := rfl
def L47_15 : List AStep := ⟨.load 4 true (.t 27), (some 28), none, []⟩ :: ⟨.alloc 81 [(.str (strOfNums [])), (.int .i64 0), (.bool false), (.int .i64 0)], (some 9), none, []⟩ :: L47_14
theorem v47_15 : VS L47_15.eq_1 := rfl
def L47_16 : List AStep := ⟨.mov (.t 24), (some 26), none, []⟩ :: ⟨.iaddr 4 (.t 22) (.t 24), (some 27), none, []⟩ :: L47_15
theorem v47_16 : VS L47_16.eq_1 := rfl
def L47_17 : List AStep := [⟨.callv (.t 41) [(.t 42)], (some 43), (some (40, true)), []⟩, ⟨.pick (.t 40) (.t 43) (.c (.bool false)), (some 44), none, []⟩]
theorem v47_17 : VS L47_17.eq_1 := rfl
def L47_18 : List AStep := ⟨.mov (.t 1), (some 41), (some (40, true)), []⟩ :: ⟨.load 4 true (.t 9), (some 42), (some (40, true)), []⟩ :: L47_17
theorem v47_18 : VS L47_18.eq_1 := rfl
def L47_19 : List AStep := ⟨.pick (.t 31) (.t 38) (.c (.bool false)), (some 39), none, []⟩ :: ⟨.mov (.t 39), (some 40), none, []⟩ :: L47_18
theorem v47_19 : VS L47_19.eq_1 := rfl
def L47_20 : List AStep := ⟨.load 1 false (.t 36), (some 37), (some (31, true)), []⟩ :: ⟨.not (.t 37), (some 38), (some (31, true)), []⟩ :: L47_19
theorem v47_20 : VS L47_20.eq_1 := rfl
def L47_21 : List AStep := ⟨.iaddr 3 (.t 33) (.t 34), (some 35), (some (31, true)), []⟩ :: ⟨.faddr 0 (.t 35), (some 36), (some (31, true)), []⟩ :: L47_20
theorem v47_21 : VS L47_21.eq_1 := rfl
def L47_22 : List AStep := ⟨.load 1 false (.t 32), (some 33), (some (31, true)), []⟩ :: ⟨.mov (.t 8), (some 34), (some (31, true)), []⟩ :: L47_21
theorem v47_22 : VS L47_22.eq_1 := rfl
def L47_23 : List AStep := ⟨.mov (.t 30), (some 31), none, []⟩ :: ⟨.faddr 0 (.t 5), (some 32), (some (31, true)), []⟩ :: L47_22
theorem v47_23 : VS L47_23.eq_1 := rfl
def L47_24 : List AStep := ⟨.load 4 true (.t 9), (some 29), none, []⟩ :: ⟨.call 86 [(.t 29)], (some 30), none, []⟩ :: L47_23
theorem v47_24 : VS L47_24.eq_1 := rfl
def L47_25 : List AStep := [⟨.append 9 1 16 (.t 45) (.t 48), (some 49), none, []⟩, ⟨.mov (.t 49), (some 7), none, []⟩]
theorem v47_25 : VS L47_25.eq_1 := rfl
def L47_26 : List AStep := ⟨.load 1 false (.t 46), (some 47), none, []⟩ :: ⟨.buildSlice 9 1 [(.str (strOfNums []))] [(0, 1, (.t 47))], (some 48), none, []⟩ :: L47_25
theorem v47_26 : VS L47_26.eq_1 := rfl
def L47_27 : List AStep := ⟨.mov (.t 7), (some 45), none, []⟩ :: ⟨.faddr 0 (.t 9), (some 46), none, []⟩ :: L47_26
theorem v47_27 : VS L47_27.eq_1 := rfl
def L47_28 : List AStep := [⟨.bin .add (.t 24) (.c (.int .i64 1)), (some 50), none, []⟩, ⟨.mov (.t 50), (some 24), none, []⟩]
theorem v47_28 : VS L47_28.eq_1 := rfl
def L47_29 : List AStep := [⟨.mov (.t 52), (some 4), none, []⟩]
theorem v47_29 : VS L47_29.eq_1 := rfl
def L47_30 : List AStep := ⟨.mov (.t 7), (some 51), none, []⟩ :: ⟨.call 87 [(.t 51)], (some 52), none, []⟩ :: L47_29
theorem v47_30 : VS L47_30.eq_1 := rfl
def C47_0 : ACode := .seq (.reg L47_8) .ret
theorem u47_0 : VC C47_0.eq_1 := rfl
def C47_1 : ACode := .cond (.t 19) C47_0 .skip
theorem u47_1 : VC C47_1.eq_1 := rfl
def C47_2 : ACode := .seq (.reg L47_7) C47_1
theorem u47_2 : VC C47_2.eq_1 := rfl
def C47_3 : ACode := .cond (.t 25) .skip (.exit 0)
theorem u47_3 : VC C47_3.eq_1 := rfl
def C47_4 : ACode := .cond (.t 44) (.reg L47_27) .skip
theorem u47_4 : VC C47_4.eq_1 := rfl
def C47_5 : ACode := .seq (.reg L47_24) C47_4
theorem u47_5 : VC C47_5.eq_1 := rfl
def C47_6 : ACode := .seq (.reg L47_16) C47_5
theorem u47_6 : VC C47_6.eq_1 := rfl
def C47_7 : ACode := .block 1 C47_6
theorem u47_7 : VC C47_7.eq_1 := rfl
def C47_8 : ACode := .seq C47_7 (.reg L47_28)
theorem u47_8 : VC C47_8.eq_1 := rfl
def C47_9 : ACode := .seq C47_3 C47_8
theorem u47_9 : VC C47_9.eq_1 := rfl
def C47_10 : ACode := .seq (.reg L47_13) C47_9
theorem u47_10 : VC C47_10.eq_1 := rfl
def C47_11 : ACode := .block 0 (.loop C47_10)
theorem u47_11 : VC C47_11.eq_1 := rfl
def C47_12 : ACode := .seq (.reg L47_12) C47_11
theorem u47_12 : VC C47_12.eq_1 := rfl
def C47_13 : ACode := .seq (.reg L47_30) .ret
theorem u47_13 : VC C47_13.eq_1 := rfl
def C47_14 : ACode := .seq C47_12 C47_13
theorem u47_14 : VC C47_14.eq_1 := rfl
def C47_15 : ACode := .seq (.reg L47_9) C47_14
theorem u47_15 : VC C47_15.eq_1 := rfl
def C47_16 : ACode := .seq C47_2 C47_15
theorem u47_16 : VC C47_16.eq_1 := rfl
def C47_17 : ACode := .seq (.reg L47_6) C47_16
theorem u47_17 : VC C47_17.eq_1 := rfl
def C47_18 : ACode := .seq (.reg L47_0) C47_17
theorem u47_18 : VC C47_18.eq_1 := rfl
def F47 : AFunc := ⟨53, [.tmp 4], C47_18⟩
theorem cF47 : compB Try.prog 47 = some F47 := by kernel_rfl
attribute [local go_sem ↓] u47_0 u47_1 u47_2 u47_3 u47_4 u47_5 u47_6 u47_7 u47_8 u47_9 u47_10 u47_11 u47_12 u47_13 u47_14 u47_15 u47_16 u47_17 u47_18 v47_0 v47_1 v47_2 v47_3 v47_4 v47_5 v47_6 v47_7 v47_8 v47_9 v47_10 v47_11 v47_12 v47_13 v47_14 v47_15 v47_16 v47_17 v47_18 v47_19 v47_20 v47_21 v47_22 v47_23 v47_24 v47_25 v47_26 v47_27 v47_28 v47_29 v47_30
theorem c_free (x : Part) (f : Nat) (may : Param → Bool) (hf : ∀ x h, bm Try.prog f [.agg (encQ x)] h = some (ib (may x), h)) (q p n : CV) (h : H) (a : SlD h q p n x) (m : miniD x) : callK (bm Try.prog 47 [.agg [q, p, n], .one (.fn f [])] h) fun r h' => Grow h h' ∧ ∃ w, r = .one w ∧ NwZ h h' w (freeF may x.sig x.flat) := by
  refine bm_of cF47 ?_
  simp +contextual (maxSteps := 2000000) only [go_sem, Nat.reduceEqDiff, reduceCtorEq, Nat.reduceAdd, Nat.reduceLeDiff, F47]
  refine wp_call (k_iBindPart x.sig x.flat q p n h a.g a.f m.g m.f) ?_
  rintro r h1 ⟨g1, v, rs, rfl, y0⟩
  unfold freeF
  unfold bindPartF at y0
  cases b1 : partOk x.sig x.flat with
  | false =>
    simp +contextual (maxSteps := 2000000) only [go_sem, Nat.reduceEqDiff, reduceCtorEq, Nat.reduceAdd, Nat.reduceLeDiff, if_false]
    exact gcK_of ⟨g1, _, rfl, ⟨.nil⟩⟩ (fun hs _ => ⟨Grow.refl h, _, rfl, ⟨.nil⟩⟩)
  | true =>
  rw [if_pos b1] at y0
  obtain ⟨ok1, ok2⟩ := part_fits b1
  have hn := okSig_len ok1
  have k1 := a.g.out.grow g1
  simp +contextual (maxSteps := 2000000) only [go_sem, Nat.reduceEqDiff, reduceCtorEq, Nat.reduceAdd, Nat.reduceLeDiff, k1.len, if_true]
  refine wpC_loop (fun i T L h' => Grow h1 h' ∧ T 1 = .v (.one (.fn f [])) ∧ T 5 = .lp 5 0 ∧ (L 5).2 = [v] ∧ (∃ w, T 7 = .v (.one w) ∧ NwS h1 h' (.one w) (pickF (isFree may x.sig (boundS x.sig x.flat)) (nameAt x.sig) i)) ∧ T 22 = .v (.one q) ∧ T 23 = .v (.one (.int .i64 x.sig.length)) ∧ T 24 = .v (.one (.int .i64 i))) x.sig.length ?_ ?_ (Nat.zero_le _) ?_
  · rintro i T L h' hi ⟨g, t1, t5, l5, ⟨w, t7, z⟩, t22, t23, t24⟩
    have k := k1.grow g
    have y := y0.out.rd.grow g
    have hsl : i < (boundS x.sig x.flat).length := by rw [boundS_len]; exact hi
    have hrs : i < rs.length := by rw [y.len]; exact hsl
    have ye := y.el i hrs
    rw [getY_eq hsl] at ye
    have yi : iaddrO 3 (.one v) (.one (.int .i64 i)) = some (.one (.ptr (some (elem 3 (.one v) i)))) := y.out.iaddr hrs
    have yg := y.out.fieldO (off := 0) hrs (by omega)
    rw [encY_0, ye.given] at yg
    have es := fun h => c_single x.sig[i] h
    have em := fun h => hf x.sig[i] h
    simp only [encQ] at es em
    have el := isFree_eq (q := may) hi hsl
    have pn := pickF_next (t := isFree may x.sig (boundS x.sig x.flat)) (nm := nameAt x.sig) (i := i)
    have pl := pickF_len (t := isFree may x.sig (boundS x.sig x.flat)) (nm := nameAt x.sig) (i := i)
    cases b1 : single x.sig[i] with
    | false =>
      rw [b1, Bool.false_and] at el
      rw [el, if_neg (by simp), List.append_nil] at pn
      simp +contextual (maxSteps := 2000000) only [go_sem, Nat.reduceEqDiff, reduceCtorEq, Nat.reduceAdd, Nat.reduceLeDiff, t1, t5, l5, t7, t22, t23, t24, lt_true hi, k.iaddr hi, k.whole hi, encQ, es, b1]
      exact ⟨g, ⟨w, rfl, by rw [pn]; exact z⟩, by rw [wrap_next hi (by omega)]⟩
    | true =>
    cases b2 : (boundS x.sig x.flat)[i].given with
    | true =>
      rw [b1, b2, Bool.true_and, Bool.not_true, Bool.false_and] at el
      rw [el, if_neg (by simp), List.append_nil] at pn
      rw [b2] at yg
      simp +contextual (maxSteps := 2000000) only [go_sem, Nat.reduceEqDiff, reduceCtorEq, Nat.reduceAdd, Nat.reduceLeDiff, t1, t5, l5, t7, t22, t23, t24, lt_true hi, k.iaddr hi, k.whole hi, encQ, es, b1, yi, yg]
      exact ⟨g, ⟨w, rfl, by rw [pn]; exact z⟩, by rw [wrap_next hi (by omega)]⟩
    | false =>
    rw [b2] at yg
    rw [b1, b2, Bool.true_and, Bool.not_false, Bool.true_and] at el
    cases b3 : may x.sig[i] with
    | false =>
      rw [b3] at el
      rw [el, if_neg (by simp), List.append_nil] at pn
      simp +contextual (maxSteps := 2000000) only [go_sem, Nat.reduceEqDiff, reduceCtorEq, Nat.reduceAdd, Nat.reduceLeDiff, t1, t5, l5, t7, t22, t23, t24, lt_true hi, k.iaddr hi, k.whole hi, encQ, es, b1, yi, yg, em, b3]
      exact ⟨g, ⟨w, rfl, by rw [pn]; exact z⟩, by rw [wrap_next hi (by omega)]⟩
    | true =>
      rw [b3] at el
      rw [el, if_pos rfl, nameAt_eq hi] at pn
      simp +contextual (maxSteps := 2000000) only [go_sem, Nat.reduceEqDiff, reduceCtorEq, Nat.reduceAdd, Nat.reduceLeDiff, t1, t5, l5, t7, t22, t23, t24, lt_true hi, k.iaddr hi, k.whole hi, encQ, es, b1, yi, yg, em, b3]
      refine wp_lit (enc := encS) (k := 1) (l := [x.sig[i].name]) rfl rfl ?_
      intro h3 w3 g3 n3 _
      simp +contextual (maxSteps := 2000000) only [go_sem, Nat.reduceEqDiff, reduceCtorEq, Nat.reduceAdd, Nat.reduceLeDiff, t1, t5, l5, t7, t22, t23, t24]
      refine wp_append lenS (z.grow g3) (n3.sl lenS) (g.trans g3) (by simp; omega) ?_
      intro h4 s4 g4 n4 st4 hb4
      obtain ⟨c4, rfl⟩ := n4.one
      simp +contextual (maxSteps := 2000000) only [go_sem, Nat.reduceEqDiff, reduceCtorEq, Nat.reduceAdd, Nat.reduceLeDiff, t1, t5, l5, t7, t22, t23, t24]
      exact ⟨g4, ⟨c4, rfl, by rw [pn]; exact n4⟩, by rw [wrap_next hi (by omega)]⟩
  · rintro T L h' ⟨g, t1, t5, l5, ⟨w, t7, z⟩, t22, t23, t24⟩
    simp +contextual (maxSteps := 2000000) only [go_sem, Nat.reduceEqDiff, reduceCtorEq, Nat.reduceAdd, Nat.reduceLeDiff, t1, t5, l5, t7, t22, t23, t24, lt_false]
    refine wp_call (c_clipS _ _ h' z) ?_
    rintro r h2 ⟨rfl, n2⟩
    obtain ⟨c, rfl⟩ := n2.one
    have n3 := n2.from g1.n
    simp +contextual (maxSteps := 2000000) only [go_sem, Nat.reduceEqDiff, reduceCtorEq, Nat.reduceAdd, Nat.reduceLeDiff]
    exact gcK_of ⟨g1.trans g, _, rfl, ⟨n3⟩⟩ (fun hs _ => ⟨Grow.refl h, _, rfl, ⟨n3.scalar (by simpa [AV.scalar] using hs) h⟩⟩)
  · simp +contextual (maxSteps := 2000000) only [go_sem, Nat.reduceEqDiff, reduceCtorEq, Nat.reduceAdd, Nat.reduceLeDiff]
    exact ⟨Grow.refl h1, ⟨_, rfl, .nil⟩, rfl⟩
/-! impl.FreeParams$1 -/
def L48_0 : List AStep := [⟨.box 81 (.t 0), (some 1), none, []⟩, ⟨.mov (.c (.bool false)), (some 2), none, []⟩]
theorem v48_0 : VS L48_0.eq_1 := rfl
def L48_1 : List AStep := [⟨.mov (.c (.bool true)), (some 2), none, []⟩]
theorem v48_1 : VS L48_1.eq_1 := rfl
def C48_0 : ACode := .seq (.reg L48_1) .ret
theorem u48_0 : VC C48_0.eq_1 := rfl
def C48_1 : ACode := .seq (.reg L48_0) C48_0
theorem u48_1 : VC C48_1.eq_1 := rfl
def F48 : AFunc := ⟨3, [.tmp 2], C48_1⟩
theorem cF48 : compB Try.prog 48 = some F48 := by kernel_rfl
attribute [local go_sem ↓] u48_0 u48_1 v48_0 v48_1
theorem c_Free1 (x : Param) (h : H) : bm Try.prog 48 [.agg (encQ x)] h = some (ib true, h) := by
  refine bm_eq cF48 ?_
  simp +contextual (maxSteps := 2000000) only [go_sem, Nat.reduceEqDiff, reduceCtorEq, Nat.reduceAdd, Nat.reduceLeDiff, F48]
/-! impl.FreeParams -/
def L12_0 : List AStep := [⟨.box 41 (.t 0), (some 1), none, []⟩, ⟨.mov (.c (.sl none 0 (some 0))), (some 2), none, []⟩]
theorem v12_0 : VS L12_0.eq_1 := rfl
def L12_1 : List AStep := [⟨.mov (.t 4), (some 2), none, []⟩]
theorem v12_1 : VS L12_1.eq_1 := rfl
def L12_2 : List AStep := ⟨.load 3 true (.t 1), (some 3), none, []⟩ :: ⟨.call 47 [(.t 3), (.c (.fn 48 []))], (some 4), none, []⟩ :: L12_1
theorem v12_2 : VS L12_2.eq_1 := rfl
def C12_0 : ACode := .seq (.reg L12_2) .ret
theorem u12_0 : VC C12_0.eq_1 := rfl
def C12_1 : ACode := .seq (.reg L12_0) C12_0
theorem u12_1 : VC C12_1.eq_1 := rfl
def F12 : AFunc := ⟨5, [.tmp 2], C12_1⟩
theorem cF12 : compB Try.prog 12 = some F12 := by kernel_rfl
attribute [local go_sem ↓] u12_0 u12_1 v12_0 v12_1 v12_2
theorem k_iFreeParams (x : Part) (q p n : CV) (h : H) (a : SlD h q p n x) (m : miniD x) : callK (bm Try.prog 12 [.agg [q, p, n]] h) fun r h' => Grow h h' ∧ ∃ w, r = .one w ∧ NwZ h h' w (freeAll x.sig x.flat) := by
  refine bm_of cF12 ?_
  simp +contextual (maxSteps := 2000000) only [go_sem, Nat.reduceEqDiff, reduceCtorEq, Nat.reduceAdd, Nat.reduceLeDiff, F12]
  refine wp_call (c_free x 48 (fun _ => true) (fun x h => c_Free1 x h) q p n h a m) ?_
  rintro r h1 ⟨g1, w, rfl, z⟩
  simp +contextual (maxSteps := 2000000) only [go_sem, Nat.reduceEqDiff, reduceCtorEq, Nat.reduceAdd, Nat.reduceLeDiff]
  exact gcK_of ⟨g1, _, rfl, z⟩ (fun hs _ => ⟨Grow.refl h, _, rfl, ⟨z.out.scalar (by simpa [AV.scalar] using hs) h⟩⟩)
/-! impl.LackOf$1 -/
def L51_0 : List AStep := [⟨.box 81 (.t 0), (some 1), none, []⟩, ⟨.mov (.c (.bool false)), (some 2), none, []⟩]
theorem v51_0 : VS L51_0.eq_1 := rfl
def L51_1 : List AStep := [⟨.not (.t 4), (some 5), none, []⟩, ⟨.mov (.t 5), (some 2), none, []⟩]
theorem v51_1 : VS L51_1.eq_1 := rfl
def L51_2 : List AStep := ⟨.faddr 2 (.t 1), (some 3), none, []⟩ :: ⟨.load 1 false (.t 3), (some 4), none, []⟩ :: L51_1
theorem v51_2 : VS L51_2.eq_1 := rfl
def C51_0 : ACode := .seq (.reg L51_2) .ret
theorem u51_0 : VC C51_0.eq_1 := rfl
def C51_1 : ACode := .seq (.reg L51_0) C51_0
theorem u51_1 : VC C51_1.eq_1 := rfl
def F51 : AFunc := ⟨6, [.tmp 2], C51_1⟩
theorem cF51 : compB Try.prog 51 = some F51 := by kernel_rfl
attribute [local go_sem ↓] u51_0 u51_1 v51_0 v51_1 v51_2
theorem c_Lack1 (x : Param) (h : H) : bm Try.prog 51 [.agg (encQ x)] h = some (ib (!x.has), h) := by
  refine bm_eq cF51 ?_
  simp +contextual (maxSteps := 2000000) only [go_sem, Nat.reduceEqDiff, reduceCtorEq, Nat.reduceAdd, Nat.reduceLeDiff, F51]
/-! impl.LackOf -/
def L19_0 : List AStep := [⟨.box 41 (.t 0), (some 1), none, []⟩, ⟨.mov (.c (.sl none 0 (some 0))), (some 2), none, []⟩]
theorem v19_0 : VS L19_0.eq_1 := rfl
def L19_1 : List AStep := [⟨.mov (.t 4), (some 2), none, []⟩]
theorem v19_1 : VS L19_1.eq_1 := rfl
def L19_2 : List AStep := ⟨.load 3 true (.t 1), (some 3), none, []⟩ :: ⟨.call 47 [(.t 3), (.c (.fn 51 []))], (some 4), none, []⟩ :: L19_1
theorem v19_2 : VS L19_2.eq_1 := rfl
def C19_0 : ACode := .seq (.reg L19_2) .ret
theorem u19_0 : VC C19_0.eq_1 := rfl
def C19_1 : ACode := .seq (.reg L19_0) C19_0
theorem u19_1 : VC C19_1.eq_1 := rfl
def F19 : AFunc := ⟨5, [.tmp 2], C19_1⟩
theorem cF19 : compB Try.prog 19 = some F19 := by kernel_rfl
attribute [local go_sem ↓] u19_0 u19_1 v19_0 v19_1 v19_2
theorem k_iLackOf (x : Part) (q p n : CV) (h : H) (a : SlD h q p n x) (m : miniD x) : callK (bm Try.prog 19 [.agg [q, p, n]] h) fun r h' => Grow h h' ∧ ∃ w, r = .one w ∧ NwZ h h' w (lackF x.sig x.flat) := by
  refine bm_of cF19 ?_
  simp +contextual (maxSteps := 2000000) only [go_sem, Nat.reduceEqDiff, reduceCtorEq, Nat.reduceAdd, Nat.reduceLeDiff, F19]
  refine wp_call (c_free x 51 (fun p => !p.has) (fun x h => c_Lack1 x h) q p n h a m) ?_
  rintro r h1 ⟨g1, w, rfl, z⟩
  simp +contextual (maxSteps := 2000000) only [go_sem, Nat.reduceEqDiff, reduceCtorEq, Nat.reduceAdd, Nat.reduceLeDiff]
  exact gcK_of ⟨g1, _, rfl, z⟩ (fun hs _ => ⟨Grow.refl h, _, rfl, ⟨z.out.scalar (by simpa [AV.scalar] using hs) h⟩⟩)
/-! spec.LackOf -/
def L18_0 : List AStep := [⟨.box 41 (.t 0), (some 1), none, []⟩, ⟨.mov (.c (.sl none 0 (some 0))), (some 2), none, []⟩]
theorem v18_0 : VS L18_0.eq_1 := rfl
def L18_1 : List AStep := [⟨.not (.t 7), (some 8), none, []⟩]
theorem v18_1 : VS L18_1.eq_1 := rfl
def L18_2 : List AStep := ⟨.load 3 true (.t 1), (some 6), none, []⟩ :: ⟨.call 44 [(.t 6)], (some 7), none, []⟩ :: L18_1
theorem v18_2 : VS L18_2.eq_1 := rfl
def L18_3 : List AStep := [⟨.mov (.c (.sl none 0 (some 0))), (some 2), none, []⟩]
theorem v18_3 : VS L18_3.eq_1 := rfl
def L18_4 : List AStep := [⟨.buildSlice 9 0 [(.str (strOfNums []))] [], (some 9), none, []⟩, ⟨.mov (.t 9), (some 3), none, []⟩]
theorem v18_4 : VS L18_4.eq_1 := rfl
def L18_5 : List AStep := [⟨.call 50 [(.t 11), (.t 13)], (some 14), none, []⟩, ⟨.mov (.t 14), (some 4), none, []⟩]
theorem v18_5 : VS L18_5.eq_1 := rfl
def L18_6 : List AStep := ⟨.faddr 1 (.t 1), (some 12), none, []⟩ :: ⟨.load 2 true (.t 12), (some 13), none, []⟩ :: L18_5
theorem v18_6 : VS L18_6.eq_1 := rfl
def L18_7 : List AStep := ⟨.faddr 0 (.t 1), (some 10), none, []⟩ :: ⟨.load 1 true (.t 10), (some 11), none, []⟩ :: L18_6
theorem v18_7 : VS L18_7.eq_1 := rfl
def L18_8 : List AStep := [⟨.mov (.c (.int .i64 0)), (some 5), none, []⟩]
theorem v18_8 : VS L18_8.eq_1 := rfl
def L18_9 : List AStep := [⟨.len (.t 16), (some 17), none, []⟩, ⟨.bin .lss (.t 15) (.t 17), (some 18), none, []⟩]
theorem v18_9 : VS L18_9.eq_1 := rfl
def L18_10 : List AStep := ⟨.mov (.t 5), (some 15), none, []⟩ :: ⟨.mov (.t 4), (some 16), none, []⟩ :: L18_9
theorem v18_10 : VS L18_10.eq_1 := rfl
def L18_11 : List AStep := [⟨.mov (.t 28), (some 3), none, []⟩]
theorem v18_11 : VS L18_11.eq_1 := rfl
def L18_12 : List AStep := ⟨.buildSlice 9 1 [(.str (strOfNums []))] [(0, 1, (.t 26))], (some 27), none, []⟩ :: ⟨.append 9 1 16 (.t 21) (.t 27), (some 28), none, []⟩ :: L18_11
theorem v18_12 : VS L18_12.eq_1 := rfl
def L18_13 : List AStep := ⟨.faddr 1 (.t 24), (some 25), none, []⟩ :: ⟨.load 1 false (.t 25), (some 26), none, []⟩ :: L18_12
theorem v18_13 : VS L18_13.eq_1 := rfl
def L18_14 : List AStep := ⟨.mov (.t 5), (some 23), none, []⟩ :: ⟨.iaddr 2 (.t 22) (.t 23), (some 24), none, []⟩ :: L18_13
theorem v18_14 : VS L18_14.eq_1 := rfl
def L18_15 : List AStep := ⟨.mov (.t 3), (some 21), none, []⟩ :: ⟨.mov (.t 4), (some 22), none, []⟩ :: L18_14
theorem v18_15 : VS L18_15.eq_1 := rfl
def L18_16 : List AStep := [⟨.mov (.t 20), (some 5), none, []⟩]
theorem v18_16 : VS L18_16.eq_1 := rfl
def L18_17 : List AStep := ⟨.mov (.t 5), (some 19), none, []⟩ :: ⟨.bin .add (.t 19) (.c (.int .i64 1)), (some 20), none, []⟩ :: L18_16
theorem v18_17 : VS L18_17.eq_1 := rfl
def L18_18 : List AStep := [⟨.mov (.t 3), (some 29), none, []⟩, ⟨.mov (.t 29), (some 2), none, []⟩]
theorem v18_18 : VS L18_18.eq_1 := rfl
def C18_0 : ACode := .seq (.reg L18_3) .ret
theorem u18_0 : VC C18_0.eq_1 := rfl
def C18_1 : ACode := .cond (.t 8) C18_0 .skip
theorem u18_1 : VC C18_1.eq_1 := rfl
def C18_2 : ACode := .seq (.reg L18_2) C18_1
theorem u18_2 : VC C18_2.eq_1 := rfl
def C18_3 : ACode := .cond (.t 18) .skip (.exit 0)
theorem u18_3 : VC C18_3.eq_1 := rfl
def C18_4 : ACode := .seq (.reg L18_10) C18_3
theorem u18_4 : VC C18_4.eq_1 := rfl
def C18_5 : ACode := .block 1 (.reg L18_15)
theorem u18_5 : VC C18_5.eq_1 := rfl
def C18_6 : ACode := .seq C18_5 (.reg L18_17)
theorem u18_6 : VC C18_6.eq_1 := rfl
def C18_7 : ACode := .seq C18_4 C18_6
theorem u18_7 : VC C18_7.eq_1 := rfl
def C18_8 : ACode := .block 0 (.loop C18_7)
theorem u18_8 : VC C18_8.eq_1 := rfl
def C18_9 : ACode := .seq (.reg L18_8) C18_8
theorem u18_9 : VC C18_9.eq_1 := rfl
def C18_10 : ACode := .seq (.reg L18_18) .ret
theorem u18_10 : VC C18_10.eq_1 := rfl
def C18_11 : ACode := .seq C18_9 C18_10
theorem u18_11 : VC C18_11.eq_1 := rfl
def C18_12 : ACode := .seq (.reg L18_7) C18_11
theorem u18_12 : VC C18_12.eq_1 := rfl
def C18_13 : ACode := .seq (.reg L18_4) C18_12
theorem u18_13 : VC C18_13.eq_1 := rfl
def C18_14 : ACode := .seq C18_2 C18_13
theorem u18_14 : VC C18_14.eq_1 := rfl
def C18_15 : ACode := .seq (.reg L18_0) C18_14
theorem u18_15 : VC C18_15.eq_1 := rfl
def F18 : AFunc := ⟨30, [.tmp 2], C18_15⟩
theorem cF18 : compB Try.prog 18 = some F18 := by kernel_rfl
attribute [local go_sem ↓] u18_0 u18_1 u18_2 u18_3 u18_4 u18_5 u18_6 u18_7 u18_8 u18_9 u18_10 u18_11 u18_12 u18_13 u18_14 u18_15 v18_0 v18_1 v18_2 v18_3 v18_4 v18_5 v18_6 v18_7 v18_8 v18_9 v18_10 v18_11 v18_12 v18_13 v18_14 v18_15 v18_16 v18_17 v18_18
theorem k_sLackOf (x : Part) (q p n : CV) (h : H) (a : SlD h q p n x) (m : miniD x) : callK (bm Try.prog 18 [.agg [q, p, n]] h) fun r h' => Grow h h' ∧ ∃ w, r = .one w ∧ NwZ h h' w (lackF x.sig x.flat) := by
  refine bm_of cF18 ?_
  have vp := c_validPartial x.sig x.flat q p n h a.g a.f m.g m.f
  cases b1 : partOk x.sig x.flat with
  | false =>
    rw [b1] at vp
    have e : lackF x.sig x.flat = [] := by unfold lackF freeF; rw [if_neg (by simp [b1])]
    rw [e]
    simp +contextual (maxSteps := 2000000) only [go_sem, Nat.reduceEqDiff, reduceCtorEq, Nat.reduceAdd, Nat.reduceLeDiff, F18, vp]
    exact ⟨Grow.refl h, _, rfl, ⟨.nil⟩⟩
  | true =>
  rw [b1] at vp
  rw [lack_names b1]
  obtain ⟨ok1, ok2⟩ := part_fits b1
  have hn := okSig_len ok1
  have hw : (wrong x.sig x.flat).length ≤ 100 := by
    obtain ⟨hb1, hb2, hb3⟩ := okFlat_sm ok2
    have h1 := (BOk.nameF (l := x.sig) (f := x.flat) hb3 (Nat.le_refl _)).bad
    have h2 := missF_len (l := x.sig) (sl := boundS x.sig x.flat) (i := x.sig.length)
    unfold wrong boundB missing
    rw [List.length_append]
    omega
  simp +contextual (maxSteps := 2000000) only [go_sem, Nat.reduceEqDiff, reduceCtorEq, Nat.reduceAdd, Nat.reduceLeDiff, F18, vp]
  refine wp_lit (enc := encS) (k := 1) (l := []) rfl rfl ?_
  intro h1 w g1 n1 _
  obtain ⟨w, rfl⟩ := n1.one
  simp +contextual (maxSteps := 2000000) only [go_sem, Nat.reduceEqDiff, reduceCtorEq, Nat.reduceAdd, Nat.reduceLeDiff]
  refine wp_call (c_problems x.sig x.flat q p n h1 (a.g.out.grow g1) (a.f.grow g1) ok1 ok2) ?_
  rintro r h2 ⟨g2, y0⟩
  obtain ⟨v, rfl⟩ := y0.one
  simp +contextual (maxSteps := 2000000) only [go_sem, Nat.reduceEqDiff, reduceCtorEq, Nat.reduceAdd, Nat.reduceLeDiff]
  refine wpC_loop (fun i T L h' => Grow h h' ∧ h2.n ≤ h'.n ∧ NwB h1 h' (.one v) (wrong x.sig x.flat) ∧ (∃ w, T 3 = .v (.one w) ∧ NwS h h' (.one w) (((wrong x.sig x.flat).take i).map Problem.name) ∧ ∀ j, baseOf (.one w) = some j → j < h1.n ∨ h2.n ≤ j) ∧ T 4 = .v (.one v) ∧ T 5 = .v (.one (.int .i64 i))) (wrong x.sig x.flat).length ?_ ?_ (Nat.zero_le _) ?_
  · rintro i T L h' hi ⟨gh, gn, yy, ⟨w, t3, z, zb⟩, t4, t5⟩
    have y := yy.sl lenB
    simp +contextual (maxSteps := 2000000) only [go_sem, Nat.reduceEqDiff, reduceCtorEq, Nat.reduceAdd, Nat.reduceLeDiff, t3, t4, t5, y.len, y.iaddr hi, y.fieldO hi, lt_true hi]
    refine wp_lit (enc := encS) (k := 1) (l := [(wrong x.sig x.flat)[i].name]) rfl rfl ?_
    intro h3 w3 g3 n3 _
    simp +contextual (maxSteps := 2000000) only [go_sem, Nat.reduceEqDiff, reduceCtorEq, Nat.reduceAdd, Nat.reduceLeDiff, t3, t4, t5]
    refine wp_append lenS (z.grow g3) (n3.sl lenS) (gh.trans g3) (by simp; omega) ?_
    intro h4 s4 g4 n4 st4 hb4
    obtain ⟨c4, rfl⟩ := n4.one
    simp +contextual (maxSteps := 2000000) only [go_sem, Nat.reduceEqDiff, reduceCtorEq, Nat.reduceAdd, Nat.reduceLeDiff, t3, t4, t5]
    refine ⟨g4, (by show h2.n ≤ h4.n; have := g3.n; have := st4.n; omega), (yy.grow g3).stay st4 fun j hj e => by have := y0.lt hj; have := zb j e; omega, ⟨c4, rfl, ?_, fun j hj => ?_⟩, by rw [wrap_next hi (by omega)]⟩
    · rw [List.take_succ_eq_append_getElem hi, List.map_append]
      exact n4
    · rcases hb4 j hj with e | e
      · exact zb j e
      · have := g3.n; right; omega
  · rintro T L h' ⟨gh, gn, yy, ⟨w, t3, z, zb⟩, t4, t5⟩
    rw [List.take_length] at z
    simp +contextual (maxSteps := 2000000) only [go_sem, Nat.reduceEqDiff, reduceCtorEq, Nat.reduceAdd, Nat.reduceLeDiff, t3, t4, t5, (yy.sl lenB).len, lt_false]
    exact gcK_of ⟨gh, _, rfl, ⟨z⟩⟩ (fun hs _ => ⟨Grow.refl h, _, rfl, ⟨z.scalar hs h⟩⟩)
  · simp +contextual (maxSteps := 2000000) only [go_sem, Nat.reduceEqDiff, reduceCtorEq, Nat.reduceAdd, Nat.reduceLeDiff]
    exact ⟨g1.trans g2, Nat.le_refl _, y0, ⟨_, rfl, n1.grow g2, fun j hj => .inl (n1.lt hj).1⟩, rfl⟩
end Go.Proofs.Ytdalgphpacikkab.Am
