/- Contracts: what is free in a partial call, and what a wrapper passes on, of both sides. -/
import Derived.Test.YtekkimfdcbgcoacBL
import Derived.Test.YtekkimfdcbgcoacHS
namespace Go.Proofs.Ytekkimfdcbgcoac.Am
open Go
set_option maxRecDepth 100000
set_option maxHeartbeats 4000000
set_option linter.unusedSimpArgs false
set_option linter.unusedVariables false
attribute [local go_sem ↓] bv_t bv_c ev_t ev_c put_same put_ne put_none kill_at pro_at lb_same lb_ne start_zero start_succ wpC_seq wpC_reg wpC_cond wpC_block wpC_skip wpC_exit wpC_ret thenQ_normal thenQ_exit thenQ_ret inBlk_normal inBlk_exit inBlk_ret wpS_nil wpS_step wpS_again wpS_guard wpO_mov wpO_load wpO_faddr wpO_nilCheck wpO_pick wpO_build wpO_bin wpO_eqb wpO_eqst wpO_eqnil wpO_not wpO_conv wpO_bytesStr wpO_iaddr wpO_idxStr wpO_field wpO_extract wpO_len wpO_lenStr wpO_cap wpO_min wpO_slice wpO_sliceStr wpO_alloc wpO_box wpO_store wpO_call wpO_callv wpO_mkfn wpO_buildSlice wpO_mkslice wpO_append wpO_appz proA_nil proA_cons tmpX_nil tmpX_tmp tmpX_cell doneB_normal doneB_ret agK_cons agK_nil agK_guard agG_tt agG_ff agG_tf agG_ft agG_undef pureB_load results_one results_two results_nil resBs_cons resBs_nil resB_tmp resB_cell
attribute [local go_sem] kill_v kill_lp_ne kill_lp_same pro_v pro_lp_same pro_lp_ne av_v av_lp optB_some optX_some valX_eq ldX_lp ldX_v faX_lp faX_v ncX_lp ncX_ptr ncX_fn boxK_one boxK_agg stL_some stK_lp_one stK_lp_agg stK_v_one stK_v_agg proM_v proM_lp callG_mk callVG_mk callvK_fn fnG_mk ptrsA_nil ptrsA_cons callH_some whenA_true whenA_false guardH_tt guardH_ff guardH_tf guardH_ft guardH_undef agV_one agV_agg lenO_sl lenStrO_str notO_bool pickO_bool convO_int eqbO_bool eqnilO_sl extractO_tup capO_sl minO_int loadL_one loadL_all storeL_eq fillA_nil fillA_one fillA_agg nat_ge neg_ge nat_lt neg_lt buildO bin_add bin_sub bin_mul bin_eql bin_neq bin_lss bin_leq bin_gtr bin_geq str_eql str_neq str_lss str_leq str_gtr str_geq retK_some endK_mk gcK_same gcK_int gcK_bool tupO_one tupO_agg rdy_self ib ii Option.map_none Option.map_some Option.some.injEq exists_eq_left' exists_eq_left ne_eq not_false_eq_true if_true if_false List.map_cons List.map_nil List.getElem?_cons_zero List.getElem?_cons_succ List.length_cons List.length_nil List.take_succ_cons List.take_zero List.take_nil List.drop_succ_cons List.drop_zero List.drop_nil List.cons_append List.nil_append List.append_nil List.set_cons_zero List.set_cons_succ Nat.zero_add forall_const true_and and_true and_self Bool.false_eq_true false_implies true_implies implies_true Bool.not_true Bool.not_false Bool.not_eq_true' Bool.not_eq_false' beq_self_eq_true Bool.bne_true Bool.bne_false
attribute [local go_sem] lenI lenS lenP lenQ lenB lenL lenT encI_0 encS_0 encP_0 encP_1 encQ_0 encQ_1 encQ_2 encQ_3 encB_0 encB_1 encL_0 encL_1 encT_0 encT_1
attribute [local go_sem low] whenA_bool guardH_bool
attribute [local go_sem] lenY encY_0 encY_1 encY_2 loadL_agg
/-! spec.FreeParams -/
def L12_0 : List AStep := [⟨.box 31 (.t 0), (some 1), none, []⟩, ⟨.mov (.c (.sl none 0 (some 0))), (some 2), none, []⟩]
theorem v12_0 : VS L12_0.eq_1 := rfl
def L12_1 : List AStep := [⟨.not (.t 8), (some 9), none, []⟩]
theorem v12_1 : VS L12_1.eq_1 := rfl
def L12_2 : List AStep := ⟨.load 3 true (.t 1), (some 7), none, []⟩ :: ⟨.call 51 [(.t 7)], (some 8), none, []⟩ :: L12_1
theorem v12_2 : VS L12_2.eq_1 := rfl
def L12_3 : List AStep := [⟨.mov (.c (.sl none 0 (some 0))), (some 2), none, []⟩]
theorem v12_3 : VS L12_3.eq_1 := rfl
def L12_4 : List AStep := [⟨.buildSlice 9 0 [(.str (strOfNums []))] [], (some 10), none, []⟩, ⟨.mov (.t 10), (some 3), none, []⟩]
theorem v12_4 : VS L12_4.eq_1 := rfl
def L12_5 : List AStep := [⟨.mov (.t 18), (some 5), none, []⟩]
theorem v12_5 : VS L12_5.eq_1 := rfl
def L12_6 : List AStep := ⟨.alloc 39 [(.sl none 0 (some 0))], (some 4), none, []⟩ :: ⟨.store 1 (.t 4) (.t 17), none, none, []⟩ :: L12_5
theorem v12_6 : VS L12_6.eq_1 := rfl
def L12_7 : List AStep := ⟨.extract (.t 11) 0, (some 17), none, []⟩ :: ⟨.extract (.t 11) 1, (some 18), none, []⟩ :: L12_6
theorem v12_7 : VS L12_7.eq_1 := rfl
def L12_8 : List AStep := ⟨.call 52 [(.t 13), (.t 15)], (some 16), none, []⟩ :: ⟨.mov (.t 16), (some 11), none, []⟩ :: L12_7
theorem v12_8 : VS L12_8.eq_1 := rfl
def L12_9 : List AStep := ⟨.faddr 1 (.t 1), (some 14), none, []⟩ :: ⟨.load 2 true (.t 14), (some 15), none, []⟩ :: L12_8
theorem v12_9 : VS L12_9.eq_1 := rfl
def L12_10 : List AStep := ⟨.faddr 0 (.t 1), (some 12), none, []⟩ :: ⟨.load 1 true (.t 12), (some 13), none, []⟩ :: L12_9
theorem v12_10 : VS L12_10.eq_1 := rfl
def L12_11 : List AStep := [⟨.mov (.c (.int .i64 0)), (some 6), none, []⟩]
theorem v12_11 : VS L12_11.eq_1 := rfl
def L12_12 : List AStep := [⟨.bin .lss (.t 19) (.t 22), (some 23), none, []⟩]
theorem v12_12 : VS L12_12.eq_1 := rfl
def L12_13 : List AStep := ⟨.load 1 false (.t 20), (some 21), none, []⟩ :: ⟨.len (.t 21), (some 22), none, []⟩ :: L12_12
theorem v12_13 : VS L12_13.eq_1 := rfl
def L12_14 : List AStep := ⟨.mov (.t 6), (some 19), none, []⟩ :: ⟨.faddr 0 (.t 4), (some 20), none, []⟩ :: L12_13
theorem v12_14 : VS L12_14.eq_1 := rfl
def L12_15 : List AStep := [⟨.not (.t 39), (some 40), (some (33, true)), []⟩, ⟨.pick (.t 33) (.t 40) (.c (.bool false)), (some 41), none, []⟩]
theorem v12_15 : VS L12_15.eq_1 := rfl
def L12_16 : List AStep := ⟨.faddr 0 (.t 37), (some 38), (some (33, true)), []⟩ :: ⟨.load 1 false (.t 38), (some 39), (some (33, true)), []⟩ :: L12_15
theorem v12_16 : VS L12_16.eq_1 := rfl
def L12_17 : List AStep := ⟨.mov (.t 6), (some 36), (some (33, true)), []⟩ :: ⟨.iaddr 3 (.t 35) (.t 36), (some 37), (some (33, true)), []⟩ :: L12_16
theorem v12_17 : VS L12_17.eq_1 := rfl
def L12_18 : List AStep := ⟨.faddr 0 (.t 4), (some 34), (some (33, true)), []⟩ :: ⟨.load 1 false (.t 34), (some 35), (some (33, true)), []⟩ :: L12_17
theorem v12_18 : VS L12_18.eq_1 := rfl
def L12_19 : List AStep := ⟨.call 53 [(.t 31)], (some 32), none, []⟩ :: ⟨.mov (.t 32), (some 33), none, []⟩ :: L12_18
theorem v12_19 : VS L12_19.eq_1 := rfl
def L12_20 : List AStep := ⟨.iaddr 4 (.t 28) (.t 29), (some 30), none, []⟩ :: ⟨.load 4 true (.t 30), (some 31), none, []⟩ :: L12_19
theorem v12_20 : VS L12_20.eq_1 := rfl
def L12_21 : List AStep := ⟨.load 1 false (.t 27), (some 28), none, []⟩ :: ⟨.mov (.t 6), (some 29), none, []⟩ :: L12_20
theorem v12_21 : VS L12_21.eq_1 := rfl
def L12_22 : List AStep := ⟨.faddr 0 (.t 1), (some 26), none, []⟩ :: ⟨.faddr 0 (.t 26), (some 27), none, []⟩ :: L12_21
theorem v12_22 : VS L12_22.eq_1 := rfl
def L12_23 : List AStep := [⟨.mov (.t 51), (some 3), none, []⟩]
theorem v12_23 : VS L12_23.eq_1 := rfl
def L12_24 : List AStep := ⟨.buildSlice 9 1 [(.str (strOfNums []))] [(0, 1, (.t 49))], (some 50), none, []⟩ :: ⟨.append 9 1 16 (.t 42) (.t 50), (some 51), none, []⟩ :: L12_23
theorem v12_24 : VS L12_24.eq_1 := rfl
def L12_25 : List AStep := ⟨.faddr 0 (.t 47), (some 48), none, []⟩ :: ⟨.load 1 false (.t 48), (some 49), none, []⟩ :: L12_24
theorem v12_25 : VS L12_25.eq_1 := rfl
def L12_26 : List AStep := ⟨.mov (.t 6), (some 46), none, []⟩ :: ⟨.iaddr 4 (.t 45) (.t 46), (some 47), none, []⟩ :: L12_25
theorem v12_26 : VS L12_26.eq_1 := rfl
def L12_27 : List AStep := ⟨.faddr 0 (.t 43), (some 44), none, []⟩ :: ⟨.load 1 false (.t 44), (some 45), none, []⟩ :: L12_26
theorem v12_27 : VS L12_27.eq_1 := rfl
def L12_28 : List AStep := ⟨.mov (.t 3), (some 42), none, []⟩ :: ⟨.faddr 0 (.t 1), (some 43), none, []⟩ :: L12_27
theorem v12_28 : VS L12_28.eq_1 := rfl
def L12_29 : List AStep := [⟨.mov (.t 25), (some 6), none, []⟩]
theorem v12_29 : VS L12_29.eq_1 := rfl
def L12_30 : List AStep := ⟨.mov (.t 6), (some 24), none, []⟩ :: ⟨.bin .add (.t 24) (.c (.int .i64 1)), (some 25), none, []⟩ :: L12_29
theorem v12_30 : VS L12_30.eq_1 := rfl
def L12_31 : List AStep := [⟨.mov (.t 3), (some 52), none, []⟩, ⟨.mov (.t 52), (some 2), none, []⟩]
theorem v12_31 : VS L12_31.eq_1 := rfl
def C12_0 : ACode := .seq (.reg L12_3) .ret
theorem u12_0 : VC C12_0.eq_1 := rfl
def C12_1 : ACode := .cond (.t 9) C12_0 .skip
theorem u12_1 : VC C12_1.eq_1 := rfl
def C12_2 : ACode := .seq (.reg L12_2) C12_1
theorem u12_2 : VC C12_2.eq_1 := rfl
def C12_3 : ACode := .cond (.t 23) .skip (.exit 0)
theorem u12_3 : VC C12_3.eq_1 := rfl
def C12_4 : ACode := .seq (.reg L12_14) C12_3
theorem u12_4 : VC C12_4.eq_1 := rfl
def C12_5 : ACode := .cond (.t 41) (.reg L12_28) .skip
theorem u12_5 : VC C12_5.eq_1 := rfl
def C12_6 : ACode := .seq (.reg L12_22) C12_5
theorem u12_6 : VC C12_6.eq_1 := rfl
def C12_7 : ACode := .block 1 C12_6
theorem u12_7 : VC C12_7.eq_1 := rfl
def C12_8 : ACode := .seq C12_7 (.reg L12_30)
theorem u12_8 : VC C12_8.eq_1 := rfl
def C12_9 : ACode := .seq C12_4 C12_8
theorem u12_9 : VC C12_9.eq_1 := rfl
def C12_10 : ACode := .block 0 (.loop C12_9)
theorem u12_10 : VC C12_10.eq_1 := rfl
def C12_11 : ACode := .seq (.reg L12_11) C12_10
theorem u12_11 : VC C12_11.eq_1 := rfl
def C12_12 : ACode := .seq (.reg L12_31) .ret
theorem u12_12 : VC C12_12.eq_1 := rfl
def C12_13 : ACode := .seq C12_11 C12_12
theorem u12_13 : VC C12_13.eq_1 := rfl
def C12_14 : ACode := .seq (.reg L12_10) C12_13
theorem u12_14 : VC C12_14.eq_1 := rfl
def C12_15 : ACode := .seq (.reg L12_4) C12_14
theorem u12_15 : VC C12_15.eq_1 := rfl
def C12_16 : ACode := .seq C12_2 C12_15
theorem u12_16 : VC C12_16.eq_1 := rfl
def C12_17 : ACode := .seq (.reg L12_0) C12_16
theorem u12_17 : VC C12_17.eq_1 := rfl
def F12 : AFunc := ⟨53, [.tmp 2], C12_17⟩
theorem cF12 : compB Try.prog 12 = some F12 := by kernel_rfl
attribute [local go_sem ↓] u12_0 u12_1 u12_2 u12_3 u12_4 u12_5 u12_6 u12_7 u12_8 u12_9 u12_10 u12_11 u12_12 u12_13 u12_14 u12_15 u12_16 u12_17 v12_0 v12_1 v12_2 v12_3 v12_4 v12_5 v12_6 v12_7 v12_8 v12_9 v12_10 v12_11 v12_12 v12_13 v12_14 v12_15 v12_16 v12_17 v12_18 v12_19 v12_20 v12_21 v12_22 v12_23 v12_24 v12_25 v12_26 v12_27 v12_28 v12_29 v12_30 v12_31
theorem k_sFreeParams (x : Part) (q p n : CV) (h : H) (a : SlD h q p n x) (m : miniD x) : callK (bm Try.prog 12 [.agg [q, p, n]] h) fun r h' => Grow h h' ∧ ∃ w, r = .one w ∧ NwZ h h' w (freeAll x.sig x.flat) := by
  refine bm_of cF12 ?_
  have vp := c_validPartial x.sig x.flat q p n h a.g a.f m.g m.f
  unfold freeAll freeF
  cases b1 : partOk x.sig x.flat with
  | false =>
    rw [b1] at vp
    simp +contextual (maxSteps := 2000000) only [go_sem, Nat.reduceEqDiff, reduceCtorEq, Nat.reduceAdd, Nat.reduceLeDiff, F12, vp, if_false]
    exact ⟨Grow.refl h, _, rfl, ⟨.nil⟩⟩
  | true =>
  rw [b1] at vp
  obtain ⟨ok1, ok2⟩ := part_fits b1
  have hn := okSig_len ok1
  simp +contextual (maxSteps := 2000000) only [go_sem, Nat.reduceEqDiff, reduceCtorEq, Nat.reduceAdd, Nat.reduceLeDiff, F12, vp, if_true]
  refine wp_lit (enc := encS) (k := 1) (l := []) rfl rfl ?_
  intro h1 w g1 n1 _
  obtain ⟨w, rfl⟩ := n1.one
  simp +contextual (maxSteps := 2000000) only [go_sem, Nat.reduceEqDiff, reduceCtorEq, Nat.reduceAdd, Nat.reduceLeDiff]
  refine wp_call (c_bound x.sig x.flat q p n h1 (a.g.out.grow g1) (a.f.grow g1) ok1 ok2) ?_
  rintro r h2 ⟨g2, v, w2, rs, rfl, y0⟩
  simp +contextual (maxSteps := 2000000) only [go_sem, Nat.reduceEqDiff, reduceCtorEq, Nat.reduceAdd, Nat.reduceLeDiff]
  refine wpC_loop (fun i T L h' => Grow h h' ∧ h2.n ≤ h'.n ∧ NwY h1 h' v rs (boundS x.sig x.flat) ∧ T 1 = .lp 1 0 ∧ (L 1).2 = [q, p, n] ∧ T 4 = .lp 4 0 ∧ (L 4).2 = [v] ∧ (∃ w, T 3 = .v (.one w) ∧ NwS h h' (.one w) (pickF (isFree (fun _ => true) x.sig (boundS x.sig x.flat)) (nameAt x.sig) i) ∧ ∀ j, baseOf (.one w) = some j → j < h1.n ∨ h2.n ≤ j) ∧ T 6 = .v (.one (.int .i64 i))) x.sig.length ?_ ?_ (Nat.zero_le _) ?_
  · rintro i T L h' hi ⟨gh, gn, yy, t1, l1, t4, l4, ⟨w, t3, z, zb⟩, t6⟩
    have k := a.g.out.grow gh
    have y := yy.out.rd
    have hsl : i < (boundS x.sig x.flat).length := by rw [boundS_len]; exact hi
    have hrs : i < rs.length := by rw [y.len]; exact hsl
    have ye := y.el i hrs
    rw [getY_eq hsl] at ye
    have yl : lenO (.one v) = some (ii x.sig.length) := by rw [y.out.len, y.len, boundS_len]
    have yi : iaddrO 3 (.one v) (.one (.int .i64 i)) = some (.one (.ptr (some (elem 3 (.one v) i)))) := y.out.iaddr hrs
    have yg := y.out.fieldO (off := 0) hrs (by omega)
    rw [encY_0, ye.given] at yg
    have el := isFree_eq (q := fun _ => true) hi hsl
    have pn := pickF_next (t := isFree (fun _ => true) x.sig (boundS x.sig x.flat)) (nm := nameAt x.sig) (i := i)
    have pl := pickF_len (t := isFree (fun _ => true) x.sig (boundS x.sig x.flat)) (nm := nameAt x.sig) (i := i)
    cases b1 : single x.sig[i] with
    | false =>
      rw [b1, Bool.false_and] at el
      rw [el, if_neg (by simp), List.append_nil] at pn
      simp +contextual (maxSteps := 2000000) only [go_sem, Nat.reduceEqDiff, reduceCtorEq, Nat.reduceAdd, Nat.reduceLeDiff, t1, l1, t3, t4, l4, t6, yl, lt_true hi, k.iaddr hi, k.whole hi, c_isSingle, b1]
      exact ⟨gh, gn, yy, ⟨w, rfl, by rw [pn]; exact z, zb⟩, by rw [wrap_next hi (by omega)]⟩
    | true =>
    cases b2 : (boundS x.sig x.flat)[i].given with
    | true =>
      rw [b1, b2] at el
      rw [el, if_neg (by simp), List.append_nil] at pn
      rw [b2] at yg
      simp +contextual (maxSteps := 2000000) only [go_sem, Nat.reduceEqDiff, reduceCtorEq, Nat.reduceAdd, Nat.reduceLeDiff, t1, l1, t3, t4, l4, t6, yl, lt_true hi, k.iaddr hi, k.whole hi, c_isSingle, b1, yi, yg]
      exact ⟨gh, gn, yy, ⟨w, rfl, by rw [pn]; exact z, zb⟩, by rw [wrap_next hi (by omega)]⟩
    | false =>
      rw [b1, b2] at el
      rw [el, if_pos (by simp), nameAt_eq hi] at pn
      rw [b2] at yg
      simp +contextual (maxSteps := 2000000) only [go_sem, Nat.reduceEqDiff, reduceCtorEq, Nat.reduceAdd, Nat.reduceLeDiff, t1, l1, t3, t4, l4, t6, yl, lt_true hi, k.iaddr hi, k.whole hi, k.fieldO hi, c_isSingle, b1, yi, yg]
      refine wp_lit (enc := encS) (k := 1) (l := [x.sig[i].name]) rfl rfl ?_
      intro h3 w3 g3 n3 _
      simp +contextual (maxSteps := 2000000) only [go_sem, Nat.reduceEqDiff, reduceCtorEq, Nat.reduceAdd, Nat.reduceLeDiff, t1, l1, t3, t4, l4, t6]
      refine wp_append lenS (z.grow g3) (n3.sl lenS) (gh.trans g3) (by simp; omega) ?_
      intro h4 s4 g4 n4 st4 hb4
      obtain ⟨c4, rfl⟩ := n4.one
      simp +contextual (maxSteps := 2000000) only [go_sem, Nat.reduceEqDiff, reduceCtorEq, Nat.reduceAdd, Nat.reduceLeDiff, t1, l1, t3, t4, l4, t6]
      refine ⟨g4, (by show h2.n ≤ h4.n; have := g3.n; have := st4.n; omega), y0.sl.stayOut (yy.grow g3) st4 zb, ⟨c4, rfl, by rw [pn]; exact n4, fun j hj => ?_⟩, by rw [wrap_next hi (by omega)]⟩
      rcases hb4 j hj with e | e
      · exact zb j e
      · have := g3.n; right; omega
  · rintro T L h' ⟨gh, gn, yy, t1, l1, t4, l4, ⟨w, t3, z, zb⟩, t6⟩
    have y := yy.out.rd
    have yl : lenO (.one v) = some (ii x.sig.length) := by rw [y.out.len, y.len, boundS_len]
    simp +contextual (maxSteps := 2000000) only [go_sem, Nat.reduceEqDiff, reduceCtorEq, Nat.reduceAdd, Nat.reduceLeDiff, t1, l1, t3, t4, l4, t6, yl, lt_false]
    exact gcK_of ⟨gh, _, rfl, ⟨z⟩⟩ (fun hs _ => ⟨Grow.refl h, _, rfl, ⟨z.scalar hs h⟩⟩)
  · simp +contextual (maxSteps := 2000000) only [go_sem, Nat.reduceEqDiff, reduceCtorEq, Nat.reduceAdd, Nat.reduceLeDiff]
    exact ⟨g1.trans g2, Nat.le_refl _, y0.sl, ⟨_, rfl, n1.grow g2, fun j hj => .inl (n1.lt hj).1⟩, rfl⟩
/-! impl.free -/
def L49_0 : List AStep := [⟨.box 31 (.t 0), (some 2), none, []⟩, ⟨.mov (.c (.sl none 0 (some 0))), (some 4), none, []⟩]
theorem v49_0 : VS L49_0.eq_1 := rfl
def L49_1 : List AStep := [⟨.mov (.t 17), (some 6), none, []⟩]
theorem v49_1 : VS L49_1.eq_1 := rfl
def L49_2 : List AStep := ⟨.alloc 39 [(.sl none 0 (some 0))], (some 5), none, []⟩ :: ⟨.store 1 (.t 5) (.t 16), none, none, []⟩ :: L49_1
theorem v49_2 : VS L49_2.eq_1 := rfl
def L49_3 : List AStep := ⟨.extract (.t 10) 0, (some 16), none, []⟩ :: ⟨.extract (.t 10) 1, (some 17), none, []⟩ :: L49_2
theorem v49_3 : VS L49_3.eq_1 := rfl
def L49_4 : List AStep := ⟨.call 14 [(.t 12), (.t 14)], (some 15), none, []⟩ :: ⟨.mov (.t 15), (some 10), none, []⟩ :: L49_3
theorem v49_4 : VS L49_4.eq_1 := rfl
def L49_5 : List AStep := ⟨.faddr 1 (.t 2), (some 13), none, []⟩ :: ⟨.load 2 true (.t 13), (some 14), none, []⟩ :: L49_4
theorem v49_5 : VS L49_5.eq_1 := rfl
def L49_6 : List AStep := ⟨.faddr 0 (.t 2), (some 11), none, []⟩ :: ⟨.load 1 true (.t 11), (some 12), none, []⟩ :: L49_5
theorem v49_6 : VS L49_6.eq_1 := rfl
def L49_7 : List AStep := [⟨.mov (.t 6), (some 18), none, []⟩, ⟨.not (.t 18), (some 19), none, []⟩]
theorem v49_7 : VS L49_7.eq_1 := rfl
def L49_8 : List AStep := [⟨.mov (.c (.sl none 0 (some 0))), (some 4), none, []⟩]
theorem v49_8 : VS L49_8.eq_1 := rfl
def L49_9 : List AStep := [⟨.mov (.c (.sl none 0 (some 0))), (some 7), none, []⟩]
theorem v49_9 : VS L49_9.eq_1 := rfl
def L49_10 : List AStep := [⟨.mov (.c (.int .i64 0)), (some 24), none, []⟩]
theorem v49_10 : VS L49_10.eq_1 := rfl
def L49_11 : List AStep := ⟨.load 1 false (.t 21), (some 22), none, []⟩ :: ⟨.len (.t 22), (some 23), none, []⟩ :: L49_10
theorem v49_11 : VS L49_11.eq_1 := rfl
def L49_12 : List AStep := ⟨.faddr 0 (.t 2), (some 20), none, []⟩ :: ⟨.faddr 0 (.t 20), (some 21), none, []⟩ :: L49_11
theorem v49_12 : VS L49_12.eq_1 := rfl
def L49_13 : List AStep := [⟨.bin .lss (.t 24) (.t 23), (some 25), none, []⟩]
theorem v49_13 : VS L49_13.eq_1 := rfl
def L49_14 : List AStep := [⟨.mov (.t 26), (some 8), none, []⟩, ⟨.store 4 (.t 9) (.t 28), none, none, []⟩]
theorem v49_14 : VS L49_14.eq_1 := rfl
def L49_15 : List AStep := ⟨.load 4 true (.t 27), (some 28), none, []⟩ :: ⟨.alloc 44 [(.str (strOfNums [])), (.int .i64 0), (.bool false), (.int .i64 0)], (some 9), none, []⟩ :: L49_14
theorem v49_15 : VS L49_15.eq_1 := rfl
def L49_16 : List AStep := ⟨.mov (.t 24), (some 26), none, []⟩ :: ⟨.iaddr 4 (.t 22) (.t 24), (some 27), none, []⟩ :: L49_15
theorem v49_16 : VS L49_16.eq_1 := rfl
def L49_17 : List AStep := [⟨.callv (.t 41) [(.t 42)], (some 43), (some (40, true)), []⟩, ⟨.pick (.t 40) (.t 43) (.c (.bool false)), (some 44), none, []⟩]
theorem v49_17 : VS L49_17.eq_1 := rfl
def L49_18 : List AStep := ⟨.mov (.t 1), (some 41), (some (40, true)), []⟩ :: ⟨.load 4 true (.t 9), (some 42), (some (40, true)), []⟩ :: L49_17
theorem v49_18 : VS L49_18.eq_1 := rfl
def L49_19 : List AStep := ⟨.pick (.t 31) (.t 38) (.c (.bool false)), (some 39), none, []⟩ :: ⟨.mov (.t 39), (some 40), none, []⟩ :: L49_18
theorem v49_19 : VS L49_19.eq_1 := rfl
def L49_20 : List AStep := ⟨.load 1 false (.t 36), (some 37), (some (31, true)), []⟩ :: ⟨.not (.t 37), (some 38), (some (31, true)), []⟩ :: L49_19
theorem v49_20 : VS L49_20.eq_1 := rfl
def L49_21 : List AStep := ⟨.iaddr 3 (.t 33) (.t 34), (some 35), (some (31, true)), []⟩ :: ⟨.faddr 0 (.t 35), (some 36), (some (31, true)), []⟩ :: L49_20
theorem v49_21 : VS L49_21.eq_1 := rfl
def L49_22 : List AStep := ⟨.load 1 false (.t 32), (some 33), (some (31, true)), []⟩ :: ⟨.mov (.t 8), (some 34), (some (31, true)), []⟩ :: L49_21
theorem v49_22 : VS L49_22.eq_1 := rfl
def L49_23 : List AStep := ⟨.mov (.t 30), (some 31), none, []⟩ :: ⟨.faddr 0 (.t 5), (some 32), (some (31, true)), []⟩ :: L49_22
theorem v49_23 : VS L49_23.eq_1 := rfl
def L49_24 : List AStep := ⟨.load 4 true (.t 9), (some 29), none, []⟩ :: ⟨.call 69 [(.t 29)], (some 30), none, []⟩ :: L49_23
theorem v49_24 : VS L49_24.eq_1 := rfl
def L49_25 : List AStep := [⟨.append 9 1 16 (.t 45) (.t 48), (some 49), none, []⟩, ⟨.mov (.t 49), (some 7), none, []⟩]
theorem v49_25 : VS L49_25.eq_1 := rfl
def L49_26 : List AStep := ⟨.load 1 false (.t 46), (some 47), none, []⟩ :: ⟨.buildSlice 9 1 [(.str (strOfNums []))] [(0, 1, (.t 47))], (some 48), none, []⟩ :: L49_25
theorem v49_26 : VS L49_26.eq_1 := rfl
def L49_27 : List AStep := ⟨.mov (.t 7), (some 45), none, []⟩ :: ⟨.faddr 0 (.t 9), (some 46), none, []⟩ :: L49_26
theorem v49_27 : VS L49_27.eq_1 := rfl
def L49_28 : List AStep := [⟨.bin .add (.t 24) (.c (.int .i64 1)), (some 50), none, []⟩, ⟨.mov (.t 50), (some 24), none, []⟩]
theorem v49_28 : VS L49_28.eq_1 := rfl
def L49_29 : List AStep := [⟨.mov (.t 52), (some 4), none, []⟩]
theorem v49_29 : VS L49_29.eq_1 := rfl
def L49_30 : List AStep := ⟨.mov (.t 7), (some 51), none, []⟩ :: ⟨.call 95 [(.t 51)], (some 52), none, []⟩ :: L49_29
theorem v49_30 : VS L49_30.eq_1 := rfl
def C49_0 : ACode := .seq (.reg L49_8) .ret
theorem u49_0 : VC C49_0.eq_1 := rfl
def C49_1 : ACode := .cond (.t 19) C49_0 .skip
theorem u49_1 : VC C49_1.eq_1 := rfl
def C49_2 : ACode := .seq (.reg L49_7) C49_1
theorem u49_2 : VC C49_2.eq_1 := rfl
def C49_3 : ACode := .cond (.t 25) .skip (.exit 0)
theorem u49_3 : VC C49_3.eq_1 := rfl
def C49_4 : ACode := .cond (.t 44) (.reg L49_27) .skip
theorem u49_4 : VC C49_4.eq_1 := rfl
def C49_5 : ACode := .seq (.reg L49_24) C49_4
theorem u49_5 : VC C49_5.eq_1 := rfl
def C49_6 : ACode := .seq (.reg L49_16) C49_5
theorem u49_6 : VC C49_6.eq_1 := rfl
def C49_7 : ACode := .block 1 C49_6
theorem u49_7 : VC C49_7.eq_1 := rfl
def C49_8 : ACode := .seq C49_7 (.reg L49_28)
theorem u49_8 : VC C49_8.eq_1 := rfl
def C49_9 : ACode := .seq C49_3 C49_8
theorem u49_9 : VC C49_9.eq_1 := rfl
def C49_10 : ACode := .seq (.reg L49_13) C49_9
theorem u49_10 : VC C49_10.eq_1 := rfl
def C49_11 : ACode := .block 0 (.loop C49_10)
theorem u49_11 : VC C49_11.eq_1 := rfl
def C49_12 : ACode := .seq (.reg L49_12) C49_11
theorem u49_12 : VC C49_12.eq_1 := rfl
def C49_13 : ACode := .seq (.reg L49_30) .ret
theorem u49_13 : VC C49_13.eq_1 := rfl
def C49_14 : ACode := .seq C49_12 C49_13
theorem u49_14 : VC C49_14.eq_1 := rfl
def C49_15 : ACode := .seq (.reg L49_9) C49_14
theorem u49_15 : VC C49_15.eq_1 := rfl
def C49_16 : ACode := .seq C49_2 C49_15
theorem u49_16 : VC C49_16.eq_1 := rfl
def C49_17 : ACode := .seq (.reg L49_6) C49_16
theorem u49_17 : VC C49_17.eq_1 := rfl
def C49_18 : ACode := .seq (.reg L49_0) C49_17
theorem u49_18 : VC C49_18.eq_1 := rfl
def F49 : AFunc := ⟨53, [.tmp 4], C49_18⟩
theorem cF49 : compB Try.prog 49 = some F49 := by kernel_rfl
attribute [local go_sem ↓] u49_0 u49_1 u49_2 u49_3 u49_4 u49_5 u49_6 u49_7 u49_8 u49_9 u49_10 u49_11 u49_12 u49_13 u49_14 u49_15 u49_16 u49_17 u49_18 v49_0 v49_1 v49_2 v49_3 v49_4 v49_5 v49_6 v49_7 v49_8 v49_9 v49_10 v49_11 v49_12 v49_13 v49_14 v49_15 v49_16 v49_17 v49_18 v49_19 v49_20 v49_21 v49_22 v49_23 v49_24 v49_25 v49_26 v49_27 v49_28 v49_29 v49_30
theorem c_free (x : Part) (f : Nat) (may : Param → Bool) (hf : ∀ x h, bm Try.prog f [.agg (encQ x)] h = some (ib (may x), h)) (q p n : CV) (h : H) (a : SlD h q p n x) (m : miniD x) : callK (bm Try.prog 49 [.agg [q, p, n], .one (.fn f [])] h) fun r h' => Grow h h' ∧ ∃ w, r = .one w ∧ NwZ h h' w (freeF may x.sig x.flat) := by
  refine bm_of cF49 ?_
  simp +contextual (maxSteps := 2000000) only [go_sem, Nat.reduceEqDiff, reduceCtorEq, Nat.reduceAdd, Nat.reduceLeDiff, F49]
  refine wp_call (k_iBindPart x.sig x.flat q p n h a.g a.f m.g m.f) ?_
  rintro r h1 ⟨g1, v, rs, rfl, y0⟩
  unfold freeF
  unfold bindPartF at y0
  cases b1 : partOk x.sig x.flat with
  | false =>
    simp +contextual (maxSteps := 2000000) only [go_sem, Nat.reduceEqDiff, reduceCtorEq, Nat.reduceAdd, Nat.reduceLeDiff, if_false]
    exact gcK_of ⟨g1, _, rfl, ⟨.nil⟩⟩ (fun hs _ => ⟨Grow.refl h, _, rfl, ⟨.nil⟩⟩)
  | true =>
  rw [if_pos b1] at y0
  obtain ⟨ok1, ok2⟩ := part_fits b1
  have hn := okSig_len ok1
  have k1 := a.g.out.grow g1
  simp +contextual (maxSteps := 2000000) only [go_sem, Nat.reduceEqDiff, reduceCtorEq, Nat.reduceAdd, Nat.reduceLeDiff, k1.len, if_true]
  refine wpC_loop (fun i T L h' => Grow h1 h' ∧ T 1 = .v (.one (.fn f [])) ∧ T 5 = .lp 5 0 ∧ (L 5).2 = [v] ∧ (∃ w, T 7 = .v (.one w) ∧ NwS h1 h' (.one w) (pickF (isFree may x.sig (boundS x.sig x.flat)) (nameAt x.sig) i)) ∧ T 22 = .v (.one q) ∧ T 23 = .v (.one (.int .i64 x.sig.length)) ∧ T 24 = .v (.one (.int .i64 i))) x.sig.length ?_ ?_ (Nat.zero_le _) ?_
  · rintro i T L h' hi ⟨g, t1, t5, l5, ⟨w, t7, z⟩, t22, t23, t24⟩
    have k := k1.grow g
    have y := y0.out.rd.grow g
    have hsl : i < (boundS x.sig x.flat).length := by rw [boundS_len]; exact hi
    have hrs : i < rs.length := by rw [y.len]; exact hsl
    have ye := y.el i hrs
    rw [getY_eq hsl] at ye
    have yi : iaddrO 3 (.one v) (.one (.int .i64 i)) = some (.one (.ptr (some (elem 3 (.one v) i)))) := y.out.iaddr hrs
    have yg := y.out.fieldO (off := 0) hrs (by omega)
    rw [encY_0, ye.given] at yg
    have es := fun h => c_single x.sig[i] h
    have em := fun h => hf x.sig[i] h
    simp only [encQ] at es em
    have el := isFree_eq (q := may) hi hsl
    have pn := pickF_next (t := isFree may x.sig (boundS x.sig x.flat)) (nm := nameAt x.sig) (i := i)
    have pl := pickF_len (t := isFree may x.sig (boundS x.sig x.flat)) (nm := nameAt x.sig) (i := i)
    cases b1 : single x.sig[i] with
    | false =>
      rw [b1, Bool.false_and] at el
      rw [el, if_neg (by simp), List.append_nil] at pn
      simp +contextual (maxSteps := 2000000) only [go_sem, Nat.reduceEqDiff, reduceCtorEq, Nat.reduceAdd, Nat.reduceLeDiff, t1, t5, l5, t7, t22, t23, t24, lt_true hi, k.iaddr hi, k.whole hi, encQ, es, b1]
      exact ⟨g, ⟨w, rfl, by rw [pn]; exact z⟩, by rw [wrap_next hi (by omega)]⟩
    | true =>
    cases b2 : (boundS x.sig x.flat)[i].given with
    | true =>
      rw [b1, b2, Bool.true_and, Bool.not_true, Bool.false_and] at el
      rw [el, if_neg (by simp), List.append_nil] at pn
      rw [b2] at yg
      simp +contextual (maxSteps := 2000000) only [go_sem, Nat.reduceEqDiff, reduceCtorEq, Nat.reduceAdd, Nat.reduceLeDiff, t1, t5, l5, t7, t22, t23, t24, lt_true hi, k.iaddr hi, k.whole hi, encQ, es, b1, yi, yg]
      exact ⟨g, ⟨w, rfl, by rw [pn]; exact z⟩, by rw [wrap_next hi (by omega)]⟩
    | false =>
    rw [b2] at yg
    rw [b1, b2, Bool.true_and, Bool.not_false, Bool.true_and] at el
    cases b3 : may x.sig[i] with
    | false =>
      rw [b3] at el
      rw [el, if_neg (by simp), List.append_nil] at pn
      simp +contextual (maxSteps := 2000000) only [go_sem, Nat.reduceEqDiff, reduceCtorEq, Nat.reduceAdd, Nat.reduceLeDiff, t1, t5, l5, t7, t22, t23, t24, lt_true hi, k.iaddr hi, k.whole hi, encQ, es, b1, yi, yg, em, b3]
      exact ⟨g, ⟨w, rfl, by rw [pn]; exact z⟩, by rw [wrap_next hi (by omega)]⟩
    | true =>
      rw [b3] at el
      rw [el, if_pos rfl, nameAt_eq hi] at pn
      simp +contextual (maxSteps := 2000000) only [go_sem, Nat.reduceEqDiff, reduceCtorEq, Nat.reduceAdd, Nat.reduceLeDiff, t1, t5, l5, t7, t22, t23, t24, lt_true hi, k.iaddr hi, k.whole hi, encQ, es, b1, yi, yg, em, b3]
      refine wp_lit (enc := encS) (k := 1) (l := [x.sig[i].name]) rfl rfl ?_
      intro h3 w3 g3 n3 _
      simp +contextual (maxSteps := 2000000) only [go_sem, Nat.reduceEqDiff, reduceCtorEq, Nat.reduceAdd, Nat.reduceLeDiff, t1, t5, l5, t7, t22, t23, t24]
      refine wp_append lenS (z.grow g3) (n3.sl lenS) (g.trans g3) (by simp; omega) ?_
      intro h4 s4 g4 n4 st4 hb4
      obtain ⟨c4, rfl⟩ := n4.one
      simp +contextual (maxSteps := 2000000) only [go_sem, Nat.reduceEqDiff, reduceCtorEq, Nat.reduceAdd, Nat.reduceLeDiff, t1, t5, l5, t7, t22, t23, t24]
      exact ⟨g4, ⟨c4, rfl, by rw [pn]; exact n4⟩, by rw [wrap_next hi (by omega)]⟩
  · rintro T L h' ⟨g, t1, t5, l5, ⟨w, t7, z⟩, t22, t23, t24⟩
    simp +contextual (maxSteps := 2000000) only [go_sem, Nat.reduceEqDiff, reduceCtorEq, Nat.reduceAdd, Nat.reduceLeDiff, t1, t5, l5, t7, t22, t23, t24, lt_false]
    refine wp_call (c_clipS _ _ h' z) ?_
    rintro r h2 ⟨rfl, n2⟩
    obtain ⟨c, rfl⟩ := n2.one
    have n3 := n2.from g1.n
    simp +contextual (maxSteps := 2000000) only [go_sem, Nat.reduceEqDiff, reduceCtorEq, Nat.reduceAdd, Nat.reduceLeDiff]
    exact gcK_of ⟨g1.trans g, _, rfl, ⟨n3⟩⟩ (fun hs _ => ⟨Grow.refl h, _, rfl, ⟨n3.scalar (by simpa [AV.scalar] using hs) h⟩⟩)
  · simp +contextual (maxSteps := 2000000) only [go_sem, Nat.reduceEqDiff, reduceCtorEq, Nat.reduceAdd, Nat.reduceLeDiff]
    exact ⟨Grow.refl h1, ⟨_, rfl, .nil⟩, rfl⟩
/-! impl.FreeParams$1 -/
def L50_0 : List AStep := [⟨.box 44 (.t 0), (some 1), none, []⟩, ⟨.mov (.c (.bool false)), (some 2), none, []⟩]
theorem v50_0 : VS L50_0.eq_1 := rfl
def L50_1 : List AStep := [⟨.mov (.c (.bool true)), (some 2), none, []⟩]
theorem v50_1 : VS L50_1.eq_1 := rfl
def C50_0 : ACode := .seq (.reg L50_1) .ret
theorem u50_0 : VC C50_0.eq_1 := rfl
def C50_1 : ACode := .seq (.reg L50_0) C50_0
theorem u50_1 : VC C50_1.eq_1 := rfl
def F50 : AFunc := ⟨3, [.tmp 2], C50_1⟩
theorem cF50 : compB Try.prog 50 = some F50 := by kernel_rfl
attribute [local go_sem ↓] u50_0 u50_1 v50_0 v50_1
theorem c_Free1 (x : Param) (h : H) : bm Try.prog 50 [.agg (encQ x)] h = some (ib true, h) := by
  refine bm_eq cF50 ?_
  simp +contextual (maxSteps := 2000000) only [go_sem, Nat.reduceEqDiff, reduceCtorEq, Nat.reduceAdd, Nat.reduceLeDiff, F50]
/-! impl.FreeParams -/
def L10_0 : List AStep := [⟨.box 31 (.t 0), (some 1), none, []⟩, ⟨.mov (.c (.sl none 0 (some 0))), (some 2), none, []⟩]
theorem v10_0 : VS L10_0.eq_1 := rfl
def L10_1 : List AStep := [⟨.mov (.t 4), (some 2), none, []⟩]
theorem v10_1 : VS L10_1.eq_1 := rfl
def L10_2 : List AStep := ⟨.load 3 true (.t 1), (some 3), none, []⟩ :: ⟨.call 49 [(.t 3), (.c (.fn 50 []))], (some 4), none, []⟩ :: L10_1
theorem v10_2 : VS L10_2.eq_1 := rfl
def C10_0 : ACode := .seq (.reg L10_2) .ret
theorem u10_0 : VC C10_0.eq_1 := rfl
def C10_1 : ACode := .seq (.reg L10_0) C10_0
theorem u10_1 : VC C10_1.eq_1 := rfl
def F10 : AFunc := ⟨5, [.tmp 2], C10_1⟩
theorem cF10 : compB Try.prog 10 = some F10 := by kernel_rfl
attribute [local go_sem ↓] u10_0 u10_1 v10_0 v10_1 v10_2
theorem k_iFreeParams (x : Part) (q p n : CV) (h : H) (a : SlD h q p n x) (m : miniD x) : callK (bm Try.prog 10 [.agg [q, p, n]] h) fun r h' => Grow h h' ∧ ∃ w, r = .one w ∧ NwZ h h' w (freeAll x.sig x.flat) := by
  refine bm_of cF10 ?_
  simp +contextual (maxSteps := 2000000) only [go_sem, Nat.reduceEqDiff, reduceCtorEq, Nat.reduceAdd, Nat.reduceLeDiff, F10]
  refine wp_call (c_free x 50 (fun _ => true) (fun x h => c_Free1 x h) q p n h a m) ?_
  rintro r h1 ⟨g1, w, rfl, z⟩
  simp +contextual (maxSteps := 2000000) only [go_sem, Nat.reduceEqDiff, reduceCtorEq, Nat.reduceAdd, Nat.reduceLeDiff]
  exact gcK_of ⟨g1, _, rfl, z⟩ (fun hs _ => ⟨Grow.refl h, _, rfl, ⟨z.out.scalar (by simpa [AV.scalar] using hs) h⟩⟩)
/-! impl.LackOf$1 -/
def L58_0 : List AStep := [⟨.box 44 (.t 0), (some 1), none, []⟩, ⟨.mov (.c (.bool false)), (some 2), none, []⟩]
theorem v58_0 : VS L58_0.eq_1 := rfl
def L58_1 : List AStep := [⟨.not (.t 4), (some 5), none, []⟩, ⟨.mov (.t 5), (some 2), none, []⟩]
theorem v58_1 : VS L58_1.eq_1 := rfl
def L58_2 : List AStep := ⟨.faddr 2 (.t 1), (some 3), none, []⟩ :: ⟨.load 1 false (.t 3), (some 4), none, []⟩ :: L58_1
theorem v58_2 : VS L58_2.eq_1 := rfl
def C58_0 : ACode := .seq (.reg L58_2) .ret
theorem u58_0 : VC C58_0.eq_1 := rfl
def C58_1 : ACode := .seq (.reg L58_0) C58_0
theorem u58_1 : VC C58_1.eq_1 := rfl
def F58 : AFunc := ⟨6, [.tmp 2], C58_1⟩
theorem cF58 : compB Try.prog 58 = some F58 := by kernel_rfl
attribute [local go_sem ↓] u58_0 u58_1 v58_0 v58_1 v58_2
theorem c_Lack1 (x : Param) (h : H) : bm Try.prog 58 [.agg (encQ x)] h = some (ib (!x.has), h) := by
  refine bm_eq cF58 ?_
  simp +contextual (maxSteps := 2000000) only [go_sem, Nat.reduceEqDiff, reduceCtorEq, Nat.reduceAdd, Nat.reduceLeDiff, F58]
/-! impl.LackOf -/
def L18_0 : List AStep := [⟨.box 31 (.t 0), (some 1), none, []⟩, ⟨.mov (.c (.sl none 0 (some 0))), (some 2), none, []⟩]
theorem v18_0 : VS L18_0.eq_1 := rfl
def L18_1 : List AStep := [⟨.mov (.t 4), (some 2), none, []⟩]
theorem v18_1 : VS L18_1.eq_1 := rfl
def L18_2 : List AStep := ⟨.load 3 true (.t 1), (some 3), none, []⟩ :: ⟨.call 49 [(.t 3), (.c (.fn 58 []))], (some 4), none, []⟩ :: L18_1
theorem v18_2 : VS L18_2.eq_1 := rfl
def C18_0 : ACode := .seq (.reg L18_2) .ret
theorem u18_0 : VC C18_0.eq_1 := rfl
def C18_1 : ACode := .seq (.reg L18_0) C18_0
theorem u18_1 : VC C18_1.eq_1 := rfl
def F18 : AFunc := ⟨5, [.tmp 2], C18_1⟩
theorem cF18 : compB Try.prog 18 = some F18 := by kernel_rfl
attribute [local go_sem ↓] u18_0 u18_1 v18_0 v18_1 v18_2
theorem k_iLackOf (x : Part) (q p n : CV) (h : H) (a : SlD h q p n x) (m : miniD x) : callK (bm Try.prog 18 [.agg [q, p, n]] h) fun r h' => Grow h h' ∧ ∃ w, r = .one w ∧ NwZ h h' w (lackF x.sig x.flat) := by
  refine bm_of cF18 ?_
  simp +contextual (maxSteps := 2000000) only [go_sem, Nat.reduceEqDiff, reduceCtorEq, Nat.reduceAdd, Nat.reduceLeDiff, F18]
  refine wp_call (c_free x 58 (fun p => !p.has) (fun x h => c_Lack1 x h) q p n h a m) ?_
  rintro r h1 ⟨g1, w, rfl, z⟩
  simp +contextual (maxSteps := 2000000) only [go_sem, Nat.reduceEqDiff, reduceCtorEq, Nat.reduceAdd, Nat.reduceLeDiff]
  exact gcK_of ⟨g1, _, rfl, z⟩ (fun hs _ => ⟨Grow.refl h, _, rfl, ⟨z.out.scalar (by simpa [AV.scalar] using hs) h⟩⟩)
/-! spec.LackOf -/
def L19_0 : List AStep := [⟨.box 31 (.t 0), (some 1), none, []⟩, ⟨.mov (.c (.sl none 0 (some 0))), (some 2), none, []⟩]
theorem v19_0 : VS L19_0.eq_1 := rfl
def L19_1 : List AStep := [⟨.not (.t 7), (some 8), none, []⟩]
theorem v19_1 : VS L19_1.eq_1 := rfl
def L19_2 : List AStep := ⟨.load 3 true (.t 1), (some 6), none, []⟩ :: ⟨.call 51 [(.t 6)], (some 7), none, []⟩ :: L19_1
theorem v19_2 : VS L19_2.eq_1 := rfl
def L19_3 : List AStep := [⟨.mov (.c (.sl none 0 (some 0))), (some 2), none, []⟩]
theorem v19_3 : VS L19_3.eq_1 := rfl
def L19_4 : List AStep := [⟨.buildSlice 9 0 [(.str (strOfNums []))] [], (some 9), none, []⟩, ⟨.mov (.t 9), (some 3), none, []⟩]
theorem v19_4 : VS L19_4.eq_1 := rfl
def L19_5 : List AStep := [⟨.call 59 [(.t 11), (.t 13)], (some 14), none, []⟩, ⟨.mov (.t 14), (some 4), none, []⟩]
theorem v19_5 : VS L19_5.eq_1 := rfl
def L19_6 : List AStep := ⟨.faddr 1 (.t 1), (some 12), none, []⟩ :: ⟨.load 2 true (.t 12), (some 13), none, []⟩ :: L19_5
theorem v19_6 : VS L19_6.eq_1 := rfl
def L19_7 : List AStep := ⟨.faddr 0 (.t 1), (some 10), none, []⟩ :: ⟨.load 1 true (.t 10), (some 11), none, []⟩ :: L19_6
theorem v19_7 : VS L19_7.eq_1 := rfl
def L19_8 : List AStep := [⟨.mov (.c (.int .i64 0)), (some 5), none, []⟩]
theorem v19_8 : VS L19_8.eq_1 := rfl
def L19_9 : List AStep := [⟨.len (.t 16), (some 17), none, []⟩, ⟨.bin .lss (.t 15) (.t 17), (some 18), none, []⟩]
theorem v19_9 : VS L19_9.eq_1 := rfl
def L19_10 : List AStep := ⟨.mov (.t 5), (some 15), none, []⟩ :: ⟨.mov (.t 4), (some 16), none, []⟩ :: L19_9
theorem v19_10 : VS L19_10.eq_1 := rfl
def L19_11 : List AStep := [⟨.mov (.t 28), (some 3), none, []⟩]
theorem v19_11 : VS L19_11.eq_1 := rfl
def L19_12 : List AStep := ⟨.buildSlice 9 1 [(.str (strOfNums []))] [(0, 1, (.t 26))], (some 27), none, []⟩ :: ⟨.append 9 1 16 (.t 21) (.t 27), (some 28), none, []⟩ :: L19_11
theorem v19_12 : VS L19_12.eq_1 := rfl
def L19_13 : List AStep := ⟨.faddr 1 (.t 24), (some 25), none, []⟩ :: ⟨.load 1 false (.t 25), (some 26), none, []⟩ :: L19_12
theorem v19_13 : VS L19_13.eq_1 := rfl
def L19_14 : List AStep := ⟨.mov (.t 5), (some 23), none, []⟩ :: ⟨.iaddr 2 (.t 22) (.t 23), (some 24), none, []⟩ :: L19_13
theorem v19_14 : VS L19_14.eq_1 := rfl
def L19_15 : List AStep := ⟨.mov (.t 3), (some 21), none, []⟩ :: ⟨.mov (.t 4), (some 22), none, []⟩ :: L19_14
theorem v19_15 : VS L19_15.eq_1 := rfl
def L19_16 : List AStep := [⟨.mov (.t 20), (some 5), none, []⟩]
theorem v19_16 : VS L19_16.eq_1 := rfl
def L19_17 : List AStep := ⟨.mov (.t 5), (some 19), none, []⟩ :: ⟨.bin .add (.t 19) (.c (.int .i64 1)), (some 20), none, []⟩ :: L19_16
theorem v19_17 : VS L19_17.eq_1 := rfl
def L19_18 : List AStep := [⟨.mov (.t 3), (some 29), none, []⟩, ⟨.mov (.t 29), (some 2), none, []⟩]
theorem v19_18 : VS L19_18.eq_1 := rfl
def C19_0 : ACode := .seq (.reg L19_3) .ret
theorem u19_0 : VC C19_0.eq_1 := rfl
def C19_1 : ACode := .cond (.t 8) C19_0 .skip
theorem u19_1 : VC C19_1.eq_1 := rfl
def C19_2 : ACode := .seq (.reg L19_2) C19_1
theorem u19_2 : VC C19_2.eq_1 := rfl
def C19_3 : ACode := .cond (.t 18) .skip (.exit 0)
theorem u19_3 : VC C19_3.eq_1 := rfl
def C19_4 : ACode := .seq (.reg L19_10) C19_3
theorem u19_4 : VC C19_4.eq_1 := rfl
def C19_5 : ACode := .block 1 (.reg L19_15)
theorem u19_5 : VC C19_5.eq_1 := rfl
def C19_6 : ACode := .seq C19_5 (.reg L19_17)
theorem u19_6 : VC C19_6.eq_1 := rfl
def C19_7 : ACode := .seq C19_4 C19_6
theorem u19_7 : VC C19_7.eq_1 := rfl
def C19_8 : ACode := .block 0 (.loop C19_7)
theorem u19_8 : VC C19_8.eq_1 := rfl
def C19_9 : ACode := .seq (.reg L19_8) C19_8
theorem u19_9 : VC C19_9.eq_1 := rfl
def C19_10 : ACode := .seq (.reg L19_18) .ret
theorem u19_10 : VC C19_10.eq_1 := rfl
def C19_11 : ACode := .seq C19_9 C19_10
theorem u19_11 : VC C19_11.eq_1 := rfl
def C19_12 : ACode := .seq (.reg L19_7) C19_11
theorem u19_12 : VC C19_12.eq_1 := rfl
def C19_13 : ACode := .seq (.reg L19_4) C19_12
theorem u19_13 : VC C19_13.eq_1 := rfl
def C19_14 : ACode := .seq C19_2 C19_13
theorem u19_14 : VC C19_14.eq_1 := rfl
def C19_15 : ACode := .seq (.reg L19_0) C19_14
theorem u19_15 : VC C19_15.eq_1 := rfl
def F19 : AFunc := ⟨30, [.tmp 2], C19_15⟩
theorem cF19 : compB Try.prog 19 = some F19 := by kernel_rfl
attribute [local go_sem ↓] u19_0 u19_1 u19_2 u19_3 u19_4 u19_5 u19_6 u19_7 u19_8 u19_9 u19_10 u19_11 u19_12 u19_13 u19_14 u19_15 v19_0 v19_1 v19_2 v19_3 v19_4 v19_5 v19_6 v19_7 v19_8 v19_9 v19_10 v19_11 v19_12 v19_13 v19_14 v19_15 v19_16 v19_17 v19_18
theorem k_sLackOf (x : Part) (q p n : CV) (h : H) (a : SlD h q p n x) (m : miniD x) : callK (bm Try.prog 19 [.agg [q, p, n]] h) fun r h' => Grow h h' ∧ ∃ w, r = .one w ∧ NwZ h h' w (lackF x.sig x.flat) := by
  refine bm_of cF19 ?_
  have vp := c_validPartial x.sig x.flat q p n h a.g a.f m.g m.f
  cases b1 : partOk x.sig x.flat with
  | false =>
    rw [b1] at vp
    have e : lackF x.sig x.flat = [] := by unfold lackF freeF; rw [if_neg (by simp [b1])]
    rw [e]
    simp +contextual (maxSteps := 2000000) only [go_sem, Nat.reduceEqDiff, reduceCtorEq, Nat.reduceAdd, Nat.reduceLeDiff, F19, vp]
    exact ⟨Grow.refl h, _, rfl, ⟨.nil⟩⟩
  | true =>
  rw [b1] at vp
  rw [lack_names b1]
  obtain ⟨ok1, ok2⟩ := part_fits b1
  have hn := okSig_len ok1
  have hw : (wrong x.sig x.flat).length ≤ 100 := by
    obtain ⟨hb1, hb2, hb3⟩ := okFlat_sm ok2
    have h1 := (BOk.nameF (l := x.sig) (f := x.flat) hb3 (Nat.le_refl _)).bad
    have h2 := missF_len (l := x.sig) (sl := boundS x.sig x.flat) (i := x.sig.length)
    unfold wrong boundB missing
    rw [List.length_append]
    omega
  simp +contextual (maxSteps := 2000000) only [go_sem, Nat.reduceEqDiff, reduceCtorEq, Nat.reduceAdd, Nat.reduceLeDiff, F19, vp]
  refine wp_lit (enc := encS) (k := 1) (l := []) rfl rfl ?_
  intro h1 w g1 n1 _
  obtain ⟨w, rfl⟩ := n1.one
  simp +contextual (maxSteps := 2000000) only [go_sem, Nat.reduceEqDiff, reduceCtorEq, Nat.reduceAdd, Nat.reduceLeDiff]
  refine wp_call (c_problems x.sig x.flat q p n h1 (a.g.out.grow g1) (a.f.grow g1) ok1 ok2) ?_
  rintro r h2 ⟨g2, y0⟩
  obtain ⟨v, rfl⟩ := y0.one
  simp +contextual (maxSteps := 2000000) only [go_sem, Nat.reduceEqDiff, reduceCtorEq, Nat.reduceAdd, Nat.reduceLeDiff]
  refine wpC_loop (fun i T L h' => Grow h h' ∧ h2.n ≤ h'.n ∧ NwB h1 h' (.one v) (wrong x.sig x.flat) ∧ (∃ w, T 3 = .v (.one w) ∧ NwS h h' (.one w) (((wrong x.sig x.flat).take i).map Problem.name) ∧ ∀ j, baseOf (.one w) = some j → j < h1.n ∨ h2.n ≤ j) ∧ T 4 = .v (.one v) ∧ T 5 = .v (.one (.int .i64 i))) (wrong x.sig x.flat).length ?_ ?_ (Nat.zero_le _) ?_
  · rintro i T L h' hi ⟨gh, gn, yy, ⟨w, t3, z, zb⟩, t4, t5⟩
    have y := yy.sl lenB
    simp +contextual (maxSteps := 2000000) only [go_sem, Nat.reduceEqDiff, reduceCtorEq, Nat.reduceAdd, Nat.reduceLeDiff, t3, t4, t5, y.len, y.iaddr hi, y.fieldO hi, lt_true hi]
    refine wp_lit (enc := encS) (k := 1) (l := [(wrong x.sig x.flat)[i].name]) rfl rfl ?_
    intro h3 w3 g3 n3 _
    simp +contextual (maxSteps := 2000000) only [go_sem, Nat.reduceEqDiff, reduceCtorEq, Nat.reduceAdd, Nat.reduceLeDiff, t3, t4, t5]
    refine wp_append lenS (z.grow g3) (n3.sl lenS) (gh.trans g3) (by simp; omega) ?_
    intro h4 s4 g4 n4 st4 hb4
    obtain ⟨c4, rfl⟩ := n4.one
    simp +contextual (maxSteps := 2000000) only [go_sem, Nat.reduceEqDiff, reduceCtorEq, Nat.reduceAdd, Nat.reduceLeDiff, t3, t4, t5]
    refine ⟨g4, (by show h2.n ≤ h4.n; have := g3.n; have := st4.n; omega), (yy.grow g3).stay st4 fun j hj e => by have := y0.lt hj; have := zb j e; omega, ⟨c4, rfl, ?_, fun j hj => ?_⟩, by rw [wrap_next hi (by omega)]⟩
    · rw [List.take_succ_eq_append_getElem hi, List.map_append]
      exact n4
    · rcases hb4 j hj with e | e
      · exact zb j e
      · have := g3.n; right; omega
  · rintro T L h' ⟨gh, gn, yy, ⟨w, t3, z, zb⟩, t4, t5⟩
    rw [List.take_length] at z
    simp +contextual (maxSteps := 2000000) only [go_sem, Nat.reduceEqDiff, reduceCtorEq, Nat.reduceAdd, Nat.reduceLeDiff, t3, t4, t5, (yy.sl lenB).len, lt_false]
    exact gcK_of ⟨gh, _, rfl, ⟨z⟩⟩ (fun hs _ => ⟨Grow.refl h, _, rfl, ⟨z.scalar hs h⟩⟩)
  · simp +contextual (maxSteps := 2000000) only [go_sem, Nat.reduceEqDiff, reduceCtorEq, Nat.reduceAdd, Nat.reduceLeDiff]
    exact ⟨g1.trans g2, Nat.le_refl _, y0, ⟨_, rfl, n1.grow g2, fun j hj => .inl (n1.lt hj).1⟩, rfl⟩
end Go.Proofs.Ytekkimfdcbgcoac.Am
