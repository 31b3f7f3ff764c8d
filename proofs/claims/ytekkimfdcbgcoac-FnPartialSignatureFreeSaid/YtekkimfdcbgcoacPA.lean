/- Contracts: what is free in a partial call, and what a wrapper passes on, of both sides. -/
import Derived.Test.YtekkimfdcbgcoacBL
import Derived.Test.YtekkimfdcbgcoacHS
namespace Go.Proofs.Ytekkimfdcbgcoac.Am
open Go
set_option maxRecDepth 100000
set_option maxHeartbeats 4000000
set_option linter.unusedSimpArgs false
set_option linter.unusedVariables false
attribute [local go_sem ↓] bv_t bv_c ev_t ev_c put_same put_ne put_none kill_at pro_at lb_same lb_ne start_zero start_succ wpC_seq wpC_reg wpC_cond wpC_block wpC_skip wpC_exit wpC_ret thenQ_normal thenQ_exit thenQ_ret inBlk_normal inBlk_exit inBlk_ret wpS_nil wpS_step wpS_again wpS_guard wpO_mov wpO_load wpO_faddr wpO_nilCheck wpO_pick wpO_build wpO_bin wpO_eqb wpO_eqst wpO_eqnil wpO_not wpO_conv wpO_bytesStr wpO_iaddr wpO_idxStr wpO_field wpO_extract wpO_len wpO_lenStr wpO_cap wpO_min wpO_slice wpO_sliceStr wpO_alloc wpO_box wpO_store wpO_call wpO_callv wpO_mkfn wpO_buildSlice wpO_mkslice wpO_append wpO_appz proA_nil proA_cons tmpX_nil tmpX_tmp tmpX_cell doneB_normal doneB_ret agK_cons agK_nil agK_guard agG_tt agG_ff agG_tf agG_ft agG_undef pureB_load results_one results_two results_nil resBs_cons resBs_nil resB_tmp resB_cell
attribute [local go_sem] kill_v kill_lp_ne kill_lp_same pro_v pro_lp_same pro_lp_ne av_v av_lp optB_some optX_some valX_eq ldX_lp ldX_v faX_lp faX_v ncX_lp ncX_ptr ncX_fn boxK_one boxK_agg stL_some stK_lp_one stK_lp_agg stK_v_one stK_v_agg proM_v proM_lp callG_mk callVG_mk callvK_fn fnG_mk ptrsA_nil ptrsA_cons callH_some whenA_true whenA_false guardH_tt guardH_ff guardH_tf guardH_ft guardH_undef agV_one agV_agg lenO_sl lenStrO_str notO_bool pickO_bool convO_int eqbO_bool eqnilO_sl extractO_tup capO_sl minO_int loadL_one loadL_all storeL_eq fillA_nil fillA_one fillA_agg nat_ge neg_ge nat_lt neg_lt buildO bin_add bin_sub bin_mul bin_eql bin_neq bin_lss bin_leq bin_gtr bin_geq str_eql str_neq str_lss str_leq str_gtr str_geq retK_some endK_mk gcK_same gcK_int gcK_bool tupO_one tupO_agg rdy_self ib ii Option.map_none Option.map_some Option.some.injEq exists_eq_left' exists_eq_left ne_eq not_false_eq_true if_true if_false List.map_cons List.map_nil List.getElem?_cons_zero List.getElem?_cons_succ List.length_cons List.length_nil List.take_succ_cons List.take_zero List.take_nil List.drop_succ_cons List.drop_zero List.drop_nil List.cons_append List.nil_append List.append_nil List.set_cons_zero List.set_cons_succ Nat.zero_add forall_const true_and and_true and_self Bool.false_eq_true false_implies true_implies implies_true Bool.not_true Bool.not_false Bool.not_eq_true' Bool.not_eq_false' beq_self_eq_true Bool.bne_true Bool.bne_false
attribute [local go_sem] lenI lenS lenP lenQ lenB lenL lenT encI_0 encS_0 encP_0 encP_1 encQ_0 encQ_1 encQ_2 encQ_3 encB_0 encB_1 encL_0 encL_1 encT_0 encT_1
attribute [local go_sem low] whenA_bool guardH_bool
attribute [local go_sem] lenY encY_0 encY_1 encY_2 loadL_agg
/-! impl.free -/
def L49_0 : List AStep := [⟨.box 31 (.t 0), (some 2), none, []⟩, ⟨.mov (.c (.sl none 0 (some 0))), (some 4), none, []⟩]
theorem v49_0 : VS L49_0.eq_1 := rfl
def L49_1 : List AStep := [⟨.mov (.t 17), (some 6), none, []⟩]
theorem v49_1 : VS L49_1.eq_1 := rfl
def L49_2 : List AStep := ⟨.alloc 39 [(.sl none 0 (some 0))], (some 5), none, []⟩ :: ⟨.store 1 (.t 5) (.t 16), none, none, []⟩ :: L49_1
theorem v49_2 : VS L49_2.eq_1 := rfl
def L49_3 : List AStep := ⟨.extract (.t 10) 0, (some 16), none, []⟩ :: ⟨.extract (.t 10) 1, (some 17), none, []⟩ :: L49_2
theorem v49_3 : VS L49_3.eq_1 := rfl
def L49_4 : List AStep := ⟨.call 14 [(.t 12), (.t 14)], (some 15), none, []⟩ :: ⟨.mov (.t 15), (some 10), none, []⟩ :: L49_3
theorem v49_4 : VS L49_4.eq_1 := rfl
def L49_5 : List AStep := ⟨.faddr 1 (.t 2), (some 13), none, []⟩ :: ⟨.load 2 true (.t 13), (some 14), none, []⟩ :: L49_4
theorem v49_5 : VS L49_5.eq_1 := rfl
def L49_6 : List AStep := ⟨.faddr 0 (.t 2), (some 11), none, []⟩ :: ⟨.load 1 true (.t 11), (some 12), none, []⟩ :: L49_5
theorem v49_6 : VS L49_6.eq_1 := rfl
def L49_7 : List AStep := [⟨.mov (.t 6), (some 18), none, []⟩, ⟨.not (.t 18), (some 19), none, []⟩]
theorem v49_7 : VS L49_7.eq_1 := rfl
def L49_8 : List AStep := [⟨.mov (.c (.sl none 0 (some 0))), (some 4), none, []⟩]
theorem v49_8 : VS L49_8.eq_1 := rfl
def L49_9 : List AStep := [⟨.mov (.c (.sl none 0 (some 0))), (some 7), none, []⟩]
theorem v49_9 : VS L49_9.eq_1 := rfl
def L49_10 : List AStep := [⟨.mov (.c (.int .i64 0)), (some 24), none, []⟩]
theorem v49_10 : VS L49_10.eq_1 := rfl
def L49_11 : List AStep := ⟨.load 1 false (.t 21), (some 22), none, []⟩ :: ⟨.len (.t 22), (some 23), none, []⟩ :: L49_10
theorem v49_11 : VS L49_11.eq_1 := rfl
def L49_12 : List AStep := ⟨.faddr 0 (.t 2), (some 20), none, []⟩ :: ⟨.faddr 0 (.t 20), (some 21), none, []⟩ :: L49_11
theorem v49_12 : VS L49_12.eq_1 := rfl
def L49_13 : List AStep := [⟨.bin .lss (.t 24) (.t 23), (some 25), none, []⟩]
theorem v49_13 : VS L49_13.eq_1 := rfl
def L49_14 : List AStep := [⟨.mov (.t 26), (some 8), none, []⟩, ⟨.store 4 (.t 9) (.t 28), none, none, []⟩]
theorem v49_14 : VS L49_14.eq_1 := rfl
def L49_15 : List AStep := ⟨.load 4 true (.t 27), (some 28), none, []⟩ :: ⟨.alloc 44 [(.str (strOfNums [])), (.int .i64 0), (.bool false), (.int .i64 0)], (some 9), none, []⟩ :: L49_14
theorem v49_15 : VS L49_15.eq_1 := rfl
def L49_16 : List AStep := ⟨.mov (.t 24), (some 26), none, []⟩ :: ⟨.iaddr 4 (.t 22) (.t 24), (some 27), none, []⟩ :: L49_15
theorem v49_16 : VS L49_16.eq_1 := rfl
def L49_17 : List AStep := [⟨.callv (.t 41) [(.t 42)], (some 43), (some (40, true)), []⟩, ⟨.pick (.t 40) (.t 43) (.c (.bool false)), (some 44), none, []⟩]
theorem v49_17 : VS L49_17.eq_1 := rfl
def L49_18 : List AStep := ⟨.mov (.t 1), (some 41), (some (40, true)), []⟩ :: ⟨.load 4 true (.t 9), (some 42), (some (40, true)), []⟩ :: L49_17
theorem v49_18 : VS L49_18.eq_1 := rfl
def L49_19 : List AStep := ⟨.pick (.t 31) (.t 38) (.c (.bool false)), (some 39), none, []⟩ :: ⟨.mov (.t 39), (some 40), none, []⟩ :: L49_18
theorem v49_19 : VS L49_19.eq_1 := rfl
def L49_20 : List AStep := ⟨.load 1 false (.t 36), (some 37), (some (31, true)), []⟩ :: ⟨.not (.t 37), (some 38), (some (31, true)), []⟩ :: L49_19
theorem v49_20 : VS L49_20.eq_1 := rfl
def L49_21 : List AStep := ⟨.iaddr 3 (.t 33) (.t 34), (some 35), (some (31, true)), []⟩ :: ⟨.faddr 0 (.t 35), (some 36), (some (31, true)), []⟩ :: L49_20
theorem v49_21 : VS L49_21.eq_1 := rfl
def L49_22 : List AStep := ⟨.load 1 false (.t 32), (some 33), (some (31, true)), []⟩ :: ⟨.mov (.t 8), (some 34), (some (31, true)), []⟩ :: L49_21
theorem v49_22 : VS L49_22.eq_1 := rfl
def L49_23 : List AStep := ⟨.mov (.t 30), (some 31), none, []⟩ :: ⟨.faddr 0 (.t 5), (some 32), (some (31, true)), []⟩ :: L49_22
theorem v49_23 : VS L49_23.eq_1 := rfl
def L49_24 : List AStep := ⟨.load 4 true (.t 9), (some 29), none, []⟩ :: ⟨.call 69 [(.t 29)], (some 30), none, []⟩ :: L49_23
theorem v49_24 : VS L49_24.eq_1 := rfl
def L49_25 : List AStep := [⟨.append 9 1 16 (.t 45) (.t 48), (some 49), none, []⟩, ⟨.mov (.t 49), (some 7), none, []⟩]
theorem v49_25 : VS L49_25.eq_1 := rfl
def L49_26 : List AStep := ⟨.load 1 false (.t 46), (some 47), none, []⟩ :: ⟨.buildSlice 9 1 [(.str (strOfNums []))] [(0, 1, (.t 47))], (some 48), none, []⟩ :: L49_25
theorem v49_26 : VS L49_26.eq_1 := rfl
def L49_27 : List AStep := ⟨.mov (.t 7), (some 45), none, []⟩ :: ⟨.faddr 0 (.t 9), (some 46), none, []⟩ :: L49_26
theorem v49_27 : VS L49_27.eq_1 := rfl
def L49_28 : List AStep := [⟨.bin .add (.t 24) (.c (.int .i64 1)), (some 50), none, []⟩, ⟨.mov (.t 50), (some 24), none, []⟩]
theorem v49_28 : VS L49_28.eq_1 := rfl
def L49_29 : List AStep := [⟨.mov (.t 52), (some 4), none, []⟩]
theorem v49_29 : VS L49_29.eq_1 := rfl
def L49_30 : List AStep := ⟨.mov (.t 7), (some 51), none, []⟩ :: ⟨.call 95 [(.t 51)], (some 52), none, []⟩ :: L49_29
theorem v49_30 : VS L49_30.eq_1 := rfl
def C49_0 : ACode := .seq (.reg L49_8) .ret
theorem u49_0 : VC C49_0.eq_1 := rfl
def C49_1 : ACode := .cond (.t 19) C49_0 .skip
theorem u49_1 : VC C49_1.eq_1 := rfl
def C49_2 : ACode := .seq (.reg L49_7) C49_1
theorem u49_2 : VC C49_2.eq_1 := rfl
def C49_3 : ACode := .cond (.t 25) .skip (.exit 0)
theorem u49_3 : VC C49_3.eq_1 := rfl
def C49_4 : ACode := .cond (.t 44) (.reg L49_27) .skip
theorem u49_4 : VC C49_4.eq_1 := rfl
def C49_5 : ACode := .seq (.reg L49_24) C49_4
theorem u49_5 : VC C49_5.eq_1 := rfl
def C49_6 : ACode := .seq (.reg L49_16) C49_5
theorem u49_6 : VC C49_6.eq_1 := rfl
def C49_7 : ACode := .block 1 C49_6
theorem u49_7 : VC C49_7.eq_1 := rfl
def C49_8 : ACode := .seq C49_7 (.reg L49_28)
theorem u49_8 : VC C49_8.eq_1 := rfl
def C49_9 : ACode := .seq C49_3 C49_8
theorem u49_9 : VC C49_9.eq_1 := rfl
def C49_10 : ACode := .seq (.reg L49_13) C49_9
theorem u49_10 : VC C49_10.eq_1 := rfl
def C49_11 : ACode := .block 0 (.loop C49_10)
theorem u49_11 : VC C49_11.eq_1 := rfl
def C49_12 : ACode := .seq (.reg L49_12) C49_11
theorem u49_12 : VC C49_12.eq_1 := rfl
def C49_13 : ACode := .seq (.reg L49_30) .ret
theorem u49_13 : VC C49_13.eq_1 := rfl
def C49_14 : ACode := .seq C49_12 C49_13
theorem u49_14 : VC C49_14.eq_1 := rfl
def C49_15 : ACode := .seq (.reg L49_9) C49_14
theorem u49_15 : VC C49_15.eq_1 := rfl
def C49_16 : ACode := .seq C49_2 C49_15
theorem u49_16 : VC C49_16.eq_1 := rfl
def C49_17 : ACode := .seq (.reg L49_6) C49_16
theorem u49_17 : VC C49_17.eq_1 := rfl
def C49_18 : ACode := .seq (.reg L49_0) C49_17
theorem u49_18 : VC C49_18.eq_1 := rfl
def F49 : AFunc := ⟨53, [.tmp 4], C49_18⟩
theorem cF49 : compB Try.prog 49 = some F49 := by kernel_rfl
attribute [local go_sem ↓] u49_0 u49_1 u49_2 u49_3 u49_4 u49_5 u49_6 u49_7 u49_8 u49_9 u49_10 u49_11 u49_12 u49_13 u49_14 u49_15 u49_16 u49_17 u49_18 v49_0 v49_1 v49_2 v49_3 v49_4 v49_5 v49_6 v49_7 v49_8 v49_9 v49_10 v49_11 v49_12 v49_13 v49_14 v49_15 v49_16 v49_17 v49_18 v49_19 v49_20 v49_21 v49_22 v49_23 v49_24 v49_25 v49_26 v49_27 v49_28 v49_29 v49_30
theorem c_free (x : Part) (f : Nat) (may : Param → Bool) (hf : ∀ x h, bm Try.prog f [.agg (encQ x)] h = some (ib (may x), h)) (q p n : CV) (h : H) (a : SlD h q p n x) (m : miniD x) : callK (bm Try.prog 49 [.agg [q, p, n], .one (.fn f [])] h) fun r h' => Grow h h' ∧ ∃ w, r = .one w ∧ NwZ h h' w (freeF may x.sig x.flat) := by
  refine bm_of cF49 ?_
  simp +contextual (maxSteps := 2000000) only [go_sem, Nat.reduceEqDiff, reduceCtorEq, Nat.reduceAdd, Nat.reduceLeDiff, F49]
  refine wp_call (k_iBindPart x.sig x.flat q p n h a.g a.f m.g m.f) ?_
  rintro r h1 ⟨g1, v, rs, rfl, y0⟩
  unfold freeF
  unfold bindPartF at y0
  cases b1 : partOk x.sig x.flat with
  | false =>
    simp +contextual (maxSteps := 2000000) only [go_sem, Nat.reduceEqDiff, reduceCtorEq, Nat.reduceAdd, Nat.reduceLeDiff, if_false]
    exact gcK_of ⟨g1, _, rfl, ⟨.nil⟩⟩ (fun hs _ => ⟨Grow.refl h, _, rfl, ⟨.nil⟩⟩)
  | true =>
  rw [if_pos b1] at y0
  obtain ⟨ok1, ok2⟩ := part_fits b1
  have hn := okSig_len ok1
  have k1 := a.g.out.grow g1
  simp +contextual (maxSteps := 2000000) only [go_sem, Nat.reduceEqDiff, reduceCtorEq, Nat.reduceAdd, Nat.reduceLeDiff, k1.len, if_true]
  refine wpC_loop (fun i T L h' => Grow h1 h' ∧ T 1 = .v (.one (.fn f [])) ∧ T 5 = .lp 5 0 ∧ (L 5).2 = [v] ∧ (∃ w, T 7 = .v (.one w) ∧ NwS h1 h' (.one w) (pickF (isFree may x.sig (boundS x.sig x.flat)) (nameAt x.sig) i)) ∧ T 22 = .v (.one q) ∧ T 23 = .v (.one (.int .i64 x.sig.length)) ∧ T 24 = .v (.one (.int .i64 i))) x.sig.length ?_ ?_ (Nat.zero_le _) ?_
  · rintro i T L h' hi ⟨g, t1, t5, l5, ⟨w, t7, z⟩, t22, t23, t24⟩
    have k := k1.grow g
    have y := y0.out.rd.grow g
    have hsl : i < (boundS x.sig x.flat).length := by rw [boundS_len]; exact hi
    have hrs : i < rs.length := by rw [y.len]; exact hsl
    have ye := y.el i hrs
    rw [getY_eq hsl] at ye
    have yi : iaddrO 3 (.one v) (.one (.int .i64 i)) = some (.one (.ptr (some (elem 3 (.one v) i)))) := y.out.iaddr hrs
    have yg := y.out.fieldO (off := 0) hrs (by omega)
    rw [encY_0, ye.given] at yg
    have es := fun h => c_single x.sig[i] h
    have em := fun h => hf x.sig[i] h
    simp only [encQ] at es em
    have el := isFree_eq (q := may) hi hsl
    have pn := pickF_next (t := isFree may x.sig (boundS x.sig x.flat)) (nm := nameAt x.sig) (i := i)
    have pl := pickF_len (t := isFree may x.sig (boundS x.sig x.flat)) (nm := nameAt x.sig) (i := i)
    cases b1 : single x.sig[i] with
    | false =>
      rw [b1, Bool.false_and] at el
      rw [el, if_neg (by simp), List.append_nil] at pn
      simp +contextual (maxSteps := 2000000) only [go_sem, Nat.reduceEqDiff, reduceCtorEq, Nat.reduceAdd, Nat.reduceLeDiff, t1, t5, l5, t7, t22, t23, t24, lt_true hi, k.iaddr hi, k.whole hi, encQ, es, b1]
      exact ⟨g, ⟨w, rfl, by rw [pn]; exact z⟩, by rw [wrap_next hi (by omega)]⟩
    | true =>
    cases b2 : (boundS x.sig x.flat)[i].given with
    | true =>
      rw [b1, b2, Bool.true_and, Bool.not_true, Bool.false_and] at el
      rw [el, if_neg (by simp), List.append_nil] at pn
      rw [b2] at yg
      simp +contextual (maxSteps := 2000000) only [go_sem, Nat.reduceEqDiff, reduceCtorEq, Nat.reduceAdd, Nat.reduceLeDiff, t1, t5, l5, t7, t22, t23, t24, lt_true hi, k.iaddr hi, k.whole hi, encQ, es, b1, yi, yg]
      exact ⟨g, ⟨w, rfl, by rw [pn]; exact z⟩, by rw [wrap_next hi (by omega)]⟩
    | false =>
    rw [b2] at yg
    rw [b1, b2, Bool.true_and, Bool.not_false, Bool.true_and] at el
    cases b3 : may x.sig[i] with
    | false =>
      rw [b3] at el
      rw [el, if_neg (by simp), List.append_nil] at pn
      simp +contextual (maxSteps := 2000000) only [go_sem, Nat.reduceEqDiff, reduceCtorEq, Nat.reduceAdd, Nat.reduceLeDiff, t1, t5, l5, t7, t22, t23, t24, lt_true hi, k.iaddr hi, k.whole hi, encQ, es, b1, yi, yg, em, b3]
      exact ⟨g, ⟨w, rfl, by rw [pn]; exact z⟩, by rw [wrap_next hi (by omega)]⟩
    | true =>
      rw [b3] at el
      rw [el, if_pos rfl, nameAt_eq hi] at pn
      simp +contextual (maxSteps := 2000000) only [go_sem, Nat.reduceEqDiff, reduceCtorEq, Nat.reduceAdd, Nat.reduceLeDiff, t1, t5, l5, t7, t22, t23, t24, lt_true hi, k.iaddr hi, k.whole hi, encQ, es, b1, yi, yg, em, b3]
      refine wp_lit (enc := encS) (k := 1) (l := [x.sig[i].name]) rfl rfl ?_
      intro h3 w3 g3 n3 _
      simp +contextual (maxSteps := 2000000) only [go_sem, Nat.reduceEqDiff, reduceCtorEq, Nat.reduceAdd, Nat.reduceLeDiff, t1, t5, l5, t7, t22, t23, t24]
      refine wp_append lenS (z.grow g3) (n3.sl lenS) (g.trans g3) (by simp; omega) ?_
      intro h4 s4 g4 n4 st4 hb4
      obtain ⟨c4, rfl⟩ := n4.one
      simp +contextual (maxSteps := 2000000) only [go_sem, Nat.reduceEqDiff, reduceCtorEq, Nat.reduceAdd, Nat.reduceLeDiff, t1, t5, l5, t7, t22, t23, t24]
      exact ⟨g4, ⟨c4, rfl, by rw [pn]; exact n4⟩, by rw [wrap_next hi (by omega)]⟩
  · rintro T L h' ⟨g, t1, t5, l5, ⟨w, t7, z⟩, t22, t23, t24⟩
    simp +contextual (maxSteps := 2000000) only [go_sem, Nat.reduceEqDiff, reduceCtorEq, Nat.reduceAdd, Nat.reduceLeDiff, t1, t5, l5, t7, t22, t23, t24, lt_false]
    refine wp_call (c_clipS _ _ h' z) ?_
    rintro r h2 ⟨rfl, n2⟩
    obtain ⟨c, rfl⟩ := n2.one
    have n3 := n2.from g1.n
    simp +contextual (maxSteps := 2000000) only [go_sem, Nat.reduceEqDiff, reduceCtorEq, Nat.reduceAdd, Nat.reduceLeDiff]
    exact gcK_of ⟨g1.trans g, _, rfl, ⟨n3⟩⟩ (fun hs _ => ⟨Grow.refl h, _, rfl, ⟨n3.scalar (by simpa [AV.scalar] using hs) h⟩⟩)
  · simp +contextual (maxSteps := 2000000) only [go_sem, Nat.reduceEqDiff, reduceCtorEq, Nat.reduceAdd, Nat.reduceLeDiff]
    exact ⟨Grow.refl h1, ⟨_, rfl, .nil⟩, rfl⟩
/-! impl.FreeParams$1 -/
def L50_0 : List AStep := [⟨.box 44 (.t 0), (some 1), none, []⟩, ⟨.mov (.c (.bool false)), (some 2), none, []⟩]
theorem v50_0 : VS L50_0.eq_1 := rfl
def L50_1 : List AStep := [⟨.mov (.c (.bool true)), (some 2), none, []⟩]
theorem v50_1 : VS L50_1.eq_1 := rfl
def C50_0 : ACode := .seq (.reg L50_1) .ret
theorem u50_0 : VC C50_0.eq_1 := rfl
def C50_1 : ACode := .seq (.reg L50_0) C50_0
theorem u50_1 : VC C50_1.eq_1 := rfl
def F50 : AFunc := ⟨3, [.tmp 2], C50_1⟩
theorem cF50 : compB Try.prog 50 = some F50 := by kernel_rfl
attribute [local go_sem ↓] u50_0 u50_1 v50_0 v50_1
theorem c_Free1 (x : Param) (h : H) : bm Try.prog 50 [.agg (encQ x)] h = some (ib true, h) := by
  refine bm_eq cF50 ?_
  simp +contextual (maxSteps := 2000000) only [go_sem, Nat.reduceEqDiff, reduceCtorEq, Nat.reduceAdd, Nat.reduceLeDiff, F50]
/-! impl.FreeParams -/
def L10_0 : List AStep := [⟨.box 31 (.t 0), (some 1), none, []⟩, ⟨.mov (.c (.sl none 0 (some 0))), (some 2), none, []⟩]
theorem v10_0 : VS L10_0.eq_1 := rfl
def L10_1 : List AStep := [⟨.mov (.t 4), (some 2), none, []⟩]
theorem v10_1 : VS L10_1.eq_1 := rfl
def L10_2 : List AStep := ⟨.load 3 true (.t 1), (some 3), none, []⟩ :: ⟨.call 49 [(.t 3), (.c (.fn 50 []))], (some 4), none, []⟩ :: L10_1
theorem v10_2 : VS L10_2.eq_1 := rfl
def C10_0 : ACode := .seq (.reg L10_2) .ret
theorem u10_0 : VC C10_0.eq_1 := rfl
def C10_1 : ACode := .seq (.reg L10_0) C10_0
theorem u10_1 : VC C10_1.eq_1 := rfl
def F10 : AFunc := ⟨5, [.tmp 2], C10_1⟩
theorem cF10 : compB Try.prog 10 = some F10 := by kernel_rfl
attribute [local go_sem ↓] u10_0 u10_1 v10_0 v10_1 v10_2
theorem k_iFreeParams (x : Part) (q p n : CV) (h : H) (a : SlD h q p n x) (m : miniD x) : callK (bm Try.prog 10 [.agg [q, p, n]] h) fun r h' => Grow h h' ∧ ∃ w, r = .one w ∧ NwZ h h' w (freeAll x.sig x.flat) := by
  refine bm_of cF10 ?_
  simp +contextual (maxSteps := 2000000) only [go_sem, Nat.reduceEqDiff, reduceCtorEq, Nat.reduceAdd, Nat.reduceLeDiff, F10]
  refine wp_call (c_free x 50 (fun _ => true) (fun x h => c_Free1 x h) q p n h a m) ?_
  rintro r h1 ⟨g1, w, rfl, z⟩
  simp +contextual (maxSteps := 2000000) only [go_sem, Nat.reduceEqDiff, reduceCtorEq, Nat.reduceAdd, Nat.reduceLeDiff]
  exact gcK_of ⟨g1, _, rfl, z⟩ (fun hs _ => ⟨Grow.refl h, _, rfl, ⟨z.out.scalar (by simpa [AV.scalar] using hs) h⟩⟩)
/-! impl.LackOf$1 -/
def L58_0 : List AStep := [⟨.box 44 (.t 0), (some 1), none, []⟩, ⟨.mov (.c (.bool false)), (some 2), none, []⟩]
theorem v58_0 : VS L58_0.eq_1 := rfl
def L58_1 : List AStep := [⟨.not (.t 4), (some 5), none, []⟩, ⟨.mov (.t 5), (some 2), none, []⟩]
theorem v58_1 : VS L58_1.eq_1 := rfl
def L58_2 : List AStep := ⟨.faddr 2 (.t 1), (some 3), none, []⟩ :: ⟨.load 1 false (.t 3), (some 4), none, []⟩ :: L58_1
theorem v58_2 : VS L58_2.eq_1 := rfl
def C58_0 : ACode := .seq (.reg L58_2) .ret
theorem u58_0 : VC C58_0.eq_1 := rfl
def C58_1 : ACode := .seq (.reg L58_0) C58_0
theorem u58_1 : VC C58_1.eq_1 := rfl
def F58 : AFunc := ⟨6, [.tmp 2], C58_1⟩
theorem cF58 : compB Try.prog 58 = some F58 := by kernel_rfl
attribute [local go_sem ↓] u58_0 u58_1 v58_0 v58_1 v58_2
theorem c_Lack1 (x : Param) (h : H) : bm Try.prog 58 [.agg (encQ x)] h = some (ib (!x.has), h) := by
  refine bm_eq cF58 ?_
  simp +contextual (maxSteps := 2000000) only [go_sem, Nat.reduceEqDiff, reduceCtorEq, Nat.reduceAdd, Nat.reduceLeDiff, F58]
/-! impl.LackOf -/
def L18_0 : List AStep := [⟨.box 31 (.t 0), (some 1), none, []⟩, ⟨.mov (.c (.sl none 0 (some 0))), (some 2), none, []⟩]
theorem v18_0 : VS L18_0.eq_1 := rfl
def L18_1 : List AStep := [⟨.mov (.t 4), (some 2), none, []⟩]
theorem v18_1 : VS L18_1.eq_1 := rfl
def L18_2 : List AStep := ⟨.load 3 true (.t 1), (some 3), none, []⟩ :: ⟨.call 49 [(.t 3), (.c (.fn 58 []))], (some 4), none, []⟩ :: L18_1
theorem v18_2 : VS L18_2.eq_1 := rfl
def C18_0 : ACode := .seq (.reg L18_2) .ret
theorem u18_0 : VC C18_0.eq_1 := rfl
def C18_1 : ACode := .seq (.reg L18_0) C18_0
theorem u18_1 : VC C18_1.eq_1 := rfl
def F18 : AFunc := ⟨5, [.tmp 2], C18_1⟩
theorem cF18 : compB Try.prog 18 = some F18 := by kernel_rfl
attribute [local go_sem ↓] u18_0 u18_1 v18_0 v18_1 v18_2
theorem k_iLackOf (x : Part) (q p n : CV) (h : H) (a : SlD h q p n x) (m : miniD x) : callK (bm Try.prog 18 [.agg [q, p, n]] h) fun r h' => Grow h h' ∧ ∃ w, r = .one w ∧ NwZ h h' w (lackF x.sig x.flat) := by
  refine bm_of cF18 ?_
  simp +contextual (maxSteps := 2000000) only [go_sem, Nat.reduceEqDiff, reduceCtorEq, Nat.reduceAdd, Nat.reduceLeDiff, F18]
  refine wp_call (c_free x 58 (fun p => !p.has) (fun x h => c_Lack1 x h) q p n h a m) ?_
  rintro r h1 ⟨g1, w, rfl, z⟩
  simp +contextual (maxSteps := 2000000) only [go_sem, Nat.reduceEqDiff, reduceCtorEq, Nat.reduceAdd, Nat.reduceLeDiff]
  exact gcK_of ⟨g1, _, rfl, z⟩ (fun hs _ => ⟨Grow.refl h, _, rfl, ⟨z.out.scalar (by simpa [AV.scalar] using hs) h⟩⟩)
end Go.Proofs.Ytekkimfdcbgcoac.Am
