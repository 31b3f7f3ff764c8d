/- Contracts: what a call gives to the parameters, of the reference. -/
import Derived.Test.YtekkimfdcbgcoabA2
import Derived.Test.YtekkimfdcbgcoabA3
import Derived.Test.YtekkimfdcbgcoabB1
import Derived.Test.YtekkimfdcbgcoabBY
namespace Go.Proofs.Ytekkimfdcbgcoab.Am
open Go
set_option maxRecDepth 100000
set_option maxHeartbeats 4000000
set_option linter.unusedSimpArgs false
set_option linter.unusedVariables false
attribute [local go_sem ↓] bv_t bv_c ev_t ev_c put_same put_ne put_none kill_at pro_at lb_same lb_ne start_zero start_succ wpC_seq wpC_reg wpC_cond wpC_block wpC_skip wpC_exit wpC_ret thenQ_normal thenQ_exit thenQ_ret inBlk_normal inBlk_exit inBlk_ret wpS_nil wpS_step wpS_again wpS_guard wpO_mov wpO_load wpO_faddr wpO_nilCheck wpO_pick wpO_build wpO_bin wpO_eqb wpO_eqst wpO_eqnil wpO_not wpO_conv wpO_bytesStr wpO_iaddr wpO_idxStr wpO_field wpO_extract wpO_len wpO_lenStr wpO_cap wpO_min wpO_slice wpO_sliceStr wpO_alloc wpO_box wpO_store wpO_call wpO_callv wpO_mkfn wpO_buildSlice wpO_mkslice wpO_append wpO_appz proA_nil proA_cons tmpX_nil tmpX_tmp tmpX_cell doneB_normal doneB_ret agK_cons agK_nil agK_guard agG_tt agG_ff agG_tf agG_ft agG_undef pureB_load results_one results_two results_nil resBs_cons resBs_nil resB_tmp resB_cell
attribute [local go_sem] kill_v kill_lp_ne kill_lp_same pro_v pro_lp_same pro_lp_ne av_v av_lp optB_some optX_some valX_eq ldX_lp ldX_v faX_lp faX_v ncX_lp ncX_ptr ncX_fn boxK_one boxK_agg stL_some stK_lp_one stK_lp_agg stK_v_one stK_v_agg proM_v proM_lp callG_mk callVG_mk callvK_fn fnG_mk ptrsA_nil ptrsA_cons callH_some whenA_true whenA_false guardH_tt guardH_ff guardH_tf guardH_ft guardH_undef agV_one agV_agg lenO_sl lenStrO_str notO_bool pickO_bool convO_int eqbO_bool eqnilO_sl extractO_tup capO_sl minO_int loadL_one loadL_all storeL_eq fillA_nil fillA_one fillA_agg nat_ge neg_ge nat_lt neg_lt buildO bin_add bin_sub bin_mul bin_eql bin_neq bin_lss bin_leq bin_gtr bin_geq str_eql str_neq str_lss str_leq str_gtr str_geq retK_some endK_mk gcK_same gcK_int gcK_bool tupO_one tupO_agg rdy_self ib ii Option.map_none Option.map_some Option.some.injEq exists_eq_left' exists_eq_left ne_eq not_false_eq_true if_true if_false List.map_cons List.map_nil List.getElem?_cons_zero List.getElem?_cons_succ List.length_cons List.length_nil List.take_succ_cons List.take_zero List.take_nil List.drop_succ_cons List.drop_zero List.drop_nil List.cons_append List.nil_append List.append_nil List.set_cons_zero List.set_cons_succ Nat.zero_add forall_const true_and and_true and_self Bool.false_eq_true false_implies true_implies implies_true Bool.not_true Bool.not_false Bool.not_eq_true' Bool.not_eq_false' beq_self_eq_true Bool.bne_true Bool.bne_false
attribute [local go_sem] lenI lenS lenP lenQ lenB lenL lenT encI_0 encS_0 encP_0 encP_1 encQ_0 encQ_1 encQ_2 encQ_3 encB_0 encB_1 encL_0 encL_1 encT_0 encT_1
attribute [local go_sem low] whenA_bool guardH_bool
attribute [local go_sem] lenY encY_0 encY_1 encY_2
def zeroR : RSlot := ⟨false, .sl none 0 (some 0), .sl none 0 (some 0)⟩
theorem NwY.zeros {h0 h : H} {v : CV} {n : Nat} (x : Nw encY 3 94 h0 h (.one v) (List.replicate n zeroR)) : NwY h0 h v (List.replicate n zeroR) (List.replicate n zeroS) := by
  refine ⟨⟨x, by simp, fun i hi => ?_, fun i hi => ?_, fun i hi => ?_, fun i hi => ?_, fun i j hi hj hij => ?_, fun i j hi hj hij => ?_, fun i j hi hj hij => ?_, fun i j hi hj hij => ?_⟩⟩
  · have hi2 : i < (List.replicate n zeroS).length := by simpa using hi
    rw [getY_eq hi2, List.getElem_replicate, List.getElem_replicate]
    exact ⟨rfl, .nil, .nil⟩
  all_goals simp only [List.getElem_replicate]
  · exact Sep.nil.symm
  · exact Sep.nil.symm
  · exact Sep.nil
  · exact Sep.nil
  · exact Sep.nil
  · exact Sep.nil
  · exact Sep.nil
/-! spec.emptyBinding -/
def L118_0 : List AStep := [⟨.box 25 (.t 0), (some 1), none, []⟩, ⟨.alloc 56 [(.sl none 0 (some 0))], (some 2), none, []⟩]
theorem v118_0 : VS L118_0.eq_1 := rfl
def L118_1 : List AStep := [⟨.build [(.sl none 0 (some 0))] [(0, 1, (.t 6))], (some 7), none, []⟩, ⟨.store 1 (.t 2) (.t 7), none, none, []⟩]
theorem v118_1 : VS L118_1.eq_1 := rfl
def L118_2 : List AStep := ⟨.len (.t 4), (some 5), none, []⟩ :: ⟨.mkslice 94 56 [(.bool false), (.sl none 0 (some 0)), (.sl none 0 (some 0))] (.t 5) (.t 5), (some 6), none, []⟩ :: L118_1
theorem v118_2 : VS L118_2.eq_1 := rfl
def L118_3 : List AStep := ⟨.faddr 0 (.t 1), (some 3), none, []⟩ :: ⟨.load 1 false (.t 3), (some 4), none, []⟩ :: L118_2
theorem v118_3 : VS L118_3.eq_1 := rfl
def C118_0 : ACode := .seq (.reg L118_3) .ret
theorem u118_0 : VC C118_0.eq_1 := rfl
def C118_1 : ACode := .seq (.reg L118_0) C118_0
theorem u118_1 : VC C118_1.eq_1 := rfl
def F118 : AFunc := ⟨8, [.cell 2 1 true], C118_1⟩
theorem cF118 : compB Try.prog 118 = some F118 := by kernel_rfl
attribute [local go_sem ↓] u118_0 u118_1 v118_0 v118_1 v118_2 v118_3
theorem c_emptyBinding (l : List Param) (q : CV) (h : H) (hl : SlQ h (.one q) l) (hn : l.length ≤ big) : callK (bm Try.prog 118 [.agg [q]] h) fun r h' => Grow h h' ∧ ∃ v, r = .agg [v] ∧ NwY h h' v (List.replicate l.length zeroR) (List.replicate l.length zeroS) := by
  refine bm_of cF118 ?_
  unfold big at hn
  simp +contextual (maxSteps := 2000000) only [go_sem, Nat.reduceEqDiff, reduceCtorEq, Nat.reduceAdd, Nat.reduceLeDiff, F118, hl.len]
  refine wp_make (enc := encY) (k := 3) zeroR rfl (by omega) (by omega) ?_
  intro h1 w g1 n1 _
  obtain ⟨c, rfl⟩ := n1.one
  simp +contextual (maxSteps := 2000000) only [go_sem, Nat.reduceEqDiff, reduceCtorEq, Nat.reduceAdd, Nat.reduceLeDiff]
  exact gcK_of ⟨g1, _, rfl, .zeros n1⟩ (fun hs _ => ⟨Grow.refl h, _, rfl, (NwY.zeros n1).scalar (by simpa [AV.scalar, AV.scalars] using hs) h⟩)
/-! spec.missing -/
def L116_0 : List AStep := [⟨.mov (.c (.sl none 0 (some 0))), (some 4), none, []⟩]
theorem v116_0 : VS L116_0.eq_1 := rfl
def L116_1 : List AStep := ⟨.box 25 (.t 0), (some 2), none, []⟩ :: ⟨.box 56 (.t 1), (some 3), none, []⟩ :: L116_0
theorem v116_1 : VS L116_1.eq_1 := rfl
def L116_2 : List AStep := [⟨.buildSlice 52 0 [(.int .i64 0), (.str (strOfNums []))] [], (some 8), none, []⟩, ⟨.mov (.t 8), (some 5), none, []⟩]
theorem v116_2 : VS L116_2.eq_1 := rfl
def L116_3 : List AStep := [⟨.mov (.c (.int .i64 0)), (some 6), none, []⟩]
theorem v116_3 : VS L116_3.eq_1 := rfl
def L116_4 : List AStep := [⟨.bin .lss (.t 9) (.t 12), (some 13), none, []⟩]
theorem v116_4 : VS L116_4.eq_1 := rfl
def L116_5 : List AStep := ⟨.load 1 false (.t 10), (some 11), none, []⟩ :: ⟨.len (.t 11), (some 12), none, []⟩ :: L116_4
theorem v116_5 : VS L116_5.eq_1 := rfl
def L116_6 : List AStep := ⟨.mov (.t 6), (some 9), none, []⟩ :: ⟨.faddr 0 (.t 2), (some 10), none, []⟩ :: L116_5
theorem v116_6 : VS L116_6.eq_1 := rfl
def L116_7 : List AStep := [⟨.store 4 (.t 7) (.t 20), none, none, []⟩]
theorem v116_7 : VS L116_7.eq_1 := rfl
def L116_8 : List AStep := ⟨.load 4 true (.t 19), (some 20), none, []⟩ :: ⟨.alloc 39 [(.str (strOfNums [])), (.int .i64 0), (.bool false), (.int .i64 0)], (some 7), none, []⟩ :: L116_7
theorem v116_8 : VS L116_8.eq_1 := rfl
def L116_9 : List AStep := ⟨.mov (.t 6), (some 18), none, []⟩ :: ⟨.iaddr 4 (.t 17) (.t 18), (some 19), none, []⟩ :: L116_8
theorem v116_9 : VS L116_9.eq_1 := rfl
def L116_10 : List AStep := ⟨.faddr 0 (.t 2), (some 16), none, []⟩ :: ⟨.load 1 false (.t 16), (some 17), none, []⟩ :: L116_9
theorem v116_10 : VS L116_10.eq_1 := rfl
def L116_11 : List AStep := [⟨.not (.t 34), (some 35), (some (28, true)), []⟩, ⟨.pick (.t 28) (.t 35) (.c (.bool false)), (some 36), none, []⟩]
theorem v116_11 : VS L116_11.eq_1 := rfl
def L116_12 : List AStep := ⟨.faddr 0 (.t 32), (some 33), (some (28, true)), []⟩ :: ⟨.load 1 false (.t 33), (some 34), (some (28, true)), []⟩ :: L116_11
theorem v116_12 : VS L116_12.eq_1 := rfl
def L116_13 : List AStep := ⟨.mov (.t 6), (some 31), (some (28, true)), []⟩ :: ⟨.iaddr 3 (.t 30) (.t 31), (some 32), (some (28, true)), []⟩ :: L116_12
theorem v116_13 : VS L116_13.eq_1 := rfl
def L116_14 : List AStep := ⟨.faddr 0 (.t 3), (some 29), (some (28, true)), []⟩ :: ⟨.load 1 false (.t 29), (some 30), (some (28, true)), []⟩ :: L116_13
theorem v116_14 : VS L116_14.eq_1 := rfl
def L116_15 : List AStep := ⟨.pick (.t 23) (.t 26) (.c (.bool false)), (some 27), none, []⟩ :: ⟨.mov (.t 27), (some 28), none, []⟩ :: L116_14
theorem v116_15 : VS L116_15.eq_1 := rfl
def L116_16 : List AStep := ⟨.load 1 false (.t 24), (some 25), (some (23, true)), []⟩ :: ⟨.not (.t 25), (some 26), (some (23, true)), []⟩ :: L116_15
theorem v116_16 : VS L116_16.eq_1 := rfl
def L116_17 : List AStep := ⟨.mov (.t 22), (some 23), none, []⟩ :: ⟨.faddr 2 (.t 7), (some 24), (some (23, true)), []⟩ :: L116_16
theorem v116_17 : VS L116_17.eq_1 := rfl
def L116_18 : List AStep := ⟨.load 4 true (.t 7), (some 21), none, []⟩ :: ⟨.call 135 [(.t 21)], (some 22), none, []⟩ :: L116_17
theorem v116_18 : VS L116_18.eq_1 := rfl
def L116_19 : List AStep := [⟨.mov (.t 42), (some 5), none, []⟩]
theorem v116_19 : VS L116_19.eq_1 := rfl
def L116_20 : List AStep := ⟨.buildSlice 52 1 [(.int .i64 0), (.str (strOfNums []))] [(0, 2, (.t 40))], (some 41), none, []⟩ :: ⟨.append 52 2 24 (.t 37) (.t 41), (some 42), none, []⟩ :: L116_19
theorem v116_20 : VS L116_20.eq_1 := rfl
def L116_21 : List AStep := ⟨.load 1 false (.t 38), (some 39), none, []⟩ :: ⟨.build [(.int .i64 0), (.str (strOfNums []))] [(0, 1, (.c (.int .i64 3))), (1, 1, (.t 39))], (some 40), none, []⟩ :: L116_20
theorem v116_21 : VS L116_21.eq_1 := rfl
def L116_22 : List AStep := ⟨.mov (.t 5), (some 37), none, []⟩ :: ⟨.faddr 0 (.t 7), (some 38), none, []⟩ :: L116_21
theorem v116_22 : VS L116_22.eq_1 := rfl
def L116_23 : List AStep := [⟨.mov (.t 15), (some 6), none, []⟩]
theorem v116_23 : VS L116_23.eq_1 := rfl
def L116_24 : List AStep := ⟨.mov (.t 6), (some 14), none, []⟩ :: ⟨.bin .add (.t 14) (.c (.int .i64 1)), (some 15), none, []⟩ :: L116_23
theorem v116_24 : VS L116_24.eq_1 := rfl
def L116_25 : List AStep := [⟨.mov (.t 5), (some 43), none, []⟩, ⟨.mov (.t 43), (some 4), none, []⟩]
theorem v116_25 : VS L116_25.eq_1 := rfl
def C116_0 : ACode := .cond (.t 13) .skip (.exit 0)
theorem u116_0 : VC C116_0.eq_1 := rfl
def C116_1 : ACode := .seq (.reg L116_6) C116_0
theorem u116_1 : VC C116_1.eq_1 := rfl
def C116_2 : ACode := .cond (.t 36) (.reg L116_22) .skip
theorem u116_2 : VC C116_2.eq_1 := rfl
def C116_3 : ACode := .seq (.reg L116_18) C116_2
theorem u116_3 : VC C116_3.eq_1 := rfl
def C116_4 : ACode := .seq (.reg L116_10) C116_3
theorem u116_4 : VC C116_4.eq_1 := rfl
def C116_5 : ACode := .block 1 C116_4
theorem u116_5 : VC C116_5.eq_1 := rfl
def C116_6 : ACode := .seq C116_5 (.reg L116_24)
theorem u116_6 : VC C116_6.eq_1 := rfl
def C116_7 : ACode := .seq C116_1 C116_6
theorem u116_7 : VC C116_7.eq_1 := rfl
def C116_8 : ACode := .block 0 (.loop C116_7)
theorem u116_8 : VC C116_8.eq_1 := rfl
def C116_9 : ACode := .seq (.reg L116_3) C116_8
theorem u116_9 : VC C116_9.eq_1 := rfl
def C116_10 : ACode := .seq (.reg L116_25) .ret
theorem u116_10 : VC C116_10.eq_1 := rfl
def C116_11 : ACode := .seq C116_9 C116_10
theorem u116_11 : VC C116_11.eq_1 := rfl
def C116_12 : ACode := .seq (.reg L116_2) C116_11
theorem u116_12 : VC C116_12.eq_1 := rfl
def C116_13 : ACode := .seq (.reg L116_1) C116_12
theorem u116_13 : VC C116_13.eq_1 := rfl
def F116 : AFunc := ⟨44, [.tmp 4], C116_13⟩
theorem cF116 : compB Try.prog 116 = some F116 := by kernel_rfl
attribute [local go_sem ↓] u116_0 u116_1 u116_2 u116_3 u116_4 u116_5 u116_6 u116_7 u116_8 u116_9 u116_10 u116_11 u116_12 u116_13 v116_0 v116_1 v116_2 v116_3 v116_4 v116_5 v116_6 v116_7 v116_8 v116_9 v116_10 v116_11 v116_12 v116_13 v116_14 v116_15 v116_16 v116_17 v116_18 v116_19 v116_20 v116_21 v116_22 v116_23 v116_24 v116_25
theorem c_missing (l : List Param) (sl : List Slot) (rs : List RSlot) (q v : CV) (h : H) (hl : SlQ h (.one q) l) (hn : l.length ≤ 8) (hs : RdY 94 3 64 h v rs sl.length (getY sl)) (hlen : sl.length = l.length) :
    callK (bm Try.prog 116 [.agg [q], .agg [v]] h) fun r h' => Grow h h' ∧ NwB h h' r (missing l sl) := by
  refine bm_of cF116 ?_
  simp +contextual (maxSteps := 2000000) only [go_sem, Nat.reduceEqDiff, reduceCtorEq, Nat.reduceAdd, Nat.reduceLeDiff, F116]
  refine wp_lit (enc := encB) (k := 2) (l := []) rfl rfl ?_
  intro h1 w g1 n1 _
  simp +contextual (maxSteps := 2000000) only [go_sem, Nat.reduceEqDiff, reduceCtorEq, Nat.reduceAdd, Nat.reduceLeDiff]
  refine wpC_loop (fun i T L h' => Grow h h' ∧ T 2 = .lp 2 0 ∧ (L 2).2 = [q] ∧ T 3 = .lp 3 0 ∧ (L 3).2 = [v] ∧ (∃ w, T 5 = .v w ∧ NwB h h' w (missF l sl i)) ∧ T 6 = .v (.one (.int .i64 i))) l.length ?_ ?_ (Nat.zero_le _) ?_
  · rintro i T L h' hi ⟨g, t2, l2, t3, l3, ⟨w, t5, x⟩, t6⟩
    have k := hl.grow g
    have y := hs.grow g
    have hsl : i < sl.length := by omega
    have hrs : i < rs.length := by rw [y.len]; exact hsl
    have eg : rs[i].given = sl[i].given := by rw [(y.el i hrs).given, getY_eq hsl]
    have el := lacks_eq hi hsl
    have em := missF_next (sl := sl) hi
    have yi : iaddrO 3 (.one v) (.one (.int .i64 i)) = some (.one (.ptr (some (elem 3 (.one v) i)))) := y.out.iaddr hrs
    have y0 := y.out.fieldO (off := 0) hrs (by omega)
    rw [encY_0] at y0
    have es := fun h => c_isSingle l[i] h
    simp only [encQ] at es
    have done : ∀ b, lacks l sl i = b → b = false → missF l sl (i + 1) = missF l sl i := fun b e1 e2 => by rw [em, e1, e2]; simp
    cases b1 : single l[i] with
    | false =>
      rw [b1, Bool.false_and] at el
      simp +contextual (maxSteps := 2000000) only [go_sem, Nat.reduceEqDiff, reduceCtorEq, Nat.reduceAdd, Nat.reduceLeDiff, t2, l2, t3, l3, t5, t6, k.len, k.iaddr hi, k.whole hi, encQ, lt_true hi, es, b1]
      exact ⟨g, ⟨w, rfl, by rw [done _ el rfl]; exact x⟩, by rw [wrap_next hi (by omega)]⟩
    | true =>
    cases b2 : l[i].has with
    | true =>
      rw [b1, b2] at el
      simp only [b2] at es
      simp +contextual (maxSteps := 2000000) only [go_sem, Nat.reduceEqDiff, reduceCtorEq, Nat.reduceAdd, Nat.reduceLeDiff, t2, l2, t3, l3, t5, t6, k.len, k.iaddr hi, k.whole hi, encQ, lt_true hi, es, b1, b2]
      exact ⟨g, ⟨w, rfl, by rw [done _ el rfl]; exact x⟩, by rw [wrap_next hi (by omega)]⟩
    | false =>
    cases b3 : sl[i].given with
    | true =>
      rw [b1, b2, b3] at el
      simp only [b2] at es
      rw [b3] at eg
      rw [eg] at y0
      simp +contextual (maxSteps := 2000000) only [go_sem, Nat.reduceEqDiff, reduceCtorEq, Nat.reduceAdd, Nat.reduceLeDiff, t2, l2, t3, l3, t5, t6, k.len, k.iaddr hi, k.whole hi, encQ, lt_true hi, es, b1, b2, yi, y0]
      exact ⟨g, ⟨w, rfl, by rw [done _ el rfl]; exact x⟩, by rw [wrap_next hi (by omega)]⟩
    | false =>
      rw [b1, b2, b3] at el
      simp only [b2] at es
      rw [b3] at eg
      rw [eg] at y0
      have ml := missF_len (l := l) (sl := sl) (i := i)
      simp +contextual (maxSteps := 2000000) only [go_sem, Nat.reduceEqDiff, reduceCtorEq, Nat.reduceAdd, Nat.reduceLeDiff, t2, l2, t3, l3, t5, t6, k.len, k.iaddr hi, k.whole hi, encQ, lt_true hi, es, b1, b2, yi, y0]
      refine wp_lit (enc := encB) (k := 2) (l := [⟨3, l[i].name⟩]) rfl rfl ?_
      intro h2 w2 g2 n2 _
      simp +contextual (maxSteps := 2000000) only [go_sem, Nat.reduceEqDiff, reduceCtorEq, Nat.reduceAdd, Nat.reduceLeDiff, t2, l2, t3, l3, t5, t6]
      refine wp_append lenB (x.grow g2) (n2.sl lenB) (g.trans g2) (by simp; omega) ?_
      intro h3 w3 g3 n3 _ _
      simp +contextual (maxSteps := 2000000) only [go_sem, Nat.reduceEqDiff, reduceCtorEq, Nat.reduceAdd, Nat.reduceLeDiff, t2, l2, t3, l3, t5, t6]
      refine ⟨g3, ⟨w3, rfl, ?_⟩, by rw [wrap_next hi (by omega)]⟩
      rw [em, el]
      exact n3
  · rintro T L h' ⟨g, t2, l2, t3, l3, ⟨w, t5, x⟩, t6⟩
    have k := hl.grow g
    simp +contextual (maxSteps := 2000000) only [go_sem, Nat.reduceEqDiff, reduceCtorEq, Nat.reduceAdd, Nat.reduceLeDiff, t2, l2, t3, l3, t5, t6, k.len, lt_false]
    exact gcK_of ⟨g, x⟩ (fun hs _ => ⟨Grow.refl h, x.scalar hs h⟩)
  · simp +contextual (maxSteps := 2000000) only [go_sem, Nat.reduceEqDiff, reduceCtorEq, Nat.reduceAdd, Nat.reduceLeDiff]
    exact ⟨g1, ⟨w, rfl, n1⟩, rfl⟩
/-! spec.bound -/
def L72_0 : List AStep := [⟨.alloc 56 [(.sl none 0 (some 0))], (some 4), none, []⟩, ⟨.mov (.c (.sl none 0 (some 0))), (some 5), none, []⟩]
theorem v72_0 : VS L72_0.eq_1 := rfl
def L72_1 : List AStep := ⟨.box 25 (.t 0), (some 2), none, []⟩ :: ⟨.box 29 (.t 1), (some 3), none, []⟩ :: L72_0
theorem v72_1 : VS L72_1.eq_1 := rfl
def L72_2 : List AStep := [⟨.alloc 56 [(.sl none 0 (some 0))], (some 6), none, []⟩, ⟨.store 1 (.t 6) (.t 15), none, none, []⟩]
theorem v72_2 : VS L72_2.eq_1 := rfl
def L72_3 : List AStep := ⟨.load 1 true (.t 2), (some 14), none, []⟩ :: ⟨.call 118 [(.t 14)], (some 15), none, []⟩ :: L72_2
theorem v72_3 : VS L72_3.eq_1 := rfl
def L72_4 : List AStep := [⟨.buildSlice 52 0 [(.int .i64 0), (.str (strOfNums []))] [], (some 16), none, []⟩, ⟨.mov (.t 16), (some 7), none, []⟩]
theorem v72_4 : VS L72_4.eq_1 := rfl
def L72_5 : List AStep := [⟨.mov (.t 18), (some 8), none, []⟩]
theorem v72_5 : VS L72_5.eq_1 := rfl
def L72_6 : List AStep := ⟨.load 1 true (.t 2), (some 17), none, []⟩ :: ⟨.call 54 [(.t 17)], (some 18), none, []⟩ :: L72_5
theorem v72_6 : VS L72_6.eq_1 := rfl
def L72_7 : List AStep := [⟨.call 119 [(.t 20), (.c (.int .i64 2))], (some 21), none, []⟩, ⟨.mov (.t 21), (some 9), none, []⟩]
theorem v72_7 : VS L72_7.eq_1 := rfl
def L72_8 : List AStep := ⟨.faddr 0 (.t 2), (some 19), none, []⟩ :: ⟨.load 1 false (.t 19), (some 20), none, []⟩ :: L72_7
theorem v72_8 : VS L72_8.eq_1 := rfl
def L72_9 : List AStep := [⟨.mov (.c (.int .i64 0)), (some 10), none, []⟩]
theorem v72_9 : VS L72_9.eq_1 := rfl
def L72_10 : List AStep := [⟨.bin .lss (.t 22) (.t 25), (some 26), none, []⟩]
theorem v72_10 : VS L72_10.eq_1 := rfl
def L72_11 : List AStep := ⟨.load 1 false (.t 23), (some 24), none, []⟩ :: ⟨.len (.t 24), (some 25), none, []⟩ :: L72_10
theorem v72_11 : VS L72_11.eq_1 := rfl
def L72_12 : List AStep := ⟨.mov (.t 10), (some 22), none, []⟩ :: ⟨.faddr 0 (.t 3), (some 23), none, []⟩ :: L72_11
theorem v72_12 : VS L72_12.eq_1 := rfl
def L72_13 : List AStep := [⟨.bin .lss (.t 30) (.t 31), (some 32), none, []⟩, ⟨.mov (.t 32), (some 29), none, []⟩]
theorem v72_13 : VS L72_13.eq_1 := rfl
def L72_14 : List AStep := ⟨.mov (.t 10), (some 30), none, []⟩ :: ⟨.mov (.t 8), (some 31), none, []⟩ :: L72_13
theorem v72_14 : VS L72_14.eq_1 := rfl
def L72_15 : List AStep := [⟨.iaddr 3 (.t 34) (.t 35), (some 43), none, []⟩, ⟨.store 3 (.t 43) (.t 42), none, none, []⟩]
theorem v72_15 : VS L72_15.eq_1 := rfl
def L72_16 : List AStep := ⟨.buildSlice 3 1 [(.int .i64 0)] [(0, 1, (.t 40))], (some 41), none, []⟩ :: ⟨.build [(.bool false), (.sl none 0 (some 0)), (.sl none 0 (some 0))] [(0, 1, (.c (.bool true))), (1, 1, (.t 41))], (some 42), none, []⟩ :: L72_15
theorem v72_16 : VS L72_16.eq_1 := rfl
def L72_17 : List AStep := ⟨.iaddr 1 (.t 37) (.t 38), (some 39), none, []⟩ :: ⟨.load 1 false (.t 39), (some 40), none, []⟩ :: L72_16
theorem v72_17 : VS L72_17.eq_1 := rfl
def L72_18 : List AStep := ⟨.load 1 false (.t 36), (some 37), none, []⟩ :: ⟨.mov (.t 10), (some 38), none, []⟩ :: L72_17
theorem v72_18 : VS L72_18.eq_1 := rfl
def L72_19 : List AStep := ⟨.mov (.t 10), (some 35), none, []⟩ :: ⟨.faddr 0 (.t 3), (some 36), none, []⟩ :: L72_18
theorem v72_19 : VS L72_19.eq_1 := rfl
def L72_20 : List AStep := ⟨.faddr 0 (.t 6), (some 33), none, []⟩ :: ⟨.load 1 false (.t 33), (some 34), none, []⟩ :: L72_19
theorem v72_20 : VS L72_20.eq_1 := rfl
def L72_21 : List AStep := [⟨.mov (.t 46), (some 44), none, []⟩]
theorem v72_21 : VS L72_21.eq_1 := rfl
def L72_22 : List AStep := ⟨.mov (.t 9), (some 45), none, []⟩ :: ⟨.bin .geq (.t 45) (.c (.int .i64 0)), (some 46), none, []⟩ :: L72_21
theorem v72_22 : VS L72_22.eq_1 := rfl
def L72_23 : List AStep := [⟨.store 1 (.t 64) (.t 62), none, none, []⟩]
theorem v72_23 : VS L72_23.eq_1 := rfl
def L72_24 : List AStep := ⟨.iaddr 3 (.t 48) (.t 49), (some 63), none, []⟩ :: ⟨.faddr 1 (.t 63), (some 64), none, []⟩ :: L72_23
theorem v72_24 : VS L72_24.eq_1 := rfl
def L72_25 : List AStep := ⟨.buildSlice 3 1 [(.int .i64 0)] [(0, 1, (.t 60))], (some 61), none, []⟩ :: ⟨.append 3 1 8 (.t 55) (.t 61), (some 62), none, [(.load 1 false (.t 47), (some 48), none)]⟩ :: L72_24
theorem v72_25 : VS L72_25.eq_1 := rfl
def L72_26 : List AStep := ⟨.iaddr 1 (.t 57) (.t 58), (some 59), none, []⟩ :: ⟨.load 1 false (.t 59), (some 60), none, []⟩ :: L72_25
theorem v72_26 : VS L72_26.eq_1 := rfl
def L72_27 : List AStep := ⟨.load 1 false (.t 56), (some 57), none, []⟩ :: ⟨.mov (.t 10), (some 58), none, []⟩ :: L72_26
theorem v72_27 : VS L72_27.eq_1 := rfl
def L72_28 : List AStep := ⟨.load 1 false (.t 54), (some 55), none, []⟩ :: ⟨.faddr 0 (.t 3), (some 56), none, []⟩ :: L72_27
theorem v72_28 : VS L72_28.eq_1 := rfl
def L72_29 : List AStep := ⟨.iaddr 3 (.t 51) (.t 52), (some 53), none, []⟩ :: ⟨.faddr 1 (.t 53), (some 54), none, []⟩ :: L72_28
theorem v72_29 : VS L72_29.eq_1 := rfl
def L72_30 : List AStep := ⟨.load 1 false (.t 50), (some 51), none, []⟩ :: ⟨.mov (.t 9), (some 52), none, []⟩ :: L72_29
theorem v72_30 : VS L72_30.eq_1 := rfl
def L72_31 : List AStep := ⟨.mov (.t 9), (some 49), none, []⟩ :: ⟨.faddr 0 (.t 6), (some 50), none, []⟩ :: L72_30
theorem v72_31 : VS L72_31.eq_1 := rfl
def L72_32 : List AStep := ⟨.faddr 0 (.t 6), (some 47), none, []⟩ :: ⟨.load 1 false (.t 47), (some 48), none, []⟩ :: L72_31
theorem v72_32 : VS L72_32.eq_1 := rfl
def L72_33 : List AStep := [⟨.mov (.t 28), (some 10), none, []⟩]
theorem v72_33 : VS L72_33.eq_1 := rfl
def L72_34 : List AStep := ⟨.mov (.t 10), (some 27), none, []⟩ :: ⟨.bin .add (.t 27) (.c (.int .i64 1)), (some 28), none, []⟩ :: L72_33
theorem v72_34 : VS L72_34.eq_1 := rfl
def L72_35 : List AStep := [⟨.pick (.t 70) (.t 72) (.c (.bool false)), (some 73), none, []⟩]
theorem v72_35 : VS L72_35.eq_1 := rfl
def L72_36 : List AStep := ⟨.mov (.t 9), (some 71), (some (70, true)), []⟩ :: ⟨.bin .lss (.t 71) (.c (.int .i64 0)), (some 72), (some (70, true)), []⟩ :: L72_35
theorem v72_36 : VS L72_36.eq_1 := rfl
def L72_37 : List AStep := ⟨.bin .gtr (.t 67) (.t 68), (some 69), none, []⟩ :: ⟨.mov (.t 69), (some 70), none, []⟩ :: L72_36
theorem v72_37 : VS L72_37.eq_1 := rfl
def L72_38 : List AStep := ⟨.len (.t 66), (some 67), none, []⟩ :: ⟨.mov (.t 8), (some 68), none, []⟩ :: L72_37
theorem v72_38 : VS L72_38.eq_1 := rfl
def L72_39 : List AStep := ⟨.faddr 0 (.t 3), (some 65), none, []⟩ :: ⟨.load 1 false (.t 65), (some 66), none, []⟩ :: L72_38
theorem v72_39 : VS L72_39.eq_1 := rfl
def L72_40 : List AStep := [⟨.mov (.t 77), (some 7), none, []⟩]
theorem v72_40 : VS L72_40.eq_1 := rfl
def L72_41 : List AStep := ⟨.buildSlice 52 1 [(.int .i64 0), (.str (strOfNums []))] [(0, 2, (.t 75))], (some 76), none, []⟩ :: ⟨.append 52 2 24 (.t 74) (.t 76), (some 77), none, []⟩ :: L72_40
theorem v72_41 : VS L72_41.eq_1 := rfl
def L72_42 : List AStep := ⟨.mov (.t 7), (some 74), none, []⟩ :: ⟨.build [(.int .i64 0), (.str (strOfNums []))] [(0, 1, (.c (.int .i64 0)))], (some 75), none, []⟩ :: L72_41
theorem v72_42 : VS L72_42.eq_1 := rfl
def L72_43 : List AStep := [⟨.mov (.c (.int .i64 0)), (some 11), none, []⟩]
theorem v72_43 : VS L72_43.eq_1 := rfl
def L72_44 : List AStep := [⟨.bin .lss (.t 78) (.t 81), (some 82), none, []⟩]
theorem v72_44 : VS L72_44.eq_1 := rfl
def L72_45 : List AStep := ⟨.load 1 false (.t 79), (some 80), none, []⟩ :: ⟨.len (.t 80), (some 81), none, []⟩ :: L72_44
theorem v72_45 : VS L72_45.eq_1 := rfl
def L72_46 : List AStep := ⟨.mov (.t 11), (some 78), none, []⟩ :: ⟨.faddr 1 (.t 3), (some 79), none, []⟩ :: L72_45
theorem v72_46 : VS L72_46.eq_1 := rfl
def L72_47 : List AStep := [⟨.store 2 (.t 12) (.t 89), none, none, []⟩]
theorem v72_47 : VS L72_47.eq_1 := rfl
def L72_48 : List AStep := ⟨.load 2 true (.t 88), (some 89), none, []⟩ :: ⟨.alloc 64 [(.str (strOfNums [])), (.int .i64 0)], (some 12), none, []⟩ :: L72_47
theorem v72_48 : VS L72_48.eq_1 := rfl
def L72_49 : List AStep := ⟨.mov (.t 11), (some 87), none, []⟩ :: ⟨.iaddr 2 (.t 86) (.t 87), (some 88), none, []⟩ :: L72_48
theorem v72_49 : VS L72_49.eq_1 := rfl
def L72_50 : List AStep := ⟨.faddr 1 (.t 3), (some 85), none, []⟩ :: ⟨.load 1 false (.t 85), (some 86), none, []⟩ :: L72_49
theorem v72_50 : VS L72_50.eq_1 := rfl
def L72_51 : List AStep := [⟨.mov (.t 93), (some 13), none, []⟩]
theorem v72_51 : VS L72_51.eq_1 := rfl
def L72_52 : List AStep := ⟨.load 1 false (.t 91), (some 92), none, []⟩ :: ⟨.call 120 [(.t 90), (.t 92)], (some 93), none, []⟩ :: L72_51
theorem v72_52 : VS L72_52.eq_1 := rfl
def L72_53 : List AStep := ⟨.load 1 true (.t 2), (some 90), none, []⟩ :: ⟨.faddr 0 (.t 12), (some 91), none, []⟩ :: L72_52
theorem v72_53 : VS L72_53.eq_1 := rfl
def L72_54 : List AStep := [⟨.mov (.t 104), (some 102), none, []⟩]
theorem v72_54 : VS L72_54.eq_1 := rfl
def L72_55 : List AStep := ⟨.mov (.t 13), (some 103), none, []⟩ :: ⟨.bin .lss (.t 103) (.c (.int .i64 0)), (some 104), none, []⟩ :: L72_54
theorem v72_55 : VS L72_55.eq_1 := rfl
def L72_56 : List AStep := [⟨.mov (.t 110), (some 7), none, []⟩]
theorem v72_56 : VS L72_56.eq_1 := rfl
def L72_57 : List AStep := ⟨.buildSlice 52 1 [(.int .i64 0), (.str (strOfNums []))] [(0, 2, (.t 108))], (some 109), none, []⟩ :: ⟨.append 52 2 24 (.t 105) (.t 109), (some 110), none, []⟩ :: L72_56
theorem v72_57 : VS L72_57.eq_1 := rfl
def L72_58 : List AStep := ⟨.load 1 false (.t 106), (some 107), none, []⟩ :: ⟨.build [(.int .i64 0), (.str (strOfNums []))] [(0, 1, (.c (.int .i64 1))), (1, 1, (.t 107))], (some 108), none, []⟩ :: L72_57
theorem v72_58 : VS L72_58.eq_1 := rfl
def L72_59 : List AStep := ⟨.mov (.t 7), (some 105), none, []⟩ :: ⟨.faddr 0 (.t 12), (some 106), none, []⟩ :: L72_58
theorem v72_59 : VS L72_59.eq_1 := rfl
def L72_60 : List AStep := [⟨.bin .eql (.t 117) (.c (.int .i64 4)), (some 118), none, []⟩, ⟨.mov (.t 118), (some 111), none, []⟩]
theorem v72_60 : VS L72_60.eq_1 := rfl
def L72_61 : List AStep := ⟨.faddr 1 (.t 115), (some 116), none, []⟩ :: ⟨.load 1 false (.t 116), (some 117), none, []⟩ :: L72_60
theorem v72_61 : VS L72_61.eq_1 := rfl
def L72_62 : List AStep := ⟨.mov (.t 13), (some 114), none, []⟩ :: ⟨.iaddr 4 (.t 113) (.t 114), (some 115), none, []⟩ :: L72_61
theorem v72_62 : VS L72_62.eq_1 := rfl
def L72_63 : List AStep := ⟨.faddr 0 (.t 2), (some 112), none, []⟩ :: ⟨.load 1 false (.t 112), (some 113), none, []⟩ :: L72_62
theorem v72_63 : VS L72_63.eq_1 := rfl
def L72_64 : List AStep := [⟨.store 1 (.t 132) (.t 130), none, none, []⟩]
theorem v72_64 : VS L72_64.eq_1 := rfl
def L72_65 : List AStep := ⟨.iaddr 3 (.t 120) (.t 121), (some 131), none, []⟩ :: ⟨.faddr 2 (.t 131), (some 132), none, []⟩ :: L72_64
theorem v72_65 : VS L72_65.eq_1 := rfl
def L72_66 : List AStep := ⟨.buildSlice 64 1 [(.str (strOfNums [])), (.int .i64 0)] [(0, 2, (.t 128))], (some 129), none, []⟩ :: ⟨.append 64 2 24 (.t 127) (.t 129), (some 130), none, [(.load 1 false (.t 119), (some 120), none)]⟩ :: L72_65
theorem v72_66 : VS L72_66.eq_1 := rfl
def L72_67 : List AStep := ⟨.load 1 false (.t 126), (some 127), none, []⟩ :: ⟨.load 2 true (.t 12), (some 128), none, []⟩ :: L72_66
theorem v72_67 : VS L72_67.eq_1 := rfl
def L72_68 : List AStep := ⟨.iaddr 3 (.t 123) (.t 124), (some 125), none, []⟩ :: ⟨.faddr 2 (.t 125), (some 126), none, []⟩ :: L72_67
theorem v72_68 : VS L72_68.eq_1 := rfl
def L72_69 : List AStep := ⟨.load 1 false (.t 122), (some 123), none, []⟩ :: ⟨.mov (.t 13), (some 124), none, []⟩ :: L72_68
theorem v72_69 : VS L72_69.eq_1 := rfl
def L72_70 : List AStep := ⟨.mov (.t 13), (some 121), none, []⟩ :: ⟨.faddr 0 (.t 6), (some 122), none, []⟩ :: L72_69
theorem v72_70 : VS L72_70.eq_1 := rfl
def L72_71 : List AStep := ⟨.faddr 0 (.t 6), (some 119), none, []⟩ :: ⟨.load 1 false (.t 119), (some 120), none, []⟩ :: L72_70
theorem v72_71 : VS L72_71.eq_1 := rfl
def L72_72 : List AStep := [⟨.mov (.t 139), (some 133), none, []⟩]
theorem v72_72 : VS L72_72.eq_1 := rfl
def L72_73 : List AStep := ⟨.faddr 0 (.t 137), (some 138), none, []⟩ :: ⟨.load 1 false (.t 138), (some 139), none, []⟩ :: L72_72
theorem v72_73 : VS L72_73.eq_1 := rfl
def L72_74 : List AStep := ⟨.mov (.t 13), (some 136), none, []⟩ :: ⟨.iaddr 3 (.t 135) (.t 136), (some 137), none, []⟩ :: L72_73
theorem v72_74 : VS L72_74.eq_1 := rfl
def L72_75 : List AStep := ⟨.faddr 0 (.t 6), (some 134), none, []⟩ :: ⟨.load 1 false (.t 134), (some 135), none, []⟩ :: L72_74
theorem v72_75 : VS L72_75.eq_1 := rfl
def L72_76 : List AStep := [⟨.mov (.t 145), (some 7), none, []⟩]
theorem v72_76 : VS L72_76.eq_1 := rfl
def L72_77 : List AStep := ⟨.buildSlice 52 1 [(.int .i64 0), (.str (strOfNums []))] [(0, 2, (.t 143))], (some 144), none, []⟩ :: ⟨.append 52 2 24 (.t 140) (.t 144), (some 145), none, []⟩ :: L72_76
theorem v72_77 : VS L72_77.eq_1 := rfl
def L72_78 : List AStep := ⟨.load 1 false (.t 141), (some 142), none, []⟩ :: ⟨.build [(.int .i64 0), (.str (strOfNums []))] [(0, 1, (.c (.int .i64 2))), (1, 1, (.t 142))], (some 143), none, []⟩ :: L72_77
theorem v72_78 : VS L72_78.eq_1 := rfl
def L72_79 : List AStep := ⟨.mov (.t 7), (some 140), none, []⟩ :: ⟨.faddr 0 (.t 12), (some 141), none, []⟩ :: L72_78
theorem v72_79 : VS L72_79.eq_1 := rfl
def L72_80 : List AStep := [⟨.store 3 (.t 101) (.t 100), none, none, []⟩]
theorem v72_80 : VS L72_80.eq_1 := rfl
def L72_81 : List AStep := ⟨.build [(.bool false), (.sl none 0 (some 0)), (.sl none 0 (some 0))] [(0, 1, (.c (.bool true))), (1, 1, (.t 99))], (some 100), none, []⟩ :: ⟨.iaddr 3 (.t 95) (.t 96), (some 101), none, []⟩ :: L72_80
theorem v72_81 : VS L72_81.eq_1 := rfl
def L72_82 : List AStep := ⟨.load 1 false (.t 97), (some 98), none, []⟩ :: ⟨.buildSlice 3 1 [(.int .i64 0)] [(0, 1, (.t 98))], (some 99), none, []⟩ :: L72_81
theorem v72_82 : VS L72_82.eq_1 := rfl
def L72_83 : List AStep := ⟨.mov (.t 13), (some 96), none, []⟩ :: ⟨.faddr 1 (.t 12), (some 97), none, []⟩ :: L72_82
theorem v72_83 : VS L72_83.eq_1 := rfl
def L72_84 : List AStep := ⟨.faddr 0 (.t 6), (some 94), none, []⟩ :: ⟨.load 1 false (.t 94), (some 95), none, []⟩ :: L72_83
theorem v72_84 : VS L72_84.eq_1 := rfl
def L72_85 : List AStep := [⟨.mov (.t 84), (some 11), none, []⟩]
theorem v72_85 : VS L72_85.eq_1 := rfl
def L72_86 : List AStep := ⟨.mov (.t 11), (some 83), none, []⟩ :: ⟨.bin .add (.t 83) (.c (.int .i64 1)), (some 84), none, []⟩ :: L72_85
theorem v72_86 : VS L72_86.eq_1 := rfl
def L72_87 : List AStep := [⟨.store 1 (.t 4) (.t 146), none, none, []⟩, ⟨.mov (.t 147), (some 5), none, []⟩]
theorem v72_87 : VS L72_87.eq_1 := rfl
def L72_88 : List AStep := ⟨.load 1 true (.t 6), (some 146), none, []⟩ :: ⟨.mov (.t 7), (some 147), none, []⟩ :: L72_87
theorem v72_88 : VS L72_88.eq_1 := rfl
def C72_0 : ACode := .cond (.t 26) .skip (.exit 0)
theorem u72_0 : VC C72_0.eq_1 := rfl
def C72_1 : ACode := .seq (.reg L72_12) C72_0
theorem u72_1 : VC C72_1.eq_1 := rfl
def C72_2 : ACode := .cond (.t 44) (.reg L72_32) .skip
theorem u72_2 : VC C72_2.eq_1 := rfl
def C72_3 : ACode := .seq (.reg L72_22) C72_2
theorem u72_3 : VC C72_3.eq_1 := rfl
def C72_4 : ACode := .cond (.t 29) (.reg L72_20) C72_3
theorem u72_4 : VC C72_4.eq_1 := rfl
def C72_5 : ACode := .seq (.reg L72_14) C72_4
theorem u72_5 : VC C72_5.eq_1 := rfl
def C72_6 : ACode := .block 2 C72_5
theorem u72_6 : VC C72_6.eq_1 := rfl
def C72_7 : ACode := .block 1 C72_6
theorem u72_7 : VC C72_7.eq_1 := rfl
def C72_8 : ACode := .seq C72_7 (.reg L72_34)
theorem u72_8 : VC C72_8.eq_1 := rfl
def C72_9 : ACode := .seq C72_1 C72_8
theorem u72_9 : VC C72_9.eq_1 := rfl
def C72_10 : ACode := .block 0 (.loop C72_9)
theorem u72_10 : VC C72_10.eq_1 := rfl
def C72_11 : ACode := .seq (.reg L72_9) C72_10
theorem u72_11 : VC C72_11.eq_1 := rfl
def C72_12 : ACode := .cond (.t 73) (.reg L72_42) .skip
theorem u72_12 : VC C72_12.eq_1 := rfl
def C72_13 : ACode := .seq (.reg L72_39) C72_12
theorem u72_13 : VC C72_13.eq_1 := rfl
def C72_14 : ACode := .cond (.t 82) .skip (.exit 3)
theorem u72_14 : VC C72_14.eq_1 := rfl
def C72_15 : ACode := .seq (.reg L72_46) C72_14
theorem u72_15 : VC C72_15.eq_1 := rfl
def C72_16 : ACode := .cond (.t 133) (.reg L72_79) (.reg L72_84)
theorem u72_16 : VC C72_16.eq_1 := rfl
def C72_17 : ACode := .seq (.reg L72_75) C72_16
theorem u72_17 : VC C72_17.eq_1 := rfl
def C72_18 : ACode := .cond (.t 111) (.reg L72_71) C72_17
theorem u72_18 : VC C72_18.eq_1 := rfl
def C72_19 : ACode := .seq (.reg L72_63) C72_18
theorem u72_19 : VC C72_19.eq_1 := rfl
def C72_20 : ACode := .cond (.t 102) (.reg L72_59) C72_19
theorem u72_20 : VC C72_20.eq_1 := rfl
def C72_21 : ACode := .seq (.reg L72_55) C72_20
theorem u72_21 : VC C72_21.eq_1 := rfl
def C72_22 : ACode := .block 5 C72_21
theorem u72_22 : VC C72_22.eq_1 := rfl
def C72_23 : ACode := .seq (.reg L72_53) C72_22
theorem u72_23 : VC C72_23.eq_1 := rfl
def C72_24 : ACode := .seq (.reg L72_50) C72_23
theorem u72_24 : VC C72_24.eq_1 := rfl
def C72_25 : ACode := .block 4 C72_24
theorem u72_25 : VC C72_25.eq_1 := rfl
def C72_26 : ACode := .seq C72_25 (.reg L72_86)
theorem u72_26 : VC C72_26.eq_1 := rfl
def C72_27 : ACode := .seq C72_15 C72_26
theorem u72_27 : VC C72_27.eq_1 := rfl
def C72_28 : ACode := .block 3 (.loop C72_27)
theorem u72_28 : VC C72_28.eq_1 := rfl
def C72_29 : ACode := .seq (.reg L72_43) C72_28
theorem u72_29 : VC C72_29.eq_1 := rfl
def C72_30 : ACode := .seq (.reg L72_88) .ret
theorem u72_30 : VC C72_30.eq_1 := rfl
def C72_31 : ACode := .seq C72_29 C72_30
theorem u72_31 : VC C72_31.eq_1 := rfl
def C72_32 : ACode := .seq C72_13 C72_31
theorem u72_32 : VC C72_32.eq_1 := rfl
def C72_33 : ACode := .seq C72_11 C72_32
theorem u72_33 : VC C72_33.eq_1 := rfl
def C72_34 : ACode := .seq (.reg L72_8) C72_33
theorem u72_34 : VC C72_34.eq_1 := rfl
def C72_35 : ACode := .seq (.reg L72_6) C72_34
theorem u72_35 : VC C72_35.eq_1 := rfl
def C72_36 : ACode := .seq (.reg L72_4) C72_35
theorem u72_36 : VC C72_36.eq_1 := rfl
def C72_37 : ACode := .seq (.reg L72_3) C72_36
theorem u72_37 : VC C72_37.eq_1 := rfl
def C72_38 : ACode := .seq (.reg L72_1) C72_37
theorem u72_38 : VC C72_38.eq_1 := rfl
def F72 : AFunc := ⟨148, [.cell 4 1 true, .tmp 5], C72_38⟩
theorem cF72 : compB Try.prog 72 = some F72 := by kernel_rfl
attribute [local go_sem ↓] u72_0 u72_1 u72_2 u72_3 u72_4 u72_5 u72_6 u72_7 u72_8 u72_9 u72_10 u72_11 u72_12 u72_13 u72_14 u72_15 u72_16 u72_17 u72_18 u72_19 u72_20 u72_21 u72_22 u72_23 u72_24 u72_25 u72_26 u72_27 u72_28 u72_29 u72_30 u72_31 u72_32 u72_33 u72_34 u72_35 u72_36 u72_37 u72_38 v72_0 v72_1 v72_2 v72_3 v72_4 v72_5 v72_6 v72_7 v72_8 v72_9 v72_10 v72_11 v72_12 v72_13 v72_14 v72_15 v72_16 v72_17 v72_18 v72_19 v72_20 v72_21 v72_22 v72_23 v72_24 v72_25 v72_26 v72_27 v72_28 v72_29 v72_30 v72_31 v72_32 v72_33 v72_34 v72_35 v72_36 v72_37 v72_38 v72_39 v72_40 v72_41 v72_42 v72_43 v72_44 v72_45 v72_46 v72_47 v72_48 v72_49 v72_50 v72_51 v72_52 v72_53 v72_54 v72_55 v72_56 v72_57 v72_58 v72_59 v72_60 v72_61 v72_62 v72_63 v72_64 v72_65 v72_66 v72_67 v72_68 v72_69 v72_70 v72_71 v72_72 v72_73 v72_74 v72_75 v72_76 v72_77 v72_78 v72_79 v72_80 v72_81 v72_82 v72_83 v72_84 v72_85 v72_86 v72_87 v72_88
theorem c_bound (l : List Param) (f : Flat) (q p n : CV) (h : H) (hl : SlQ h (.one q) l) (hf : SlF h p n f) (ok1 : okSig l = true) (ok2 : okFlat f = true) :
    callK (bm Try.prog 72 [.agg [q], .agg [p, n]] h) fun r h' => Grow h h' ∧ ∃ v w rs, r = .tup [.agg [v], .one w] ∧ BdY h h' v w rs (boundS l f) (boundB l f) := by
  refine bm_of cF72 ?_
  have o := Ord.of ok1
  have hn := okSig_len ok1
  obtain ⟨hb1, hb2, hb3⟩ := okFlat_sm ok2
  have sq : smQ l := ⟨by unfold big; omega, fun x hx => by have := okSig_name ok1 x hx; unfold big; omega⟩
  have pl0 := places_le (l := l)
  simp +contextual (maxSteps := 2000000) only [go_sem, Nat.reduceEqDiff, reduceCtorEq, Nat.reduceAdd, Nat.reduceLeDiff, F72]
  refine wp_call (c_emptyBinding l q h hl sq.1) ?_
  rintro r h1 ⟨g1, v, rfl, x0⟩
  have k1 := hl.grow g1
  simp +contextual (maxSteps := 2000000) only [go_sem, Nat.reduceEqDiff, reduceCtorEq, Nat.reduceAdd, Nat.reduceLeDiff]
  refine wp_lit (enc := encB) (k := 2) (l := []) rfl rfl ?_
  intro h2 w g2 n2 _
  obtain ⟨w, rfl⟩ := n2.one
  have k2 := k1.grow g2
  simp +contextual (maxSteps := 2000000) only [go_sem, Nat.reduceEqDiff, reduceCtorEq, Nat.reduceAdd, Nat.reduceLeDiff, c_placeCount _ _ _ k2 sq, c_kindAt _ _ _ _ k2 sq]
  have ep : (l.countP byPlace : Nat) = places l := rfl
  rw [ep]
  have z0 : BdY h h2 v w (List.replicate l.length zeroR) (bindPl l (f.pl.take 0)) [] := by
    rw [List.take_zero, bindPl_nil]
    exact ⟨x0.grow g2, n2.from g1.n, fun i hi hj => by have := (n2.lt hi).2; have := (x0.out.out.lt hj).1; omega, fun i hi => by rw [List.getElem_replicate]; exact Sep.nil.symm, fun i hi => by rw [List.getElem_replicate]; exact Sep.nil.symm⟩
  refine wpC_loop (fun i T L h' => Grow h h' ∧ T 2 = .lp 2 0 ∧ (L 2).2 = [q] ∧ T 3 = .lp 3 0 ∧ (L 3).2 = [p, n] ∧ T 4 = .lp 4 0 ∧ (L 4).2 = [.sl none 0 (some 0)] ∧ T 6 = .lp 6 0 ∧ (L 6).2 = [v] ∧ T 7 = .v (.one w) ∧ T 8 = .v (.one (.int .i64 (places l : Nat))) ∧ T 9 = .v (.one (.int .i64 (kindAt l 2))) ∧ T 10 = .v (.one (.int .i64 i)) ∧ ∃ rs, BdY h h' v w rs (bindPl l (f.pl.take i)) []) f.pl.length ?_ ?_ (Nat.zero_le _) ?_
  · rintro i T L h' hi ⟨gg, t2, l2, t3, l3, t4, l4, t6, l6, t7, t8, t9, t10, rs, x⟩
    have k := hf.grow gg
    have hrs : rs.length = l.length := x.len.trans bindPl_len
    by_cases hp : i < places l
    · have hio : i < rs.length := by omega
      have yi := x.sl.out.out.iaddr hio (kd := .i64)
      simp +contextual (maxSteps := 2000000) only [go_sem, Nat.reduceEqDiff, reduceCtorEq, Nat.reduceAdd, Nat.reduceLeDiff, t2, l2, t3, l3, t4, l4, t6, l6, t7, t8, t9, t10, k.pl.len, k.pl.iaddr hi, k.pl.oneO hi, lt_true hi, lt_true hp, yi]
      refine wp_lit (enc := encI) (k := 1) (l := [f.pl[i]]) rfl rfl ?_
      intro h3 w3 g3 n3 b3
      obtain ⟨d, rfl⟩ := n3.one
      simp +contextual (maxSteps := 2000000) only [go_sem, Nat.reduceEqDiff, reduceCtorEq, Nat.reduceAdd, Nat.reduceLeDiff, t2, l2, t3, l3, t4, l4, t6, l6, t7, t8, t9, t10, yi]
      refine wp_setE (x := ⟨true, d, .sl none 0 (some 0)⟩) lenY (x.sl.out.out.grow g3) hio rfl rfl (gg.trans g3) ?_
      intro h4 g4 n4 s4
      simp +contextual (maxSteps := 2000000) only [go_sem, Nat.reduceEqDiff, reduceCtorEq, Nat.reduceAdd, Nat.reduceLeDiff, t2, l2, t3, l3, t4, l4, t6, l6, t7, t8, t9, t10]
      rw [bindPl_place o hp hi]
      exact ⟨g4, by rw [wrap_next hi (by omega)], _, x.put hio g3 ⟨rfl, n3, .nil⟩ Sep.nil.symm n4 s4 gg.n⟩
    · have d1 : decide ((i : Int) < (places l : Nat)) = false := decide_eq_false (by omega)
      cases hr : hasRest l with
      | false =>
        have d2 : decide (kindAt l 2 ≥ 0) = false := hr
        simp +contextual (maxSteps := 2000000) only [go_sem, Nat.reduceEqDiff, reduceCtorEq, Nat.reduceAdd, Nat.reduceLeDiff, t2, l2, t3, l3, t4, l4, t6, l6, t7, t8, t9, t10, k.pl.len, lt_true hi, d1, d2]
        rw [bindPl_over o hp hi hr]
        exact ⟨gg, by rw [wrap_next hi (by omega)], _, x⟩
      | true =>
        obtain ⟨r0, r1, r2⟩ := o.rest_at hr
        have hio : places l < rs.length := by omega
        have hpb : places l < (bindPl l (f.pl.take i)).length := by rw [bindPl_len]; exact r0
        have yi := x.sl.out.out.iaddr hio (kd := .i64)
        have y1 := (x.sl.out.out.sl lenY).fieldO (off := 1) hio (by omega)
        rw [encY_1] at y1
        have d2 : decide (((places l : Nat) : Int) ≥ 0) = true := decide_eq_true (by omega)
        rw [r2] at t9
        have hlen : (bindPl l (f.pl.take i))[places l].list.length ≤ i := by rw [bindPl_at, slotPl_rest r0 r1]; simp; omega
        simp +contextual (maxSteps := 2000000) only [go_sem, Nat.reduceEqDiff, reduceCtorEq, Nat.reduceAdd, Nat.reduceLeDiff, t2, l2, t3, l3, t4, l4, t6, l6, t7, t8, t9, t10, k.pl.len, k.pl.iaddr hi, k.pl.oneO hi, lt_true hi, d1, d2, yi, y1]
        refine wp_lit (enc := encI) (k := 1) (l := [f.pl[i]]) rfl rfl ?_
        intro h3 w3 g3 n3 b3
        simp +contextual (maxSteps := 2000000) only [go_sem, Nat.reduceEqDiff, reduceCtorEq, Nat.reduceAdd, Nat.reduceLeDiff, t2, l2, t3, l3, t4, l4, t6, l6, t7, t8, t9, t10]
        refine wp_append lenI ((x.sl.at hio hpb).list.grow g3) (n3.sl lenI) (gg.trans g3) (by simp; omega) ?_
        intro h4 s4 g4 n4 st4 hb4
        obtain ⟨c4, rfl⟩ := n4.one
        simp +contextual (maxSteps := 2000000) only [go_sem, Nat.reduceEqDiff, reduceCtorEq, Nat.reduceAdd, Nat.reduceLeDiff, t2, l2, t3, l3, t4, l4, t6, l6, t7, t8, t9, t10, yi]
        refine wp_set (x := { rs[places l] with lv := c4 }) (off := 1) (vs := [c4]) lenY ((x.sl.out.out.grow g3).stay st4 (x.sl.out.vlv _ hio)) hio rfl rfl (Nat.le_of_ble_eq_true rfl) g4 ?_
        intro h5 g5 n5 s5
        simp +contextual (maxSteps := 2000000) only [go_sem, Nat.reduceEqDiff, reduceCtorEq, Nat.reduceAdd, Nat.reduceLeDiff, t2, l2, t3, l3, t4, l4, t6, l6, t7, t8, t9, t10]
        rw [bindPl_rest o hp hi hr hpb]
        exact ⟨g5, by rw [r2], by rw [wrap_next hi (by omega)], _, (x.grow g3).app_list hio hpb n4 st4 hb4 n5 s5⟩
  · rintro T L h' ⟨gg, t2, l2, t3, l3, t4, l4, t6, l6, t7, t8, t9, t10, rs, x⟩
    have k := hf.grow gg
    rw [List.take_length] at x
    by_cases hm : places l < f.pl.length
    · have d1 : decide ((f.pl.length : Int) > (places l : Nat)) = true := decide_eq_true (by omega)
      cases hr : hasRest l with
      | true =>
        obtain ⟨r0, r1, r2⟩ := o.rest_at hr
        have d2 : decide (kindAt l 2 < 0) = false := decide_eq_false (by omega)
        have em : manyB l f.pl = [] := by unfold manyB; rw [if_neg (by simp [hr])]
        rw [← em] at x
        simp +contextual (maxSteps := 2000000) only [go_sem, Nat.reduceEqDiff, reduceCtorEq, Nat.reduceAdd, Nat.reduceLeDiff, t2, l2, t3, l3, t4, l4, t6, l6, t7, t8, t9, t10, k.pl.len, lt_false, d1, d2]
        refine wpC_loop (fun i T L h' => Grow h h' ∧ T 2 = .lp 2 0 ∧ (L 2).2 = [q] ∧ T 3 = .lp 3 0 ∧ (L 3).2 = [p, n] ∧ T 4 = .lp 4 0 ∧ (L 4).2 = [.sl none 0 (some 0)] ∧ T 6 = .lp 6 0 ∧ (L 6).2 = [v] ∧ (∃ w rs, T 7 = .v (.one w) ∧ BdY h h' v w rs (nameF l f i).slots (nameF l f i).bad) ∧ T 11 = .v (.one (.int .i64 i))) f.nl.length ?_ ?_ (Nat.zero_le _) ?_
        · rintro i T L h' hi ⟨gg, t2, l2, t3, l3, t4, l4, t6, l6, ⟨w, rs, t7, x⟩, tx⟩
          have k := hf.grow gg
          have kl := hl.grow gg
          have ok := BOk.nameF (l := l) (f := f) hb3 (i := i) (by omega)
          have hrs : rs.length = l.length := x.len.trans ok.len
          have tk := c_takesName l q f.nl[i].name h' kl sq
          rw [nameF_next hi]
          rcases takes_cases l f.nl[i].name with e | ⟨j, hj, e⟩
          · rw [nameStep_no e]
            rw [e] at tk
            simp +contextual (maxSteps := 2000000) only [go_sem, Nat.reduceEqDiff, reduceCtorEq, Nat.reduceAdd, Nat.reduceLeDiff, t2, l2, t3, l3, t4, l4, t6, l6, t7, tx, k.nl.len, k.nl.iaddr hi, k.nl.whole hi, encP, lt_true hi, tk]
            refine wp_lit (enc := encB) (k := 2) (l := [⟨1, f.nl[i].name⟩]) rfl rfl ?_
            intro h3 w3 g3 n3 _
            simp +contextual (maxSteps := 2000000) only [go_sem, Nat.reduceEqDiff, reduceCtorEq, Nat.reduceAdd, Nat.reduceLeDiff, t2, l2, t3, l3, t4, l4, t6, l6, t7, tx]
            refine wp_append lenB (x.pr.grow g3) (n3.sl lenB) (gg.trans g3) (by have := ok.bad; simp; omega) ?_
            intro h4 s4 g4 n4 st4 hb4
            obtain ⟨c4, rfl⟩ := n4.one
            simp +contextual (maxSteps := 2000000) only [go_sem, Nat.reduceEqDiff, reduceCtorEq, Nat.reduceAdd, Nat.reduceLeDiff, t2, l2, t3, l3, t4, l4, t6, l6, t7, tx]
            exact ⟨g4, ⟨c4, rs, rfl, (x.grow g3).push n4 st4 hb4⟩, by rw [wrap_next hi (by omega)]⟩
          · rw [e] at tk
            have hs : j < (nameF l f i).slots.length := by rw [ok.len]; exact hj
            have hio : j < rs.length := by omega
            have z := x.sl.at hio hs
            have yi := x.sl.out.out.iaddr hio (kd := .i64)
            have y0 := (x.sl.out.out.sl lenY).fieldO (off := 0) hio (by omega)
            have y2 := (x.sl.out.out.sl lenY).fieldO (off := 2) hio (by omega)
            rw [encY_0] at y0
            rw [encY_2] at y2
            have dj : decide ((j : Int) < 0) = false := decide_eq_false (by omega)
            by_cases kk : l[j].kind = 4
            · rw [nameStep_map e hj hs kk]
              have dk : decide (l[j].kind = 4) = true := decide_eq_true kk
              simp +contextual (maxSteps := 2000000) only [go_sem, Nat.reduceEqDiff, reduceCtorEq, Nat.reduceAdd, Nat.reduceLeDiff, t2, l2, t3, l3, t4, l4, t6, l6, t7, tx, k.nl.len, k.nl.iaddr hi, k.nl.whole hi, encP, lt_true hi, tk, dj, kl.iaddr hj, kl.fieldO hj, dk, yi, y2]
              refine wp_lit (enc := encP) (k := 2) (l := [f.nl[i]]) rfl rfl ?_
              intro h3 w3 g3 n3 _
              simp +contextual (maxSteps := 2000000) only [go_sem, Nat.reduceEqDiff, reduceCtorEq, Nat.reduceAdd, Nat.reduceLeDiff, t2, l2, t3, l3, t4, l4, t6, l6, t7, tx]
              refine wp_append lenP (z.pairs.grow g3) (n3.sl lenP) (gg.trans g3) (by have := ok.pairs _ (List.getElem_mem hs); simp; omega) ?_
              intro h4 s4 g4 n4 st4 hb4
              obtain ⟨c4, rfl⟩ := n4.one
              simp +contextual (maxSteps := 2000000) only [go_sem, Nat.reduceEqDiff, reduceCtorEq, Nat.reduceAdd, Nat.reduceLeDiff, t2, l2, t3, l3, t4, l4, t6, l6, t7, tx, yi]
              refine wp_set (x := { rs[j] with pv := c4 }) (off := 2) (vs := [c4]) lenY ((x.sl.out.out.grow g3).stay st4 (x.sl.out.vpv _ hio)) hio rfl rfl (Nat.le_of_ble_eq_true rfl) g4 ?_
              intro h5 g5 n5 s5
              simp +contextual (maxSteps := 2000000) only [go_sem, Nat.reduceEqDiff, reduceCtorEq, Nat.reduceAdd, Nat.reduceLeDiff, t2, l2, t3, l3, t4, l4, t6, l6, t7, tx]
              exact ⟨g5, ⟨w, _, rfl, (x.grow g3).app_pairs hio hs n4 st4 hb4 n5 s5⟩, by rw [wrap_next hi (by omega)]⟩
            · have dk : decide (l[j].kind = 4) = false := decide_eq_false kk
              cases b : (nameF l f i).slots[j].given with
              | true =>
                rw [nameStep_twice e hj hs kk b]
                rw [z.given, b] at y0
                simp +contextual (maxSteps := 2000000) only [go_sem, Nat.reduceEqDiff, reduceCtorEq, Nat.reduceAdd, Nat.reduceLeDiff, t2, l2, t3, l3, t4, l4, t6, l6, t7, tx, k.nl.len, k.nl.iaddr hi, k.nl.whole hi, encP, lt_true hi, tk, dj, kl.iaddr hj, kl.fieldO hj, dk, yi, y0]
                refine wp_lit (enc := encB) (k := 2) (l := [⟨2, f.nl[i].name⟩]) rfl rfl ?_
                intro h3 w3 g3 n3 _
                simp +contextual (maxSteps := 2000000) only [go_sem, Nat.reduceEqDiff, reduceCtorEq, Nat.reduceAdd, Nat.reduceLeDiff, t2, l2, t3, l3, t4, l4, t6, l6, t7, tx]
                refine wp_append lenB (x.pr.grow g3) (n3.sl lenB) (gg.trans g3) (by have := ok.bad; simp; omega) ?_
                intro h4 s4 g4 n4 st4 hb4
                obtain ⟨c4, rfl⟩ := n4.one
                simp +contextual (maxSteps := 2000000) only [go_sem, Nat.reduceEqDiff, reduceCtorEq, Nat.reduceAdd, Nat.reduceLeDiff, t2, l2, t3, l3, t4, l4, t6, l6, t7, tx]
                exact ⟨g4, ⟨c4, rs, rfl, (x.grow g3).push n4 st4 hb4⟩, by rw [wrap_next hi (by omega)]⟩
              | false =>
                rw [nameStep_give e hj hs kk b]
                rw [z.given, b] at y0
                simp +contextual (maxSteps := 2000000) only [go_sem, Nat.reduceEqDiff, reduceCtorEq, Nat.reduceAdd, Nat.reduceLeDiff, t2, l2, t3, l3, t4, l4, t6, l6, t7, tx, k.nl.len, k.nl.iaddr hi, k.nl.whole hi, encP, lt_true hi, tk, dj, kl.iaddr hj, kl.fieldO hj, dk, yi, y0]
                refine wp_lit (enc := encI) (k := 1) (l := [f.nl[i].value]) rfl rfl ?_
                intro h3 w3 g3 n3 b3
                obtain ⟨d, rfl⟩ := n3.one
                simp +contextual (maxSteps := 2000000) only [go_sem, Nat.reduceEqDiff, reduceCtorEq, Nat.reduceAdd, Nat.reduceLeDiff, t2, l2, t3, l3, t4, l4, t6, l6, t7, tx, yi]
                refine wp_setE (x := ⟨true, d, .sl none 0 (some 0)⟩) lenY (x.sl.out.out.grow g3) hio rfl rfl (gg.trans g3) ?_
                intro h4 g4 n4 s4
                simp +contextual (maxSteps := 2000000) only [go_sem, Nat.reduceEqDiff, reduceCtorEq, Nat.reduceAdd, Nat.reduceLeDiff, t2, l2, t3, l3, t4, l4, t6, l6, t7, tx]
                exact ⟨g4, ⟨w, _, rfl, x.put hio g3 ⟨rfl, n3, .nil⟩ Sep.nil.symm n4 s4 gg.n⟩, by rw [wrap_next hi (by omega)]⟩
        · rintro T L h' ⟨gg, t2, l2, t3, l3, t4, l4, t6, l6, ⟨w, rs, t7, x⟩, tx⟩
          have k := hf.grow gg
          simp +contextual (maxSteps := 2000000) only [go_sem, Nat.reduceEqDiff, reduceCtorEq, Nat.reduceAdd, Nat.reduceLeDiff, t2, l2, t3, l3, t4, l4, t6, l6, t7, tx, k.nl.len, lt_false]
          exact gcK_of ⟨gg, _, _, _, rfl, x⟩ (fun hs _ => by
            simp only [AV.scalar, AV.scalars, List.all_cons, List.all_nil, Bool.and_true, Bool.and_eq_true] at hs
            exact ⟨Grow.refl h, _, _, _, rfl, x.scalar hs.1 hs.2 h⟩)
        · simp +contextual (maxSteps := 2000000) only [go_sem, Nat.reduceEqDiff, reduceCtorEq, Nat.reduceAdd, Nat.reduceLeDiff, t2, l2, t3, l3, t4, l4, t6, l6, t7]
          rw [nameF_zero]
          exact ⟨gg, ⟨w, rs, rfl, x⟩, rfl⟩
      | false =>
        have d2 : decide (kindAt l 2 < 0) = true := by
          unfold hasRest at hr
          have := of_decide_eq_false hr
          exact decide_eq_true (by omega)
        have em : manyB l f.pl = [⟨0, strOfNums []⟩] := by unfold manyB; rw [if_pos ⟨hm, hr⟩]
        simp +contextual (maxSteps := 2000000) only [go_sem, Nat.reduceEqDiff, reduceCtorEq, Nat.reduceAdd, Nat.reduceLeDiff, t2, l2, t3, l3, t4, l4, t6, l6, t7, t8, t9, t10, k.pl.len, lt_false, d1, d2]
        refine wp_lit (enc := encB) (k := 2) (l := [⟨0, strOfNums []⟩]) rfl rfl ?_
        intro h3 w3 g3 n3 _
        simp +contextual (maxSteps := 2000000) only [go_sem, Nat.reduceEqDiff, reduceCtorEq, Nat.reduceAdd, Nat.reduceLeDiff, t2, l2, t3, l3, t4, l4, t6, l6, t7, t8, t9, t10]
        refine wp_append lenB (x.pr.grow g3) (n3.sl lenB) (gg.trans g3) (by simp) ?_
        intro h4 s4 g4 n4 st4 hb4
        obtain ⟨c4, rfl⟩ := n4.one
        have x := (x.grow g3).push n4 st4 hb4
        rw [List.nil_append, ← em] at x
        simp +contextual (maxSteps := 2000000) only [go_sem, Nat.reduceEqDiff, reduceCtorEq, Nat.reduceAdd, Nat.reduceLeDiff, t2, l2, t3, l3, t4, l4, t6, l6, t7, t8, t9, t10]
        refine wpC_loop (fun i T L h' => Grow h h' ∧ T 2 = .lp 2 0 ∧ (L 2).2 = [q] ∧ T 3 = .lp 3 0 ∧ (L 3).2 = [p, n] ∧ T 4 = .lp 4 0 ∧ (L 4).2 = [.sl none 0 (some 0)] ∧ T 6 = .lp 6 0 ∧ (L 6).2 = [v] ∧ (∃ w rs, T 7 = .v (.one w) ∧ BdY h h' v w rs (nameF l f i).slots (nameF l f i).bad) ∧ T 11 = .v (.one (.int .i64 i))) f.nl.length ?_ ?_ (Nat.zero_le _) ?_
        · rintro i T L h' hi ⟨gg, t2, l2, t3, l3, t4, l4, t6, l6, ⟨w, rs, t7, x⟩, tx⟩
          have k := hf.grow gg
          have kl := hl.grow gg
          have ok := BOk.nameF (l := l) (f := f) hb3 (i := i) (by omega)
          have hrs : rs.length = l.length := x.len.trans ok.len
          have tk := c_takesName l q f.nl[i].name h' kl sq
          rw [nameF_next hi]
          rcases takes_cases l f.nl[i].name with e | ⟨j, hj, e⟩
          · rw [nameStep_no e]
            rw [e] at tk
            simp +contextual (maxSteps := 2000000) only [go_sem, Nat.reduceEqDiff, reduceCtorEq, Nat.reduceAdd, Nat.reduceLeDiff, t2, l2, t3, l3, t4, l4, t6, l6, t7, tx, k.nl.len, k.nl.iaddr hi, k.nl.whole hi, encP, lt_true hi, tk]
            refine wp_lit (enc := encB) (k := 2) (l := [⟨1, f.nl[i].name⟩]) rfl rfl ?_
            intro h3 w3 g3 n3 _
            simp +contextual (maxSteps := 2000000) only [go_sem, Nat.reduceEqDiff, reduceCtorEq, Nat.reduceAdd, Nat.reduceLeDiff, t2, l2, t3, l3, t4, l4, t6, l6, t7, tx]
            refine wp_append lenB (x.pr.grow g3) (n3.sl lenB) (gg.trans g3) (by have := ok.bad; simp; omega) ?_
            intro h4 s4 g4 n4 st4 hb4
            obtain ⟨c4, rfl⟩ := n4.one
            simp +contextual (maxSteps := 2000000) only [go_sem, Nat.reduceEqDiff, reduceCtorEq, Nat.reduceAdd, Nat.reduceLeDiff, t2, l2, t3, l3, t4, l4, t6, l6, t7, tx]
            exact ⟨g4, ⟨c4, rs, rfl, (x.grow g3).push n4 st4 hb4⟩, by rw [wrap_next hi (by omega)]⟩
          · rw [e] at tk
            have hs : j < (nameF l f i).slots.length := by rw [ok.len]; exact hj
            have hio : j < rs.length := by omega
            have z := x.sl.at hio hs
            have yi := x.sl.out.out.iaddr hio (kd := .i64)
            have y0 := (x.sl.out.out.sl lenY).fieldO (off := 0) hio (by omega)
            have y2 := (x.sl.out.out.sl lenY).fieldO (off := 2) hio (by omega)
            rw [encY_0] at y0
            rw [encY_2] at y2
            have dj : decide ((j : Int) < 0) = false := decide_eq_false (by omega)
            by_cases kk : l[j].kind = 4
            · rw [nameStep_map e hj hs kk]
              have dk : decide (l[j].kind = 4) = true := decide_eq_true kk
              simp +contextual (maxSteps := 2000000) only [go_sem, Nat.reduceEqDiff, reduceCtorEq, Nat.reduceAdd, Nat.reduceLeDiff, t2, l2, t3, l3, t4, l4, t6, l6, t7, tx, k.nl.len, k.nl.iaddr hi, k.nl.whole hi, encP, lt_true hi, tk, dj, kl.iaddr hj, kl.fieldO hj, dk, yi, y2]
              refine wp_lit (enc := encP) (k := 2) (l := [f.nl[i]]) rfl rfl ?_
              intro h3 w3 g3 n3 _
              simp +contextual (maxSteps := 2000000) only [go_sem, Nat.reduceEqDiff, reduceCtorEq, Nat.reduceAdd, Nat.reduceLeDiff, t2, l2, t3, l3, t4, l4, t6, l6, t7, tx]
              refine wp_append lenP (z.pairs.grow g3) (n3.sl lenP) (gg.trans g3) (by have := ok.pairs _ (List.getElem_mem hs); simp; omega) ?_
              intro h4 s4 g4 n4 st4 hb4
              obtain ⟨c4, rfl⟩ := n4.one
              simp +contextual (maxSteps := 2000000) only [go_sem, Nat.reduceEqDiff, reduceCtorEq, Nat.reduceAdd, Nat.reduceLeDiff, t2, l2, t3, l3, t4, l4, t6, l6, t7, tx, yi]
              refine wp_set (x := { rs[j] with pv := c4 }) (off := 2) (vs := [c4]) lenY ((x.sl.out.out.grow g3).stay st4 (x.sl.out.vpv _ hio)) hio rfl rfl (Nat.le_of_ble_eq_true rfl) g4 ?_
              intro h5 g5 n5 s5
              simp +contextual (maxSteps := 2000000) only [go_sem, Nat.reduceEqDiff, reduceCtorEq, Nat.reduceAdd, Nat.reduceLeDiff, t2, l2, t3, l3, t4, l4, t6, l6, t7, tx]
              exact ⟨g5, ⟨w, _, rfl, (x.grow g3).app_pairs hio hs n4 st4 hb4 n5 s5⟩, by rw [wrap_next hi (by omega)]⟩
            · have dk : decide (l[j].kind = 4) = false := decide_eq_false kk
              cases b : (nameF l f i).slots[j].given with
              | true =>
                rw [nameStep_twice e hj hs kk b]
                rw [z.given, b] at y0
                simp +contextual (maxSteps := 2000000) only [go_sem, Nat.reduceEqDiff, reduceCtorEq, Nat.reduceAdd, Nat.reduceLeDiff, t2, l2, t3, l3, t4, l4, t6, l6, t7, tx, k.nl.len, k.nl.iaddr hi, k.nl.whole hi, encP, lt_true hi, tk, dj, kl.iaddr hj, kl.fieldO hj, dk, yi, y0]
                refine wp_lit (enc := encB) (k := 2) (l := [⟨2, f.nl[i].name⟩]) rfl rfl ?_
                intro h3 w3 g3 n3 _
                simp +contextual (maxSteps := 2000000) only [go_sem, Nat.reduceEqDiff, reduceCtorEq, Nat.reduceAdd, Nat.reduceLeDiff, t2, l2, t3, l3, t4, l4, t6, l6, t7, tx]
                refine wp_append lenB (x.pr.grow g3) (n3.sl lenB) (gg.trans g3) (by have := ok.bad; simp; omega) ?_
                intro h4 s4 g4 n4 st4 hb4
                obtain ⟨c4, rfl⟩ := n4.one
                simp +contextual (maxSteps := 2000000) only [go_sem, Nat.reduceEqDiff, reduceCtorEq, Nat.reduceAdd, Nat.reduceLeDiff, t2, l2, t3, l3, t4, l4, t6, l6, t7, tx]
                exact ⟨g4, ⟨c4, rs, rfl, (x.grow g3).push n4 st4 hb4⟩, by rw [wrap_next hi (by omega)]⟩
              | false =>
                rw [nameStep_give e hj hs kk b]
                rw [z.given, b] at y0
                simp +contextual (maxSteps := 2000000) only [go_sem, Nat.reduceEqDiff, reduceCtorEq, Nat.reduceAdd, Nat.reduceLeDiff, t2, l2, t3, l3, t4, l4, t6, l6, t7, tx, k.nl.len, k.nl.iaddr hi, k.nl.whole hi, encP, lt_true hi, tk, dj, kl.iaddr hj, kl.fieldO hj, dk, yi, y0]
                refine wp_lit (enc := encI) (k := 1) (l := [f.nl[i].value]) rfl rfl ?_
                intro h3 w3 g3 n3 b3
                obtain ⟨d, rfl⟩ := n3.one
                simp +contextual (maxSteps := 2000000) only [go_sem, Nat.reduceEqDiff, reduceCtorEq, Nat.reduceAdd, Nat.reduceLeDiff, t2, l2, t3, l3, t4, l4, t6, l6, t7, tx, yi]
                refine wp_setE (x := ⟨true, d, .sl none 0 (some 0)⟩) lenY (x.sl.out.out.grow g3) hio rfl rfl (gg.trans g3) ?_
                intro h4 g4 n4 s4
                simp +contextual (maxSteps := 2000000) only [go_sem, Nat.reduceEqDiff, reduceCtorEq, Nat.reduceAdd, Nat.reduceLeDiff, t2, l2, t3, l3, t4, l4, t6, l6, t7, tx]
                exact ⟨g4, ⟨w, _, rfl, x.put hio g3 ⟨rfl, n3, .nil⟩ Sep.nil.symm n4 s4 gg.n⟩, by rw [wrap_next hi (by omega)]⟩
        · rintro T L h' ⟨gg, t2, l2, t3, l3, t4, l4, t6, l6, ⟨w, rs, t7, x⟩, tx⟩
          have k := hf.grow gg
          simp +contextual (maxSteps := 2000000) only [go_sem, Nat.reduceEqDiff, reduceCtorEq, Nat.reduceAdd, Nat.reduceLeDiff, t2, l2, t3, l3, t4, l4, t6, l6, t7, tx, k.nl.len, lt_false]
          exact gcK_of ⟨gg, _, _, _, rfl, x⟩ (fun hs _ => by
            simp only [AV.scalar, AV.scalars, List.all_cons, List.all_nil, Bool.and_true, Bool.and_eq_true] at hs
            exact ⟨Grow.refl h, _, _, _, rfl, x.scalar hs.1 hs.2 h⟩)
        · simp +contextual (maxSteps := 2000000) only [go_sem, Nat.reduceEqDiff, reduceCtorEq, Nat.reduceAdd, Nat.reduceLeDiff, t2, l2, t3, l3, t4, l4, t6, l6, t7]
          rw [nameF_zero]
          exact ⟨g4, ⟨c4, rs, rfl, x⟩, rfl⟩
    · have d1 : decide ((f.pl.length : Int) > (places l : Nat)) = false := decide_eq_false (by omega)
      have em : manyB l f.pl = [] := by unfold manyB; rw [if_neg (by omega)]
      rw [← em] at x
      simp +contextual (maxSteps := 2000000) only [go_sem, Nat.reduceEqDiff, reduceCtorEq, Nat.reduceAdd, Nat.reduceLeDiff, t2, l2, t3, l3, t4, l4, t6, l6, t7, t8, t9, t10, k.pl.len, lt_false, d1]
      refine wpC_loop (fun i T L h' => Grow h h' ∧ T 2 = .lp 2 0 ∧ (L 2).2 = [q] ∧ T 3 = .lp 3 0 ∧ (L 3).2 = [p, n] ∧ T 4 = .lp 4 0 ∧ (L 4).2 = [.sl none 0 (some 0)] ∧ T 6 = .lp 6 0 ∧ (L 6).2 = [v] ∧ (∃ w rs, T 7 = .v (.one w) ∧ BdY h h' v w rs (nameF l f i).slots (nameF l f i).bad) ∧ T 11 = .v (.one (.int .i64 i))) f.nl.length ?_ ?_ (Nat.zero_le _) ?_
      · rintro i T L h' hi ⟨gg, t2, l2, t3, l3, t4, l4, t6, l6, ⟨w, rs, t7, x⟩, tx⟩
        have k := hf.grow gg
        have kl := hl.grow gg
        have ok := BOk.nameF (l := l) (f := f) hb3 (i := i) (by omega)
        have hrs : rs.length = l.length := x.len.trans ok.len
        have tk := c_takesName l q f.nl[i].name h' kl sq
        rw [nameF_next hi]
        rcases takes_cases l f.nl[i].name with e | ⟨j, hj, e⟩
        · rw [nameStep_no e]
          rw [e] at tk
          simp +contextual (maxSteps := 2000000) only [go_sem, Nat.reduceEqDiff, reduceCtorEq, Nat.reduceAdd, Nat.reduceLeDiff, t2, l2, t3, l3, t4, l4, t6, l6, t7, tx, k.nl.len, k.nl.iaddr hi, k.nl.whole hi, encP, lt_true hi, tk]
          refine wp_lit (enc := encB) (k := 2) (l := [⟨1, f.nl[i].name⟩]) rfl rfl ?_
          intro h3 w3 g3 n3 _
          simp +contextual (maxSteps := 2000000) only [go_sem, Nat.reduceEqDiff, reduceCtorEq, Nat.reduceAdd, Nat.reduceLeDiff, t2, l2, t3, l3, t4, l4, t6, l6, t7, tx]
          refine wp_append lenB (x.pr.grow g3) (n3.sl lenB) (gg.trans g3) (by have := ok.bad; simp; omega) ?_
          intro h4 s4 g4 n4 st4 hb4
          obtain ⟨c4, rfl⟩ := n4.one
          simp +contextual (maxSteps := 2000000) only [go_sem, Nat.reduceEqDiff, reduceCtorEq, Nat.reduceAdd, Nat.reduceLeDiff, t2, l2, t3, l3, t4, l4, t6, l6, t7, tx]
          exact ⟨g4, ⟨c4, rs, rfl, (x.grow g3).push n4 st4 hb4⟩, by rw [wrap_next hi (by omega)]⟩
        · rw [e] at tk
          have hs : j < (nameF l f i).slots.length := by rw [ok.len]; exact hj
          have hio : j < rs.length := by omega
          have z := x.sl.at hio hs
          have yi := x.sl.out.out.iaddr hio (kd := .i64)
          have y0 := (x.sl.out.out.sl lenY).fieldO (off := 0) hio (by omega)
          have y2 := (x.sl.out.out.sl lenY).fieldO (off := 2) hio (by omega)
          rw [encY_0] at y0
          rw [encY_2] at y2
          have dj : decide ((j : Int) < 0) = false := decide_eq_false (by omega)
          by_cases kk : l[j].kind = 4
          · rw [nameStep_map e hj hs kk]
            have dk : decide (l[j].kind = 4) = true := decide_eq_true kk
            simp +contextual (maxSteps := 2000000) only [go_sem, Nat.reduceEqDiff, reduceCtorEq, Nat.reduceAdd, Nat.reduceLeDiff, t2, l2, t3, l3, t4, l4, t6, l6, t7, tx, k.nl.len, k.nl.iaddr hi, k.nl.whole hi, encP, lt_true hi, tk, dj, kl.iaddr hj, kl.fieldO hj, dk, yi, y2]
            refine wp_lit (enc := encP) (k := 2) (l := [f.nl[i]]) rfl rfl ?_
            intro h3 w3 g3 n3 _
            simp +contextual (maxSteps := 2000000) only [go_sem, Nat.reduceEqDiff, reduceCtorEq, Nat.reduceAdd, Nat.reduceLeDiff, t2, l2, t3, l3, t4, l4, t6, l6, t7, tx]
            refine wp_append lenP (z.pairs.grow g3) (n3.sl lenP) (gg.trans g3) (by have := ok.pairs _ (List.getElem_mem hs); simp; omega) ?_
            intro h4 s4 g4 n4 st4 hb4
            obtain ⟨c4, rfl⟩ := n4.one
            simp +contextual (maxSteps := 2000000) only [go_sem, Nat.reduceEqDiff, reduceCtorEq, Nat.reduceAdd, Nat.reduceLeDiff, t2, l2, t3, l3, t4, l4, t6, l6, t7, tx, yi]
            refine wp_set (x := { rs[j] with pv := c4 }) (off := 2) (vs := [c4]) lenY ((x.sl.out.out.grow g3).stay st4 (x.sl.out.vpv _ hio)) hio rfl rfl (Nat.le_of_ble_eq_true rfl) g4 ?_
            intro h5 g5 n5 s5
            simp +contextual (maxSteps := 2000000) only [go_sem, Nat.reduceEqDiff, reduceCtorEq, Nat.reduceAdd, Nat.reduceLeDiff, t2, l2, t3, l3, t4, l4, t6, l6, t7, tx]
            exact ⟨g5, ⟨w, _, rfl, (x.grow g3).app_pairs hio hs n4 st4 hb4 n5 s5⟩, by rw [wrap_next hi (by omega)]⟩
          · have dk : decide (l[j].kind = 4) = false := decide_eq_false kk
            cases b : (nameF l f i).slots[j].given with
            | true =>
              rw [nameStep_twice e hj hs kk b]
              rw [z.given, b] at y0
              simp +contextual (maxSteps := 2000000) only [go_sem, Nat.reduceEqDiff, reduceCtorEq, Nat.reduceAdd, Nat.reduceLeDiff, t2, l2, t3, l3, t4, l4, t6, l6, t7, tx, k.nl.len, k.nl.iaddr hi, k.nl.whole hi, encP, lt_true hi, tk, dj, kl.iaddr hj, kl.fieldO hj, dk, yi, y0]
              refine wp_lit (enc := encB) (k := 2) (l := [⟨2, f.nl[i].name⟩]) rfl rfl ?_
              intro h3 w3 g3 n3 _
              simp +contextual (maxSteps := 2000000) only [go_sem, Nat.reduceEqDiff, reduceCtorEq, Nat.reduceAdd, Nat.reduceLeDiff, t2, l2, t3, l3, t4, l4, t6, l6, t7, tx]
              refine wp_append lenB (x.pr.grow g3) (n3.sl lenB) (gg.trans g3) (by have := ok.bad; simp; omega) ?_
              intro h4 s4 g4 n4 st4 hb4
              obtain ⟨c4, rfl⟩ := n4.one
              simp +contextual (maxSteps := 2000000) only [go_sem, Nat.reduceEqDiff, reduceCtorEq, Nat.reduceAdd, Nat.reduceLeDiff, t2, l2, t3, l3, t4, l4, t6, l6, t7, tx]
              exact ⟨g4, ⟨c4, rs, rfl, (x.grow g3).push n4 st4 hb4⟩, by rw [wrap_next hi (by omega)]⟩
            | false =>
              rw [nameStep_give e hj hs kk b]
              rw [z.given, b] at y0
              simp +contextual (maxSteps := 2000000) only [go_sem, Nat.reduceEqDiff, reduceCtorEq, Nat.reduceAdd, Nat.reduceLeDiff, t2, l2, t3, l3, t4, l4, t6, l6, t7, tx, k.nl.len, k.nl.iaddr hi, k.nl.whole hi, encP, lt_true hi, tk, dj, kl.iaddr hj, kl.fieldO hj, dk, yi, y0]
              refine wp_lit (enc := encI) (k := 1) (l := [f.nl[i].value]) rfl rfl ?_
              intro h3 w3 g3 n3 b3
              obtain ⟨d, rfl⟩ := n3.one
              simp +contextual (maxSteps := 2000000) only [go_sem, Nat.reduceEqDiff, reduceCtorEq, Nat.reduceAdd, Nat.reduceLeDiff, t2, l2, t3, l3, t4, l4, t6, l6, t7, tx, yi]
              refine wp_setE (x := ⟨true, d, .sl none 0 (some 0)⟩) lenY (x.sl.out.out.grow g3) hio rfl rfl (gg.trans g3) ?_
              intro h4 g4 n4 s4
              simp +contextual (maxSteps := 2000000) only [go_sem, Nat.reduceEqDiff, reduceCtorEq, Nat.reduceAdd, Nat.reduceLeDiff, t2, l2, t3, l3, t4, l4, t6, l6, t7, tx]
              exact ⟨g4, ⟨w, _, rfl, x.put hio g3 ⟨rfl, n3, .nil⟩ Sep.nil.symm n4 s4 gg.n⟩, by rw [wrap_next hi (by omega)]⟩
      · rintro T L h' ⟨gg, t2, l2, t3, l3, t4, l4, t6, l6, ⟨w, rs, t7, x⟩, tx⟩
        have k := hf.grow gg
        simp +contextual (maxSteps := 2000000) only [go_sem, Nat.reduceEqDiff, reduceCtorEq, Nat.reduceAdd, Nat.reduceLeDiff, t2, l2, t3, l3, t4, l4, t6, l6, t7, tx, k.nl.len, lt_false]
        exact gcK_of ⟨gg, _, _, _, rfl, x⟩ (fun hs _ => by
          simp only [AV.scalar, AV.scalars, List.all_cons, List.all_nil, Bool.and_true, Bool.and_eq_true] at hs
          exact ⟨Grow.refl h, _, _, _, rfl, x.scalar hs.1 hs.2 h⟩)
      · simp +contextual (maxSteps := 2000000) only [go_sem, Nat.reduceEqDiff, reduceCtorEq, Nat.reduceAdd, Nat.reduceLeDiff, t2, l2, t3, l3, t4, l4, t6, l6, t7]
        rw [nameF_zero]
        exact ⟨gg, ⟨w, rs, rfl, x⟩, rfl⟩
  · simp +contextual (maxSteps := 2000000) only [go_sem, Nat.reduceEqDiff, reduceCtorEq, Nat.reduceAdd, Nat.reduceLeDiff]
    exact ⟨g1.trans g2, rfl, _, by rw [List.take_zero] at z0; exact z0⟩
end Go.Proofs.Ytekkimfdcbgcoab.Am
