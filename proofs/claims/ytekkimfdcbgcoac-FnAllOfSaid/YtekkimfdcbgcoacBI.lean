/- Contracts: what a call gives to the parameters, of the reference. -/
import Derived.Test.YtekkimfdcbgcoacA2
import Derived.Test.YtekkimfdcbgcoacA3
import Derived.Test.YtekkimfdcbgcoacB1
import Derived.Test.YtekkimfdcbgcoacBY
namespace Go.Proofs.Ytekkimfdcbgcoac.Am
open Go
set_option maxRecDepth 100000
set_option maxHeartbeats 4000000
set_option linter.unusedSimpArgs false
set_option linter.unusedVariables false
attribute [local go_sem ↓] bv_t bv_c ev_t ev_c put_same put_ne put_none kill_at pro_at lb_same lb_ne start_zero start_succ wpC_seq wpC_reg wpC_cond wpC_block wpC_skip wpC_exit wpC_ret thenQ_normal thenQ_exit thenQ_ret inBlk_normal inBlk_exit inBlk_ret wpS_nil wpS_step wpS_again wpS_guard wpO_mov wpO_load wpO_faddr wpO_nilCheck wpO_pick wpO_build wpO_bin wpO_eqb wpO_eqst wpO_eqnil wpO_not wpO_conv wpO_bytesStr wpO_iaddr wpO_idxStr wpO_field wpO_extract wpO_len wpO_lenStr wpO_cap wpO_min wpO_slice wpO_sliceStr wpO_alloc wpO_box wpO_store wpO_call wpO_callv wpO_mkfn wpO_buildSlice wpO_mkslice wpO_append wpO_appz proA_nil proA_cons tmpX_nil tmpX_tmp tmpX_cell doneB_normal doneB_ret agK_cons agK_nil agK_guard agG_tt agG_ff agG_tf agG_ft agG_undef pureB_load results_one results_two results_nil resBs_cons resBs_nil resB_tmp resB_cell
attribute [local go_sem] kill_v kill_lp_ne kill_lp_same pro_v pro_lp_same pro_lp_ne av_v av_lp optB_some optX_some valX_eq ldX_lp ldX_v faX_lp faX_v ncX_lp ncX_ptr ncX_fn boxK_one boxK_agg stL_some stK_lp_one stK_lp_agg stK_v_one stK_v_agg proM_v proM_lp callG_mk callVG_mk callvK_fn fnG_mk ptrsA_nil ptrsA_cons callH_some whenA_true whenA_false guardH_tt guardH_ff guardH_tf guardH_ft guardH_undef agV_one agV_agg lenO_sl lenStrO_str notO_bool pickO_bool convO_int eqbO_bool eqnilO_sl extractO_tup capO_sl minO_int loadL_one loadL_all storeL_eq fillA_nil fillA_one fillA_agg nat_ge neg_ge nat_lt neg_lt buildO bin_add bin_sub bin_mul bin_eql bin_neq bin_lss bin_leq bin_gtr bin_geq str_eql str_neq str_lss str_leq str_gtr str_geq retK_some endK_mk gcK_same gcK_int gcK_bool tupO_one tupO_agg rdy_self ib ii Option.map_none Option.map_some Option.some.injEq exists_eq_left' exists_eq_left ne_eq not_false_eq_true if_true if_false List.map_cons List.map_nil List.getElem?_cons_zero List.getElem?_cons_succ List.length_cons List.length_nil List.take_succ_cons List.take_zero List.take_nil List.drop_succ_cons List.drop_zero List.drop_nil List.cons_append List.nil_append List.append_nil List.set_cons_zero List.set_cons_succ Nat.zero_add forall_const true_and and_true and_self Bool.false_eq_true false_implies true_implies implies_true Bool.not_true Bool.not_false Bool.not_eq_true' Bool.not_eq_false' beq_self_eq_true Bool.bne_true Bool.bne_false
attribute [local go_sem] lenI lenS lenP lenQ lenB lenL lenT encI_0 encS_0 encP_0 encP_1 encQ_0 encQ_1 encQ_2 encQ_3 encB_0 encB_1 encL_0 encL_1 encT_0 encT_1
attribute [local go_sem low] whenA_bool guardH_bool
attribute [local go_sem] lenY encY_0 encY_1 encY_2
def zeroR : RSlot := ⟨false, .sl none 0 (some 0), .sl none 0 (some 0)⟩
theorem NwY.zeros {h0 h : H} {v : CV} {n : Nat} (x : Nw encY 3 46 h0 h (.one v) (List.replicate n zeroR)) : NwY h0 h v (List.replicate n zeroR) (List.replicate n zeroS) := by
  refine ⟨⟨x, by simp, fun i hi => ?_, fun i hi => ?_, fun i hi => ?_, fun i hi => ?_, fun i j hi hj hij => ?_, fun i j hi hj hij => ?_, fun i j hi hj hij => ?_, fun i j hi hj hij => ?_⟩⟩
  · have hi2 : i < (List.replicate n zeroS).length := by simpa using hi
    rw [getY_eq hi2, List.getElem_replicate, List.getElem_replicate]
    exact ⟨rfl, .nil, .nil⟩
  all_goals simp only [List.getElem_replicate]
  · exact Sep.nil.symm
  · exact Sep.nil.symm
  · exact Sep.nil
  · exact Sep.nil
  · exact Sep.nil
  · exact Sep.nil
  · exact Sep.nil
/-! spec.emptyBinding -/
def L97_0 : List AStep := [⟨.box 25 (.t 0), (some 1), none, []⟩, ⟨.alloc 39 [(.sl none 0 (some 0))], (some 2), none, []⟩]
theorem v97_0 : VS L97_0.eq_1 := rfl
def L97_1 : List AStep := [⟨.build [(.sl none 0 (some 0))] [(0, 1, (.t 6))], (some 7), none, []⟩, ⟨.store 1 (.t 2) (.t 7), none, none, []⟩]
theorem v97_1 : VS L97_1.eq_1 := rfl
def L97_2 : List AStep := ⟨.len (.t 4), (some 5), none, []⟩ :: ⟨.mkslice 46 56 [(.bool false), (.sl none 0 (some 0)), (.sl none 0 (some 0))] (.t 5) (.t 5), (some 6), none, []⟩ :: L97_1
theorem v97_2 : VS L97_2.eq_1 := rfl
def L97_3 : List AStep := ⟨.faddr 0 (.t 1), (some 3), none, []⟩ :: ⟨.load 1 false (.t 3), (some 4), none, []⟩ :: L97_2
theorem v97_3 : VS L97_3.eq_1 := rfl
def C97_0 : ACode := .seq (.reg L97_3) .ret
theorem u97_0 : VC C97_0.eq_1 := rfl
def C97_1 : ACode := .seq (.reg L97_0) C97_0
theorem u97_1 : VC C97_1.eq_1 := rfl
def F97 : AFunc := ⟨8, [.cell 2 1 true], C97_1⟩
theorem cF97 : compB Try.prog 97 = some F97 := by kernel_rfl
attribute [local go_sem ↓] u97_0 u97_1 v97_0 v97_1 v97_2 v97_3
theorem c_emptyBinding (l : List Param) (q : CV) (h : H) (hl : SlQ h (.one q) l) (hn : l.length ≤ big) : callK (bm Try.prog 97 [.agg [q]] h) fun r h' => Grow h h' ∧ ∃ v, r = .agg [v] ∧ NwY h h' v (List.replicate l.length zeroR) (List.replicate l.length zeroS) := by
  refine bm_of cF97 ?_
  unfold big at hn
  simp +contextual (maxSteps := 2000000) only [go_sem, Nat.reduceEqDiff, reduceCtorEq, Nat.reduceAdd, Nat.reduceLeDiff, F97, hl.len]
  refine wp_make (enc := encY) (k := 3) zeroR rfl (by omega) (by omega) ?_
  intro h1 w g1 n1 _
  obtain ⟨c, rfl⟩ := n1.one
  simp +contextual (maxSteps := 2000000) only [go_sem, Nat.reduceEqDiff, reduceCtorEq, Nat.reduceAdd, Nat.reduceLeDiff]
  exact gcK_of ⟨g1, _, rfl, .zeros n1⟩ (fun hs _ => ⟨Grow.refl h, _, rfl, (NwY.zeros n1).scalar (by simpa [AV.scalar, AV.scalars] using hs) h⟩)
/-! spec.missing -/
def L108_0 : List AStep := [⟨.mov (.c (.sl none 0 (some 0))), (some 4), none, []⟩]
theorem v108_0 : VS L108_0.eq_1 := rfl
def L108_1 : List AStep := ⟨.box 25 (.t 0), (some 2), none, []⟩ :: ⟨.box 39 (.t 1), (some 3), none, []⟩ :: L108_0
theorem v108_1 : VS L108_1.eq_1 := rfl
def L108_2 : List AStep := [⟨.buildSlice 86 0 [(.int .i64 0), (.str (strOfNums []))] [], (some 8), none, []⟩, ⟨.mov (.t 8), (some 5), none, []⟩]
theorem v108_2 : VS L108_2.eq_1 := rfl
def L108_3 : List AStep := [⟨.mov (.c (.int .i64 0)), (some 6), none, []⟩]
theorem v108_3 : VS L108_3.eq_1 := rfl
def L108_4 : List AStep := [⟨.bin .lss (.t 9) (.t 12), (some 13), none, []⟩]
theorem v108_4 : VS L108_4.eq_1 := rfl
def L108_5 : List AStep := ⟨.load 1 false (.t 10), (some 11), none, []⟩ :: ⟨.len (.t 11), (some 12), none, []⟩ :: L108_4
theorem v108_5 : VS L108_5.eq_1 := rfl
def L108_6 : List AStep := ⟨.mov (.t 6), (some 9), none, []⟩ :: ⟨.faddr 0 (.t 2), (some 10), none, []⟩ :: L108_5
theorem v108_6 : VS L108_6.eq_1 := rfl
def L108_7 : List AStep := [⟨.store 4 (.t 7) (.t 20), none, none, []⟩]
theorem v108_7 : VS L108_7.eq_1 := rfl
def L108_8 : List AStep := ⟨.load 4 true (.t 19), (some 20), none, []⟩ :: ⟨.alloc 44 [(.str (strOfNums [])), (.int .i64 0), (.bool false), (.int .i64 0)], (some 7), none, []⟩ :: L108_7
theorem v108_8 : VS L108_8.eq_1 := rfl
def L108_9 : List AStep := ⟨.mov (.t 6), (some 18), none, []⟩ :: ⟨.iaddr 4 (.t 17) (.t 18), (some 19), none, []⟩ :: L108_8
theorem v108_9 : VS L108_9.eq_1 := rfl
def L108_10 : List AStep := ⟨.faddr 0 (.t 2), (some 16), none, []⟩ :: ⟨.load 1 false (.t 16), (some 17), none, []⟩ :: L108_9
theorem v108_10 : VS L108_10.eq_1 := rfl
def L108_11 : List AStep := [⟨.not (.t 34), (some 35), (some (28, true)), []⟩, ⟨.pick (.t 28) (.t 35) (.c (.bool false)), (some 36), none, []⟩]
theorem v108_11 : VS L108_11.eq_1 := rfl
def L108_12 : List AStep := ⟨.faddr 0 (.t 32), (some 33), (some (28, true)), []⟩ :: ⟨.load 1 false (.t 33), (some 34), (some (28, true)), []⟩ :: L108_11
theorem v108_12 : VS L108_12.eq_1 := rfl
def L108_13 : List AStep := ⟨.mov (.t 6), (some 31), (some (28, true)), []⟩ :: ⟨.iaddr 3 (.t 30) (.t 31), (some 32), (some (28, true)), []⟩ :: L108_12
theorem v108_13 : VS L108_13.eq_1 := rfl
def L108_14 : List AStep := ⟨.faddr 0 (.t 3), (some 29), (some (28, true)), []⟩ :: ⟨.load 1 false (.t 29), (some 30), (some (28, true)), []⟩ :: L108_13
theorem v108_14 : VS L108_14.eq_1 := rfl
def L108_15 : List AStep := ⟨.pick (.t 23) (.t 26) (.c (.bool false)), (some 27), none, []⟩ :: ⟨.mov (.t 27), (some 28), none, []⟩ :: L108_14
theorem v108_15 : VS L108_15.eq_1 := rfl
def L108_16 : List AStep := ⟨.load 1 false (.t 24), (some 25), (some (23, true)), []⟩ :: ⟨.not (.t 25), (some 26), (some (23, true)), []⟩ :: L108_15
theorem v108_16 : VS L108_16.eq_1 := rfl
def L108_17 : List AStep := ⟨.mov (.t 22), (some 23), none, []⟩ :: ⟨.faddr 2 (.t 7), (some 24), (some (23, true)), []⟩ :: L108_16
theorem v108_17 : VS L108_17.eq_1 := rfl
def L108_18 : List AStep := ⟨.load 4 true (.t 7), (some 21), none, []⟩ :: ⟨.call 53 [(.t 21)], (some 22), none, []⟩ :: L108_17
theorem v108_18 : VS L108_18.eq_1 := rfl
def L108_19 : List AStep := [⟨.mov (.t 42), (some 5), none, []⟩]
theorem v108_19 : VS L108_19.eq_1 := rfl
def L108_20 : List AStep := ⟨.buildSlice 86 1 [(.int .i64 0), (.str (strOfNums []))] [(0, 2, (.t 40))], (some 41), none, []⟩ :: ⟨.append 86 2 24 (.t 37) (.t 41), (some 42), none, []⟩ :: L108_19
theorem v108_20 : VS L108_20.eq_1 := rfl
def L108_21 : List AStep := ⟨.load 1 false (.t 38), (some 39), none, []⟩ :: ⟨.build [(.int .i64 0), (.str (strOfNums []))] [(0, 1, (.c (.int .i64 3))), (1, 1, (.t 39))], (some 40), none, []⟩ :: L108_20
theorem v108_21 : VS L108_21.eq_1 := rfl
def L108_22 : List AStep := ⟨.mov (.t 5), (some 37), none, []⟩ :: ⟨.faddr 0 (.t 7), (some 38), none, []⟩ :: L108_21
theorem v108_22 : VS L108_22.eq_1 := rfl
def L108_23 : List AStep := [⟨.mov (.t 15), (some 6), none, []⟩]
theorem v108_23 : VS L108_23.eq_1 := rfl
def L108_24 : List AStep := ⟨.mov (.t 6), (some 14), none, []⟩ :: ⟨.bin .add (.t 14) (.c (.int .i64 1)), (some 15), none, []⟩ :: L108_23
theorem v108_24 : VS L108_24.eq_1 := rfl
def L108_25 : List AStep := [⟨.mov (.t 5), (some 43), none, []⟩, ⟨.mov (.t 43), (some 4), none, []⟩]
theorem v108_25 : VS L108_25.eq_1 := rfl
def C108_0 : ACode := .cond (.t 13) .skip (.exit 0)
theorem u108_0 : VC C108_0.eq_1 := rfl
def C108_1 : ACode := .seq (.reg L108_6) C108_0
theorem u108_1 : VC C108_1.eq_1 := rfl
def C108_2 : ACode := .cond (.t 36) (.reg L108_22) .skip
theorem u108_2 : VC C108_2.eq_1 := rfl
def C108_3 : ACode := .seq (.reg L108_18) C108_2
theorem u108_3 : VC C108_3.eq_1 := rfl
def C108_4 : ACode := .seq (.reg L108_10) C108_3
theorem u108_4 : VC C108_4.eq_1 := rfl
def C108_5 : ACode := .block 1 C108_4
theorem u108_5 : VC C108_5.eq_1 := rfl
def C108_6 : ACode := .seq C108_5 (.reg L108_24)
theorem u108_6 : VC C108_6.eq_1 := rfl
def C108_7 : ACode := .seq C108_1 C108_6
theorem u108_7 : VC C108_7.eq_1 := rfl
def C108_8 : ACode := .block 0 (.loop C108_7)
theorem u108_8 : VC C108_8.eq_1 := rfl
def C108_9 : ACode := .seq (.reg L108_3) C108_8
theorem u108_9 : VC C108_9.eq_1 := rfl
def C108_10 : ACode := .seq (.reg L108_25) .ret
theorem u108_10 : VC C108_10.eq_1 := rfl
def C108_11 : ACode := .seq C108_9 C108_10
theorem u108_11 : VC C108_11.eq_1 := rfl
def C108_12 : ACode := .seq (.reg L108_2) C108_11
theorem u108_12 : VC C108_12.eq_1 := rfl
def C108_13 : ACode := .seq (.reg L108_1) C108_12
theorem u108_13 : VC C108_13.eq_1 := rfl
def F108 : AFunc := ⟨44, [.tmp 4], C108_13⟩
theorem cF108 : compB Try.prog 108 = some F108 := by kernel_rfl
attribute [local go_sem ↓] u108_0 u108_1 u108_2 u108_3 u108_4 u108_5 u108_6 u108_7 u108_8 u108_9 u108_10 u108_11 u108_12 u108_13 v108_0 v108_1 v108_2 v108_3 v108_4 v108_5 v108_6 v108_7 v108_8 v108_9 v108_10 v108_11 v108_12 v108_13 v108_14 v108_15 v108_16 v108_17 v108_18 v108_19 v108_20 v108_21 v108_22 v108_23 v108_24 v108_25
theorem c_missing (l : List Param) (sl : List Slot) (rs : List RSlot) (q v : CV) (h : H) (hl : SlQ h (.one q) l) (hn : l.length ≤ 8) (hs : RdY 46 3 93 h v rs sl.length (getY sl)) (hlen : sl.length = l.length) :
    callK (bm Try.prog 108 [.agg [q], .agg [v]] h) fun r h' => Grow h h' ∧ NwB h h' r (missing l sl) := by
  refine bm_of cF108 ?_
  simp +contextual (maxSteps := 2000000) only [go_sem, Nat.reduceEqDiff, reduceCtorEq, Nat.reduceAdd, Nat.reduceLeDiff, F108]
  refine wp_lit (enc := encB) (k := 2) (l := []) rfl rfl ?_
  intro h1 w g1 n1 _
  simp +contextual (maxSteps := 2000000) only [go_sem, Nat.reduceEqDiff, reduceCtorEq, Nat.reduceAdd, Nat.reduceLeDiff]
  refine wpC_loop (fun i T L h' => Grow h h' ∧ T 2 = .lp 2 0 ∧ (L 2).2 = [q] ∧ T 3 = .lp 3 0 ∧ (L 3).2 = [v] ∧ (∃ w, T 5 = .v w ∧ NwB h h' w (missF l sl i)) ∧ T 6 = .v (.one (.int .i64 i))) l.length ?_ ?_ (Nat.zero_le _) ?_
  · rintro i T L h' hi ⟨g, t2, l2, t3, l3, ⟨w, t5, x⟩, t6⟩
    have k := hl.grow g
    have y := hs.grow g
    have hsl : i < sl.length := by omega
    have hrs : i < rs.length := by rw [y.len]; exact hsl
    have eg : rs[i].given = sl[i].given := by rw [(y.el i hrs).given, getY_eq hsl]
    have el := lacks_eq hi hsl
    have em := missF_next (sl := sl) hi
    have yi : iaddrO 3 (.one v) (.one (.int .i64 i)) = some (.one (.ptr (some (elem 3 (.one v) i)))) := y.out.iaddr hrs
    have y0 := y.out.fieldO (off := 0) hrs (by omega)
    rw [encY_0] at y0
    have es := fun h => c_isSingle l[i] h
    simp only [encQ] at es
    have done : ∀ b, lacks l sl i = b → b = false → missF l sl (i + 1) = missF l sl i := fun b e1 e2 => by rw [em, e1, e2]; simp
    cases b1 : single l[i] with
    | false =>
      rw [b1, Bool.false_and] at el
      simp +contextual (maxSteps := 2000000) only [go_sem, Nat.reduceEqDiff, reduceCtorEq, Nat.reduceAdd, Nat.reduceLeDiff, t2, l2, t3, l3, t5, t6, k.len, k.iaddr hi, k.whole hi, encQ, lt_true hi, es, b1]
      exact ⟨g, ⟨w, rfl, by rw [done _ el rfl]; exact x⟩, by rw [wrap_next hi (by omega)]⟩
    | true =>
    cases b2 : l[i].has with
    | true =>
      rw [b1, b2] at el
      simp only [b2] at es
      simp +contextual (maxSteps := 2000000) only [go_sem, Nat.reduceEqDiff, reduceCtorEq, Nat.reduceAdd, Nat.reduceLeDiff, t2, l2, t3, l3, t5, t6, k.len, k.iaddr hi, k.whole hi, encQ, lt_true hi, es, b1, b2]
      exact ⟨g, ⟨w, rfl, by rw [done _ el rfl]; exact x⟩, by rw [wrap_next hi (by omega)]⟩
    | false =>
    cases b3 : sl[i].given with
    | true =>
      rw [b1, b2, b3] at el
      simp only [b2] at es
      rw [b3] at eg
      rw [eg] at y0
      simp +contextual (maxSteps := 2000000) only [go_sem, Nat.reduceEqDiff, reduceCtorEq, Nat.reduceAdd, Nat.reduceLeDiff, t2, l2, t3, l3, t5, t6, k.len, k.iaddr hi, k.whole hi, encQ, lt_true hi, es, b1, b2, yi, y0]
      exact ⟨g, ⟨w, rfl, by rw [done _ el rfl]; exact x⟩, by rw [wrap_next hi (by omega)]⟩
    | false =>
      rw [b1, b2, b3] at el
      simp only [b2] at es
      rw [b3] at eg
      rw [eg] at y0
      have ml := missF_len (l := l) (sl := sl) (i := i)
      simp +contextual (maxSteps := 2000000) only [go_sem, Nat.reduceEqDiff, reduceCtorEq, Nat.reduceAdd, Nat.reduceLeDiff, t2, l2, t3, l3, t5, t6, k.len, k.iaddr hi, k.whole hi, encQ, lt_true hi, es, b1, b2, yi, y0]
      refine wp_lit (enc := encB) (k := 2) (l := [⟨3, l[i].name⟩]) rfl rfl ?_
      intro h2 w2 g2 n2 _
      simp +contextual (maxSteps := 2000000) only [go_sem, Nat.reduceEqDiff, reduceCtorEq, Nat.reduceAdd, Nat.reduceLeDiff, t2, l2, t3, l3, t5, t6]
      refine wp_append lenB (x.grow g2) (n2.sl lenB) (g.trans g2) (by simp; omega) ?_
      intro h3 w3 g3 n3 _ _
      simp +contextual (maxSteps := 2000000) only [go_sem, Nat.reduceEqDiff, reduceCtorEq, Nat.reduceAdd, Nat.reduceLeDiff, t2, l2, t3, l3, t5, t6]
      refine ⟨g3, ⟨w3, rfl, ?_⟩, by rw [wrap_next hi (by omega)]⟩
      rw [em, el]
      exact n3
  · rintro T L h' ⟨g, t2, l2, t3, l3, ⟨w, t5, x⟩, t6⟩
    have k := hl.grow g
    simp +contextual (maxSteps := 2000000) only [go_sem, Nat.reduceEqDiff, reduceCtorEq, Nat.reduceAdd, Nat.reduceLeDiff, t2, l2, t3, l3, t5, t6, k.len, lt_false]
    exact gcK_of ⟨g, x⟩ (fun hs _ => ⟨Grow.refl h, x.scalar hs h⟩)
  · simp +contextual (maxSteps := 2000000) only [go_sem, Nat.reduceEqDiff, reduceCtorEq, Nat.reduceAdd, Nat.reduceLeDiff]
    exact ⟨g1, ⟨w, rfl, n1⟩, rfl⟩
/-! spec.bound -/
def L52_0 : List AStep := [⟨.alloc 39 [(.sl none 0 (some 0))], (some 4), none, []⟩, ⟨.mov (.c (.sl none 0 (some 0))), (some 5), none, []⟩]
theorem v52_0 : VS L52_0.eq_1 := rfl
def L52_1 : List AStep := ⟨.box 25 (.t 0), (some 2), none, []⟩ :: ⟨.box 29 (.t 1), (some 3), none, []⟩ :: L52_0
theorem v52_1 : VS L52_1.eq_1 := rfl
def L52_2 : List AStep := [⟨.alloc 39 [(.sl none 0 (some 0))], (some 6), none, []⟩, ⟨.store 1 (.t 6) (.t 15), none, none, []⟩]
theorem v52_2 : VS L52_2.eq_1 := rfl
def L52_3 : List AStep := ⟨.load 1 true (.t 2), (some 14), none, []⟩ :: ⟨.call 97 [(.t 14)], (some 15), none, []⟩ :: L52_2
theorem v52_3 : VS L52_3.eq_1 := rfl
def L52_4 : List AStep := [⟨.buildSlice 86 0 [(.int .i64 0), (.str (strOfNums []))] [], (some 16), none, []⟩, ⟨.mov (.t 16), (some 7), none, []⟩]
theorem v52_4 : VS L52_4.eq_1 := rfl
def L52_5 : List AStep := [⟨.mov (.t 18), (some 8), none, []⟩]
theorem v52_5 : VS L52_5.eq_1 := rfl
def L52_6 : List AStep := ⟨.load 1 true (.t 2), (some 17), none, []⟩ :: ⟨.call 98 [(.t 17)], (some 18), none, []⟩ :: L52_5
theorem v52_6 : VS L52_6.eq_1 := rfl
def L52_7 : List AStep := [⟨.call 99 [(.t 20), (.c (.int .i64 2))], (some 21), none, []⟩, ⟨.mov (.t 21), (some 9), none, []⟩]
theorem v52_7 : VS L52_7.eq_1 := rfl
def L52_8 : List AStep := ⟨.faddr 0 (.t 2), (some 19), none, []⟩ :: ⟨.load 1 false (.t 19), (some 20), none, []⟩ :: L52_7
theorem v52_8 : VS L52_8.eq_1 := rfl
def L52_9 : List AStep := [⟨.mov (.c (.int .i64 0)), (some 10), none, []⟩]
theorem v52_9 : VS L52_9.eq_1 := rfl
def L52_10 : List AStep := [⟨.bin .lss (.t 22) (.t 25), (some 26), none, []⟩]
theorem v52_10 : VS L52_10.eq_1 := rfl
def L52_11 : List AStep := ⟨.load 1 false (.t 23), (some 24), none, []⟩ :: ⟨.len (.t 24), (some 25), none, []⟩ :: L52_10
theorem v52_11 : VS L52_11.eq_1 := rfl
def L52_12 : List AStep := ⟨.mov (.t 10), (some 22), none, []⟩ :: ⟨.faddr 0 (.t 3), (some 23), none, []⟩ :: L52_11
theorem v52_12 : VS L52_12.eq_1 := rfl
def L52_13 : List AStep := [⟨.bin .lss (.t 30) (.t 31), (some 32), none, []⟩, ⟨.mov (.t 32), (some 29), none, []⟩]
theorem v52_13 : VS L52_13.eq_1 := rfl
def L52_14 : List AStep := ⟨.mov (.t 10), (some 30), none, []⟩ :: ⟨.mov (.t 8), (some 31), none, []⟩ :: L52_13
theorem v52_14 : VS L52_14.eq_1 := rfl
def L52_15 : List AStep := [⟨.iaddr 3 (.t 34) (.t 35), (some 43), none, []⟩, ⟨.store 3 (.t 43) (.t 42), none, none, []⟩]
theorem v52_15 : VS L52_15.eq_1 := rfl
def L52_16 : List AStep := ⟨.buildSlice 3 1 [(.int .i64 0)] [(0, 1, (.t 40))], (some 41), none, []⟩ :: ⟨.build [(.bool false), (.sl none 0 (some 0)), (.sl none 0 (some 0))] [(0, 1, (.c (.bool true))), (1, 1, (.t 41))], (some 42), none, []⟩ :: L52_15
theorem v52_16 : VS L52_16.eq_1 := rfl
def L52_17 : List AStep := ⟨.iaddr 1 (.t 37) (.t 38), (some 39), none, []⟩ :: ⟨.load 1 false (.t 39), (some 40), none, []⟩ :: L52_16
theorem v52_17 : VS L52_17.eq_1 := rfl
def L52_18 : List AStep := ⟨.load 1 false (.t 36), (some 37), none, []⟩ :: ⟨.mov (.t 10), (some 38), none, []⟩ :: L52_17
theorem v52_18 : VS L52_18.eq_1 := rfl
def L52_19 : List AStep := ⟨.mov (.t 10), (some 35), none, []⟩ :: ⟨.faddr 0 (.t 3), (some 36), none, []⟩ :: L52_18
theorem v52_19 : VS L52_19.eq_1 := rfl
def L52_20 : List AStep := ⟨.faddr 0 (.t 6), (some 33), none, []⟩ :: ⟨.load 1 false (.t 33), (some 34), none, []⟩ :: L52_19
theorem v52_20 : VS L52_20.eq_1 := rfl
def L52_21 : List AStep := [⟨.mov (.t 46), (some 44), none, []⟩]
theorem v52_21 : VS L52_21.eq_1 := rfl
def L52_22 : List AStep := ⟨.mov (.t 9), (some 45), none, []⟩ :: ⟨.bin .geq (.t 45) (.c (.int .i64 0)), (some 46), none, []⟩ :: L52_21
theorem v52_22 : VS L52_22.eq_1 := rfl
def L52_23 : List AStep := [⟨.store 1 (.t 64) (.t 62), none, none, []⟩]
theorem v52_23 : VS L52_23.eq_1 := rfl
def L52_24 : List AStep := ⟨.iaddr 3 (.t 48) (.t 49), (some 63), none, []⟩ :: ⟨.faddr 1 (.t 63), (some 64), none, []⟩ :: L52_23
theorem v52_24 : VS L52_24.eq_1 := rfl
def L52_25 : List AStep := ⟨.buildSlice 3 1 [(.int .i64 0)] [(0, 1, (.t 60))], (some 61), none, []⟩ :: ⟨.append 3 1 8 (.t 55) (.t 61), (some 62), none, [(.load 1 false (.t 47), (some 48), none)]⟩ :: L52_24
theorem v52_25 : VS L52_25.eq_1 := rfl
def L52_26 : List AStep := ⟨.iaddr 1 (.t 57) (.t 58), (some 59), none, []⟩ :: ⟨.load 1 false (.t 59), (some 60), none, []⟩ :: L52_25
theorem v52_26 : VS L52_26.eq_1 := rfl
def L52_27 : List AStep := ⟨.load 1 false (.t 56), (some 57), none, []⟩ :: ⟨.mov (.t 10), (some 58), none, []⟩ :: L52_26
theorem v52_27 : VS L52_27.eq_1 := rfl
def L52_28 : List AStep := ⟨.load 1 false (.t 54), (some 55), none, []⟩ :: ⟨.faddr 0 (.t 3), (some 56), none, []⟩ :: L52_27
theorem v52_28 : VS L52_28.eq_1 := rfl
def L52_29 : List AStep := ⟨.iaddr 3 (.t 51) (.t 52), (some 53), none, []⟩ :: ⟨.faddr 1 (.t 53), (some 54), none, []⟩ :: L52_28
theorem v52_29 : VS L52_29.eq_1 := rfl
def L52_30 : List AStep := ⟨.load 1 false (.t 50), (some 51), none, []⟩ :: ⟨.mov (.t 9), (some 52), none, []⟩ :: L52_29
theorem v52_30 : VS L52_30.eq_1 := rfl
def L52_31 : List AStep := ⟨.mov (.t 9), (some 49), none, []⟩ :: ⟨.faddr 0 (.t 6), (some 50), none, []⟩ :: L52_30
theorem v52_31 : VS L52_31.eq_1 := rfl
def L52_32 : List AStep := ⟨.faddr 0 (.t 6), (some 47), none, []⟩ :: ⟨.load 1 false (.t 47), (some 48), none, []⟩ :: L52_31
theorem v52_32 : VS L52_32.eq_1 := rfl
def L52_33 : List AStep := [⟨.mov (.t 28), (some 10), none, []⟩]
theorem v52_33 : VS L52_33.eq_1 := rfl
def L52_34 : List AStep := ⟨.mov (.t 10), (some 27), none, []⟩ :: ⟨.bin .add (.t 27) (.c (.int .i64 1)), (some 28), none, []⟩ :: L52_33
theorem v52_34 : VS L52_34.eq_1 := rfl
def L52_35 : List AStep := [⟨.pick (.t 70) (.t 72) (.c (.bool false)), (some 73), none, []⟩]
theorem v52_35 : VS L52_35.eq_1 := rfl
def L52_36 : List AStep := ⟨.mov (.t 9), (some 71), (some (70, true)), []⟩ :: ⟨.bin .lss (.t 71) (.c (.int .i64 0)), (some 72), (some (70, true)), []⟩ :: L52_35
theorem v52_36 : VS L52_36.eq_1 := rfl
def L52_37 : List AStep := ⟨.bin .gtr (.t 67) (.t 68), (some 69), none, []⟩ :: ⟨.mov (.t 69), (some 70), none, []⟩ :: L52_36
theorem v52_37 : VS L52_37.eq_1 := rfl
def L52_38 : List AStep := ⟨.len (.t 66), (some 67), none, []⟩ :: ⟨.mov (.t 8), (some 68), none, []⟩ :: L52_37
theorem v52_38 : VS L52_38.eq_1 := rfl
def L52_39 : List AStep := ⟨.faddr 0 (.t 3), (some 65), none, []⟩ :: ⟨.load 1 false (.t 65), (some 66), none, []⟩ :: L52_38
theorem v52_39 : VS L52_39.eq_1 := rfl
def L52_40 : List AStep := [⟨.mov (.t 77), (some 7), none, []⟩]
theorem v52_40 : VS L52_40.eq_1 := rfl
def L52_41 : List AStep := ⟨.buildSlice 86 1 [(.int .i64 0), (.str (strOfNums []))] [(0, 2, (.t 75))], (some 76), none, []⟩ :: ⟨.append 86 2 24 (.t 74) (.t 76), (some 77), none, []⟩ :: L52_40
theorem v52_41 : VS L52_41.eq_1 := rfl
def L52_42 : List AStep := ⟨.mov (.t 7), (some 74), none, []⟩ :: ⟨.build [(.int .i64 0), (.str (strOfNums []))] [(0, 1, (.c (.int .i64 0)))], (some 75), none, []⟩ :: L52_41
theorem v52_42 : VS L52_42.eq_1 := rfl
def L52_43 : List AStep := [⟨.mov (.c (.int .i64 0)), (some 11), none, []⟩]
theorem v52_43 : VS L52_43.eq_1 := rfl
def L52_44 : List AStep := [⟨.bin .lss (.t 78) (.t 81), (some 82), none, []⟩]
theorem v52_44 : VS L52_44.eq_1 := rfl
def L52_45 : List AStep := ⟨.load 1 false (.t 79), (some 80), none, []⟩ :: ⟨.len (.t 80), (some 81), none, []⟩ :: L52_44
theorem v52_45 : VS L52_45.eq_1 := rfl
def L52_46 : List AStep := ⟨.mov (.t 11), (some 78), none, []⟩ :: ⟨.faddr 1 (.t 3), (some 79), none, []⟩ :: L52_45
theorem v52_46 : VS L52_46.eq_1 := rfl
def L52_47 : List AStep := [⟨.store 2 (.t 12) (.t 89), none, none, []⟩]
theorem v52_47 : VS L52_47.eq_1 := rfl
def L52_48 : List AStep := ⟨.load 2 true (.t 88), (some 89), none, []⟩ :: ⟨.alloc 93 [(.str (strOfNums [])), (.int .i64 0)], (some 12), none, []⟩ :: L52_47
theorem v52_48 : VS L52_48.eq_1 := rfl
def L52_49 : List AStep := ⟨.mov (.t 11), (some 87), none, []⟩ :: ⟨.iaddr 2 (.t 86) (.t 87), (some 88), none, []⟩ :: L52_48
theorem v52_49 : VS L52_49.eq_1 := rfl
def L52_50 : List AStep := ⟨.faddr 1 (.t 3), (some 85), none, []⟩ :: ⟨.load 1 false (.t 85), (some 86), none, []⟩ :: L52_49
theorem v52_50 : VS L52_50.eq_1 := rfl
def L52_51 : List AStep := [⟨.mov (.t 93), (some 13), none, []⟩]
theorem v52_51 : VS L52_51.eq_1 := rfl
def L52_52 : List AStep := ⟨.load 1 false (.t 91), (some 92), none, []⟩ :: ⟨.call 100 [(.t 90), (.t 92)], (some 93), none, []⟩ :: L52_51
theorem v52_52 : VS L52_52.eq_1 := rfl
def L52_53 : List AStep := ⟨.load 1 true (.t 2), (some 90), none, []⟩ :: ⟨.faddr 0 (.t 12), (some 91), none, []⟩ :: L52_52
theorem v52_53 : VS L52_53.eq_1 := rfl
def L52_54 : List AStep := [⟨.mov (.t 104), (some 102), none, []⟩]
theorem v52_54 : VS L52_54.eq_1 := rfl
def L52_55 : List AStep := ⟨.mov (.t 13), (some 103), none, []⟩ :: ⟨.bin .lss (.t 103) (.c (.int .i64 0)), (some 104), none, []⟩ :: L52_54
theorem v52_55 : VS L52_55.eq_1 := rfl
def L52_56 : List AStep := [⟨.mov (.t 110), (some 7), none, []⟩]
theorem v52_56 : VS L52_56.eq_1 := rfl
def L52_57 : List AStep := ⟨.buildSlice 86 1 [(.int .i64 0), (.str (strOfNums []))] [(0, 2, (.t 108))], (some 109), none, []⟩ :: ⟨.append 86 2 24 (.t 105) (.t 109), (some 110), none, []⟩ :: L52_56
theorem v52_57 : VS L52_57.eq_1 := rfl
def L52_58 : List AStep := ⟨.load 1 false (.t 106), (some 107), none, []⟩ :: ⟨.build [(.int .i64 0), (.str (strOfNums []))] [(0, 1, (.c (.int .i64 1))), (1, 1, (.t 107))], (some 108), none, []⟩ :: L52_57
theorem v52_58 : VS L52_58.eq_1 := rfl
def L52_59 : List AStep := ⟨.mov (.t 7), (some 105), none, []⟩ :: ⟨.faddr 0 (.t 12), (some 106), none, []⟩ :: L52_58
theorem v52_59 : VS L52_59.eq_1 := rfl
def L52_60 : List AStep := [⟨.bin .eql (.t 117) (.c (.int .i64 4)), (some 118), none, []⟩, ⟨.mov (.t 118), (some 111), none, []⟩]
theorem v52_60 : VS L52_60.eq_1 := rfl
def L52_61 : List AStep := ⟨.faddr 1 (.t 115), (some 116), none, []⟩ :: ⟨.load 1 false (.t 116), (some 117), none, []⟩ :: L52_60
theorem v52_61 : VS L52_61.eq_1 := rfl
def L52_62 : List AStep := ⟨.mov (.t 13), (some 114), none, []⟩ :: ⟨.iaddr 4 (.t 113) (.t 114), (some 115), none, []⟩ :: L52_61
theorem v52_62 : VS L52_62.eq_1 := rfl
def L52_63 : List AStep := ⟨.faddr 0 (.t 2), (some 112), none, []⟩ :: ⟨.load 1 false (.t 112), (some 113), none, []⟩ :: L52_62
theorem v52_63 : VS L52_63.eq_1 := rfl
def L52_64 : List AStep := [⟨.store 1 (.t 132) (.t 130), none, none, []⟩]
theorem v52_64 : VS L52_64.eq_1 := rfl
def L52_65 : List AStep := ⟨.iaddr 3 (.t 120) (.t 121), (some 131), none, []⟩ :: ⟨.faddr 2 (.t 131), (some 132), none, []⟩ :: L52_64
theorem v52_65 : VS L52_65.eq_1 := rfl
def L52_66 : List AStep := ⟨.buildSlice 93 1 [(.str (strOfNums [])), (.int .i64 0)] [(0, 2, (.t 128))], (some 129), none, []⟩ :: ⟨.append 93 2 24 (.t 127) (.t 129), (some 130), none, [(.load 1 false (.t 119), (some 120), none)]⟩ :: L52_65
theorem v52_66 : VS L52_66.eq_1 := rfl
def L52_67 : List AStep := ⟨.load 1 false (.t 126), (some 127), none, []⟩ :: ⟨.load 2 true (.t 12), (some 128), none, []⟩ :: L52_66
theorem v52_67 : VS L52_67.eq_1 := rfl
def L52_68 : List AStep := ⟨.iaddr 3 (.t 123) (.t 124), (some 125), none, []⟩ :: ⟨.faddr 2 (.t 125), (some 126), none, []⟩ :: L52_67
theorem v52_68 : VS L52_68.eq_1 := rfl
def L52_69 : List AStep := ⟨.load 1 false (.t 122), (some 123), none, []⟩ :: ⟨.mov (.t 13), (some 124), none, []⟩ :: L52_68
theorem v52_69 : VS L52_69.eq_1 := rfl
def L52_70 : List AStep := ⟨.mov (.t 13), (some 121), none, []⟩ :: ⟨.faddr 0 (.t 6), (some 122), none, []⟩ :: L52_69
theorem v52_70 : VS L52_70.eq_1 := rfl
def L52_71 : List AStep := ⟨.faddr 0 (.t 6), (some 119), none, []⟩ :: ⟨.load 1 false (.t 119), (some 120), none, []⟩ :: L52_70
theorem v52_71 : VS L52_71.eq_1 := rfl
def L52_72 : List AStep := [⟨.mov (.t 139), (some 133), none, []⟩]
theorem v52_72 : VS L52_72.eq_1 := rfl
def L52_73 : List AStep := ⟨.faddr 0 (.t 137), (some 138), none, []⟩ :: ⟨.load 1 false (.t 138), (some 139), none, []⟩ :: L52_72
theorem v52_73 : VS L52_73.eq_1 := rfl
def L52_74 : List AStep := ⟨.mov (.t 13), (some 136), none, []⟩ :: ⟨.iaddr 3 (.t 135) (.t 136), (some 137), none, []⟩ :: L52_73
theorem v52_74 : VS L52_74.eq_1 := rfl
def L52_75 : List AStep := ⟨.faddr 0 (.t 6), (some 134), none, []⟩ :: ⟨.load 1 false (.t 134), (some 135), none, []⟩ :: L52_74
theorem v52_75 : VS L52_75.eq_1 := rfl
def L52_76 : List AStep := [⟨.mov (.t 145), (some 7), none, []⟩]
theorem v52_76 : VS L52_76.eq_1 := rfl
def L52_77 : List AStep := ⟨.buildSlice 86 1 [(.int .i64 0), (.str (strOfNums []))] [(0, 2, (.t 143))], (some 144), none, []⟩ :: ⟨.append 86 2 24 (.t 140) (.t 144), (some 145), none, []⟩ :: L52_76
theorem v52_77 : VS L52_77.eq_1 := rfl
def L52_78 : List AStep := ⟨.load 1 false (.t 141), (some 142), none, []⟩ :: ⟨.build [(.int .i64 0), (.str (strOfNums []))] [(0, 1, (.c (.int .i64 2))), (1, 1, (.t 142))], (some 143), none, []⟩ :: L52_77
theorem v52_78 : VS L52_78.eq_1 := rfl
def L52_79 : List AStep := ⟨.mov (.t 7), (some 140), none, []⟩ :: ⟨.faddr 0 (.t 12), (some 141), none, []⟩ :: L52_78
theorem v52_79 : VS L52_79.eq_1 := rfl
def L52_80 : List AStep := [⟨.store 3 (.t 101) (.t 100), none, none, []⟩]
theorem v52_80 : VS L52_80.eq_1 := rfl
def L52_81 : List AStep := ⟨.build [(.bool false), (.sl none 0 (some 0)), (.sl none 0 (some 0))] [(0, 1, (.c (.bool true))), (1, 1, (.t 99))], (some 100), none, []⟩ :: ⟨.iaddr 3 (.t 95) (.t 96), (some 101), none, []⟩ :: L52_80
theorem v52_81 : VS L52_81.eq_1 := rfl
def L52_82 : List AStep := ⟨.load 1 false (.t 97), (some 98), none, []⟩ :: ⟨.buildSlice 3 1 [(.int .i64 0)] [(0, 1, (.t 98))], (some 99), none, []⟩ :: L52_81
theorem v52_82 : VS L52_82.eq_1 := rfl
def L52_83 : List AStep := ⟨.mov (.t 13), (some 96), none, []⟩ :: ⟨.faddr 1 (.t 12), (some 97), none, []⟩ :: L52_82
theorem v52_83 : VS L52_83.eq_1 := rfl
def L52_84 : List AStep := ⟨.faddr 0 (.t 6), (some 94), none, []⟩ :: ⟨.load 1 false (.t 94), (some 95), none, []⟩ :: L52_83
theorem v52_84 : VS L52_84.eq_1 := rfl
def L52_85 : List AStep := [⟨.mov (.t 84), (some 11), none, []⟩]
theorem v52_85 : VS L52_85.eq_1 := rfl
def L52_86 : List AStep := ⟨.mov (.t 11), (some 83), none, []⟩ :: ⟨.bin .add (.t 83) (.c (.int .i64 1)), (some 84), none, []⟩ :: L52_85
theorem v52_86 : VS L52_86.eq_1 := rfl
def L52_87 : List AStep := [⟨.store 1 (.t 4) (.t 146), none, none, []⟩, ⟨.mov (.t 147), (some 5), none, []⟩]
theorem v52_87 : VS L52_87.eq_1 := rfl
def L52_88 : List AStep := ⟨.load 1 true (.t 6), (some 146), none, []⟩ :: ⟨.mov (.t 7), (some 147), none, []⟩ :: L52_87
theorem v52_88 : VS L52_88.eq_1 := rfl
def C52_0 : ACode := .cond (.t 26) .skip (.exit 0)
theorem u52_0 : VC C52_0.eq_1 := rfl
def C52_1 : ACode := .seq (.reg L52_12) C52_0
theorem u52_1 : VC C52_1.eq_1 := rfl
def C52_2 : ACode := .cond (.t 44) (.reg L52_32) .skip
theorem u52_2 : VC C52_2.eq_1 := rfl
def C52_3 : ACode := .seq (.reg L52_22) C52_2
theorem u52_3 : VC C52_3.eq_1 := rfl
def C52_4 : ACode := .cond (.t 29) (.reg L52_20) C52_3
theorem u52_4 : VC C52_4.eq_1 := rfl
def C52_5 : ACode := .seq (.reg L52_14) C52_4
theorem u52_5 : VC C52_5.eq_1 := rfl
def C52_6 : ACode := .block 2 C52_5
theorem u52_6 : VC C52_6.eq_1 := rfl
def C52_7 : ACode := .block 1 C52_6
theorem u52_7 : VC C52_7.eq_1 := rfl
def C52_8 : ACode := .seq C52_7 (.reg L52_34)
theorem u52_8 : VC C52_8.eq_1 := rfl
def C52_9 : ACode := .seq C52_1 C52_8
theorem u52_9 : VC C52_9.eq_1 := rfl
def C52_10 : ACode := .block 0 (.loop C52_9)
theorem u52_10 : VC C52_10.eq_1 := rfl
def C52_11 : ACode := .seq (.reg L52_9) C52_10
theorem u52_11 : VC C52_11.eq_1 := rfl
def C52_12 : ACode := .cond (.t 73) (.reg L52_42) .skip
theorem u52_12 : VC C52_12.eq_1 := rfl
def C52_13 : ACode := .seq (.reg L52_39) C52_12
theorem u52_13 : VC C52_13.eq_1 := rfl
def C52_14 : ACode := .cond (.t 82) .skip (.exit 3)
theorem u52_14 : VC C52_14.eq_1 := rfl
def C52_15 : ACode := .seq (.reg L52_46) C52_14
theorem u52_15 : VC C52_15.eq_1 := rfl
def C52_16 : ACode := .cond (.t 133) (.reg L52_79) (.reg L52_84)
theorem u52_16 : VC C52_16.eq_1 := rfl
def C52_17 : ACode := .seq (.reg L52_75) C52_16
theorem u52_17 : VC C52_17.eq_1 := rfl
def C52_18 : ACode := .cond (.t 111) (.reg L52_71) C52_17
theorem u52_18 : VC C52_18.eq_1 := rfl
def C52_19 : ACode := .seq (.reg L52_63) C52_18
theorem u52_19 : VC C52_19.eq_1 := rfl
def C52_20 : ACode := .cond (.t 102) (.reg L52_59) C52_19
theorem u52_20 : VC C52_20.eq_1 := rfl
def C52_21 : ACode := .seq (.reg L52_55) C52_20
theorem u52_21 : VC C52_21.eq_1 := rfl
def C52_22 : ACode := .block 5 C52_21
theorem u52_22 : VC C52_22.eq_1 := rfl
def C52_23 : ACode := .seq (.reg L52_53) C52_22
theorem u52_23 : VC C52_23.eq_1 := rfl
def C52_24 : ACode := .seq (.reg L52_50) C52_23
theorem u52_24 : VC C52_24.eq_1 := rfl
def C52_25 : ACode := .block 4 C52_24
theorem u52_25 : VC C52_25.eq_1 := rfl
def C52_26 : ACode := .seq C52_25 (.reg L52_86)
theorem u52_26 : VC C52_26.eq_1 := rfl
def C52_27 : ACode := .seq C52_15 C52_26
theorem u52_27 : VC C52_27.eq_1 := rfl
def C52_28 : ACode := .block 3 (.loop C52_27)
theorem u52_28 : VC C52_28.eq_1 := rfl
def C52_29 : ACode := .seq (.reg L52_43) C52_28
theorem u52_29 : VC C52_29.eq_1 := rfl
def C52_30 : ACode := .seq (.reg L52_88) .ret
theorem u52_30 : VC C52_30.eq_1 := rfl
def C52_31 : ACode := .seq C52_29 C52_30
theorem u52_31 : VC C52_31.eq_1 := rfl
def C52_32 : ACode := .seq C52_13 C52_31
theorem u52_32 : VC C52_32.eq_1 := rfl
def C52_33 : ACode := .seq C52_11 C52_32
theorem u52_33 : VC C52_33.eq_1 := rfl
def C52_34 : ACode := .seq (.reg L52_8) C52_33
theorem u52_34 : VC C52_34.eq_1 := rfl
def C52_35 : ACode := .seq (.reg L52_6) C52_34
theorem u52_35 : VC C52_35.eq_1 := rfl
def C52_36 : ACode := .seq (.reg L52_4) C52_35
theorem u52_36 : VC C52_36.eq_1 := rfl
def C52_37 : ACode := .seq (.reg L52_3) C52_36
theorem u52_37 : VC C52_37.eq_1 := rfl
def C52_38 : ACode := .seq (.reg L52_1) C52_37
theorem u52_38 : VC C52_38.eq_1 := rfl
def F52 : AFunc := ⟨148, [.cell 4 1 true, .tmp 5], C52_38⟩
theorem cF52 : compB Try.prog 52 = some F52 := by kernel_rfl
attribute [local go_sem ↓] u52_0 u52_1 u52_2 u52_3 u52_4 u52_5 u52_6 u52_7 u52_8 u52_9 u52_10 u52_11 u52_12 u52_13 u52_14 u52_15 u52_16 u52_17 u52_18 u52_19 u52_20 u52_21 u52_22 u52_23 u52_24 u52_25 u52_26 u52_27 u52_28 u52_29 u52_30 u52_31 u52_32 u52_33 u52_34 u52_35 u52_36 u52_37 u52_38 v52_0 v52_1 v52_2 v52_3 v52_4 v52_5 v52_6 v52_7 v52_8 v52_9 v52_10 v52_11 v52_12 v52_13 v52_14 v52_15 v52_16 v52_17 v52_18 v52_19 v52_20 v52_21 v52_22 v52_23 v52_24 v52_25 v52_26 v52_27 v52_28 v52_29 v52_30 v52_31 v52_32 v52_33 v52_34 v52_35 v52_36 v52_37 v52_38 v52_39 v52_40 v52_41 v52_42 v52_43 v52_44 v52_45 v52_46 v52_47 v52_48 v52_49 v52_50 v52_51 v52_52 v52_53 v52_54 v52_55 v52_56 v52_57 v52_58 v52_59 v52_60 v52_61 v52_62 v52_63 v52_64 v52_65 v52_66 v52_67 v52_68 v52_69 v52_70 v52_71 v52_72 v52_73 v52_74 v52_75 v52_76 v52_77 v52_78 v52_79 v52_80 v52_81 v52_82 v52_83 v52_84 v52_85 v52_86 v52_87 v52_88
theorem c_bound (l : List Param) (f : Flat) (q p n : CV) (h : H) (hl : SlQ h (.one q) l) (hf : SlF h p n f) (ok1 : okSig l = true) (ok2 : okFlat f = true) :
    callK (bm Try.prog 52 [.agg [q], .agg [p, n]] h) fun r h' => Grow h h' ∧ ∃ v w rs, r = .tup [.agg [v], .one w] ∧ BdY h h' v w rs (boundS l f) (boundB l f) := by
  refine bm_of cF52 ?_
  have o := Ord.of ok1
  have hn := okSig_len ok1
  obtain ⟨hb1, hb2, hb3⟩ := okFlat_sm ok2
  have sq : smQ l := ⟨by unfold big; omega, fun x hx => by have := okSig_name ok1 x hx; unfold big; omega⟩
  have pl0 := places_le (l := l)
  simp +contextual (maxSteps := 2000000) only [go_sem, Nat.reduceEqDiff, reduceCtorEq, Nat.reduceAdd, Nat.reduceLeDiff, F52]
  refine wp_call (c_emptyBinding l q h hl sq.1) ?_
  rintro r h1 ⟨g1, v, rfl, x0⟩
  have k1 := hl.grow g1
  simp +contextual (maxSteps := 2000000) only [go_sem, Nat.reduceEqDiff, reduceCtorEq, Nat.reduceAdd, Nat.reduceLeDiff]
  refine wp_lit (enc := encB) (k := 2) (l := []) rfl rfl ?_
  intro h2 w g2 n2 _
  obtain ⟨w, rfl⟩ := n2.one
  have k2 := k1.grow g2
  simp +contextual (maxSteps := 2000000) only [go_sem, Nat.reduceEqDiff, reduceCtorEq, Nat.reduceAdd, Nat.reduceLeDiff, c_placeCount _ _ _ k2 sq, c_kindAt _ _ _ _ k2 sq]
  have ep : (l.countP byPlace : Nat) = places l := rfl
  rw [ep]
  have z0 : BdY h h2 v w (List.replicate l.length zeroR) (bindPl l (f.pl.take 0)) [] := by
    rw [List.take_zero, bindPl_nil]
    exact ⟨x0.grow g2, n2.from g1.n, fun i hi hj => by have := (n2.lt hi).2; have := (x0.out.out.lt hj).1; omega, fun i hi => by rw [List.getElem_replicate]; exact Sep.nil.symm, fun i hi => by rw [List.getElem_replicate]; exact Sep.nil.symm⟩
  refine wpC_loop (fun i T L h' => Grow h h' ∧ T 2 = .lp 2 0 ∧ (L 2).2 = [q] ∧ T 3 = .lp 3 0 ∧ (L 3).2 = [p, n] ∧ T 4 = .lp 4 0 ∧ (L 4).2 = [.sl none 0 (some 0)] ∧ T 6 = .lp 6 0 ∧ (L 6).2 = [v] ∧ T 7 = .v (.one w) ∧ T 8 = .v (.one (.int .i64 (places l : Nat))) ∧ T 9 = .v (.one (.int .i64 (kindAt l 2))) ∧ T 10 = .v (.one (.int .i64 i)) ∧ ∃ rs, BdY h h' v w rs (bindPl l (f.pl.take i)) []) f.pl.length ?_ ?_ (Nat.zero_le _) ?_
  · rintro i T L h' hi ⟨gg, t2, l2, t3, l3, t4, l4, t6, l6, t7, t8, t9, t10, rs, x⟩
    have k := hf.grow gg
    have hrs : rs.length = l.length := x.len.trans bindPl_len
    by_cases hp : i < places l
    · have hio : i < rs.length := by omega
      have yi := x.sl.out.out.iaddr hio (kd := .i64)
      simp +contextual (maxSteps := 2000000) only [go_sem, Nat.reduceEqDiff, reduceCtorEq, Nat.reduceAdd, Nat.reduceLeDiff, t2, l2, t3, l3, t4, l4, t6, l6, t7, t8, t9, t10, k.pl.len, k.pl.iaddr hi, k.pl.oneO hi, lt_true hi, lt_true hp, yi]
      refine wp_lit (enc := encI) (k := 1) (l := [f.pl[i]]) rfl rfl ?_
      intro h3 w3 g3 n3 b3
      obtain ⟨d, rfl⟩ := n3.one
      simp +contextual (maxSteps := 2000000) only [go_sem, Nat.reduceEqDiff, reduceCtorEq, Nat.reduceAdd, Nat.reduceLeDiff, t2, l2, t3, l3, t4, l4, t6, l6, t7, t8, t9, t10, yi]
      refine wp_setE (x := ⟨true, d, .sl none 0 (some 0)⟩) lenY (x.sl.out.out.grow g3) hio rfl rfl (gg.trans g3) ?_
      intro h4 g4 n4 s4
      simp +contextual (maxSteps := 2000000) only [go_sem, Nat.reduceEqDiff, reduceCtorEq, Nat.reduceAdd, Nat.reduceLeDiff, t2, l2, t3, l3, t4, l4, t6, l6, t7, t8, t9, t10]
      rw [bindPl_place o hp hi]
      exact ⟨g4, by rw [wrap_next hi (by omega)], _, x.put hio g3 ⟨rfl, n3, .nil⟩ Sep.nil.symm n4 s4 gg.n⟩
    · have d1 : decide ((i : Int) < (places l : Nat)) = false := decide_eq_false (by omega)
      cases hr : hasRest l with
      | false =>
        have d2 : decide (kindAt l 2 ≥ 0) = false := hr
        simp +contextual (maxSteps := 2000000) only [go_sem, Nat.reduceEqDiff, reduceCtorEq, Nat.reduceAdd, Nat.reduceLeDiff, t2, l2, t3, l3, t4, l4, t6, l6, t7, t8, t9, t10, k.pl.len, lt_true hi, d1, d2]
        rw [bindPl_over o hp hi hr]
        exact ⟨gg, by rw [wrap_next hi (by omega)], _, x⟩
      | true =>
        obtain ⟨r0, r1, r2⟩ := o.rest_at hr
        have hio : places l < rs.length := by omega
        have hpb : places l < (bindPl l (f.pl.take i)).length := by rw [bindPl_len]; exact r0
        have yi := x.sl.out.out.iaddr hio (kd := .i64)
        have y1 := (x.sl.out.out.sl lenY).fieldO (off := 1) hio (by omega)
        rw [encY_1] at y1
        have d2 : decide (((places l : Nat) : Int) ≥ 0) = true := decide_eq_true (by omega)
        rw [r2] at t9
        have hlen : (bindPl l (f.pl.take i))[places l].list.length ≤ i := by rw [bindPl_at, slotPl_rest r0 r1]; simp; omega
        simp +contextual (maxSteps := 2000000) only [go_sem, Nat.reduceEqDiff, reduceCtorEq, Nat.reduceAdd, Nat.reduceLeDiff, t2, l2, t3, l3, t4, l4, t6, l6, t7, t8, t9, t10, k.pl.len, k.pl.iaddr hi, k.pl.oneO hi, lt_true hi, d1, d2, yi, y1]
        refine wp_lit (enc := encI) (k := 1) (l := [f.pl[i]]) rfl rfl ?_
        intro h3 w3 g3 n3 b3
        simp +contextual (maxSteps := 2000000) only [go_sem, Nat.reduceEqDiff, reduceCtorEq, Nat.reduceAdd, Nat.reduceLeDiff, t2, l2, t3, l3, t4, l4, t6, l6, t7, t8, t9, t10]
        refine wp_append lenI ((x.sl.at hio hpb).list.grow g3) (n3.sl lenI) (gg.trans g3) (by simp; omega) ?_
        intro h4 s4 g4 n4 st4 hb4
        obtain ⟨c4, rfl⟩ := n4.one
        simp +contextual (maxSteps := 2000000) only [go_sem, Nat.reduceEqDiff, reduceCtorEq, Nat.reduceAdd, Nat.reduceLeDiff, t2, l2, t3, l3, t4, l4, t6, l6, t7, t8, t9, t10, yi]
        refine wp_set (x := { rs[places l] with lv := c4 }) (off := 1) (vs := [c4]) lenY ((x.sl.out.out.grow g3).stay st4 (x.sl.out.vlv _ hio)) hio rfl rfl (Nat.le_of_ble_eq_true rfl) g4 ?_
        intro h5 g5 n5 s5
        simp +contextual (maxSteps := 2000000) only [go_sem, Nat.reduceEqDiff, reduceCtorEq, Nat.reduceAdd, Nat.reduceLeDiff, t2, l2, t3, l3, t4, l4, t6, l6, t7, t8, t9, t10]
        rw [bindPl_rest o hp hi hr hpb]
        exact ⟨g5, by rw [r2], by rw [wrap_next hi (by omega)], _, (x.grow g3).app_list hio hpb n4 st4 hb4 n5 s5⟩
  · rintro T L h' ⟨gg, t2, l2, t3, l3, t4, l4, t6, l6, t7, t8, t9, t10, rs, x⟩
    have k := hf.grow gg
    rw [List.take_length] at x
    by_cases hm : places l < f.pl.length
    · have d1 : decide ((f.pl.length : Int) > (places l : Nat)) = true := decide_eq_true (by omega)
      cases hr : hasRest l with
      | true =>
        obtain ⟨r0, r1, r2⟩ := o.rest_at hr
        have d2 : decide (kindAt l 2 < 0) = false := decide_eq_false (by omega)
        have em : manyB l f.pl = [] := by unfold manyB; rw [if_neg (by simp [hr])]
        rw [← em] at x
        simp +contextual (maxSteps := 2000000) only [go_sem, Nat.reduceEqDiff, reduceCtorEq, Nat.reduceAdd, Nat.reduceLeDiff, t2, l2, t3, l3, t4, l4, t6, l6, t7, t8, t9, t10, k.pl.len, lt_false, d1, d2]
        refine wpC_loop (fun i T L h' => Grow h h' ∧ T 2 = .lp 2 0 ∧ (L 2).2 = [q] ∧ T 3 = .lp 3 0 ∧ (L 3).2 = [p, n] ∧ T 4 = .lp 4 0 ∧ (L 4).2 = [.sl none 0 (some 0)] ∧ T 6 = .lp 6 0 ∧ (L 6).2 = [v] ∧ (∃ w rs, T 7 = .v (.one w) ∧ BdY h h' v w rs (nameF l f i).slots (nameF l f i).bad) ∧ T 11 = .v (.one (.int .i64 i))) f.nl.length ?_ ?_ (Nat.zero_le _) ?_
        · rintro i T L h' hi ⟨gg, t2, l2, t3, l3, t4, l4, t6, l6, ⟨w, rs, t7, x⟩, tx⟩
          have k := hf.grow gg
          have kl := hl.grow gg
          have ok := BOk.nameF (l := l) (f := f) hb3 (i := i) (by omega)
          have hrs : rs.length = l.length := x.len.trans ok.len
          have tk := c_takesName l q f.nl[i].name h' kl sq
          rw [nameF_next hi]
          rcases takes_cases l f.nl[i].name with e | ⟨j, hj, e⟩
          · rw [nameStep_no e]
            rw [e] at tk
            simp +contextual (maxSteps := 2000000) only [go_sem, Nat.reduceEqDiff, reduceCtorEq, Nat.reduceAdd, Nat.reduceLeDiff, t2, l2, t3, l3, t4, l4, t6, l6, t7, tx, k.nl.len, k.nl.iaddr hi, k.nl.whole hi, encP, lt_true hi, tk]
            refine wp_lit (enc := encB) (k := 2) (l := [⟨1, f.nl[i].name⟩]) rfl rfl ?_
            intro h3 w3 g3 n3 _
            simp +contextual (maxSteps := 2000000) only [go_sem, Nat.reduceEqDiff, reduceCtorEq, Nat.reduceAdd, Nat.reduceLeDiff, t2, l2, t3, l3, t4, l4, t6, l6, t7, tx]
            refine wp_append lenB (x.pr.grow g3) (n3.sl lenB) (gg.trans g3) (by have := ok.bad; simp; omega) ?_
            intro h4 s4 g4 n4 st4 hb4
            obtain ⟨c4, rfl⟩ := n4.one
            simp +contextual (maxSteps := 2000000) only [go_sem, Nat.reduceEqDiff, reduceCtorEq, Nat.reduceAdd, Nat.reduceLeDiff, t2, l2, t3, l3, t4, l4, t6, l6, t7, tx]
            exact ⟨g4, ⟨c4, rs, rfl, (x.grow g3).push n4 st4 hb4⟩, by rw [wrap_next hi (by omega)]⟩
          · rw [e] at tk
            have hs : j < (nameF l f i).slots.length := by rw [ok.len]; exact hj
            have hio : j < rs.length := by omega
            have z := x.sl.at hio hs
            have yi := x.sl.out.out.iaddr hio (kd := .i64)
            have y0 := (x.sl.out.out.sl lenY).fieldO (off := 0) hio (by omega)
            have y2 := (x.sl.out.out.sl lenY).fieldO (off := 2) hio (by omega)
            rw [encY_0] at y0
            rw [encY_2] at y2
            have dj : decide ((j : Int) < 0) = false := decide_eq_false (by omega)
            by_cases kk : l[j].kind = 4
            · rw [nameStep_map e hj hs kk]
              have dk : decide (l[j].kind = 4) = true := decide_eq_true kk
              simp +contextual (maxSteps := 2000000) only [go_sem, Nat.reduceEqDiff, reduceCtorEq, Nat.reduceAdd, Nat.reduceLeDiff, t2, l2, t3, l3, t4, l4, t6, l6, t7, tx, k.nl.len, k.nl.iaddr hi, k.nl.whole hi, encP, lt_true hi, tk, dj, kl.iaddr hj, kl.fieldO hj, dk, yi, y2]
              refine wp_lit (enc := encP) (k := 2) (l := [f.nl[i]]) rfl rfl ?_
              intro h3 w3 g3 n3 _
              simp +contextual (maxSteps := 2000000) only [go_sem, Nat.reduceEqDiff, reduceCtorEq, Nat.reduceAdd, Nat.reduceLeDiff, t2, l2, t3, l3, t4, l4, t6, l6, t7, tx]
              refine wp_append lenP (z.pairs.grow g3) (n3.sl lenP) (gg.trans g3) (by have := ok.pairs _ (List.getElem_mem hs); simp; omega) ?_
              intro h4 s4 g4 n4 st4 hb4
              obtain ⟨c4, rfl⟩ := n4.one
              simp +contextual (maxSteps := 2000000) only [go_sem, Nat.reduceEqDiff, reduceCtorEq, Nat.reduceAdd, Nat.reduceLeDiff, t2, l2, t3, l3, t4, l4, t6, l6, t7, tx, yi]
              refine wp_set (x := { rs[j] with pv := c4 }) (off := 2) (vs := [c4]) lenY ((x.sl.out.out.grow g3).stay st4 (x.sl.out.vpv _ hio)) hio rfl rfl (Nat.le_of_ble_eq_true rfl) g4 ?_
              intro h5 g5 n5 s5
              simp +contextual (maxSteps := 2000000) only [go_sem, Nat.reduceEqDiff, reduceCtorEq, Nat.reduceAdd, Nat.reduceLeDiff, t2, l2, t3, l3, t4, l4, t6, l6, t7, tx]
              exact ⟨g5, ⟨w, _, rfl, (x.grow g3).app_pairs hio hs n4 st4 hb4 n5 s5⟩, by rw [wrap_next hi (by omega)]⟩
            · have dk : decide (l[j].kind = 4) = false := decide_eq_false kk
              cases b : (nameF l f i).slots[j].given with
              | true =>
                rw [nameStep_twice e hj hs kk b]
                rw [z.given, b] at y0
                simp +contextual (maxSteps := 2000000) only [go_sem, Nat.reduceEqDiff, reduceCtorEq, Nat.reduceAdd, Nat.reduceLeDiff, t2, l2, t3, l3, t4, l4, t6, l6, t7, tx, k.nl.len, k.nl.iaddr hi, k.nl.whole hi, encP, lt_true hi, tk, dj, kl.iaddr hj, kl.fieldO hj, dk, yi, y0]
                refine wp_lit (enc := encB) (k := 2) (l := [⟨2, f.nl[i].name⟩]) rfl rfl ?_
                intro h3 w3 g3 n3 _
                simp +contextual (maxSteps := 2000000) only [go_sem, Nat.reduceEqDiff, reduceCtorEq, Nat.reduceAdd, Nat.reduceLeDiff, t2, l2, t3, l3, t4, l4, t6, l6, t7, tx]
                refine wp_append lenB (x.pr.grow g3) (n3.sl lenB) (gg.trans g3) (by have := ok.bad; simp; omega) ?_
                intro h4 s4 g4 n4 st4 hb4
                obtain ⟨c4, rfl⟩ := n4.one
                simp +contextual (maxSteps := 2000000) only [go_sem, Nat.reduceEqDiff, reduceCtorEq, Nat.reduceAdd, Nat.reduceLeDiff, t2, l2, t3, l3, t4, l4, t6, l6, t7, tx]
                exact ⟨g4, ⟨c4, rs, rfl, (x.grow g3).push n4 st4 hb4⟩, by rw [wrap_next hi (by omega)]⟩
              | false =>
                rw [nameStep_give e hj hs kk b]
                rw [z.given, b] at y0
                simp +contextual (maxSteps := 2000000) only [go_sem, Nat.reduceEqDiff, reduceCtorEq, Nat.reduceAdd, Nat.reduceLeDiff, t2, l2, t3, l3, t4, l4, t6, l6, t7, tx, k.nl.len, k.nl.iaddr hi, k.nl.whole hi, encP, lt_true hi, tk, dj, kl.iaddr hj, kl.fieldO hj, dk, yi, y0]
                refine wp_lit (enc := encI) (k := 1) (l := [f.nl[i].value]) rfl rfl ?_
                intro h3 w3 g3 n3 b3
                obtain ⟨d, rfl⟩ := n3.one
                simp +contextual (maxSteps := 2000000) only [go_sem, Nat.reduceEqDiff, reduceCtorEq, Nat.reduceAdd, Nat.reduceLeDiff, t2, l2, t3, l3, t4, l4, t6, l6, t7, tx, yi]
                refine wp_setE (x := ⟨true, d, .sl none 0 (some 0)⟩) lenY (x.sl.out.out.grow g3) hio rfl rfl (gg.trans g3) ?_
                intro h4 g4 n4 s4
                simp +contextual (maxSteps := 2000000) only [go_sem, Nat.reduceEqDiff, reduceCtorEq, Nat.reduceAdd, Nat.reduceLeDiff, t2, l2, t3, l3, t4, l4, t6, l6, t7, tx]
                exact ⟨g4, ⟨w, _, rfl, x.put hio g3 ⟨rfl, n3, .nil⟩ Sep.nil.symm n4 s4 gg.n⟩, by rw [wrap_next hi (by omega)]⟩
        · rintro T L h' ⟨gg, t2, l2, t3, l3, t4, l4, t6, l6, ⟨w, rs, t7, x⟩, tx⟩
          have k := hf.grow gg
          simp +contextual (maxSteps := 2000000) only [go_sem, Nat.reduceEqDiff, reduceCtorEq, Nat.reduceAdd, Nat.reduceLeDiff, t2, l2, t3, l3, t4, l4, t6, l6, t7, tx, k.nl.len, lt_false]
          exact gcK_of ⟨gg, _, _, _, rfl, x⟩ (fun hs _ => by
            simp only [AV.scalar, AV.scalars, List.all_cons, List.all_nil, Bool.and_true, Bool.and_eq_true] at hs
            exact ⟨Grow.refl h, _, _, _, rfl, x.scalar hs.1 hs.2 h⟩)
        · simp +contextual (maxSteps := 2000000) only [go_sem, Nat.reduceEqDiff, reduceCtorEq, Nat.reduceAdd, Nat.reduceLeDiff, t2, l2, t3, l3, t4, l4, t6, l6, t7]
          rw [nameF_zero]
          exact ⟨gg, ⟨w, rs, rfl, x⟩, rfl⟩
      | false =>
        have d2 : decide (kindAt l 2 < 0) = true := by
          unfold hasRest at hr
          have := of_decide_eq_false hr
          exact decide_eq_true (by omega)
        have em : manyB l f.pl = [⟨0, strOfNums []⟩] := by unfold manyB; rw [if_pos ⟨hm, hr⟩]
        simp +contextual (maxSteps := 2000000) only [go_sem, Nat.reduceEqDiff, reduceCtorEq, Nat.reduceAdd, Nat.reduceLeDiff, t2, l2, t3, l3, t4, l4, t6, l6, t7, t8, t9, t10, k.pl.len, lt_false, d1, d2]
        refine wp_lit (enc := encB) (k := 2) (l := [⟨0, strOfNums []⟩]) rfl rfl ?_
        intro h3 w3 g3 n3 _
        simp +contextual (maxSteps := 2000000) only [go_sem, Nat.reduceEqDiff, reduceCtorEq, Nat.reduceAdd, Nat.reduceLeDiff, t2, l2, t3, l3, t4, l4, t6, l6, t7, t8, t9, t10]
        refine wp_append lenB (x.pr.grow g3) (n3.sl lenB) (gg.trans g3) (by simp) ?_
        intro h4 s4 g4 n4 st4 hb4
        obtain ⟨c4, rfl⟩ := n4.one
        have x := (x.grow g3).push n4 st4 hb4
        rw [List.nil_append, ← em] at x
        simp +contextual (maxSteps := 2000000) only [go_sem, Nat.reduceEqDiff, reduceCtorEq, Nat.reduceAdd, Nat.reduceLeDiff, t2, l2, t3, l3, t4, l4, t6, l6, t7, t8, t9, t10]
        refine wpC_loop (fun i T L h' => Grow h h' ∧ T 2 = .lp 2 0 ∧ (L 2).2 = [q] ∧ T 3 = .lp 3 0 ∧ (L 3).2 = [p, n] ∧ T 4 = .lp 4 0 ∧ (L 4).2 = [.sl none 0 (some 0)] ∧ T 6 = .lp 6 0 ∧ (L 6).2 = [v] ∧ (∃ w rs, T 7 = .v (.one w) ∧ BdY h h' v w rs (nameF l f i).slots (nameF l f i).bad) ∧ T 11 = .v (.one (.int .i64 i))) f.nl.length ?_ ?_ (Nat.zero_le _) ?_
        · rintro i T L h' hi ⟨gg, t2, l2, t3, l3, t4, l4, t6, l6, ⟨w, rs, t7, x⟩, tx⟩
          have k := hf.grow gg
          have kl := hl.grow gg
          have ok := BOk.nameF (l := l) (f := f) hb3 (i := i) (by omega)
          have hrs : rs.length = l.length := x.len.trans ok.len
          have tk := c_takesName l q f.nl[i].name h' kl sq
          rw [nameF_next hi]
          rcases takes_cases l f.nl[i].name with e | ⟨j, hj, e⟩
          · rw [nameStep_no e]
            rw [e] at tk
            simp +contextual (maxSteps := 2000000) only [go_sem, Nat.reduceEqDiff, reduceCtorEq, Nat.reduceAdd, Nat.reduceLeDiff, t2, l2, t3, l3, t4, l4, t6, l6, t7, tx, k.nl.len, k.nl.iaddr hi, k.nl.whole hi, encP, lt_true hi, tk]
            refine wp_lit (enc := encB) (k := 2) (l := [⟨1, f.nl[i].name⟩]) rfl rfl ?_
            intro h3 w3 g3 n3 _
            simp +contextual (maxSteps := 2000000) only [go_sem, Nat.reduceEqDiff, reduceCtorEq, Nat.reduceAdd, Nat.reduceLeDiff, t2, l2, t3, l3, t4, l4, t6, l6, t7, tx]
            refine wp_append lenB (x.pr.grow g3) (n3.sl lenB) (gg.trans g3) (by have := ok.bad; simp; omega) ?_
            intro h4 s4 g4 n4 st4 hb4
            obtain ⟨c4, rfl⟩ := n4.one
            simp +contextual (maxSteps := 2000000) only [go_sem, Nat.reduceEqDiff, reduceCtorEq, Nat.reduceAdd, Nat.reduceLeDiff, t2, l2, t3, l3, t4, l4, t6, l6, t7, tx]
            exact ⟨g4, ⟨c4, rs, rfl, (x.grow g3).push n4 st4 hb4⟩, by rw [wrap_next hi (by omega)]⟩
          · rw [e] at tk
            have hs : j < (nameF l f i).slots.length := by rw [ok.len]; exact hj
            have hio : j < rs.length := by omega
            have z := x.sl.at hio hs
            have yi := x.sl.out.out.iaddr hio (kd := .i64)
            have y0 := (x.sl.out.out.sl lenY).fieldO (off := 0) hio (by omega)
            have y2 := (x.sl.out.out.sl lenY).fieldO (off := 2) hio (by omega)
            rw [encY_0] at y0
            rw [encY_2] at y2
            have dj : decide ((j : Int) < 0) = false := decide_eq_false (by omega)
            by_cases kk : l[j].kind = 4
            · rw [nameStep_map e hj hs kk]
              have dk : decide (l[j].kind = 4) = true := decide_eq_true kk
              simp +contextual (maxSteps := 2000000) only [go_sem, Nat.reduceEqDiff, reduceCtorEq, Nat.reduceAdd, Nat.reduceLeDiff, t2, l2, t3, l3, t4, l4, t6, l6, t7, tx, k.nl.len, k.nl.iaddr hi, k.nl.whole hi, encP, lt_true hi, tk, dj, kl.iaddr hj, kl.fieldO hj, dk, yi, y2]
              refine wp_lit (enc := encP) (k := 2) (l := [f.nl[i]]) rfl rfl ?_
              intro h3 w3 g3 n3 _
              simp +contextual (maxSteps := 2000000) only [go_sem, Nat.reduceEqDiff, reduceCtorEq, Nat.reduceAdd, Nat.reduceLeDiff, t2, l2, t3, l3, t4, l4, t6, l6, t7, tx]
              refine wp_append lenP (z.pairs.grow g3) (n3.sl lenP) (gg.trans g3) (by have := ok.pairs _ (List.getElem_mem hs); simp; omega) ?_
              intro h4 s4 g4 n4 st4 hb4
              obtain ⟨c4, rfl⟩ := n4.one
              simp +contextual (maxSteps := 2000000) only [go_sem, Nat.reduceEqDiff, reduceCtorEq, Nat.reduceAdd, Nat.reduceLeDiff, t2, l2, t3, l3, t4, l4, t6, l6, t7, tx, yi]
              refine wp_set (x := { rs[j] with pv := c4 }) (off := 2) (vs := [c4]) lenY ((x.sl.out.out.grow g3).stay st4 (x.sl.out.vpv _ hio)) hio rfl rfl (Nat.le_of_ble_eq_true rfl) g4 ?_
              intro h5 g5 n5 s5
              simp +contextual (maxSteps := 2000000) only [go_sem, Nat.reduceEqDiff, reduceCtorEq, Nat.reduceAdd, Nat.reduceLeDiff, t2, l2, t3, l3, t4, l4, t6, l6, t7, tx]
              exact ⟨g5, ⟨w, _, rfl, (x.grow g3).app_pairs hio hs n4 st4 hb4 n5 s5⟩, by rw [wrap_next hi (by omega)]⟩
            · have dk : decide (l[j].kind = 4) = false := decide_eq_false kk
              cases b : (nameF l f i).slots[j].given with
              | true =>
                rw [nameStep_twice e hj hs kk b]
                rw [z.given, b] at y0
                simp +contextual (maxSteps := 2000000) only [go_sem, Nat.reduceEqDiff, reduceCtorEq, Nat.reduceAdd, Nat.reduceLeDiff, t2, l2, t3, l3, t4, l4, t6, l6, t7, tx, k.nl.len, k.nl.iaddr hi, k.nl.whole hi, encP, lt_true hi, tk, dj, kl.iaddr hj, kl.fieldO hj, dk, yi, y0]
                refine wp_lit (enc := encB) (k := 2) (l := [⟨2, f.nl[i].name⟩]) rfl rfl ?_
                intro h3 w3 g3 n3 _
                simp +contextual (maxSteps := 2000000) only [go_sem, Nat.reduceEqDiff, reduceCtorEq, Nat.reduceAdd, Nat.reduceLeDiff, t2, l2, t3, l3, t4, l4, t6, l6, t7, tx]
                refine wp_append lenB (x.pr.grow g3) (n3.sl lenB) (gg.trans g3) (by have := ok.bad; simp; omega) ?_
                intro h4 s4 g4 n4 st4 hb4
                obtain ⟨c4, rfl⟩ := n4.one
                simp +contextual (maxSteps := 2000000) only [go_sem, Nat.reduceEqDiff, reduceCtorEq, Nat.reduceAdd, Nat.reduceLeDiff, t2, l2, t3, l3, t4, l4, t6, l6, t7, tx]
                exact ⟨g4, ⟨c4, rs, rfl, (x.grow g3).push n4 st4 hb4⟩, by rw [wrap_next hi (by omega)]⟩
              | false =>
                rw [nameStep_give e hj hs kk b]
                rw [z.given, b] at y0
                simp +contextual (maxSteps := 2000000) only [go_sem, Nat.reduceEqDiff, reduceCtorEq, Nat.reduceAdd, Nat.reduceLeDiff, t2, l2, t3, l3, t4, l4, t6, l6, t7, tx, k.nl.len, k.nl.iaddr hi, k.nl.whole hi, encP, lt_true hi, tk, dj, kl.iaddr hj, kl.fieldO hj, dk, yi, y0]
                refine wp_lit (enc := encI) (k := 1) (l := [f.nl[i].value]) rfl rfl ?_
                intro h3 w3 g3 n3 b3
                obtain ⟨d, rfl⟩ := n3.one
                simp +contextual (maxSteps := 2000000) only [go_sem, Nat.reduceEqDiff, reduceCtorEq, Nat.reduceAdd, Nat.reduceLeDiff, t2, l2, t3, l3, t4, l4, t6, l6, t7, tx, yi]
                refine wp_setE (x := ⟨true, d, .sl none 0 (some 0)⟩) lenY (x.sl.out.out.grow g3) hio rfl rfl (gg.trans g3) ?_
                intro h4 g4 n4 s4
                simp +contextual (maxSteps := 2000000) only [go_sem, Nat.reduceEqDiff, reduceCtorEq, Nat.reduceAdd, Nat.reduceLeDiff, t2, l2, t3, l3, t4, l4, t6, l6, t7, tx]
                exact ⟨g4, ⟨w, _, rfl, x.put hio g3 ⟨rfl, n3, .nil⟩ Sep.nil.symm n4 s4 gg.n⟩, by rw [wrap_next hi (by omega)]⟩
        · rintro T L h' ⟨gg, t2, l2, t3, l3, t4, l4, t6, l6, ⟨w, rs, t7, x⟩, tx⟩
          have k := hf.grow gg
          simp +contextual (maxSteps := 2000000) only [go_sem, Nat.reduceEqDiff, reduceCtorEq, Nat.reduceAdd, Nat.reduceLeDiff, t2, l2, t3, l3, t4, l4, t6, l6, t7, tx, k.nl.len, lt_false]
          exact gcK_of ⟨gg, _, _, _, rfl, x⟩ (fun hs _ => by
            simp only [AV.scalar, AV.scalars, List.all_cons, List.all_nil, Bool.and_true, Bool.and_eq_true] at hs
            exact ⟨Grow.refl h, _, _, _, rfl, x.scalar hs.1 hs.2 h⟩)
        · simp +contextual (maxSteps := 2000000) only [go_sem, Nat.reduceEqDiff, reduceCtorEq, Nat.reduceAdd, Nat.reduceLeDiff, t2, l2, t3, l3, t4, l4, t6, l6, t7]
          rw [nameF_zero]
          exact ⟨g4, ⟨c4, rs, rfl, x⟩, rfl⟩
    · have d1 : decide ((f.pl.length : Int) > (places l : Nat)) = false := decide_eq_false (by omega)
      have em : manyB l f.pl = [] := by unfold manyB; rw [if_neg (by omega)]
      rw [← em] at x
      simp +contextual (maxSteps := 2000000) only [go_sem, Nat.reduceEqDiff, reduceCtorEq, Nat.reduceAdd, Nat.reduceLeDiff, t2, l2, t3, l3, t4, l4, t6, l6, t7, t8, t9, t10, k.pl.len, lt_false, d1]
      refine wpC_loop (fun i T L h' => Grow h h' ∧ T 2 = .lp 2 0 ∧ (L 2).2 = [q] ∧ T 3 = .lp 3 0 ∧ (L 3).2 = [p, n] ∧ T 4 = .lp 4 0 ∧ (L 4).2 = [.sl none 0 (some 0)] ∧ T 6 = .lp 6 0 ∧ (L 6).2 = [v] ∧ (∃ w rs, T 7 = .v (.one w) ∧ BdY h h' v w rs (nameF l f i).slots (nameF l f i).bad) ∧ T 11 = .v (.one (.int .i64 i))) f.nl.length ?_ ?_ (Nat.zero_le _) ?_
      · rintro i T L h' hi ⟨gg, t2, l2, t3, l3, t4, l4, t6, l6, ⟨w, rs, t7, x⟩, tx⟩
        have k := hf.grow gg
        have kl := hl.grow gg
        have ok := BOk.nameF (l := l) (f := f) hb3 (i := i) (by omega)
        have hrs : rs.length = l.length := x.len.trans ok.len
        have tk := c_takesName l q f.nl[i].name h' kl sq
        rw [nameF_next hi]
        rcases takes_cases l f.nl[i].name with e | ⟨j, hj, e⟩
        · rw [nameStep_no e]
          rw [e] at tk
          simp +contextual (maxSteps := 2000000) only [go_sem, Nat.reduceEqDiff, reduceCtorEq, Nat.reduceAdd, Nat.reduceLeDiff, t2, l2, t3, l3, t4, l4, t6, l6, t7, tx, k.nl.len, k.nl.iaddr hi, k.nl.whole hi, encP, lt_true hi, tk]
          refine wp_lit (enc := encB) (k := 2) (l := [⟨1, f.nl[i].name⟩]) rfl rfl ?_
          intro h3 w3 g3 n3 _
          simp +contextual (maxSteps := 2000000) only [go_sem, Nat.reduceEqDiff, reduceCtorEq, Nat.reduceAdd, Nat.reduceLeDiff, t2, l2, t3, l3, t4, l4, t6, l6, t7, tx]
          refine wp_append lenB (x.pr.grow g3) (n3.sl lenB) (gg.trans g3) (by have := ok.bad; simp; omega) ?_
          intro h4 s4 g4 n4 st4 hb4
          obtain ⟨c4, rfl⟩ := n4.one
          simp +contextual (maxSteps := 2000000) only [go_sem, Nat.reduceEqDiff, reduceCtorEq, Nat.reduceAdd, Nat.reduceLeDiff, t2, l2, t3, l3, t4, l4, t6, l6, t7, tx]
          exact ⟨g4, ⟨c4, rs, rfl, (x.grow g3).push n4 st4 hb4⟩, by rw [wrap_next hi (by omega)]⟩
        · rw [e] at tk
          have hs : j < (nameF l f i).slots.length := by rw [ok.len]; exact hj
          have hio : j < rs.length := by omega
          have z := x.sl.at hio hs
          have yi := x.sl.out.out.iaddr hio (kd := .i64)
          have y0 := (x.sl.out.out.sl lenY).fieldO (off := 0) hio (by omega)
          have y2 := (x.sl.out.out.sl lenY).fieldO (off := 2) hio (by omega)
          rw [encY_0] at y0
          rw [encY_2] at y2
          have dj : decide ((j : Int) < 0) = false := decide_eq_false (by omega)
          by_cases kk : l[j].kind = 4
          · rw [nameStep_map e hj hs kk]
            have dk : decide (l[j].kind = 4) = true := decide_eq_true kk
            simp +contextual (maxSteps := 2000000) only [go_sem, Nat.reduceEqDiff, reduceCtorEq, Nat.reduceAdd, Nat.reduceLeDiff, t2, l2, t3, l3, t4, l4, t6, l6, t7, tx, k.nl.len, k.nl.iaddr hi, k.nl.whole hi, encP, lt_true hi, tk, dj, kl.iaddr hj, kl.fieldO hj, dk, yi, y2]
            refine wp_lit (enc := encP) (k := 2) (l := [f.nl[i]]) rfl rfl ?_
            intro h3 w3 g3 n3 _
            simp +contextual (maxSteps := 2000000) only [go_sem, Nat.reduceEqDiff, reduceCtorEq, Nat.reduceAdd, Nat.reduceLeDiff, t2, l2, t3, l3, t4, l4, t6, l6, t7, tx]
            refine wp_append lenP (z.pairs.grow g3) (n3.sl lenP) (gg.trans g3) (by have := ok.pairs _ (List.getElem_mem hs); simp; omega) ?_
            intro h4 s4 g4 n4 st4 hb4
            obtain ⟨c4, rfl⟩ := n4.one
            simp +contextual (maxSteps := 2000000) only [go_sem, Nat.reduceEqDiff, reduceCtorEq, Nat.reduceAdd, Nat.reduceLeDiff, t2, l2, t3, l3, t4, l4, t6, l6, t7, tx, yi]
            refine wp_set (x := { rs[j] with pv := c4 }) (off := 2) (vs := [c4]) lenY ((x.sl.out.out.grow g3).stay st4 (x.sl.out.vpv _ hio)) hio rfl rfl (Nat.le_of_ble_eq_true rfl) g4 ?_
            intro h5 g5 n5 s5
            simp +contextual (maxSteps := 2000000) only [go_sem, Nat.reduceEqDiff, reduceCtorEq, Nat.reduceAdd, Nat.reduceLeDiff, t2, l2, t3, l3, t4, l4, t6, l6, t7, tx]
            exact ⟨g5, ⟨w, _, rfl, (x.grow g3).app_pairs hio hs n4 st4 hb4 n5 s5⟩, by rw [wrap_next hi (by omega)]⟩
          · have dk : decide (l[j].kind = 4) = false := decide_eq_false kk
            cases b : (nameF l f i).slots[j].given with
            | true =>
              rw [nameStep_twice e hj hs kk b]
              rw [z.given, b] at y0
              simp +contextual (maxSteps := 2000000) only [go_sem, Nat.reduceEqDiff, reduceCtorEq, Nat.reduceAdd, Nat.reduceLeDiff, t2, l2, t3, l3, t4, l4, t6, l6, t7, tx, k.nl.len, k.nl.iaddr hi, k.nl.whole hi, encP, lt_true hi, tk, dj, kl.iaddr hj, kl.fieldO hj, dk, yi, y0]
              refine wp_lit (enc := encB) (k := 2) (l := [⟨2, f.nl[i].name⟩]) rfl rfl ?_
              intro h3 w3 g3 n3 _
              simp +contextual (maxSteps := 2000000) only [go_sem, Nat.reduceEqDiff, reduceCtorEq, Nat.reduceAdd, Nat.reduceLeDiff, t2, l2, t3, l3, t4, l4, t6, l6, t7, tx]
              refine wp_append lenB (x.pr.grow g3) (n3.sl lenB) (gg.trans g3) (by have := ok.bad; simp; omega) ?_
              intro h4 s4 g4 n4 st4 hb4
              obtain ⟨c4, rfl⟩ := n4.one
              simp +contextual (maxSteps := 2000000) only [go_sem, Nat.reduceEqDiff, reduceCtorEq, Nat.reduceAdd, Nat.reduceLeDiff, t2, l2, t3, l3, t4, l4, t6, l6, t7, tx]
              exact ⟨g4, ⟨c4, rs, rfl, (x.grow g3).push n4 st4 hb4⟩, by rw [wrap_next hi (by omega)]⟩
            | false =>
              rw [nameStep_give e hj hs kk b]
              rw [z.given, b] at y0
              simp +contextual (maxSteps := 2000000) only [go_sem, Nat.reduceEqDiff, reduceCtorEq, Nat.reduceAdd, Nat.reduceLeDiff, t2, l2, t3, l3, t4, l4, t6, l6, t7, tx, k.nl.len, k.nl.iaddr hi, k.nl.whole hi, encP, lt_true hi, tk, dj, kl.iaddr hj, kl.fieldO hj, dk, yi, y0]
              refine wp_lit (enc := encI) (k := 1) (l := [f.nl[i].value]) rfl rfl ?_
              intro h3 w3 g3 n3 b3
              obtain ⟨d, rfl⟩ := n3.one
              simp +contextual (maxSteps := 2000000) only [go_sem, Nat.reduceEqDiff, reduceCtorEq, Nat.reduceAdd, Nat.reduceLeDiff, t2, l2, t3, l3, t4, l4, t6, l6, t7, tx, yi]
              refine wp_setE (x := ⟨true, d, .sl none 0 (some 0)⟩) lenY (x.sl.out.out.grow g3) hio rfl rfl (gg.trans g3) ?_
              intro h4 g4 n4 s4
              simp +contextual (maxSteps := 2000000) only [go_sem, Nat.reduceEqDiff, reduceCtorEq, Nat.reduceAdd, Nat.reduceLeDiff, t2, l2, t3, l3, t4, l4, t6, l6, t7, tx]
              exact ⟨g4, ⟨w, _, rfl, x.put hio g3 ⟨rfl, n3, .nil⟩ Sep.nil.symm n4 s4 gg.n⟩, by rw [wrap_next hi (by omega)]⟩
      · rintro T L h' ⟨gg, t2, l2, t3, l3, t4, l4, t6, l6, ⟨w, rs, t7, x⟩, tx⟩
        have k := hf.grow gg
        simp +contextual (maxSteps := 2000000) only [go_sem, Nat.reduceEqDiff, reduceCtorEq, Nat.reduceAdd, Nat.reduceLeDiff, t2, l2, t3, l3, t4, l4, t6, l6, t7, tx, k.nl.len, lt_false]
        exact gcK_of ⟨gg, _, _, _, rfl, x⟩ (fun hs _ => by
          simp only [AV.scalar, AV.scalars, List.all_cons, List.all_nil, Bool.and_true, Bool.and_eq_true] at hs
          exact ⟨Grow.refl h, _, _, _, rfl, x.scalar hs.1 hs.2 h⟩)
      · simp +contextual (maxSteps := 2000000) only [go_sem, Nat.reduceEqDiff, reduceCtorEq, Nat.reduceAdd, Nat.reduceLeDiff, t2, l2, t3, l3, t4, l4, t6, l6, t7]
        rw [nameF_zero]
        exact ⟨gg, ⟨w, rs, rfl, x⟩, rfl⟩
  · simp +contextual (maxSteps := 2000000) only [go_sem, Nat.reduceEqDiff, reduceCtorEq, Nat.reduceAdd, Nat.reduceLeDiff]
    exact ⟨g1.trans g2, rfl, _, by rw [List.take_zero] at z0; exact z0⟩
end Go.Proofs.Ytekkimfdcbgcoac.Am
