/- Contracts: what a call gives to the parameters, of the reference. -/
import Derived.Test.YtdalgphpacikkabA2
import Derived.Test.YtdalgphpacikkabA3
import Derived.Test.YtdalgphpacikkabB1
import Derived.Test.YtdalgphpacikkabBY
namespace Go.Proofs.Ytdalgphpacikkab.Am
open Go
set_option maxRecDepth 100000
set_option maxHeartbeats 4000000
set_option linter.unusedSimpArgs false
set_option linter.unusedVariables false
attribute [local go_sem ↓] bv_t bv_c ev_t ev_c put_same put_ne put_none kill_at pro_at lb_same lb_ne start_zero start_succ wpC_seq wpC_reg wpC_cond wpC_block wpC_skip wpC_exit wpC_ret thenQ_normal thenQ_exit thenQ_ret inBlk_normal inBlk_exit inBlk_ret wpS_nil wpS_step wpS_again wpS_guard wpO_mov wpO_load wpO_faddr wpO_nilCheck wpO_pick wpO_build wpO_bin wpO_eqb wpO_eqst wpO_eqnil wpO_not wpO_conv wpO_bytesStr wpO_iaddr wpO_idxStr wpO_field wpO_extract wpO_len wpO_lenStr wpO_cap wpO_min wpO_slice wpO_sliceStr wpO_alloc wpO_box wpO_store wpO_call wpO_callv wpO_mkfn wpO_buildSlice wpO_mkslice wpO_append wpO_appz proA_nil proA_cons tmpX_nil tmpX_tmp tmpX_cell doneB_normal doneB_ret agK_cons agK_nil agK_guard agG_tt agG_ff agG_tf agG_ft agG_undef pureB_load results_one results_two results_nil resBs_cons resBs_nil resB_tmp resB_cell
attribute [local go_sem] kill_v kill_lp_ne kill_lp_same pro_v pro_lp_same pro_lp_ne av_v av_lp optB_some optX_some valX_eq ldX_lp ldX_v faX_lp faX_v ncX_lp ncX_ptr ncX_fn boxK_one boxK_agg stL_some stK_lp_one stK_lp_agg stK_v_one stK_v_agg proM_v proM_lp callG_mk callVG_mk callvK_fn fnG_mk ptrsA_nil ptrsA_cons callH_some whenA_true whenA_false guardH_tt guardH_ff guardH_tf guardH_ft guardH_undef agV_one agV_agg lenO_sl lenStrO_str notO_bool pickO_bool convO_int eqbO_bool eqnilO_sl extractO_tup capO_sl minO_int loadL_one loadL_all storeL_eq fillA_nil fillA_one fillA_agg nat_ge neg_ge nat_lt neg_lt buildO bin_add bin_sub bin_mul bin_eql bin_neq bin_lss bin_leq bin_gtr bin_geq str_eql str_neq str_lss str_leq str_gtr str_geq retK_some endK_mk gcK_same gcK_int gcK_bool tupO_one tupO_agg rdy_self ib ii Option.map_none Option.map_some Option.some.injEq exists_eq_left' exists_eq_left ne_eq not_false_eq_true if_true if_false List.map_cons List.map_nil List.getElem?_cons_zero List.getElem?_cons_succ List.length_cons List.length_nil List.take_succ_cons List.take_zero List.take_nil List.drop_succ_cons List.drop_zero List.drop_nil List.cons_append List.nil_append List.append_nil List.set_cons_zero List.set_cons_succ Nat.zero_add forall_const true_and and_true and_self Bool.false_eq_true false_implies true_implies implies_true Bool.not_true Bool.not_false Bool.not_eq_true' Bool.not_eq_false' beq_self_eq_true Bool.bne_true Bool.bne_false
attribute [local go_sem] lenI lenS lenP lenQ lenB lenL lenT encI_0 encS_0 encP_0 encP_1 encQ_0 encQ_1 encQ_2 encQ_3 encB_0 encB_1 encL_0 encL_1 encT_0 encT_1
attribute [local go_sem low] whenA_bool guardH_bool
attribute [local go_sem] lenY encY_0 encY_1 encY_2
def zeroR : RSlot := ⟨false, .sl none 0 (some 0), .sl none 0 (some 0)⟩
theorem NwY.zeros {h0 h : H} {v : CV} {n : Nat} (x : Nw encY 3 83 h0 h (.one v) (List.replicate n zeroR)) : NwY h0 h v (List.replicate n zeroR) (List.replicate n zeroS) := by
  refine ⟨⟨x, by simp, fun i hi => ?_, fun i hi => ?_, fun i hi => ?_, fun i hi => ?_, fun i j hi hj hij => ?_, fun i j hi hj hij => ?_, fun i j hi hj hij => ?_, fun i j hi hj hij => ?_⟩⟩
  · have hi2 : i < (List.replicate n zeroS).length := by simpa using hi
    rw [getY_eq hi2, List.getElem_replicate, List.getElem_replicate]
    exact ⟨rfl, .nil, .nil⟩
  all_goals simp only [List.getElem_replicate]
  · exact Sep.nil.symm
  · exact Sep.nil.symm
  · exact Sep.nil
  · exact Sep.nil
  · exact Sep.nil
  · exact Sep.nil
  · exact Sep.nil
/-! spec.emptyBinding -/
def L79_0 : List AStep := [⟨.box 36 (.t 0), (some 1), none, []⟩, ⟨.alloc 75 [(.sl none 0 (some 0))], (some 2), none, []⟩]
theorem v79_0 : VS L79_0.eq_1 := rfl
def L79_1 : List AStep := [⟨.build [(.sl none 0 (some 0))] [(0, 1, (.t 6))], (some 7), none, []⟩, ⟨.store 1 (.t 2) (.t 7), none, none, []⟩]
theorem v79_1 : VS L79_1.eq_1 := rfl
def L79_2 : List AStep := ⟨.len (.t 4), (some 5), none, []⟩ :: ⟨.mkslice 83 56 [(.bool false), (.sl none 0 (some 0)), (.sl none 0 (some 0))] (.t 5) (.t 5), (some 6), none, []⟩ :: L79_1
theorem v79_2 : VS L79_2.eq_1 := rfl
def L79_3 : List AStep := ⟨.faddr 0 (.t 1), (some 3), none, []⟩ :: ⟨.load 1 false (.t 3), (some 4), none, []⟩ :: L79_2
theorem v79_3 : VS L79_3.eq_1 := rfl
def C79_0 : ACode := .seq (.reg L79_3) .ret
theorem u79_0 : VC C79_0.eq_1 := rfl
def C79_1 : ACode := .seq (.reg L79_0) C79_0
theorem u79_1 : VC C79_1.eq_1 := rfl
def F79 : AFunc := ⟨8, [.cell 2 1 true], C79_1⟩
theorem cF79 : compB Try.prog 79 = some F79 := by kernel_rfl
attribute [local go_sem ↓] u79_0 u79_1 v79_0 v79_1 v79_2 v79_3
theorem c_emptyBinding (l : List Param) (q : CV) (h : H) (hl : SlQ h (.one q) l) (hn : l.length ≤ big) : callK (bm Try.prog 79 [.agg [q]] h) fun r h' => Grow h h' ∧ ∃ v, r = .agg [v] ∧ NwY h h' v (List.replicate l.length zeroR) (List.replicate l.length zeroS) := by
  refine bm_of cF79 ?_
  unfold big at hn
  simp +contextual (maxSteps := 2000000) only [go_sem, Nat.reduceEqDiff, reduceCtorEq, Nat.reduceAdd, Nat.reduceLeDiff, F79, hl.len]
  refine wp_make (enc := encY) (k := 3) zeroR rfl (by omega) (by omega) ?_
  intro h1 w g1 n1 _
  obtain ⟨c, rfl⟩ := n1.one
  simp +contextual (maxSteps := 2000000) only [go_sem, Nat.reduceEqDiff, reduceCtorEq, Nat.reduceAdd, Nat.reduceLeDiff]
  exact gcK_of ⟨g1, _, rfl, .zeros n1⟩ (fun hs _ => ⟨Grow.refl h, _, rfl, (NwY.zeros n1).scalar (by simpa [AV.scalar, AV.scalars] using hs) h⟩)
/-! spec.missing -/
def L88_0 : List AStep := [⟨.mov (.c (.sl none 0 (some 0))), (some 4), none, []⟩]
theorem v88_0 : VS L88_0.eq_1 := rfl
def L88_1 : List AStep := ⟨.box 36 (.t 0), (some 2), none, []⟩ :: ⟨.box 75 (.t 1), (some 3), none, []⟩ :: L88_0
theorem v88_1 : VS L88_1.eq_1 := rfl
def L88_2 : List AStep := [⟨.buildSlice 88 0 [(.int .i64 0), (.str (strOfNums []))] [], (some 8), none, []⟩, ⟨.mov (.t 8), (some 5), none, []⟩]
theorem v88_2 : VS L88_2.eq_1 := rfl
def L88_3 : List AStep := [⟨.mov (.c (.int .i64 0)), (some 6), none, []⟩]
theorem v88_3 : VS L88_3.eq_1 := rfl
def L88_4 : List AStep := [⟨.bin .lss (.t 9) (.t 12), (some 13), none, []⟩]
theorem v88_4 : VS L88_4.eq_1 := rfl
def L88_5 : List AStep := ⟨.load 1 false (.t 10), (some 11), none, []⟩ :: ⟨.len (.t 11), (some 12), none, []⟩ :: L88_4
theorem v88_5 : VS L88_5.eq_1 := rfl
def L88_6 : List AStep := ⟨.mov (.t 6), (some 9), none, []⟩ :: ⟨.faddr 0 (.t 2), (some 10), none, []⟩ :: L88_5
theorem v88_6 : VS L88_6.eq_1 := rfl
def L88_7 : List AStep := [⟨.store 4 (.t 7) (.t 20), none, none, []⟩]
theorem v88_7 : VS L88_7.eq_1 := rfl
def L88_8 : List AStep := ⟨.load 4 true (.t 19), (some 20), none, []⟩ :: ⟨.alloc 81 [(.str (strOfNums [])), (.int .i64 0), (.bool false), (.int .i64 0)], (some 7), none, []⟩ :: L88_7
theorem v88_8 : VS L88_8.eq_1 := rfl
def L88_9 : List AStep := ⟨.mov (.t 6), (some 18), none, []⟩ :: ⟨.iaddr 4 (.t 17) (.t 18), (some 19), none, []⟩ :: L88_8
theorem v88_9 : VS L88_9.eq_1 := rfl
def L88_10 : List AStep := ⟨.faddr 0 (.t 2), (some 16), none, []⟩ :: ⟨.load 1 false (.t 16), (some 17), none, []⟩ :: L88_9
theorem v88_10 : VS L88_10.eq_1 := rfl
def L88_11 : List AStep := [⟨.not (.t 34), (some 35), (some (28, true)), []⟩, ⟨.pick (.t 28) (.t 35) (.c (.bool false)), (some 36), none, []⟩]
theorem v88_11 : VS L88_11.eq_1 := rfl
def L88_12 : List AStep := ⟨.faddr 0 (.t 32), (some 33), (some (28, true)), []⟩ :: ⟨.load 1 false (.t 33), (some 34), (some (28, true)), []⟩ :: L88_11
theorem v88_12 : VS L88_12.eq_1 := rfl
def L88_13 : List AStep := ⟨.mov (.t 6), (some 31), (some (28, true)), []⟩ :: ⟨.iaddr 3 (.t 30) (.t 31), (some 32), (some (28, true)), []⟩ :: L88_12
theorem v88_13 : VS L88_13.eq_1 := rfl
def L88_14 : List AStep := ⟨.faddr 0 (.t 3), (some 29), (some (28, true)), []⟩ :: ⟨.load 1 false (.t 29), (some 30), (some (28, true)), []⟩ :: L88_13
theorem v88_14 : VS L88_14.eq_1 := rfl
def L88_15 : List AStep := ⟨.pick (.t 23) (.t 26) (.c (.bool false)), (some 27), none, []⟩ :: ⟨.mov (.t 27), (some 28), none, []⟩ :: L88_14
theorem v88_15 : VS L88_15.eq_1 := rfl
def L88_16 : List AStep := ⟨.load 1 false (.t 24), (some 25), (some (23, true)), []⟩ :: ⟨.not (.t 25), (some 26), (some (23, true)), []⟩ :: L88_15
theorem v88_16 : VS L88_16.eq_1 := rfl
def L88_17 : List AStep := ⟨.mov (.t 22), (some 23), none, []⟩ :: ⟨.faddr 2 (.t 7), (some 24), (some (23, true)), []⟩ :: L88_16
theorem v88_17 : VS L88_17.eq_1 := rfl
def L88_18 : List AStep := ⟨.load 4 true (.t 7), (some 21), none, []⟩ :: ⟨.call 46 [(.t 21)], (some 22), none, []⟩ :: L88_17
theorem v88_18 : VS L88_18.eq_1 := rfl
def L88_19 : List AStep := [⟨.mov (.t 42), (some 5), none, []⟩]
theorem v88_19 : VS L88_19.eq_1 := rfl
def L88_20 : List AStep := ⟨.buildSlice 88 1 [(.int .i64 0), (.str (strOfNums []))] [(0, 2, (.t 40))], (some 41), none, []⟩ :: ⟨.append 88 2 24 (.t 37) (.t 41), (some 42), none, []⟩ :: L88_19
theorem v88_20 : VS L88_20.eq_1 := rfl
def L88_21 : List AStep := ⟨.load 1 false (.t 38), (some 39), none, []⟩ :: ⟨.build [(.int .i64 0), (.str (strOfNums []))] [(0, 1, (.c (.int .i64 3))), (1, 1, (.t 39))], (some 40), none, []⟩ :: L88_20
theorem v88_21 : VS L88_21.eq_1 := rfl
def L88_22 : List AStep := ⟨.mov (.t 5), (some 37), none, []⟩ :: ⟨.faddr 0 (.t 7), (some 38), none, []⟩ :: L88_21
theorem v88_22 : VS L88_22.eq_1 := rfl
def L88_23 : List AStep := [⟨.mov (.t 15), (some 6), none, []⟩]
theorem v88_23 : VS L88_23.eq_1 := rfl
def L88_24 : List AStep := ⟨.mov (.t 6), (some 14), none, []⟩ :: ⟨.bin .add (.t 14) (.c (.int .i64 1)), (some 15), none, []⟩ :: L88_23
theorem v88_24 : VS L88_24.eq_1 := rfl
def L88_25 : List AStep := [⟨.mov (.t 5), (some 43), none, []⟩, ⟨.mov (.t 43), (some 4), none, []⟩]
theorem v88_25 : VS L88_25.eq_1 := rfl
def C88_0 : ACode := .cond (.t 13) .skip (.exit 0)
theorem u88_0 : VC C88_0.eq_1 := rfl
def C88_1 : ACode := .seq (.reg L88_6) C88_0
theorem u88_1 : VC C88_1.eq_1 := rfl
def C88_2 : ACode := .cond (.t 36) (.reg L88_22) .skip
theorem u88_2 : VC C88_2.eq_1 := rfl
def C88_3 : ACode := .seq (.reg L88_18) C88_2
theorem u88_3 : VC C88_3.eq_1 := rfl
def C88_4 : ACode := .seq (.reg L88_10) C88_3
theorem u88_4 : VC C88_4.eq_1 := rfl
def C88_5 : ACode := .block 1 C88_4
theorem u88_5 : VC C88_5.eq_1 := rfl
def C88_6 : ACode := .seq C88_5 (.reg L88_24)
theorem u88_6 : VC C88_6.eq_1 := rfl
def C88_7 : ACode := .seq C88_1 C88_6
theorem u88_7 : VC C88_7.eq_1 := rfl
def C88_8 : ACode := .block 0 (.loop C88_7)
theorem u88_8 : VC C88_8.eq_1 := rfl
def C88_9 : ACode := .seq (.reg L88_3) C88_8
theorem u88_9 : VC C88_9.eq_1 := rfl
def C88_10 : ACode := .seq (.reg L88_25) .ret
theorem u88_10 : VC C88_10.eq_1 := rfl
def C88_11 : ACode := .seq C88_9 C88_10
theorem u88_11 : VC C88_11.eq_1 := rfl
def C88_12 : ACode := .seq (.reg L88_2) C88_11
theorem u88_12 : VC C88_12.eq_1 := rfl
def C88_13 : ACode := .seq (.reg L88_1) C88_12
theorem u88_13 : VC C88_13.eq_1 := rfl
def F88 : AFunc := ⟨44, [.tmp 4], C88_13⟩
theorem cF88 : compB Try.prog 88 = some F88 := by kernel_rfl
attribute [local go_sem ↓] u88_0 u88_1 u88_2 u88_3 u88_4 u88_5 u88_6 u88_7 u88_8 u88_9 u88_10 u88_11 u88_12 u88_13 v88_0 v88_1 v88_2 v88_3 v88_4 v88_5 v88_6 v88_7 v88_8 v88_9 v88_10 v88_11 v88_12 v88_13 v88_14 v88_15 v88_16 v88_17 v88_18 v88_19 v88_20 v88_21 v88_22 v88_23 v88_24 v88_25
theorem c_missing (l : List Param) (sl : List Slot) (rs : List RSlot) (q v : CV) (h : H) (hl : SlQ h (.one q) l) (hn : l.length ≤ 8) (hs : RdY 83 3 109 h v rs sl.length (getY sl)) (hlen : sl.length = l.length) :
    callK (bm Try.prog 88 [.agg [q], .agg [v]] h) fun r h' => Grow h h' ∧ NwB h h' r (missing l sl) := by
  refine bm_of cF88 ?_
  simp +contextual (maxSteps := 2000000) only [go_sem, Nat.reduceEqDiff, reduceCtorEq, Nat.reduceAdd, Nat.reduceLeDiff, F88]
  refine wp_lit (enc := encB) (k := 2) (l := []) rfl rfl ?_
  intro h1 w g1 n1 _
  simp +contextual (maxSteps := 2000000) only [go_sem, Nat.reduceEqDiff, reduceCtorEq, Nat.reduceAdd, Nat.reduceLeDiff]
  refine wpC_loop (fun i T L h' => Grow h h' ∧ T 2 = .lp 2 0 ∧ (L 2).2 = [q] ∧ T 3 = .lp 3 0 ∧ (L 3).2 = [v] ∧ (∃ w, T 5 = .v w ∧ NwB h h' w (missF l sl i)) ∧ T 6 = .v (.one (.int .i64 i))) l.length ?_ ?_ (Nat.zero_le _) ?_
  · rintro i T L h' hi ⟨g, t2, l2, t3, l3, ⟨w, t5, x⟩, t6⟩
    have k := hl.grow g
    have y := hs.grow g
    have hsl : i < sl.length := by omega
    have hrs : i < rs.length := by rw [y.len]; exact hsl
    have eg : rs[i].given = sl[i].given := by rw [(y.el i hrs).given, getY_eq hsl]
    have el := lacks_eq hi hsl
    have em := missF_next (sl := sl) hi
    have yi : iaddrO 3 (.one v) (.one (.int .i64 i)) = some (.one (.ptr (some (elem 3 (.one v) i)))) := y.out.iaddr hrs
    have y0 := y.out.fieldO (off := 0) hrs (by omega)
    rw [encY_0] at y0
    have es := fun h => c_isSingle l[i] h
    simp only [encQ] at es
    have done : ∀ b, lacks l sl i = b → b = false → missF l sl (i + 1) = missF l sl i := fun b e1 e2 => by rw [em, e1, e2]; simp
    cases b1 : single l[i] with
    | false =>
      rw [b1, Bool.false_and] at el
      simp +contextual (maxSteps := 2000000) only [go_sem, Nat.reduceEqDiff, reduceCtorEq, Nat.reduceAdd, Nat.reduceLeDiff, t2, l2, t3, l3, t5, t6, k.len, k.iaddr hi, k.whole hi, encQ, lt_true hi, es, b1]
      exact ⟨g, ⟨w, rfl, by rw [done _ el rfl]; exact x⟩, by rw [wrap_next hi (by omega)]⟩
    | true =>
    cases b2 : l[i].has with
    | true =>
      rw [b1, b2] at el
      simp only [b2] at es
      simp +contextual (maxSteps := 2000000) only [go_sem, Nat.reduceEqDiff, reduceCtorEq, Nat.reduceAdd, Nat.reduceLeDiff, t2, l2, t3, l3, t5, t6, k.len, k.iaddr hi, k.whole hi, encQ, lt_true hi, es, b1, b2]
      exact ⟨g, ⟨w, rfl, by rw [done _ el rfl]; exact x⟩, by rw [wrap_next hi (by omega)]⟩
    | false =>
    cases b3 : sl[i].given with
    | true =>
      rw [b1, b2, b3] at el
      simp only [b2] at es
      rw [b3] at eg
      rw [eg] at y0
      simp +contextual (maxSteps := 2000000) only [go_sem, Nat.reduceEqDiff, reduceCtorEq, Nat.reduceAdd, Nat.reduceLeDiff, t2, l2, t3, l3, t5, t6, k.len, k.iaddr hi, k.whole hi, encQ, lt_true hi, es, b1, b2, yi, y0]
      exact ⟨g, ⟨w, rfl, by rw [done _ el rfl]; exact x⟩, by rw [wrap_next hi (by omega)]⟩
    | false =>
      rw [b1, b2, b3] at el
      simp only [b2] at es
      rw [b3] at eg
      rw [eg] at y0
      have ml := missF_len (l := l) (sl := sl) (i := i)
      simp +contextual (maxSteps := 2000000) only [go_sem, Nat.reduceEqDiff, reduceCtorEq, Nat.reduceAdd, Nat.reduceLeDiff, t2, l2, t3, l3, t5, t6, k.len, k.iaddr hi, k.whole hi, encQ, lt_true hi, es, b1, b2, yi, y0]
      refine wp_lit (enc := encB) (k := 2) (l := [⟨3, l[i].name⟩]) rfl rfl ?_
      intro h2 w2 g2 n2 _
      simp +contextual (maxSteps := 2000000) only [go_sem, Nat.reduceEqDiff, reduceCtorEq, Nat.reduceAdd, Nat.reduceLeDiff, t2, l2, t3, l3, t5, t6]
      refine wp_append lenB (x.grow g2) (n2.sl lenB) (g.trans g2) (by simp; omega) ?_
      intro h3 w3 g3 n3 _ _
      simp +contextual (maxSteps := 2000000) only [go_sem, Nat.reduceEqDiff, reduceCtorEq, Nat.reduceAdd, Nat.reduceLeDiff, t2, l2, t3, l3, t5, t6]
      refine ⟨g3, ⟨w3, rfl, ?_⟩, by rw [wrap_next hi (by omega)]⟩
      rw [em, el]
      exact n3
  · rintro T L h' ⟨g, t2, l2, t3, l3, ⟨w, t5, x⟩, t6⟩
    have k := hl.grow g
    simp +contextual (maxSteps := 2000000) only [go_sem, Nat.reduceEqDiff, reduceCtorEq, Nat.reduceAdd, Nat.reduceLeDiff, t2, l2, t3, l3, t5, t6, k.len, lt_false]
    exact gcK_of ⟨g, x⟩ (fun hs _ => ⟨Grow.refl h, x.scalar hs h⟩)
  · simp +contextual (maxSteps := 2000000) only [go_sem, Nat.reduceEqDiff, reduceCtorEq, Nat.reduceAdd, Nat.reduceLeDiff]
    exact ⟨g1, ⟨w, rfl, n1⟩, rfl⟩
/-! spec.bound -/
def L45_0 : List AStep := [⟨.alloc 75 [(.sl none 0 (some 0))], (some 4), none, []⟩, ⟨.mov (.c (.sl none 0 (some 0))), (some 5), none, []⟩]
theorem v45_0 : VS L45_0.eq_1 := rfl
def L45_1 : List AStep := ⟨.box 36 (.t 0), (some 2), none, []⟩ :: ⟨.box 39 (.t 1), (some 3), none, []⟩ :: L45_0
theorem v45_1 : VS L45_1.eq_1 := rfl
def L45_2 : List AStep := [⟨.alloc 75 [(.sl none 0 (some 0))], (some 6), none, []⟩, ⟨.store 1 (.t 6) (.t 15), none, none, []⟩]
theorem v45_2 : VS L45_2.eq_1 := rfl
def L45_3 : List AStep := ⟨.load 1 true (.t 2), (some 14), none, []⟩ :: ⟨.call 79 [(.t 14)], (some 15), none, []⟩ :: L45_2
theorem v45_3 : VS L45_3.eq_1 := rfl
def L45_4 : List AStep := [⟨.buildSlice 88 0 [(.int .i64 0), (.str (strOfNums []))] [], (some 16), none, []⟩, ⟨.mov (.t 16), (some 7), none, []⟩]
theorem v45_4 : VS L45_4.eq_1 := rfl
def L45_5 : List AStep := [⟨.mov (.t 18), (some 8), none, []⟩]
theorem v45_5 : VS L45_5.eq_1 := rfl
def L45_6 : List AStep := ⟨.load 1 true (.t 2), (some 17), none, []⟩ :: ⟨.call 80 [(.t 17)], (some 18), none, []⟩ :: L45_5
theorem v45_6 : VS L45_6.eq_1 := rfl
def L45_7 : List AStep := [⟨.call 81 [(.t 20), (.c (.int .i64 2))], (some 21), none, []⟩, ⟨.mov (.t 21), (some 9), none, []⟩]
theorem v45_7 : VS L45_7.eq_1 := rfl
def L45_8 : List AStep := ⟨.faddr 0 (.t 2), (some 19), none, []⟩ :: ⟨.load 1 false (.t 19), (some 20), none, []⟩ :: L45_7
theorem v45_8 : VS L45_8.eq_1 := rfl
def L45_9 : List AStep := [⟨.mov (.c (.int .i64 0)), (some 10), none, []⟩]
theorem v45_9 : VS L45_9.eq_1 := rfl
def L45_10 : List AStep := [⟨.bin .lss (.t 22) (.t 25), (some 26), none, []⟩]
theorem v45_10 : VS L45_10.eq_1 := rfl
def L45_11 : List AStep := ⟨.load 1 false (.t 23), (some 24), none, []⟩ :: ⟨.len (.t 24), (some 25), none, []⟩ :: L45_10
theorem v45_11 : VS L45_11.eq_1 := rfl
def L45_12 : List AStep := ⟨.mov (.t 10), (some 22), none, []⟩ :: ⟨.faddr 0 (.t 3), (some 23), none, []⟩ :: L45_11
theorem v45_12 : VS L45_12.eq_1 := rfl
def L45_13 : List AStep := [⟨.bin .lss (.t 30) (.t 31), (some 32), none, []⟩, ⟨.mov (.t 32), (some 29), none, []⟩]
theorem v45_13 : VS L45_13.eq_1 := rfl
def L45_14 : List AStep := ⟨.mov (.t 10), (some 30), none, []⟩ :: ⟨.mov (.t 8), (some 31), none, []⟩ :: L45_13
theorem v45_14 : VS L45_14.eq_1 := rfl
def L45_15 : List AStep := [⟨.iaddr 3 (.t 34) (.t 35), (some 43), none, []⟩, ⟨.store 3 (.t 43) (.t 42), none, none, []⟩]
theorem v45_15 : VS L45_15.eq_1 := rfl
def L45_16 : List AStep := ⟨.buildSlice 3 1 [(.int .i64 0)] [(0, 1, (.t 40))], (some 41), none, []⟩ :: ⟨.build [(.bool false), (.sl none 0 (some 0)), (.sl none 0 (some 0))] [(0, 1, (.c (.bool true))), (1, 1, (.t 41))], (some 42), none, []⟩ :: L45_15
theorem v45_16 : VS L45_16.eq_1 := rfl
def L45_17 : List AStep := ⟨.iaddr 1 (.t 37) (.t 38), (some 39), none, []⟩ :: ⟨.load 1 false (.t 39), (some 40), none, []⟩ :: L45_16
theorem v45_17 : VS L45_17.eq_1 := rfl
def L45_18 : List AStep := ⟨.load 1 false (.t 36), (some 37), none, []⟩ :: ⟨.mov (.t 10), (some 38), none, []⟩ :: L45_17
theorem v45_18 : VS L45_18.eq_1 := rfl
def L45_19 : List AStep := ⟨.mov (.t 10), (some 35), none, []⟩ :: ⟨.faddr 0 (.t 3), (some 36), none, []⟩ :: L45_18
theorem v45_19 : VS L45_19.eq_1 := rfl
def L45_20 : List AStep := ⟨.faddr 0 (.t 6), (some 33), none, []⟩ :: ⟨.load 1 false (.t 33), (some 34), none, []⟩ :: L45_19
theorem v45_20 : VS L45_20.eq_1 := rfl
def L45_21 : List AStep := [⟨.mov (.t 46), (some 44), none, []⟩]
theorem v45_21 : VS L45_21.eq_1 := rfl
def L45_22 : List AStep := ⟨.mov (.t 9), (some 45), none, []⟩ :: ⟨.bin .geq (.t 45) (.c (.int .i64 0)), (some 46), none, []⟩ :: L45_21
theorem v45_22 : VS L45_22.eq_1 := rfl
def L45_23 : List AStep := [⟨.store 1 (.t 64) (.t 62), none, none, []⟩]
theorem v45_23 : VS L45_23.eq_1 := rfl
def L45_24 : List AStep := ⟨.iaddr 3 (.t 48) (.t 49), (some 63), none, []⟩ :: ⟨.faddr 1 (.t 63), (some 64), none, []⟩ :: L45_23
theorem v45_24 : VS L45_24.eq_1 := rfl
def L45_25 : List AStep := ⟨.buildSlice 3 1 [(.int .i64 0)] [(0, 1, (.t 60))], (some 61), none, []⟩ :: ⟨.append 3 1 8 (.t 55) (.t 61), (some 62), none, [(.load 1 false (.t 47), (some 48), none)]⟩ :: L45_24
theorem v45_25 : VS L45_25.eq_1 := rfl
def L45_26 : List AStep := ⟨.iaddr 1 (.t 57) (.t 58), (some 59), none, []⟩ :: ⟨.load 1 false (.t 59), (some 60), none, []⟩ :: L45_25
theorem v45_26 : VS L45_26.eq_1 := rfl
def L45_27 : List AStep := ⟨.load 1 false (.t 56), (some 57), none, []⟩ :: ⟨.mov (.t 10), (some 58), none, []⟩ :: L45_26
theorem v45_27 : VS L45_27.eq_1 := rfl
def L45_28 : List AStep := ⟨.load 1 false (.t 54), (some 55), none, []⟩ :: ⟨.faddr 0 (.t 3), (some 56), none, []⟩ :: L45_27
theorem v45_28 : VS L45_28.eq_1 := rfl
def L45_29 : List AStep := ⟨.iaddr 3 (.t 51) (.t 52), (some 53), none, []⟩ :: ⟨.faddr 1 (.t 53), (some 54), none, []⟩ :: L45_28
theorem v45_29 : VS L45_29.eq_1 := rfl
def L45_30 : List AStep := ⟨.load 1 false (.t 50), (some 51), none, []⟩ :: ⟨.mov (.t 9), (some 52), none, []⟩ :: L45_29
theorem v45_30 : VS L45_30.eq_1 := rfl
def L45_31 : List AStep := ⟨.mov (.t 9), (some 49), none, []⟩ :: ⟨.faddr 0 (.t 6), (some 50), none, []⟩ :: L45_30
theorem v45_31 : VS L45_31.eq_1 := rfl
def L45_32 : List AStep := ⟨.faddr 0 (.t 6), (some 47), none, []⟩ :: ⟨.load 1 false (.t 47), (some 48), none, []⟩ :: L45_31
theorem v45_32 : VS L45_32.eq_1 := rfl
def L45_33 : List AStep := [⟨.mov (.t 28), (some 10), none, []⟩]
theorem v45_33 : VS L45_33.eq_1 := rfl
def L45_34 : List AStep := ⟨.mov (.t 10), (some 27), none, []⟩ :: ⟨.bin .add (.t 27) (.c (.int .i64 1)), (some 28), none, []⟩ :: L45_33
theorem v45_34 : VS L45_34.eq_1 := rfl
def L45_35 : List AStep := [⟨.pick (.t 70) (.t 72) (.c (.bool false)), (some 73), none, []⟩]
theorem v45_35 : VS L45_35.eq_1 := rfl
def L45_36 : List AStep := ⟨.mov (.t 9), (some 71), (some (70, true)), []⟩ :: ⟨.bin .lss (.t 71) (.c (.int .i64 0)), (some 72), (some (70, true)), []⟩ :: L45_35
theorem v45_36 : VS L45_36.eq_1 := rfl
def L45_37 : List AStep := ⟨.bin .gtr (.t 67) (.t 68), (some 69), none, []⟩ :: ⟨.mov (.t 69), (some 70), none, []⟩ :: L45_36
theorem v45_37 : VS L45_37.eq_1 := rfl
def L45_38 : List AStep := ⟨.len (.t 66), (some 67), none, []⟩ :: ⟨.mov (.t 8), (some 68), none, []⟩ :: L45_37
theorem v45_38 : VS L45_38.eq_1 := rfl
def L45_39 : List AStep := ⟨.faddr 0 (.t 3), (some 65), none, []⟩ :: ⟨.load 1 false (.t 65), (some 66), none, []⟩ :: L45_38
theorem v45_39 : VS L45_39.eq_1 := rfl
def L45_40 : List AStep := [⟨.mov (.t 77), (some 7), none, []⟩]
theorem v45_40 : VS L45_40.eq_1 := rfl
def L45_41 : List AStep := ⟨.buildSlice 88 1 [(.int .i64 0), (.str (strOfNums []))] [(0, 2, (.t 75))], (some 76), none, []⟩ :: ⟨.append 88 2 24 (.t 74) (.t 76), (some 77), none, []⟩ :: L45_40
theorem v45_41 : VS L45_41.eq_1 := rfl
def L45_42 : List AStep := ⟨.mov (.t 7), (some 74), none, []⟩ :: ⟨.build [(.int .i64 0), (.str (strOfNums []))] [(0, 1, (.c (.int .i64 0)))], (some 75), none, []⟩ :: L45_41
theorem v45_42 : VS L45_42.eq_1 := rfl
def L45_43 : List AStep := [⟨.mov (.c (.int .i64 0)), (some 11), none, []⟩]
theorem v45_43 : VS L45_43.eq_1 := rfl
def L45_44 : List AStep := [⟨.bin .lss (.t 78) (.t 81), (some 82), none, []⟩]
theorem v45_44 : VS L45_44.eq_1 := rfl
def L45_45 : List AStep := ⟨.load 1 false (.t 79), (some 80), none, []⟩ :: ⟨.len (.t 80), (some 81), none, []⟩ :: L45_44
theorem v45_45 : VS L45_45.eq_1 := rfl
def L45_46 : List AStep := ⟨.mov (.t 11), (some 78), none, []⟩ :: ⟨.faddr 1 (.t 3), (some 79), none, []⟩ :: L45_45
theorem v45_46 : VS L45_46.eq_1 := rfl
def L45_47 : List AStep := [⟨.store 2 (.t 12) (.t 89), none, none, []⟩]
theorem v45_47 : VS L45_47.eq_1 := rfl
def L45_48 : List AStep := ⟨.load 2 true (.t 88), (some 89), none, []⟩ :: ⟨.alloc 109 [(.str (strOfNums [])), (.int .i64 0)], (some 12), none, []⟩ :: L45_47
theorem v45_48 : VS L45_48.eq_1 := rfl
def L45_49 : List AStep := ⟨.mov (.t 11), (some 87), none, []⟩ :: ⟨.iaddr 2 (.t 86) (.t 87), (some 88), none, []⟩ :: L45_48
theorem v45_49 : VS L45_49.eq_1 := rfl
def L45_50 : List AStep := ⟨.faddr 1 (.t 3), (some 85), none, []⟩ :: ⟨.load 1 false (.t 85), (some 86), none, []⟩ :: L45_49
theorem v45_50 : VS L45_50.eq_1 := rfl
def L45_51 : List AStep := [⟨.mov (.t 93), (some 13), none, []⟩]
theorem v45_51 : VS L45_51.eq_1 := rfl
def L45_52 : List AStep := ⟨.load 1 false (.t 91), (some 92), none, []⟩ :: ⟨.call 82 [(.t 90), (.t 92)], (some 93), none, []⟩ :: L45_51
theorem v45_52 : VS L45_52.eq_1 := rfl
def L45_53 : List AStep := ⟨.load 1 true (.t 2), (some 90), none, []⟩ :: ⟨.faddr 0 (.t 12), (some 91), none, []⟩ :: L45_52
theorem v45_53 : VS L45_53.eq_1 := rfl
def L45_54 : List AStep := [⟨.mov (.t 104), (some 102), none, []⟩]
theorem v45_54 : VS L45_54.eq_1 := rfl
def L45_55 : List AStep := ⟨.mov (.t 13), (some 103), none, []⟩ :: ⟨.bin .lss (.t 103) (.c (.int .i64 0)), (some 104), none, []⟩ :: L45_54
theorem v45_55 : VS L45_55.eq_1 := rfl
def L45_56 : List AStep := [⟨.mov (.t 110), (some 7), none, []⟩]
theorem v45_56 : VS L45_56.eq_1 := rfl
def L45_57 : List AStep := ⟨.buildSlice 88 1 [(.int .i64 0), (.str (strOfNums []))] [(0, 2, (.t 108))], (some 109), none, []⟩ :: ⟨.append 88 2 24 (.t 105) (.t 109), (some 110), none, []⟩ :: L45_56
theorem v45_57 : VS L45_57.eq_1 := rfl
def L45_58 : List AStep := ⟨.load 1 false (.t 106), (some 107), none, []⟩ :: ⟨.build [(.int .i64 0), (.str (strOfNums []))] [(0, 1, (.c (.int .i64 1))), (1, 1, (.t 107))], (some 108), none, []⟩ :: L45_57
theorem v45_58 : VS L45_58.eq_1 := rfl
def L45_59 : List AStep := ⟨.mov (.t 7), (some 105), none, []⟩ :: ⟨.faddr 0 (.t 12), (some 106), none, []⟩ :: L45_58
theorem v45_59 : VS L45_59.eq_1 := rfl
def L45_60 : List AStep := [⟨.bin .eql (.t 117) (.c (.int .i64 4)), (some 118), none, []⟩, ⟨.mov (.t 118), (some 111), none, []⟩]
theorem v45_60 : VS L45_60.eq_1 := rfl
def L45_61 : List AStep := ⟨.faddr 1 (.t 115), (some 116), none, []⟩ :: ⟨.load 1 false (.t 116), (some 117), none, []⟩ :: L45_60
theorem v45_61 : VS L45_61.eq_1 := rfl
def L45_62 : List AStep := ⟨.mov (.t 13), (some 114), none, []⟩ :: ⟨.iaddr 4 (.t 113) (.t 114), (some 115), none, []⟩ :: L45_61
theorem v45_62 : VS L45_62.eq_1 := rfl
def L45_63 : List AStep := ⟨.faddr 0 (.t 2), (some 112), none, []⟩ :: ⟨.load 1 false (.t 112), (some 113), none, []⟩ :: L45_62
theorem v45_63 : VS L45_63.eq_1 := rfl
def L45_64 : List AStep := [⟨.store 1 (.t 132) (.t 130), none, none, []⟩]
theorem v45_64 : VS L45_64.eq_1 := rfl
def L45_65 : List AStep := ⟨.iaddr 3 (.t 120) (.t 121), (some 131), none, []⟩ :: ⟨.faddr 2 (.t 131), (some 132), none, []⟩ :: L45_64
theorem v45_65 : VS L45_65.eq_1 := rfl
def L45_66 : List AStep := ⟨.buildSlice 109 1 [(.str (strOfNums [])), (.int .i64 0)] [(0, 2, (.t 128))], (some 129), none, []⟩ :: ⟨.append 109 2 24 (.t 127) (.t 129), (some 130), none, [(.load 1 false (.t 119), (some 120), none)]⟩ :: L45_65
theorem v45_66 : VS L45_66.eq_1 := rfl
def L45_67 : List AStep := ⟨.load 1 false (.t 126), (some 127), none, []⟩ :: ⟨.load 2 true (.t 12), (some 128), none, []⟩ :: L45_66
theorem v45_67 : VS L45_67.eq_1 := rfl
def L45_68 : List AStep := ⟨.iaddr 3 (.t 123) (.t 124), (some 125), none, []⟩ :: ⟨.faddr 2 (.t 125), (some 126), none, []⟩ :: L45_67
theorem v45_68 : VS L45_68.eq_1 := rfl
def L45_69 : List AStep := ⟨.load 1 false (.t 122), (some 123), none, []⟩ :: ⟨.mov (.t 13), (some 124), none, []⟩ :: L45_68
theorem v45_69 : VS L45_69.eq_1 := rfl
def L45_70 : List AStep := ⟨.mov (.t 13), (some 121), none, []⟩ :: ⟨.faddr 0 (.t 6), (some 122), none, []⟩ :: L45_69
theorem v45_70 : VS L45_70.eq_1 := rfl
def L45_71 : List AStep := ⟨.faddr 0 (.t 6), (some 119), none, []⟩ :: ⟨.load 1 false (.t 119), (some 120), none, []⟩ :: L45_70
theorem v45_71 : VS L45_71.eq_1 := rfl
def L45_72 : List AStep := [⟨.mov (.t 139), (some 133), none, []⟩]
theorem v45_72 : VS L45_72.eq_1 := rfl
def L45_73 : List AStep := ⟨.faddr 0 (.t 137), (some 138), none, []⟩ :: ⟨.load 1 false (.t 138), (some 139), none, []⟩ :: L45_72
theorem v45_73 : VS L45_73.eq_1 := rfl
def L45_74 : List AStep := ⟨.mov (.t 13), (some 136), none, []⟩ :: ⟨.iaddr 3 (.t 135) (.t 136), (some 137), none, []⟩ :: L45_73
theorem v45_74 : VS L45_74.eq_1 := rfl
def L45_75 : List AStep := ⟨.faddr 0 (.t 6), (some 134), none, []⟩ :: ⟨.load 1 false (.t 134), (some 135), none, []⟩ :: L45_74
theorem v45_75 : VS L45_75.eq_1 := rfl
def L45_76 : List AStep := [⟨.mov (.t 145), (some 7), none, []⟩]
theorem v45_76 : VS L45_76.eq_1 := rfl
def L45_77 : List AStep := ⟨.buildSlice 88 1 [(.int .i64 0), (.str (strOfNums []))] [(0, 2, (.t 143))], (some 144), none, []⟩ :: ⟨.append 88 2 24 (.t 140) (.t 144), (some 145), none, []⟩ :: L45_76
theorem v45_77 : VS L45_77.eq_1 := rfl
def L45_78 : List AStep := ⟨.load 1 false (.t 141), (some 142), none, []⟩ :: ⟨.build [(.int .i64 0), (.str (strOfNums []))] [(0, 1, (.c (.int .i64 2))), (1, 1, (.t 142))], (some 143), none, []⟩ :: L45_77
theorem v45_78 : VS L45_78.eq_1 := rfl
def L45_79 : List AStep := ⟨.mov (.t 7), (some 140), none, []⟩ :: ⟨.faddr 0 (.t 12), (some 141), none, []⟩ :: L45_78
theorem v45_79 : VS L45_79.eq_1 := rfl
def L45_80 : List AStep := [⟨.store 3 (.t 101) (.t 100), none, none, []⟩]
theorem v45_80 : VS L45_80.eq_1 := rfl
def L45_81 : List AStep := ⟨.build [(.bool false), (.sl none 0 (some 0)), (.sl none 0 (some 0))] [(0, 1, (.c (.bool true))), (1, 1, (.t 99))], (some 100), none, []⟩ :: ⟨.iaddr 3 (.t 95) (.t 96), (some 101), none, []⟩ :: L45_80
theorem v45_81 : VS L45_81.eq_1 := rfl
def L45_82 : List AStep := ⟨.load 1 false (.t 97), (some 98), none, []⟩ :: ⟨.buildSlice 3 1 [(.int .i64 0)] [(0, 1, (.t 98))], (some 99), none, []⟩ :: L45_81
theorem v45_82 : VS L45_82.eq_1 := rfl
def L45_83 : List AStep := ⟨.mov (.t 13), (some 96), none, []⟩ :: ⟨.faddr 1 (.t 12), (some 97), none, []⟩ :: L45_82
theorem v45_83 : VS L45_83.eq_1 := rfl
def L45_84 : List AStep := ⟨.faddr 0 (.t 6), (some 94), none, []⟩ :: ⟨.load 1 false (.t 94), (some 95), none, []⟩ :: L45_83
theorem v45_84 : VS L45_84.eq_1 := rfl
def L45_85 : List AStep := [⟨.mov (.t 84), (some 11), none, []⟩]
theorem v45_85 : VS L45_85.eq_1 := rfl
def L45_86 : List AStep := ⟨.mov (.t 11), (some 83), none, []⟩ :: ⟨.bin .add (.t 83) (.c (.int .i64 1)), (some 84), none, []⟩ :: L45_85
theorem v45_86 : VS L45_86.eq_1 := rfl
def L45_87 : List AStep := [⟨.store 1 (.t 4) (.t 146), none, none, []⟩, ⟨.mov (.t 147), (some 5), none, []⟩]
theorem v45_87 : VS L45_87.eq_1 := rfl
def L45_88 : List AStep := ⟨.load 1 true (.t 6), (some 146), none, []⟩ :: ⟨.mov (.t 7), (some 147), none, []⟩ :: L45_87
theorem v45_88 : VS L45_88.eq_1 := rfl
def C45_0 : ACode := .cond (.t 26) .skip (.exit 0)
theorem u45_0 : VC C45_0.eq_1 := rfl
def C45_1 : ACode := .seq (.reg L45_12) C45_0
theorem u45_1 : VC C45_1.eq_1 := rfl
def C45_2 : ACode := .cond (.t 44) (.reg L45_32) .skip
theorem u45_2 : VC C45_2.eq_1 := rfl
def C45_3 : ACode := .seq (.reg L45_22) C45_2
theorem u45_3 : VC C45_3.eq_1 := rfl
def C45_4 : ACode := .cond (.t 29) (.reg L45_20) C45_3
theorem u45_4 : VC C45_4.eq_1 := rfl
def C45_5 : ACode := .seq (.reg L45_14) C45_4
theorem u45_5 : VC C45_5.eq_1 := rfl
def C45_6 : ACode := .block 2 C45_5
theorem u45_6 : VC C45_6.eq_1 := rfl
def C45_7 : ACode := .block 1 C45_6
theorem u45_7 : VC C45_7.eq_1 := rfl
def C45_8 : ACode := .seq C45_7 (.reg L45_34)
theorem u45_8 : VC C45_8.eq_1 := rfl
def C45_9 : ACode := .seq C45_1 C45_8
theorem u45_9 : VC C45_9.eq_1 := rfl
def C45_10 : ACode := .block 0 (.loop C45_9)
theorem u45_10 : VC C45_10.eq_1 := rfl
def C45_11 : ACode := .seq (.reg L45_9) C45_10
theorem u45_11 : VC C45_11.eq_1 := rfl
def C45_12 : ACode := .cond (.t 73) (.reg L45_42) .skip
theorem u45_12 : VC C45_12.eq_1 := rfl
def C45_13 : ACode := .seq (.reg L45_39) C45_12
theorem u45_13 : VC C45_13.eq_1 := rfl
def C45_14 : ACode := .cond (.t 82) .skip (.exit 3)
theorem u45_14 : VC C45_14.eq_1 := rfl
def C45_15 : ACode := .seq (.reg L45_46) C45_14
theorem u45_15 : VC C45_15.eq_1 := rfl
def C45_16 : ACode := .cond (.t 133) (.reg L45_79) (.reg L45_84)
theorem u45_16 : VC C45_16.eq_1 := rfl
def C45_17 : ACode := .seq (.reg L45_75) C45_16
theorem u45_17 : VC C45_17.eq_1 := rfl
def C45_18 : ACode := .cond (.t 111) (.reg L45_71) C45_17
theorem u45_18 : VC C45_18.eq_1 := rfl
def C45_19 : ACode := .seq (.reg L45_63) C45_18
theorem u45_19 : VC C45_19.eq_1 := rfl
def C45_20 : ACode := .cond (.t 102) (.reg L45_59) C45_19
theorem u45_20 : VC C45_20.eq_1 := rfl
def C45_21 : ACode := .seq (.reg L45_55) C45_20
theorem u45_21 : VC C45_21.eq_1 := rfl
def C45_22 : ACode := .block 5 C45_21
theorem u45_22 : VC C45_22.eq_1 := rfl
def C45_23 : ACode := .seq (.reg L45_53) C45_22
theorem u45_23 : VC C45_23.eq_1 := rfl
def C45_24 : ACode := .seq (.reg L45_50) C45_23
theorem u45_24 : VC C45_24.eq_1 := rfl
def C45_25 : ACode := .block 4 C45_24
theorem u45_25 : VC C45_25.eq_1 := rfl
def C45_26 : ACode := .seq C45_25 (.reg L45_86)
theorem u45_26 : VC C45_26.eq_1 := rfl
def C45_27 : ACode := .seq C45_15 C45_26
theorem u45_27 : VC C45_27.eq_1 := rfl
def C45_28 : ACode := .block 3 (.loop C45_27)
theorem u45_28 : VC C45_28.eq_1 := rfl
def C45_29 : ACode := .seq (.reg L45_43) C45_28
theorem u45_29 : VC C45_29.eq_1 := rfl
def C45_30 : ACode := .seq (.reg L45_88) .ret
theorem u45_30 : VC C45_30.eq_1 := rfl
def C45_31 : ACode := .seq C45_29 C45_30
theorem u45_31 : VC C45_31.eq_1 := rfl
def C45_32 : ACode := .seq C45_13 C45_31
theorem u45_32 : VC C45_32.eq_1 := rfl
def C45_33 : ACode := .seq C45_11 C45_32
theorem u45_33 : VC C45_33.eq_1 := rfl
def C45_34 : ACode := .seq (.reg L45_8) C45_33
theorem u45_34 : VC C45_34.eq_1 := rfl
def C45_35 : ACode := .seq (.reg L45_6) C45_34
theorem u45_35 : VC C45_35.eq_1 := rfl
def C45_36 : ACode := .seq (.reg L45_4) C45_35
theorem u45_36 : VC C45_36.eq_1 := rfl
def C45_37 : ACode := .seq (.reg L45_3) C45_36
theorem u45_37 : VC C45_37.eq_1 := rfl
def C45_38 : ACode := .seq (.reg L45_1) C45_37
theorem u45_38 : VC C45_38.eq_1 := rfl
def F45 : AFunc := ⟨148, [.cell 4 1 true, .tmp 5], C45_38⟩
theorem cF45 : compB Try.prog 45 = some F45 := by kernel_rfl
attribute [local go_sem ↓] u45_0 u45_1 u45_2 u45_3 u45_4 u45_5 u45_6 u45_7 u45_8 u45_9 u45_10 u45_11 u45_12 u45_13 u45_14 u45_15 u45_16 u45_17 u45_18 u45_19 u45_20 u45_21 u45_22 u45_23 u45_24 u45_25 u45_26 u45_27 u45_28 u45_29 u45_30 u45_31 u45_32 u45_33 u45_34 u45_35 u45_36 u45_37 u45_38 v45_0 v45_1 v45_2 v45_3 v45_4 v45_5 v45_6 v45_7 v45_8 v45_9 v45_10 v45_11 v45_12 v45_13 v45_14 v45_15 v45_16 v45_17 v45_18 v45_19 v45_20 v45_21 v45_22 v45_23 v45_24 v45_25 v45_26 v45_27 v45_28 v45_29 v45_30 v45_31 v45_32 v45_33 v45_34 v45_35 v45_36 v45_37 v45_38 v45_39 v45_40 v45_41 v45_42 v45_43 v45_44 v45_45 v45_46 v45_47 v45_48 v45_49 v45_50 v45_51 v45_52 v45_53 v45_54 v45_55 v45_56 v45_57 v45_58 v45_59 v45_60 v45_61 v45_62 v45_63 v45_64 v45_65 v45_66 v45_67 v45_68 v45_69 v45_70 v45_71 v45_72 v45_73 v45_74 v45_75 v45_76 v45_77 v45_78 v45_79 v45_80 v45_81 v45_82 v45_83 v45_84 v45_85 v45_86 v45_87 v45_88
theorem c_bound (l : List Param) (f : Flat) (q p n : CV) (h : H) (hl : SlQ h (.one q) l) (hf : SlF h p n f) (ok1 : okSig l = true) (ok2 : okFlat f = true) :
    callK (bm Try.prog 45 [.agg [q], .agg [p, n]] h) fun r h' => Grow h h' ∧ ∃ v w rs, r = .tup [.agg [v], .one w] ∧ BdY h h' v w rs (boundS l f) (boundB l f) := by
  refine bm_of cF45 ?_
  have o := Ord.of ok1
  have hn := okSig_len ok1
  obtain ⟨hb1, hb2, hb3⟩ := okFlat_sm ok2
  have sq : smQ l := ⟨by unfold big; omega, fun x hx => by have := okSig_name ok1 x hx; unfold big; omega⟩
  have pl0 := places_le (l := l)
  simp +contextual (maxSteps := 2000000) only [go_sem, Nat.reduceEqDiff, reduceCtorEq, Nat.reduceAdd, Nat.reduceLeDiff, F45]
  refine wp_call (c_emptyBinding l q h hl sq.1) ?_
  rintro r h1 ⟨g1, v, rfl, x0⟩
  have k1 := hl.grow g1
  simp +contextual (maxSteps := 2000000) only [go_sem, Nat.reduceEqDiff, reduceCtorEq, Nat.reduceAdd, Nat.reduceLeDiff]
  refine wp_lit (enc := encB) (k := 2) (l := []) rfl rfl ?_
  intro h2 w g2 n2 _
  obtain ⟨w, rfl⟩ := n2.one
  have k2 := k1.grow g2
  simp +contextual (maxSteps := 2000000) only [go_sem, Nat.reduceEqDiff, reduceCtorEq, Nat.reduceAdd, Nat.reduceLeDiff, c_placeCount _ _ _ k2 sq, c_kindAt _ _ _ _ k2 sq]
  have ep : (l.countP byPlace : Nat) = places l := rfl
  rw [ep]
  have z0 : BdY h h2 v w (List.replicate l.length zeroR) (bindPl l (f.pl.take 0)) [] := by
    rw [List.take_zero, bindPl_nil]
    exact ⟨x0.grow g2, n2.from g1.n, fun i hi hj => by have := (n2.lt hi).2; have := (x0.out.out.lt hj).1; omega, fun i hi => by rw [List.getElem_replicate]; exact Sep.nil.symm, fun i hi => by rw [List.getElem_replicate]; exact Sep.nil.symm⟩
  refine wpC_loop (fun i T L h' => Grow h h' ∧ T 2 = .lp 2 0 ∧ (L 2).2 = [q] ∧ T 3 = .lp 3 0 ∧ (L 3).2 = [p, n] ∧ T 4 = .lp 4 0 ∧ (L 4).2 = [.sl none 0 (some 0)] ∧ T 6 = .lp 6 0 ∧ (L 6).2 = [v] ∧ T 7 = .v (.one w) ∧ T 8 = .v (.one (.int .i64 (places l : Nat))) ∧ T 9 = .v (.one (.int .i64 (kindAt l 2))) ∧ T 10 = .v (.one (.int .i64 i)) ∧ ∃ rs, BdY h h' v w rs (bindPl l (f.pl.take i)) []) f.pl.length ?_ ?_ (Nat.zero_le _) ?_
  · rintro i T L h' hi ⟨gg, t2, l2, t3, l3, t4, l4, t6, l6, t7, t8, t9, t10, rs, x⟩
    have k := hf.grow gg
    have hrs : rs.length = l.length := x.len.trans bindPl_len
    by_cases hp : i < places l
    · have hio : i < rs.length := by omega
      have yi := x.sl.out.out.iaddr hio (kd := .i64)
      simp +contextual (maxSteps := 2000000) only [go_sem, Nat.reduceEqDiff, reduceCtorEq, Nat.reduceAdd, Nat.reduceLeDiff, t2, l2, t3, l3, t4, l4, t6, l6, t7, t8, t9, t10, k.pl.len, k.pl.iaddr hi, k.pl.oneO hi, lt_true hi, lt_true hp, yi]
      refine wp_lit (enc := encI) (k := 1) (l := [f.pl[i]]) rfl rfl ?_
      intro h3 w3 g3 n3 b3
      obtain ⟨d, rfl⟩ := n3.one
      simp +contextual (maxSteps := 2000000) only [go_sem, Nat.reduceEqDiff, reduceCtorEq, Nat.reduceAdd, Nat.reduceLeDiff, t2, l2, t3, l3, t4, l4, t6, l6, t7, t8, t9, t10, yi]
      refine wp_setE (x := ⟨true, d, .sl none 0 (some 0)⟩) lenY (x.sl.out.out.grow g3) hio rfl rfl (gg.trans g3) ?_
      intro h4 g4 n4 s4
      simp +contextual (maxSteps := 2000000) only [go_sem, Nat.reduceEqDiff, reduceCtorEq, Nat.reduceAdd, Nat.reduceLeDiff, t2, l2, t3, l3, t4, l4, t6, l6, t7, t8, t9, t10]
      rw [bindPl_place o hp hi]
      exact ⟨g4, by rw [wrap_next hi (by omega)], _, x.put hio g3 ⟨rfl, n3, .nil⟩ Sep.nil.symm n4 s4 gg.n⟩
    · have d1 : decide ((i : Int) < (places l : Nat)) = false := decide_eq_false (by omega)
      cases hr : hasRest l with
      | false =>
        have d2 : decide (kindAt l 2 ≥ 0) = false := hr
        simp +contextual (maxSteps := 2000000) only [go_sem, Nat.reduceEqDiff, reduceCtorEq, Nat.reduceAdd, Nat.reduceLeDiff, t2, l2, t3, l3, t4, l4, t6, l6, t7, t8, t9, t10, k.pl.len, lt_true hi, d1, d2]
        rw [bindPl_over o hp hi hr]
        exact ⟨gg, by rw [wrap_next hi (by omega)], _, x⟩
      | true =>
        obtain ⟨r0, r1, r2⟩ := o.rest_at hr
        have hio : places l < rs.length := by omega
        have hpb : places l < (bindPl l (f.pl.take i)).length := by rw [bindPl_len]; exact r0
        have yi := x.sl.out.out.iaddr hio (kd := .i64)
        have y1 := (x.sl.out.out.sl lenY).fieldO (off := 1) hio (by omega)
        rw [encY_1] at y1
        have d2 : decide (((places l : Nat) : Int) ≥ 0) = true := decide_eq_true (by omega)
        rw [r2] at t9
        have hlen : (bindPl l (f.pl.take i))[places l].list.length ≤ i := by rw [bindPl_at, slotPl_rest r0 r1]; simp; omega
        simp +contextual (maxSteps := 2000000) only [go_sem, Nat.reduceEqDiff, reduceCtorEq, Nat.reduceAdd, Nat.reduceLeDiff, t2, l2, t3, l3, t4, l4, t6, l6, t7, t8, t9, t10, k.pl.len, k.pl.iaddr hi, k.pl.oneO hi, lt_true hi, d1, d2, yi, y1]
        refine wp_lit (enc := encI) (k := 1) (l := [f.pl[i]]) rfl rfl ?_
        intro h3 w3 g3 n3 b3
        simp +contextual (maxSteps := 2000000) only [go_sem, Nat.reduceEqDiff, reduceCtorEq, Nat.reduceAdd, Nat.reduceLeDiff, t2, l2, t3, l3, t4, l4, t6, l6, t7, t8, t9, t10]
        refine wp_append lenI ((x.sl.at hio hpb).list.grow g3) (n3.sl lenI) (gg.trans g3) (by simp; omega) ?_
        intro h4 s4 g4 n4 st4 hb4
        obtain ⟨c4, rfl⟩ := n4.one
        simp +contextual (maxSteps := 2000000) only [go_sem, Nat.reduceEqDiff, reduceCtorEq, Nat.reduceAdd, Nat.reduceLeDiff, t2, l2, t3, l3, t4, l4, t6, l6, t7, t8, t9, t10, yi]
        refine wp_set (x := { rs[places l] with lv := c4 }) (off := 1) (vs := [c4]) lenY ((x.sl.out.out.grow g3).stay st4 (x.sl.out.vlv _ hio)) hio rfl rfl (Nat.le_of_ble_eq_true rfl) g4 ?_
        intro h5 g5 n5 s5
        simp +contextual (maxSteps := 2000000) only [go_sem, Nat.reduceEqDiff, reduceCtorEq, Nat.reduceAdd, Nat.reduceLeDiff, t2, l2, t3, l3, t4, l4, t6, l6, t7, t8, t9, t10]
        rw [bindPl_rest o hp hi hr hpb]
        exact ⟨g5, by rw [r2], by rw [wrap_next hi (by omega)], _, (x.grow g3).app_list hio hpb n4 st4 hb4 n5 s5⟩
  · rintro T L h' ⟨gg, t2, l2, t3, l3, t4, l4, t6, l6, t7, t8, t9, t10, rs, x⟩
    have k := hf.grow gg
    rw [List.take_length] at x
    by_cases hm : places l < f.pl.length
    · have d1 : decide ((f.pl.length : Int) > (places l : Nat)) = true := decide_eq_true (by omega)
      cases hr : hasRest l with
      | true =>
        obtain ⟨r0, r1, r2⟩ := o.rest_at hr
        have d2 : decide (kindAt l 2 < 0) = false := decide_eq_false (by omega)
        have em : manyB l f.pl = [] := by unfold manyB; rw [if_neg (by simp [hr])]
        rw [← em] at x
        simp +contextual (maxSteps := 2000000) only [go_sem, Nat.reduceEqDiff, reduceCtorEq, Nat.reduceAdd, Nat.reduceLeDiff, t2, l2, t3, l3, t4, l4, t6, l6, t7, t8, t9, t10, k.pl.len, lt_false, d1, d2]
        refine wpC_loop (fun i T L h' => Grow h h' ∧ T 2 = .lp 2 0 ∧ (L 2).2 = [q] ∧ T 3 = .lp 3 0 ∧ (L 3).2 = [p, n] ∧ T 4 = .lp 4 0 ∧ (L 4).2 = [.sl none 0 (some 0)] ∧ T 6 = .lp 6 0 ∧ (L 6).2 = [v] ∧ (∃ w rs, T 7 = .v (.one w) ∧ BdY h h' v w rs (nameF l f i).slots (nameF l f i).bad) ∧ T 11 = .v (.one (.int .i64 i))) f.nl.length ?_ ?_ (Nat.zero_le _) ?_
        · rintro i T L h' hi ⟨gg, t2, l2, t3, l3, t4, l4, t6, l6, ⟨w, rs, t7, x⟩, tx⟩
          have k := hf.grow gg
          have kl := hl.grow gg
          have ok := BOk.nameF (l := l) (f := f) hb3 (i := i) (by omega)
          have hrs : rs.length = l.length := x.len.trans ok.len
          have tk := c_takesName l q f.nl[i].name h' kl sq
          rw [nameF_next hi]
          rcases takes_cases l f.nl[i].name with e | ⟨j, hj, e⟩
          · rw [nameStep_no e]
            rw [e] at tk
            simp +contextual (maxSteps := 2000000) only [go_sem, Nat.reduceEqDiff, reduceCtorEq, Nat.reduceAdd, Nat.reduceLeDiff, t2, l2, t3, l3, t4, l4, t6, l6, t7, tx, k.nl.len, k.nl.iaddr hi, k.nl.whole hi, encP, lt_true hi, tk]
            refine wp_lit (enc := encB) (k := 2) (l := [⟨1, f.nl[i].name⟩]) rfl rfl ?_
            intro h3 w3 g3 n3 _
            simp +contextual (maxSteps := 2000000) only [go_sem, Nat.reduceEqDiff, reduceCtorEq, Nat.reduceAdd, Nat.reduceLeDiff, t2, l2, t3, l3, t4, l4, t6, l6, t7, tx]
            refine wp_append lenB (x.pr.grow g3) (n3.sl lenB) (gg.trans g3) (by have := ok.bad; simp; omega) ?_
            intro h4 s4 g4 n4 st4 hb4
            obtain ⟨c4, rfl⟩ := n4.one
            simp +contextual (maxSteps := 2000000) only [go_sem, Nat.reduceEqDiff, reduceCtorEq, Nat.reduceAdd, Nat.reduceLeDiff, t2, l2, t3, l3, t4, l4, t6, l6, t7, tx]
            exact ⟨g4, ⟨c4, rs, rfl, (x.grow g3).push n4 st4 hb4⟩, by rw [wrap_next hi (by omega)]⟩
          · rw [e] at tk
            have hs : j < (nameF l f i).slots.length := by rw [ok.len]; exact hj
            have hio : j < rs.length := by omega
            have z := x.sl.at hio hs
            have yi := x.sl.out.out.iaddr hio (kd := .i64)
            have y0 := (x.sl.out.out.sl lenY).fieldO (off := 0) hio (by omega)
            have y2 := (x.sl.out.out.sl lenY).fieldO (off := 2) hio (by omega)
            rw [encY_0] at y0
            rw [encY_2] at y2
            have dj : decide ((j : Int) < 0) = false := decide_eq_false (by omega)
            by_cases kk : l[j].kind = 4
            · rw [nameStep_map e hj hs kk]
              have dk : decide (l[j].kind = 4) = true := decide_eq_true kk
              simp +contextual (maxSteps := 2000000) only [go_sem, Nat.reduceEqDiff, reduceCtorEq, Nat.reduceAdd, Nat.reduceLeDiff, t2, l2, t3, l3, t4, l4, t6, l6, t7, tx, k.nl.len, k.nl.iaddr hi, k.nl.whole hi, encP, lt_true hi, tk, dj, kl.iaddr hj, kl.fieldO hj, dk, yi, y2]
              refine wp_lit (enc := encP) (k := 2) (l := [f.nl[i]]) rfl rfl ?_
              intro h3 w3 g3 n3 _
              simp +contextual (maxSteps := 2000000) only [go_sem, Nat.reduceEqDiff, reduceCtorEq, Nat.reduceAdd, Nat.reduceLeDiff, t2, l2, t3, l3, t4, l4, t6, l6, t7, tx]
              refine wp_append lenP (z.pairs.grow g3) (n3.sl lenP) (gg.trans g3) (by have := ok.pairs _ (List.getElem_mem hs); simp; omega) ?_
              intro h4 s4 g4 n4 st4 hb4
              obtain ⟨c4, rfl⟩ := n4.one
              simp +contextual (maxSteps := 2000000) only [go_sem, Nat.reduceEqDiff, reduceCtorEq, Nat.reduceAdd, Nat.reduceLeDiff, t2, l2, t3, l3, t4, l4, t6, l6, t7, tx, yi]
              refine wp_set (x := { rs[j] with pv := c4 }) (off := 2) (vs := [c4]) lenY ((x.sl.out.out.grow g3).stay st4 (x.sl.out.vpv _ hio)) hio rfl rfl (Nat.le_of_ble_eq_true rfl) g4 ?_
              intro h5 g5 n5 s5
              simp +contextual (maxSteps := 2000000) only [go_sem, Nat.reduceEqDiff, reduceCtorEq, Nat.reduceAdd, Nat.reduceLeDiff, t2, l2, t3, l3, t4, l4, t6, l6, t7, tx]
              exact ⟨g5, ⟨w, _, rfl, (x.grow g3).app_pairs hio hs n4 st4 hb4 n5 s5⟩, by rw [wrap_next hi (by omega)]⟩
            · have dk : decide (l[j].kind = 4) = false := decide_eq_false kk
              cases b : (nameF l f i).slots[j].given with
              | true =>
                rw [nameStep_twice e hj hs kk b]
                rw [z.given, b] at y0
                simp +contextual (maxSteps := 2000000) only [go_sem, Nat.reduceEqDiff, reduceCtorEq, Nat.reduceAdd, Nat.reduceLeDiff, t2, l2, t3, l3, t4, l4, t6, l6, t7, tx, k.nl.len, k.nl.iaddr hi, k.nl.whole hi, encP, lt_true hi, tk, dj, kl.iaddr hj, kl.fieldO hj, dk, yi, y0]
                refine wp_lit (enc := encB) (k := 2) (l := [⟨2, f.nl[i].name⟩]) rfl rfl ?_
                intro h3 w3 g3 n3 _
                simp +contextual (maxSteps := 2000000) only [go_sem, Nat.reduceEqDiff, reduceCtorEq, Nat.reduceAdd, Nat.reduceLeDiff, t2, l2, t3, l3, t4, l4, t6, l6, t7, tx]
                refine wp_append lenB (x.pr.grow g3) (n3.sl lenB) (gg.trans g3) (by have := ok.bad; simp; omega) ?_
                intro h4 s4 g4 n4 st4 hb4
                obtain ⟨c4, rfl⟩ := n4.one
                simp +contextual (maxSteps := 2000000) only [go_sem, Nat.reduceEqDiff, reduceCtorEq, Nat.reduceAdd, Nat.reduceLeDiff, t2, l2, t3, l3, t4, l4, t6, l6, t7, tx]
                exact ⟨g4, ⟨c4, rs, rfl, (x.grow g3).push n4 st4 hb4⟩, by rw [wrap_next hi (by omega)]⟩
              | false =>
                rw [nameStep_give e hj hs kk b]
                rw [z.given, b] at y0
                simp +contextual (maxSteps := 2000000) only [go_sem, Nat.reduceEqDiff, reduceCtorEq, Nat.reduceAdd, Nat.reduceLeDiff, t2, l2, t3, l3, t4, l4, t6, l6, t7, tx, k.nl.len, k.nl.iaddr hi, k.nl.whole hi, encP, lt_true hi, tk, dj, kl.iaddr hj, kl.fieldO hj, dk, yi, y0]
                refine wp_lit (enc := encI) (k := 1) (l := [f.nl[i].value]) rfl rfl ?_
                intro h3 w3 g3 n3 b3
                obtain ⟨d, rfl⟩ := n3.one
                simp +contextual (maxSteps := 2000000) only [go_sem, Nat.reduceEqDiff, reduceCtorEq, Nat.reduceAdd, Nat.reduceLeDiff, t2, l2, t3, l3, t4, l4, t6, l6, t7, tx, yi]
                refine wp_setE (x := ⟨true, d, .sl none 0 (some 0)⟩) lenY (x.sl.out.out.grow g3) hio rfl rfl (gg.trans g3) ?_
                intro h4 g4 n4 s4
                simp +contextual (maxSteps := 2000000) only [go_sem, Nat.reduceEqDiff, reduceCtorEq, Nat.reduceAdd, Nat.reduceLeDiff, t2, l2, t3, l3, t4, l4, t6, l6, t7, tx]
                exact ⟨g4, ⟨w, _, rfl, x.put hio g3 ⟨rfl, n3, .nil⟩ Sep.nil.symm n4 s4 gg.n⟩, by rw [wrap_next hi (by omega)]⟩
        · rintro T L h' ⟨gg, t2, l2, t3, l3, t4, l4, t6, l6, ⟨w, rs, t7, x⟩, tx⟩
          have k := hf.grow gg
          simp +contextual (maxSteps := 2000000) only [go_sem, Nat.reduceEqDiff, reduceCtorEq, Nat.reduceAdd, Nat.reduceLeDiff, t2, l2, t3, l3, t4, l4, t6, l6, t7, tx, k.nl.len, lt_false]
          exact gcK_of ⟨gg, _, _, _, rfl, x⟩ (fun hs _ => by
            simp only [AV.scalar, AV.scalars, List.all_cons, List.all_nil, Bool.and_true, Bool.and_eq_true] at hs
            exact ⟨Grow.refl h, _, _, _, rfl, x.scalar hs.1 hs.2 h⟩)
        · simp +contextual (maxSteps := 2000000) only [go_sem, Nat.reduceEqDiff, reduceCtorEq, Nat.reduceAdd, Nat.reduceLeDiff, t2, l2, t3, l3, t4, l4, t6, l6, t7]
          rw [nameF_zero]
          exact ⟨gg, ⟨w, rs, rfl, x⟩, rfl⟩
      | false =>
        have d2 : decide (kindAt l 2 < 0) = true := by
          unfold hasRest at hr
          have := of_decide_eq_false hr
          exact decide_eq_true (by omega)
        have em : manyB l f.pl = [⟨0, strOfNums []⟩] := by unfold manyB; rw [if_pos ⟨hm, hr⟩]
        simp +contextual (maxSteps := 2000000) only [go_sem, Nat.reduceEqDiff, reduceCtorEq, Nat.reduceAdd, Nat.reduceLeDiff, t2, l2, t3, l3, t4, l4, t6, l6, t7, t8, t9, t10, k.pl.len, lt_false, d1, d2]
        refine wp_lit (enc := encB) (k := 2) (l := [⟨0, strOfNums []⟩]) rfl rfl ?_
        intro h3 w3 g3 n3 _
        simp +contextual (maxSteps := 2000000) only [go_sem, Nat.reduceEqDiff, reduceCtorEq, Nat.reduceAdd, Nat.reduceLeDiff, t2, l2, t3, l3, t4, l4, t6, l6, t7, t8, t9, t10]
        refine wp_append lenB (x.pr.grow g3) (n3.sl lenB) (gg.trans g3) (by simp) ?_
        intro h4 s4 g4 n4 st4 hb4
        obtain ⟨c4, rfl⟩ := n4.one
        have x := (x.grow g3).push n4 st4 hb4
        rw [List.nil_append, ← em] at x
        simp +contextual (maxSteps := 2000000) only [go_sem, Nat.reduceEqDiff, reduceCtorEq, Nat.reduceAdd, Nat.reduceLeDiff, t2, l2, t3, l3, t4, l4, t6, l6, t7, t8, t9, t10]
        refine wpC_loop (fun i T L h' => Grow h h' ∧ T 2 = .lp 2 0 ∧ (L 2).2 = [q] ∧ T 3 = .lp 3 0 ∧ (L 3).2 = [p, n] ∧ T 4 = .lp 4 0 ∧ (L 4).2 = [.sl none 0 (some 0)] ∧ T 6 = .lp 6 0 ∧ (L 6).2 = [v] ∧ (∃ w rs, T 7 = .v (.one w) ∧ BdY h h' v w rs (nameF l f i).slots (nameF l f i).bad) ∧ T 11 = .v (.one (.int .i64 i))) f.nl.length ?_ ?_ (Nat.zero_le _) ?_
        · rintro i T L h' hi ⟨gg, t2, l2, t3, l3, t4, l4, t6, l6, ⟨w, rs, t7, x⟩, tx⟩
          have k := hf.grow gg
          have kl := hl.grow gg
          have ok := BOk.nameF (l := l) (f := f) hb3 (i := i) (by omega)
          have hrs : rs.length = l.length := x.len.trans ok.len
          have tk := c_takesName l q f.nl[i].name h' kl sq
          rw [nameF_next hi]
          rcases takes_cases l f.nl[i].name with e | ⟨j, hj, e⟩
          · rw [nameStep_no e]
            rw [e] at tk
            simp +contextual (maxSteps := 2000000) only [go_sem, Nat.reduceEqDiff, reduceCtorEq, Nat.reduceAdd, Nat.reduceLeDiff, t2, l2, t3, l3, t4, l4, t6, l6, t7, tx, k.nl.len, k.nl.iaddr hi, k.nl.whole hi, encP, lt_true hi, tk]
            refine wp_lit (enc := encB) (k := 2) (l := [⟨1, f.nl[i].name⟩]) rfl rfl ?_
            intro h3 w3 g3 n3 _
            simp +contextual (maxSteps := 2000000) only [go_sem, Nat.reduceEqDiff, reduceCtorEq, Nat.reduceAdd, Nat.reduceLeDiff, t2, l2, t3, l3, t4, l4, t6, l6, t7, tx]
            refine wp_append lenB (x.pr.grow g3) (n3.sl lenB) (gg.trans g3) (by have := ok.bad; simp; omega) ?_
            intro h4 s4 g4 n4 st4 hb4
            obtain ⟨c4, rfl⟩ := n4.one
            simp +contextual (maxSteps := 2000000) only [go_sem, Nat.reduceEqDiff, reduceCtorEq, Nat.reduceAdd, Nat.reduceLeDiff, t2, l2, t3, l3, t4, l4, t6, l6, t7, tx]
            exact ⟨g4, ⟨c4, rs, rfl, (x.grow g3).push n4 st4 hb4⟩, by rw [wrap_next hi (by omega)]⟩
          · rw [e] at tk
            have hs : j < (nameF l f i).slots.length := by rw [ok.len]; exact hj
            have hio : j < rs.length := by omega
            have z := x.sl.at hio hs
            have yi := x.sl.out.out.iaddr hio (kd := .i64)
            have y0 := (x.sl.out.out.sl lenY).fieldO (off := 0) hio (by omega)
            have y2 := (x.sl.out.out.sl lenY).fieldO (off := 2) hio (by omega)
            rw [encY_0] at y0
            rw [encY_2] at y2
            have dj : decide ((j : Int) < 0) = false := decide_eq_false (by omega)
            by_cases kk : l[j].kind = 4
            · rw [nameStep_map e hj hs kk]
              have dk : decide (l[j].kind = 4) = true := decide_eq_true kk
              simp +contextual (maxSteps := 2000000) only [go_sem, Nat.reduceEqDiff, reduceCtorEq, Nat.reduceAdd, Nat.reduceLeDiff, t2, l2, t3, l3, t4, l4, t6, l6, t7, tx, k.nl.len, k.nl.iaddr hi, k.nl.whole hi, encP, lt_true hi, tk, dj, kl.iaddr hj, kl.fieldO hj, dk, yi, y2]
              refine wp_lit (enc := encP) (k := 2) (l := [f.nl[i]]) rfl rfl ?_
              intro h3 w3 g3 n3 _
              simp +contextual (maxSteps := 2000000) only [go_sem, Nat.reduceEqDiff, reduceCtorEq, Nat.reduceAdd, Nat.reduceLeDiff, t2, l2, t3, l3, t4, l4, t6, l6, t7, tx]
              refine wp_append lenP (z.pairs.grow g3) (n3.sl lenP) (gg.trans g3) (by have := ok.pairs _ (List.getElem_mem hs); simp; omega) ?_
              intro h4 s4 g4 n4 st4 hb4
              obtain ⟨c4, rfl⟩ := n4.one
              simp +contextual (maxSteps := 2000000) only [go_sem, Nat.reduceEqDiff, reduceCtorEq, Nat.reduceAdd, Nat.reduceLeDiff, t2, l2, t3, l3, t4, l4, t6, l6, t7, tx, yi]
              refine wp_set (x := { rs[j] with pv := c4 }) (off := 2) (vs := [c4]) lenY ((x.sl.out.out.grow g3).stay st4 (x.sl.out.vpv _ hio)) hio rfl rfl (Nat.le_of_ble_eq_true rfl) g4 ?_
              intro h5 g5 n5 s5
              simp +contextual (maxSteps := 2000000) only [go_sem, Nat.reduceEqDiff, reduceCtorEq, Nat.reduceAdd, Nat.reduceLeDiff, t2, l2, t3, l3, t4, l4, t6, l6, t7, tx]
              exact ⟨g5, ⟨w, _, rfl, (x.grow g3).app_pairs hio hs n4 st4 hb4 n5 s5⟩, by rw [wrap_next hi (by omega)]⟩
            · have dk : decide (l[j].kind = 4) = false := decide_eq_false kk
              cases b : (nameF l f i).slots[j].given with
              | true =>
                rw [nameStep_twice e hj hs kk b]
                rw [z.given, b] at y0
                simp +contextual (maxSteps := 2000000) only [go_sem, Nat.reduceEqDiff, reduceCtorEq, Nat.reduceAdd, Nat.reduceLeDiff, t2, l2, t3, l3, t4, l4, t6, l6, t7, tx, k.nl.len, k.nl.iaddr hi, k.nl.whole hi, encP, lt_true hi, tk, dj, kl.iaddr hj, kl.fieldO hj, dk, yi, y0]
                refine wp_lit (enc := encB) (k := 2) (l := [⟨2, f.nl[i].name⟩]) rfl rfl ?_
                intro h3 w3 g3 n3 _
                simp +contextual (maxSteps := 2000000) only [go_sem, Nat.reduceEqDiff, reduceCtorEq, Nat.reduceAdd, Nat.reduceLeDiff, t2, l2, t3, l3, t4, l4, t6, l6, t7, tx]
                refine wp_append lenB (x.pr.grow g3) (n3.sl lenB) (gg.trans g3) (by have := ok.bad; simp; omega) ?_
                intro h4 s4 g4 n4 st4 hb4
                obtain ⟨c4, rfl⟩ := n4.one
                simp +contextual (maxSteps := 2000000) only [go_sem, Nat.reduceEqDiff, reduceCtorEq, Nat.reduceAdd, Nat.reduceLeDiff, t2, l2, t3, l3, t4, l4, t6, l6, t7, tx]
                exact ⟨g4, ⟨c4, rs, rfl, (x.grow g3).push n4 st4 hb4⟩, by rw [wrap_next hi (by omega)]⟩
              | false =>
                rw [nameStep_give e hj hs kk b]
                rw [z.given, b] at y0
                simp +contextual (maxSteps := 2000000) only [go_sem, Nat.reduceEqDiff, reduceCtorEq, Nat.reduceAdd, Nat.reduceLeDiff, t2, l2, t3, l3, t4, l4, t6, l6, t7, tx, k.nl.len, k.nl.iaddr hi, k.nl.whole hi, encP, lt_true hi, tk, dj, kl.iaddr hj, kl.fieldO hj, dk, yi, y0]
                refine wp_lit (enc := encI) (k := 1) (l := [f.nl[i].value]) rfl rfl ?_
                intro h3 w3 g3 n3 b3
                obtain ⟨d, rfl⟩ := n3.one
                simp +contextual (maxSteps := 2000000) only [go_sem, Nat.reduceEqDiff, reduceCtorEq, Nat.reduceAdd, Nat.reduceLeDiff, t2, l2, t3, l3, t4, l4, t6, l6, t7, tx, yi]
                refine wp_setE (x := ⟨true, d, .sl none 0 (some 0)⟩) lenY (x.sl.out.out.grow g3) hio rfl rfl (gg.trans g3) ?_
                intro h4 g4 n4 s4
                simp +contextual (maxSteps := 2000000) only [go_sem, Nat.reduceEqDiff, reduceCtorEq, Nat.reduceAdd, Nat.reduceLeDiff, t2, l2, t3, l3, t4, l4, t6, l6, t7, tx]
                exact ⟨g4, ⟨w, _, rfl, x.put hio g3 ⟨rfl, n3, .nil⟩ Sep.nil.symm n4 s4 gg.n⟩, by rw [wrap_next hi (by omega)]⟩
        · rintro T L h' ⟨gg, t2, l2, t3, l3, t4, l4, t6, l6, ⟨w, rs, t7, x⟩, tx⟩
          have k := hf.grow gg
          simp +contextual (maxSteps := 2000000) only [go_sem, Nat.reduceEqDiff, reduceCtorEq, Nat.reduceAdd, Nat.reduceLeDiff, t2, l2, t3, l3, t4, l4, t6, l6, t7, tx, k.nl.len, lt_false]
          exact gcK_of ⟨gg, _, _, _, rfl, x⟩ (fun hs _ => by
            simp only [AV.scalar, AV.scalars, List.all_cons, List.all_nil, Bool.and_true, Bool.and_eq_true] at hs
            exact ⟨Grow.refl h, _, _, _, rfl, x.scalar hs.1 hs.2 h⟩)
        · simp +contextual (maxSteps := 2000000) only [go_sem, Nat.reduceEqDiff, reduceCtorEq, Nat.reduceAdd, Nat.reduceLeDiff, t2, l2, t3, l3, t4, l4, t6, l6, t7]
          rw [nameF_zero]
          exact ⟨g4, ⟨c4, rs, rfl, x⟩, rfl⟩
    · have d1 : decide ((f.pl.length : Int) > (places l : Nat)) = false := decide_eq_false (by omega)
      have em : manyB l f.pl = [] := by unfold manyB; rw [if_neg (by omega)]
      rw [← em] at x
      simp +contextual (maxSteps := 2000000) only [go_sem, Nat.reduceEqDiff, reduceCtorEq, Nat.reduceAdd, Nat.reduceLeDiff, t2, l2, t3, l3, t4, l4, t6, l6, t7, t8, t9, t10, k.pl.len, lt_false, d1]
      refine wpC_loop (fun i T L h' => Grow h h' ∧ T 2 = .lp 2 0 ∧ (L 2).2 = [q] ∧ T 3 = .lp 3 0 ∧ (L 3).2 = [p, n] ∧ T 4 = .lp 4 0 ∧ (L 4).2 = [.sl none 0 (some 0)] ∧ T 6 = .lp 6 0 ∧ (L 6).2 = [v] ∧ (∃ w rs, T 7 = .v (.one w) ∧ BdY h h' v w rs (nameF l f i).slots (nameF l f i).bad) ∧ T 11 = .v (.one (.int .i64 i))) f.nl.length ?_ ?_ (Nat.zero_le _) ?_
      · rintro i T L h' hi ⟨gg, t2, l2, t3, l3, t4, l4, t6, l6, ⟨w, rs, t7, x⟩, tx⟩
        have k := hf.grow gg
        have kl := hl.grow gg
        have ok := BOk.nameF (l := l) (f := f) hb3 (i := i) (by omega)
        have hrs : rs.length = l.length := x.len.trans ok.len
        have tk := c_takesName l q f.nl[i].name h' kl sq
        rw [nameF_next hi]
        rcases takes_cases l f.nl[i].name with e | ⟨j, hj, e⟩
        · rw [nameStep_no e]
          rw [e] at tk
          simp +contextual (maxSteps := 2000000) only [go_sem, Nat.reduceEqDiff, reduceCtorEq, Nat.reduceAdd, Nat.reduceLeDiff, t2, l2, t3, l3, t4, l4, t6, l6, t7, tx, k.nl.len, k.nl.iaddr hi, k.nl.whole hi, encP, lt_true hi, tk]
          refine wp_lit (enc := encB) (k := 2) (l := [⟨1, f.nl[i].name⟩]) rfl rfl ?_
          intro h3 w3 g3 n3 _
          simp +contextual (maxSteps := 2000000) only [go_sem, Nat.reduceEqDiff, reduceCtorEq, Nat.reduceAdd, Nat.reduceLeDiff, t2, l2, t3, l3, t4, l4, t6, l6, t7, tx]
          refine wp_append lenB (x.pr.grow g3) (n3.sl lenB) (gg.trans g3) (by have := ok.bad; simp; omega) ?_
          intro h4 s4 g4 n4 st4 hb4
          obtain ⟨c4, rfl⟩ := n4.one
          simp +contextual (maxSteps := 2000000) only [go_sem, Nat.reduceEqDiff, reduceCtorEq, Nat.reduceAdd, Nat.reduceLeDiff, t2, l2, t3, l3, t4, l4, t6, l6, t7, tx]
          exact ⟨g4, ⟨c4, rs, rfl, (x.grow g3).push n4 st4 hb4⟩, by rw [wrap_next hi (by omega)]⟩
        · rw [e] at tk
          have hs : j < (nameF l f i).slots.length := by rw [ok.len]; exact hj
          have hio : j < rs.length := by omega
          have z := x.sl.at hio hs
          have yi := x.sl.out.out.iaddr hio (kd := .i64)
          have y0 := (x.sl.out.out.sl lenY).fieldO (off := 0) hio (by omega)
          have y2 := (x.sl.out.out.sl lenY).fieldO (off := 2) hio (by omega)
          rw [encY_0] at y0
          rw [encY_2] at y2
          have dj : decide ((j : Int) < 0) = false := decide_eq_false (by omega)
          by_cases kk : l[j].kind = 4
          · rw [nameStep_map e hj hs kk]
            have dk : decide (l[j].kind = 4) = true := decide_eq_true kk
            simp +contextual (maxSteps := 2000000) only [go_sem, Nat.reduceEqDiff, reduceCtorEq, Nat.reduceAdd, Nat.reduceLeDiff, t2, l2, t3, l3, t4, l4, t6, l6, t7, tx, k.nl.len, k.nl.iaddr hi, k.nl.whole hi, encP, lt_true hi, tk, dj, kl.iaddr hj, kl.fieldO hj, dk, yi, y2]
            refine wp_lit (enc := encP) (k := 2) (l := [f.nl[i]]) rfl rfl ?_
            intro h3 w3 g3 n3 _
            simp +contextual (maxSteps := 2000000) only [go_sem, Nat.reduceEqDiff, reduceCtorEq, Nat.reduceAdd, Nat.reduceLeDiff, t2, l2, t3, l3, t4, l4, t6, l6, t7, tx]
            refine wp_append lenP (z.pairs.grow g3) (n3.sl lenP) (gg.trans g3) (by have := ok.pairs _ (List.getElem_mem hs); simp; omega) ?_
            intro h4 s4 g4 n4 st4 hb4
            obtain ⟨c4, rfl⟩ := n4.one
            simp +contextual (maxSteps := 2000000) only [go_sem, Nat.reduceEqDiff, reduceCtorEq, Nat.reduceAdd, Nat.reduceLeDiff, t2, l2, t3, l3, t4, l4, t6, l6, t7, tx, yi]
            refine wp_set (x := { rs[j] with pv := c4 }) (off := 2) (vs := [c4]) lenY ((x.sl.out.out.grow g3).stay st4 (x.sl.out.vpv _ hio)) hio rfl rfl (Nat.le_of_ble_eq_true rfl) g4 ?_
            intro h5 g5 n5 s5
            simp +contextual (maxSteps := 2000000) only [go_sem, Nat.reduceEqDiff, reduceCtorEq, Nat.reduceAdd, Nat.reduceLeDiff, t2, l2, t3, l3, t4, l4, t6, l6, t7, tx]
            exact ⟨g5, ⟨w, _, rfl, (x.grow g3).app_pairs hio hs n4 st4 hb4 n5 s5⟩, by rw [wrap_next hi (by omega)]⟩
          · have dk : decide (l[j].kind = 4) = false := decide_eq_false kk
            cases b : (nameF l f i).slots[j].given with
            | true =>
              rw [nameStep_twice e hj hs kk b]
              rw [z.given, b] at y0
              simp +contextual (maxSteps := 2000000) only [go_sem, Nat.reduceEqDiff, reduceCtorEq, Nat.reduceAdd, Nat.reduceLeDiff, t2, l2, t3, l3, t4, l4, t6, l6, t7, tx, k.nl.len, k.nl.iaddr hi, k.nl.whole hi, encP, lt_true hi, tk, dj, kl.iaddr hj, kl.fieldO hj, dk, yi, y0]
              refine wp_lit (enc := encB) (k := 2) (l := [⟨2, f.nl[i].name⟩]) rfl rfl ?_
              intro h3 w3 g3 n3 _
              simp +contextual (maxSteps := 2000000) only [go_sem, Nat.reduceEqDiff, reduceCtorEq, Nat.reduceAdd, Nat.reduceLeDiff, t2, l2, t3, l3, t4, l4, t6, l6, t7, tx]
              refine wp_append lenB (x.pr.grow g3) (n3.sl lenB) (gg.trans g3) (by have := ok.bad; simp; omega) ?_
              intro h4 s4 g4 n4 st4 hb4
              obtain ⟨c4, rfl⟩ := n4.one
              simp +contextual (maxSteps := 2000000) only [go_sem, Nat.reduceEqDiff, reduceCtorEq, Nat.reduceAdd, Nat.reduceLeDiff, t2, l2, t3, l3, t4, l4, t6, l6, t7, tx]
              exact ⟨g4, ⟨c4, rs, rfl, (x.grow g3).push n4 st4 hb4⟩, by rw [wrap_next hi (by omega)]⟩
            | false =>
              rw [nameStep_give e hj hs kk b]
              rw [z.given, b] at y0
              simp +contextual (maxSteps := 2000000) only [go_sem, Nat.reduceEqDiff, reduceCtorEq, Nat.reduceAdd, Nat.reduceLeDiff, t2, l2, t3, l3, t4, l4, t6, l6, t7, tx, k.nl.len, k.nl.iaddr hi, k.nl.whole hi, encP, lt_true hi, tk, dj, kl.iaddr hj, kl.fieldO hj, dk, yi, y0]
              refine wp_lit (enc := encI) (k := 1) (l := [f.nl[i].value]) rfl rfl ?_
              intro h3 w3 g3 n3 b3
              obtain ⟨d, rfl⟩ := n3.one
              simp +contextual (maxSteps := 2000000) only [go_sem, Nat.reduceEqDiff, reduceCtorEq, Nat.reduceAdd, Nat.reduceLeDiff, t2, l2, t3, l3, t4, l4, t6, l6, t7, tx, yi]
              refine wp_setE (x := ⟨true, d, .sl none 0 (some 0)⟩) lenY (x.sl.out.out.grow g3) hio rfl rfl (gg.trans g3) ?_
              intro h4 g4 n4 s4
              simp +contextual (maxSteps := 2000000) only [go_sem, Nat.reduceEqDiff, reduceCtorEq, Nat.reduceAdd, Nat.reduceLeDiff, t2, l2, t3, l3, t4, l4, t6, l6, t7, tx]
              exact ⟨g4, ⟨w, _, rfl, x.put hio g3 ⟨rfl, n3, .nil⟩ Sep.nil.symm n4 s4 gg.n⟩, by rw [wrap_next hi (by omega)]⟩
      · rintro T L h' ⟨gg, t2, l2, t3, l3, t4, l4, t6, l6, ⟨w, rs, t7, x⟩, tx⟩
        have k := hf.grow gg
        simp +contextual (maxSteps := 2000000) only [go_sem, Nat.reduceEqDiff, reduceCtorEq, Nat.reduceAdd, Nat.reduceLeDiff, t2, l2, t3, l3, t4, l4, t6, l6, t7, tx, k.nl.len, lt_false]
        exact gcK_of ⟨gg, _, _, _, rfl, x⟩ (fun hs _ => by
          simp only [AV.scalar, AV.scalars, List.all_cons, List.all_nil, Bool.and_true, Bool.and_eq_true] at hs
          exact ⟨Grow.refl h, _, _, _, rfl, x.scalar hs.1 hs.2 h⟩)
      · simp +contextual (maxSteps := 2000000) only [go_sem, Nat.reduceEqDiff, reduceCtorEq, Nat.reduceAdd, Nat.reduceLeDiff, t2, l2, t3, l3, t4, l4, t6, l6, t7]
        rw [nameF_zero]
        exact ⟨gg, ⟨w, rs, rfl, x⟩, rfl⟩
  · simp +contextual (maxSteps := 2000000) only [go_sem, Nat.reduceEqDiff, reduceCtorEq, Nat.reduceAdd, Nat.reduceLeDiff]
    exact ⟨g1.trans g2, rfl, _, by rw [List.take_zero] at z0; exact z0⟩
end Go.Proofs.Ytdalgphpacikkab.Am
