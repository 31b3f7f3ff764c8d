/- Contracts: what a wrapper passes on, of both sides. -/
import Derived.Test.YtdalgphpacikkabBK
import Derived.Test.YtdalgphpacikkabPD
import Derived.Test.YtdalgphpacikkabHS
namespace Go.Proofs.Ytdalgphpacikkab.Am
open Go
set_option maxRecDepth 100000
set_option maxHeartbeats 4000000
set_option linter.unusedSimpArgs false
set_option linter.unusedVariables false
attribute [local go_sem ↓] bv_t bv_c ev_t ev_c put_same put_ne put_none kill_at pro_at lb_same lb_ne start_zero start_succ wpC_seq wpC_reg wpC_cond wpC_block wpC_skip wpC_exit wpC_ret thenQ_normal thenQ_exit thenQ_ret inBlk_normal inBlk_exit inBlk_ret wpS_nil wpS_step wpS_again wpS_guard wpO_mov wpO_load wpO_faddr wpO_nilCheck wpO_pick wpO_build wpO_bin wpO_eqb wpO_eqst wpO_eqnil wpO_not wpO_conv wpO_bytesStr wpO_iaddr wpO_idxStr wpO_field wpO_extract wpO_len wpO_lenStr wpO_cap wpO_min wpO_slice wpO_sliceStr wpO_alloc wpO_box wpO_store wpO_call wpO_callv wpO_mkfn wpO_buildSlice wpO_mkslice wpO_append wpO_appz proA_nil proA_cons tmpX_nil tmpX_tmp tmpX_cell doneB_normal doneB_ret agK_cons agK_nil agK_guard agG_tt agG_ff agG_tf agG_ft agG_undef pureB_load results_one results_two results_nil resBs_cons resBs_nil resB_tmp resB_cell
attribute [local go_sem] kill_v kill_lp_ne kill_lp_same pro_v pro_lp_same pro_lp_ne av_v av_lp optB_some optX_some valX_eq ldX_lp ldX_v faX_lp faX_v ncX_lp ncX_ptr ncX_fn boxK_one boxK_agg stL_some stK_lp_one stK_lp_agg stK_v_one stK_v_agg proM_v proM_lp callG_mk callVG_mk callvK_fn fnG_mk ptrsA_nil ptrsA_cons callH_some whenA_true whenA_false guardH_tt guardH_ff guardH_tf guardH_ft guardH_undef agV_one agV_agg lenO_sl lenStrO_str notO_bool pickO_bool convO_int eqbO_bool eqnilO_sl extractO_tup capO_sl minO_int loadL_one loadL_all storeL_eq fillA_nil fillA_one fillA_agg nat_ge neg_ge nat_lt neg_lt buildO bin_add bin_sub bin_mul bin_eql bin_neq bin_lss bin_leq bin_gtr bin_geq str_eql str_neq str_lss str_leq str_gtr str_geq retK_some endK_mk gcK_same gcK_int gcK_bool tupO_one tupO_agg rdy_self ib ii Option.map_none Option.map_some Option.some.injEq exists_eq_left' exists_eq_left ne_eq not_false_eq_true if_true if_false List.map_cons List.map_nil List.getElem?_cons_zero List.getElem?_cons_succ List.length_cons List.length_nil List.take_succ_cons List.take_zero List.take_nil List.drop_succ_cons List.drop_zero List.drop_nil List.cons_append List.nil_append List.append_nil List.set_cons_zero List.set_cons_succ Nat.zero_add forall_const true_and and_true and_self Bool.false_eq_true false_implies true_implies implies_true Bool.not_true Bool.not_false Bool.not_eq_true' Bool.not_eq_false' beq_self_eq_true Bool.bne_true Bool.bne_false
attribute [local go_sem] lenI lenS lenP lenQ lenB lenL lenT encI_0 encS_0 encP_0 encP_1 encQ_0 encQ_1 encQ_2 encQ_3 encB_0 encB_1 encL_0 encL_1 encT_0 encT_1
attribute [local go_sem low] whenA_bool guardH_bool
attribute [local go_sem] lenY encY_0 encY_1 encY_2
/-! spec.isWrapper -/
def L56_0 : List AStep := [⟨.box 36 (.t 0), (some 1), none, []⟩, ⟨.mov (.c (.bool false)), (some 2), none, []⟩]
theorem v56_0 : VS L56_0.eq_1 := rfl
def L56_1 : List AStep := [⟨.mov (.t 16), (some 2), none, []⟩]
theorem v56_1 : VS L56_1.eq_1 := rfl
def L56_2 : List AStep := ⟨.bin .geq (.t 14) (.c (.int .i64 0)), (some 15), (some (11, true)), []⟩ :: ⟨.pick (.t 11) (.t 15) (.c (.bool false)), (some 16), none, []⟩ :: L56_1
theorem v56_2 : VS L56_2.eq_1 := rfl
def L56_3 : List AStep := ⟨.load 1 false (.t 12), (some 13), (some (11, true)), []⟩ :: ⟨.call 81 [(.t 13), (.c (.int .i64 4))], (some 14), (some (11, true)), []⟩ :: L56_2
theorem v56_3 : VS L56_3.eq_1 := rfl
def L56_4 : List AStep := ⟨.mov (.t 10), (some 11), none, []⟩ :: ⟨.faddr 0 (.t 1), (some 12), (some (11, true)), []⟩ :: L56_3
theorem v56_4 : VS L56_4.eq_1 := rfl
def L56_5 : List AStep := ⟨.bin .geq (.t 8) (.c (.int .i64 0)), (some 9), (some (5, true)), []⟩ :: ⟨.pick (.t 5) (.t 9) (.c (.bool false)), (some 10), none, []⟩ :: L56_4
theorem v56_5 : VS L56_5.eq_1 := rfl
def L56_6 : List AStep := ⟨.load 1 false (.t 6), (some 7), (some (5, true)), []⟩ :: ⟨.call 81 [(.t 7), (.c (.int .i64 2))], (some 8), (some (5, true)), []⟩ :: L56_5
theorem v56_6 : VS L56_6.eq_1 := rfl
def L56_7 : List AStep := ⟨.mov (.t 4), (some 5), none, []⟩ :: ⟨.faddr 0 (.t 1), (some 6), (some (5, true)), []⟩ :: L56_6
theorem v56_7 : VS L56_7.eq_1 := rfl
def L56_8 : List AStep := ⟨.load 1 true (.t 1), (some 3), none, []⟩ :: ⟨.call 69 [(.t 3)], (some 4), none, []⟩ :: L56_7
theorem v56_8 : VS L56_8.eq_1 := rfl
def C56_0 : ACode := .seq (.reg L56_8) .ret
theorem u56_0 : VC C56_0.eq_1 := rfl
def C56_1 : ACode := .seq (.reg L56_0) C56_0
theorem u56_1 : VC C56_1.eq_1 := rfl
def F56 : AFunc := ⟨17, [.tmp 2], C56_1⟩
theorem cF56 : compB Try.prog 56 = some F56 := by kernel_rfl
attribute [local go_sem ↓] u56_0 u56_1 v56_0 v56_1 v56_2 v56_3 v56_4 v56_5 v56_6 v56_7 v56_8
theorem c_isWrapper (l : List Param) (q : CV) (h : H) (hl : SlG h q l) (m : miniG l) : bm Try.prog 56 [.agg [q]] h = some (ib (isWrap l), h) := by
  refine bm_eq cF56 ?_
  have e1 := c_validSignature l q h hl.out m.sm
  have e2 : decide (kindAt l 2 ≥ 0) = hasRest l := rfl
  have e3 : decide (kindAt l 4 ≥ 0) = hasMap l := rfl
  unfold isWrap
  cases b1 : okSig l with
  | false =>
    rw [b1] at e1
    simp +contextual (maxSteps := 2000000) only [go_sem, Nat.reduceEqDiff, reduceCtorEq, Nat.reduceAdd, Nat.reduceLeDiff, F56, e1, Bool.false_and]
  | true =>
  rw [b1] at e1
  cases b2 : hasRest l with
  | false =>
    rw [b2] at e2
    simp +contextual (maxSteps := 2000000) only [go_sem, Nat.reduceEqDiff, reduceCtorEq, Nat.reduceAdd, Nat.reduceLeDiff, F56, e1, c_kindAt _ _ _ _ hl.out m.sm, e2, Bool.true_and, Bool.false_and]
  | true =>
    rw [b2] at e2
    simp +contextual (maxSteps := 2000000) only [go_sem, Nat.reduceEqDiff, reduceCtorEq, Nat.reduceAdd, Nat.reduceLeDiff, F56, e1, c_kindAt _ _ _ _ hl.out m.sm, e2, e3, Bool.true_and]
/-! impl.IsWrapper -/
def L62_0 : List AStep := [⟨.box 36 (.t 0), (some 1), none, []⟩, ⟨.mov (.c (.bool false)), (some 2), none, []⟩]
theorem v62_0 : VS L62_0.eq_1 := rfl
def L62_1 : List AStep := [⟨.mov (.t 12), (some 2), none, []⟩]
theorem v62_1 : VS L62_1.eq_1 := rfl
def L62_2 : List AStep := ⟨.call 96 [(.t 10), (.c (.int .i64 4))], (some 11), (some (9, true)), []⟩ :: ⟨.pick (.t 9) (.t 11) (.c (.bool false)), (some 12), none, []⟩ :: L62_1
theorem v62_2 : VS L62_2.eq_1 := rfl
def L62_3 : List AStep := ⟨.mov (.t 8), (some 9), none, []⟩ :: ⟨.load 1 true (.t 1), (some 10), (some (9, true)), []⟩ :: L62_2
theorem v62_3 : VS L62_3.eq_1 := rfl
def L62_4 : List AStep := ⟨.call 96 [(.t 6), (.c (.int .i64 2))], (some 7), (some (5, true)), []⟩ :: ⟨.pick (.t 5) (.t 7) (.c (.bool false)), (some 8), none, []⟩ :: L62_3
theorem v62_4 : VS L62_4.eq_1 := rfl
def L62_5 : List AStep := ⟨.mov (.t 4), (some 5), none, []⟩ :: ⟨.load 1 true (.t 1), (some 6), (some (5, true)), []⟩ :: L62_4
theorem v62_5 : VS L62_5.eq_1 := rfl
def L62_6 : List AStep := ⟨.load 1 true (.t 1), (some 3), none, []⟩ :: ⟨.call 95 [(.t 3)], (some 4), none, []⟩ :: L62_5
theorem v62_6 : VS L62_6.eq_1 := rfl
def C62_0 : ACode := .seq (.reg L62_6) .ret
theorem u62_0 : VC C62_0.eq_1 := rfl
def C62_1 : ACode := .seq (.reg L62_0) C62_0
theorem u62_1 : VC C62_1.eq_1 := rfl
def F62 : AFunc := ⟨13, [.tmp 2], C62_1⟩
theorem cF62 : compB Try.prog 62 = some F62 := by kernel_rfl
attribute [local go_sem ↓] u62_0 u62_1 v62_0 v62_1 v62_2 v62_3 v62_4 v62_5 v62_6
theorem c_IsWrapper (l : List Param) (q : CV) (h : H) (hl : SlG h q l) (m : miniG l) : bm Try.prog 62 [.agg [q]] h = some (ib (isWrap l), h) := by
  refine bm_eq cF62 ?_
  have e1 := c_ValidSignature l q h hl.out m.sm
  have e2 : bm Try.prog 96 [.agg [q], .one (.int .i64 2)] h = some (ib (hasRest l), h) := c_has l q 2 h hl.out m.sm
  have e3 : bm Try.prog 96 [.agg [q], .one (.int .i64 4)] h = some (ib (hasMap l), h) := c_has l q 4 h hl.out m.sm
  unfold isWrap
  cases b1 : okSig l with
  | false =>
    rw [b1] at e1
    simp +contextual (maxSteps := 2000000) only [go_sem, Nat.reduceEqDiff, reduceCtorEq, Nat.reduceAdd, Nat.reduceLeDiff, F62, e1, Bool.false_and]
  | true =>
  rw [b1] at e1
  cases b2 : hasRest l with
  | false =>
    rw [b2] at e2
    simp +contextual (maxSteps := 2000000) only [go_sem, Nat.reduceEqDiff, reduceCtorEq, Nat.reduceAdd, Nat.reduceLeDiff, F62, e1, e2, Bool.true_and, Bool.false_and]
  | true =>
    rw [b2] at e2
    simp +contextual (maxSteps := 2000000) only [go_sem, Nat.reduceEqDiff, reduceCtorEq, Nat.reduceAdd, Nat.reduceLeDiff, F62, e1, e2, e3, Bool.true_and]
/-! spec.passed -/
def L57_0 : List AStep := [⟨.alloc 39 [(.sl none 0 (some 0)), (.sl none 0 (some 0))], (some 4), none, []⟩]
theorem v57_0 : VS L57_0.eq_1 := rfl
def L57_1 : List AStep := ⟨.box 36 (.t 0), (some 2), none, []⟩ :: ⟨.box 75 (.t 1), (some 3), none, []⟩ :: L57_0
theorem v57_1 : VS L57_1.eq_1 := rfl
def L57_2 : List AStep := [⟨.build [(.sl none 0 (some 0)), (.sl none 0 (some 0))] [(0, 1, (.t 14)), (1, 1, (.t 24))], (some 25), none, []⟩, ⟨.store 2 (.t 4) (.t 25), none, none, []⟩]
theorem v57_2 : VS L57_2.eq_1 := rfl
def L57_3 : List AStep := ⟨.load 1 false (.t 22), (some 23), none, []⟩ :: ⟨.append 109 2 24 (.t 15) (.t 23), (some 24), none, []⟩ :: L57_2
theorem v57_3 : VS L57_3.eq_1 := rfl
def L57_4 : List AStep := ⟨.iaddr 3 (.t 17) (.t 20), (some 21), none, []⟩ :: ⟨.faddr 2 (.t 21), (some 22), none, []⟩ :: L57_3
theorem v57_4 : VS L57_4.eq_1 := rfl
def L57_5 : List AStep := ⟨.append 3 1 8 (.t 5) (.t 13), (some 14), none, [(.load 1 false (.t 16), (some 17), none), (.load 1 false (.t 18), (some 19), none)]⟩ :: ⟨.call 81 [(.t 19), (.c (.int .i64 4))], (some 20), none, [(.load 1 false (.t 16), (some 17), none)]⟩ :: L57_4
theorem v57_5 : VS L57_5.eq_1 := rfl
def L57_6 : List AStep := ⟨.faddr 1 (.t 11), (some 12), none, []⟩ :: ⟨.load 1 false (.t 12), (some 13), none, []⟩ :: L57_5
theorem v57_6 : VS L57_6.eq_1 := rfl
def L57_7 : List AStep := ⟨.call 81 [(.t 9), (.c (.int .i64 2))], (some 10), none, [(.load 1 false (.t 6), (some 7), none), (.load 1 false (.t 16), (some 17), none), (.load 1 false (.t 18), (some 19), none)]⟩ :: ⟨.iaddr 3 (.t 7) (.t 10), (some 11), none, []⟩ :: L57_6
theorem v57_7 : VS L57_7.eq_1 := rfl
def L57_8 : List AStep := ⟨.faddr 0 (.t 2), (some 18), none, []⟩ :: ⟨.load 1 false (.t 18), (some 19), none, []⟩ :: L57_7
theorem v57_8 : VS L57_8.eq_1 := rfl
def L57_9 : List AStep := ⟨.faddr 0 (.t 3), (some 16), none, []⟩ :: ⟨.load 1 false (.t 16), (some 17), none, []⟩ :: L57_8
theorem v57_9 : VS L57_9.eq_1 := rfl
def L57_10 : List AStep := ⟨.load 1 false (.t 8), (some 9), none, []⟩ :: ⟨.buildSlice 109 0 [(.str (strOfNums [])), (.int .i64 0)] [], (some 15), none, []⟩ :: L57_9
theorem v57_10 : VS L57_10.eq_1 := rfl
def L57_11 : List AStep := ⟨.load 1 false (.t 6), (some 7), none, []⟩ :: ⟨.faddr 0 (.t 2), (some 8), none, []⟩ :: L57_10
theorem v57_11 : VS L57_11.eq_1 := rfl
def L57_12 : List AStep := ⟨.buildSlice 3 0 [(.int .i64 0)] [], (some 5), none, []⟩ :: ⟨.faddr 0 (.t 3), (some 6), none, []⟩ :: L57_11
theorem v57_12 : VS L57_12.eq_1 := rfl
def C57_0 : ACode := .seq (.reg L57_12) .ret
theorem u57_0 : VC C57_0.eq_1 := rfl
def C57_1 : ACode := .seq (.reg L57_1) C57_0
theorem u57_1 : VC C57_1.eq_1 := rfl
def F57 : AFunc := ⟨26, [.cell 4 2 true], C57_1⟩
theorem cF57 : compB Try.prog 57 = some F57 := by kernel_rfl
attribute [local go_sem ↓] u57_0 u57_1 v57_0 v57_1 v57_2 v57_3 v57_4 v57_5 v57_6 v57_7 v57_8 v57_9 v57_10 v57_11 v57_12
theorem c_passed (l : List Param) (sl : List Slot) (rs : List RSlot) (q v : CV) (h : H) (hl : SlQ h (.one q) l) (ok1 : okSig l = true) (hw : isWrap l = true) (hs : RdY 83 3 109 h v rs sl.length (getY sl)) (hlen : sl.length = l.length) (so : SOk sl) :
    callK (bm Try.prog 57 [.agg [q], .agg [v]] h) fun r h' => Grow h h' ∧ ∃ p n, r = .agg [p, n] ∧ NwF h h' p n (passT l sl l.length) := by
  refine bm_of cF57 ?_
  have o := Ord.of ok1
  unfold isWrap at hw
  rw [ok1, Bool.true_and, Bool.and_eq_true] at hw
  obtain ⟨hr, hm⟩ := hw
  obtain ⟨r0, r1, r2⟩ := o.rest_at hr
  obtain ⟨mi, m0, m1, m2⟩ := map_at hm
  have hx : mapIx l = mi := by unfold mapIx; rw [m1]; simp
  have ep : passT l sl l.length = ⟨(sl[places l]'(by omega)).list, (sl[mi]'(by omega)).pairs⟩ := by
    unfold passT
    rw [if_pos ⟨hr, r0⟩, if_pos ⟨hm, by omega⟩, hx, getS_eq (by omega), getS_eq (by omega)]
  rw [ep]
  have sq := smQ_of ok1
  have hr1 : places l < rs.length := by rw [hs.len]; omega
  have hr2 : mi < rs.length := by rw [hs.len]; omega
  have a1 := hs.el _ hr1
  have a2 := hs.el _ hr2
  rw [getY_eq (by omega)] at a1 a2
  have s1 := so.list _ (List.getElem_mem (show places l < sl.length by omega))
  have s2 := so.pairs _ (List.getElem_mem (show mi < sl.length by omega))
  have i1 : iaddrO 3 (.one v) (.one (.int .i64 (places l : Nat))) = some (.one (.ptr (some (elem 3 (.one v) (places l))))) := hs.out.iaddr hr1
  have i2 : iaddrO 3 (.one v) (.one (.int .i64 mi)) = some (.one (.ptr (some (elem 3 (.one v) mi)))) := hs.out.iaddr hr2
  simp +contextual (maxSteps := 2000000) only [go_sem, Nat.reduceEqDiff, reduceCtorEq, Nat.reduceAdd, Nat.reduceLeDiff, F57]
  refine wp_lit (enc := encI) (k := 1) (l := []) rfl rfl ?_
  intro h1 w1 g1 n1 _
  simp +contextual (maxSteps := 2000000) only [go_sem, Nat.reduceEqDiff, reduceCtorEq, Nat.reduceAdd, Nat.reduceLeDiff]
  refine wp_lit (enc := encP) (k := 2) (l := []) rfl rfl ?_
  intro h2 w2 g2 n2 _
  have g := g1.trans g2
  have hl2 := hl.grow g
  have y2 := hs.grow g
  have f1 := y2.out.fieldO (off := 1) hr1 (by omega)
  rw [encY_1] at f1
  simp +contextual (maxSteps := 2000000) only [go_sem, Nat.reduceEqDiff, reduceCtorEq, Nat.reduceAdd, Nat.reduceLeDiff, c_kindAt _ _ _ _ hl2 sq, r2, m1, i1, f1]
  refine wp_append lenI (n1.grow g2) (a1.list.grow g) g (by simp; omega) ?_
  intro h3 s3 g3 n3 st3 hb3
  obtain ⟨c, rfl⟩ := n3.one
  have sep1 : ∀ {α : Type} {enc : α → List CV} {k ty : Nat} {u : AV} {m : List α}, Sl enc k ty h u m → ∀ i, baseOf u = some i → baseOf w1 ≠ some i := fun s i hi e => by
    have := s.lt_of hi
    have := (n1.lt e).2
    omega
  have hl3 := hl.grow g3
  have y3 := hs.grow g3
  have m2' := (n2.stay st3 (n1.apart n2).symm).from g1.n
  have f2 := y3.out.fieldO (off := 2) hr2 (by omega)
  rw [encY_2] at f2
  simp +contextual (maxSteps := 2000000) only [go_sem, Nat.reduceEqDiff, reduceCtorEq, Nat.reduceAdd, Nat.reduceLeDiff, c_kindAt _ _ _ _ hl3 sq, r2, m1, i2, f2]
  refine wp_append lenP m2' (a2.pairs.grow g3) g3 (by simp; omega) ?_
  intro h4 s4 g4 n4 st4 hb4
  obtain ⟨d, rfl⟩ := n4.one
  have sp : Sep (.one c) w2 := fun i hi hw => by
    rcases hb3 i hi with e | e
    · exact n1.apart n2 i e hw
    · have := (n2.lt hw).1
      omega
  have z : NwF h h4 c d ⟨(sl[places l]'(by omega)).list, (sl[mi]'(by omega)).pairs⟩ := ⟨(by simpa using n3.stay st4 sp), (by simpa using n4), fun i hi hd => by
    rcases hb4 i hd with e | e
    · exact sp i hi e
    · have := (n3.lt hi).1
      omega⟩
  simp +contextual (maxSteps := 2000000) only [go_sem, Nat.reduceEqDiff, reduceCtorEq, Nat.reduceAdd, Nat.reduceLeDiff]
  exact gcK_of ⟨g4, _, _, rfl, z⟩ (fun hs _ => ⟨Grow.refl h, _, _, rfl, z.scalar hs h⟩)
/-! spec.PassedFlat -/
def L22_0 : List AStep := [⟨.alloc 39 [(.sl none 0 (some 0)), (.sl none 0 (some 0))], (some 4), none, []⟩, ⟨.mov (.c (.bool false)), (some 5), none, []⟩]
theorem v22_0 : VS L22_0.eq_1 := rfl
def L22_1 : List AStep := ⟨.box 36 (.t 0), (some 2), none, []⟩ :: ⟨.box 39 (.t 1), (some 3), none, []⟩ :: L22_0
theorem v22_1 : VS L22_1.eq_1 := rfl
def L22_2 : List AStep := [⟨.mov (.t 13), (some 7), none, []⟩]
theorem v22_2 : VS L22_2.eq_1 := rfl
def L22_3 : List AStep := ⟨.alloc 75 [(.sl none 0 (some 0))], (some 6), none, []⟩ :: ⟨.store 1 (.t 6) (.t 12), none, none, []⟩ :: L22_2
theorem v22_3 : VS L22_3.eq_1 := rfl
def L22_4 : List AStep := ⟨.extract (.t 8) 0, (some 12), none, []⟩ :: ⟨.extract (.t 8) 1, (some 13), none, []⟩ :: L22_3
theorem v22_4 : VS L22_4.eq_1 := rfl
def L22_5 : List AStep := ⟨.call 55 [(.t 9), (.t 10)], (some 11), none, []⟩ :: ⟨.mov (.t 11), (some 8), none, []⟩ :: L22_4
theorem v22_5 : VS L22_5.eq_1 := rfl
def L22_6 : List AStep := ⟨.load 1 true (.t 2), (some 9), none, []⟩ :: ⟨.load 2 true (.t 3), (some 10), none, []⟩ :: L22_5
theorem v22_6 : VS L22_6.eq_1 := rfl
def L22_7 : List AStep := [⟨.pick (.t 17) (.c (.bool true)) (.t 19), (some 20), none, []⟩]
theorem v22_7 : VS L22_7.eq_1 := rfl
def L22_8 : List AStep := ⟨.mov (.t 7), (some 18), (some (17, false)), []⟩ :: ⟨.not (.t 18), (some 19), (some (17, false)), []⟩ :: L22_7
theorem v22_8 : VS L22_8.eq_1 := rfl
def L22_9 : List AStep := ⟨.not (.t 15), (some 16), none, []⟩ :: ⟨.mov (.t 16), (some 17), none, []⟩ :: L22_8
theorem v22_9 : VS L22_9.eq_1 := rfl
def L22_10 : List AStep := ⟨.load 1 true (.t 2), (some 14), none, []⟩ :: ⟨.call 56 [(.t 14)], (some 15), none, []⟩ :: L22_9
theorem v22_10 : VS L22_10.eq_1 := rfl
def L22_11 : List AStep := [⟨.mov (.c (.bool false)), (some 5), none, []⟩]
theorem v22_11 : VS L22_11.eq_1 := rfl
def L22_12 : List AStep := ⟨.build [(.sl none 0 (some 0)), (.sl none 0 (some 0))] [], (some 21), none, []⟩ :: ⟨.store 2 (.t 4) (.t 21), none, none, []⟩ :: L22_11
theorem v22_12 : VS L22_12.eq_1 := rfl
def L22_13 : List AStep := [⟨.mov (.c (.bool true)), (some 5), none, []⟩]
theorem v22_13 : VS L22_13.eq_1 := rfl
def L22_14 : List AStep := ⟨.call 57 [(.t 22), (.t 23)], (some 24), none, []⟩ :: ⟨.store 2 (.t 4) (.t 24), none, none, []⟩ :: L22_13
theorem v22_14 : VS L22_14.eq_1 := rfl
def L22_15 : List AStep := ⟨.load 1 true (.t 2), (some 22), none, []⟩ :: ⟨.load 1 true (.t 6), (some 23), none, []⟩ :: L22_14
theorem v22_15 : VS L22_15.eq_1 := rfl
def C22_0 : ACode := .seq (.reg L22_12) .ret
theorem u22_0 : VC C22_0.eq_1 := rfl
def C22_1 : ACode := .cond (.t 20) C22_0 .skip
theorem u22_1 : VC C22_1.eq_1 := rfl
def C22_2 : ACode := .seq (.reg L22_10) C22_1
theorem u22_2 : VC C22_2.eq_1 := rfl
def C22_3 : ACode := .seq (.reg L22_15) .ret
theorem u22_3 : VC C22_3.eq_1 := rfl
def C22_4 : ACode := .seq C22_2 C22_3
theorem u22_4 : VC C22_4.eq_1 := rfl
def C22_5 : ACode := .seq (.reg L22_6) C22_4
theorem u22_5 : VC C22_5.eq_1 := rfl
def C22_6 : ACode := .seq (.reg L22_1) C22_5
theorem u22_6 : VC C22_6.eq_1 := rfl
def F22 : AFunc := ⟨25, [.cell 4 2 true, .tmp 5], C22_6⟩
theorem cF22 : compB Try.prog 22 = some F22 := by kernel_rfl
attribute [local go_sem ↓] u22_0 u22_1 u22_2 u22_3 u22_4 u22_5 u22_6 v22_0 v22_1 v22_2 v22_3 v22_4 v22_5 v22_6 v22_7 v22_8 v22_9 v22_10 v22_11 v22_12 v22_13 v22_14 v22_15
theorem k_sPassedFlat (l : List Param) (f : Flat) (q p n : CV) (h : H) (hl : SlG h q l) (hf : SlF h p n f) (hn : miniG l) (hm : miniF f) :
    callK (bm Try.prog 22 [.agg [q], .agg [p, n]] h) fun r h' => Grow h h' ∧ ∃ p' n', r = .tup [.agg [p', n'], .one (.bool (passOk l f))] ∧ NwF h h' p' n' (passF l f) := by
  refine bm_of cF22 ?_
  simp +contextual (maxSteps := 2000000) only [go_sem, Nat.reduceEqDiff, reduceCtorEq, Nat.reduceAdd, Nat.reduceLeDiff, F22]
  refine wp_call (k_sBind l f q p n h hl hf hn hm) ?_
  rintro r h1 ⟨g1, v, rs, rfl, x⟩
  have wr := c_isWrapper l q h1 (hl.grow g1) hn
  unfold passF passOk
  unfold bindF at x
  cases b1 : isWrap l with
  | false =>
    rw [b1] at wr
    simp +contextual (maxSteps := 2000000) only [go_sem, Nat.reduceEqDiff, reduceCtorEq, Nat.reduceAdd, Nat.reduceLeDiff, wr, Bool.and_false, if_false]
    exact gcK_of ⟨g1, _, _, rfl, .nil⟩ (fun hs _ => ⟨Grow.refl h, _, _, rfl, .nil⟩)
  | true =>
  rw [b1] at wr
  cases b2 : acceptsF l f with
  | false =>
    simp +contextual (maxSteps := 2000000) only [go_sem, Nat.reduceEqDiff, reduceCtorEq, Nat.reduceAdd, Nat.reduceLeDiff, wr, b2, Bool.and_true, if_false]
    exact gcK_of ⟨g1, _, _, rfl, .nil⟩ (fun hs _ => ⟨Grow.refl h, _, _, rfl, .nil⟩)
  | true =>
    rw [if_pos b2] at x
    obtain ⟨ok1, ok2⟩ := fits_ok (accepts_fits b2)
    simp +contextual (maxSteps := 2000000) only [go_sem, Nat.reduceEqDiff, reduceCtorEq, Nat.reduceAdd, Nat.reduceLeDiff, wr, b2, Bool.and_true, if_true]
    refine wp_call (c_passed l (boundS l f) rs q v h1 (hl.out.grow g1) ok1 b1 x.out.rd boundS_len (SOk.bound ok2)) ?_
    rintro r h2 ⟨g2, p', n', rfl, x2⟩
    have x3 := x2.from g1.n
    simp +contextual (maxSteps := 2000000) only [go_sem, Nat.reduceEqDiff, reduceCtorEq, Nat.reduceAdd, Nat.reduceLeDiff]
    exact gcK_of ⟨g1.trans g2, _, _, rfl, x3⟩ (fun hs _ => ⟨Grow.refl h, _, _, rfl, x3.scalar (by simpa [AV.scalar, AV.scalars, CV.scalar] using hs) h⟩)
/-! impl.PassedFlat -/
def L25_0 : List AStep := [⟨.alloc 39 [(.sl none 0 (some 0)), (.sl none 0 (some 0))], (some 4), none, []⟩, ⟨.mov (.c (.bool false)), (some 5), none, []⟩]
theorem v25_0 : VS L25_0.eq_1 := rfl
def L25_1 : List AStep := ⟨.box 36 (.t 0), (some 2), none, []⟩ :: ⟨.box 39 (.t 1), (some 3), none, []⟩ :: L25_0
theorem v25_1 : VS L25_1.eq_1 := rfl
def L25_2 : List AStep := [⟨.mov (.t 16), (some 7), none, []⟩]
theorem v25_2 : VS L25_2.eq_1 := rfl
def L25_3 : List AStep := ⟨.alloc 75 [(.sl none 0 (some 0))], (some 6), none, []⟩ :: ⟨.store 1 (.t 6) (.t 15), none, none, []⟩ :: L25_2
theorem v25_3 : VS L25_3.eq_1 := rfl
def L25_4 : List AStep := ⟨.extract (.t 11) 0, (some 15), none, []⟩ :: ⟨.extract (.t 11) 1, (some 16), none, []⟩ :: L25_3
theorem v25_4 : VS L25_4.eq_1 := rfl
def L25_5 : List AStep := ⟨.call 61 [(.t 12), (.t 13)], (some 14), none, []⟩ :: ⟨.mov (.t 14), (some 11), none, []⟩ :: L25_4
theorem v25_5 : VS L25_5.eq_1 := rfl
def L25_6 : List AStep := ⟨.load 1 true (.t 2), (some 12), none, []⟩ :: ⟨.load 2 true (.t 3), (some 13), none, []⟩ :: L25_5
theorem v25_6 : VS L25_6.eq_1 := rfl
def L25_7 : List AStep := [⟨.pick (.t 19) (.c (.bool true)) (.t 22), (some 23), none, []⟩]
theorem v25_7 : VS L25_7.eq_1 := rfl
def L25_8 : List AStep := ⟨.call 62 [(.t 20)], (some 21), (some (19, false)), []⟩ :: ⟨.not (.t 21), (some 22), (some (19, false)), []⟩ :: L25_7
theorem v25_8 : VS L25_8.eq_1 := rfl
def L25_9 : List AStep := ⟨.mov (.t 18), (some 19), none, []⟩ :: ⟨.load 1 true (.t 2), (some 20), (some (19, false)), []⟩ :: L25_8
theorem v25_9 : VS L25_9.eq_1 := rfl
def L25_10 : List AStep := ⟨.mov (.t 7), (some 17), none, []⟩ :: ⟨.not (.t 17), (some 18), none, []⟩ :: L25_9
theorem v25_10 : VS L25_10.eq_1 := rfl
def L25_11 : List AStep := [⟨.mov (.c (.bool false)), (some 5), none, []⟩]
theorem v25_11 : VS L25_11.eq_1 := rfl
def L25_12 : List AStep := ⟨.build [(.sl none 0 (some 0)), (.sl none 0 (some 0))] [], (some 24), none, []⟩ :: ⟨.store 2 (.t 4) (.t 24), none, none, []⟩ :: L25_11
theorem v25_12 : VS L25_12.eq_1 := rfl
def L25_13 : List AStep := [⟨.alloc 39 [(.sl none 0 (some 0)), (.sl none 0 (some 0))], (some 8), none, []⟩]
theorem v25_13 : VS L25_13.eq_1 := rfl
def L25_14 : List AStep := [⟨.len (.t 26), (some 27), none, []⟩, ⟨.mov (.c (.int .i64 0)), (some 28), none, []⟩]
theorem v25_14 : VS L25_14.eq_1 := rfl
def L25_15 : List AStep := ⟨.faddr 0 (.t 2), (some 25), none, []⟩ :: ⟨.load 1 false (.t 25), (some 26), none, []⟩ :: L25_14
theorem v25_15 : VS L25_15.eq_1 := rfl
def L25_16 : List AStep := [⟨.bin .lss (.t 28) (.t 27), (some 29), none, []⟩]
theorem v25_16 : VS L25_16.eq_1 := rfl
def L25_17 : List AStep := [⟨.mov (.t 30), (some 9), none, []⟩, ⟨.store 4 (.t 10) (.t 32), none, none, []⟩]
theorem v25_17 : VS L25_17.eq_1 := rfl
def L25_18 : List AStep := ⟨.load 4 true (.t 31), (some 32), none, []⟩ :: ⟨.alloc 81 [(.str (strOfNums [])), (.int .i64 0), (.bool false), (.int .i64 0)], (some 10), none, []⟩ :: L25_17
theorem v25_18 : VS L25_18.eq_1 := rfl
def L25_19 : List AStep := ⟨.mov (.t 28), (some 30), none, []⟩ :: ⟨.iaddr 4 (.t 26) (.t 28), (some 31), none, []⟩ :: L25_18
theorem v25_19 : VS L25_19.eq_1 := rfl
def L25_20 : List AStep := [⟨.faddr 1 (.t 10), (some 33), none, []⟩, ⟨.load 1 false (.t 33), (some 34), none, []⟩]
theorem v25_20 : VS L25_20.eq_1 := rfl
def L25_21 : List AStep := [⟨.bin .eql (.t 34) (.c (.int .i64 2)), (some 36), none, []⟩, ⟨.mov (.t 36), (some 35), none, []⟩]
theorem v25_21 : VS L25_21.eq_1 := rfl
def L25_22 : List AStep := [⟨.faddr 0 (.t 8), (some 43), none, []⟩, ⟨.store 1 (.t 43) (.t 42), none, none, []⟩]
theorem v25_22 : VS L25_22.eq_1 := rfl
def L25_23 : List AStep := ⟨.faddr 1 (.t 40), (some 41), none, []⟩ :: ⟨.load 1 false (.t 41), (some 42), none, []⟩ :: L25_22
theorem v25_23 : VS L25_23.eq_1 := rfl
def L25_24 : List AStep := ⟨.mov (.t 9), (some 39), none, []⟩ :: ⟨.iaddr 3 (.t 38) (.t 39), (some 40), none, []⟩ :: L25_23
theorem v25_24 : VS L25_24.eq_1 := rfl
def L25_25 : List AStep := ⟨.faddr 0 (.t 6), (some 37), none, []⟩ :: ⟨.load 1 false (.t 37), (some 38), none, []⟩ :: L25_24
theorem v25_25 : VS L25_25.eq_1 := rfl
def L25_26 : List AStep := [⟨.bin .eql (.t 34) (.c (.int .i64 4)), (some 45), none, []⟩, ⟨.mov (.t 45), (some 44), none, []⟩]
theorem v25_26 : VS L25_26.eq_1 := rfl
def L25_27 : List AStep := [⟨.faddr 1 (.t 8), (some 52), none, []⟩, ⟨.store 1 (.t 52) (.t 51), none, none, []⟩]
theorem v25_27 : VS L25_27.eq_1 := rfl
def L25_28 : List AStep := ⟨.faddr 2 (.t 49), (some 50), none, []⟩ :: ⟨.load 1 false (.t 50), (some 51), none, []⟩ :: L25_27
theorem v25_28 : VS L25_28.eq_1 := rfl
def L25_29 : List AStep := ⟨.mov (.t 9), (some 48), none, []⟩ :: ⟨.iaddr 3 (.t 47) (.t 48), (some 49), none, []⟩ :: L25_28
theorem v25_29 : VS L25_29.eq_1 := rfl
def L25_30 : List AStep := ⟨.faddr 0 (.t 6), (some 46), none, []⟩ :: ⟨.load 1 false (.t 46), (some 47), none, []⟩ :: L25_29
theorem v25_30 : VS L25_30.eq_1 := rfl
def L25_31 : List AStep := [⟨.bin .add (.t 28) (.c (.int .i64 1)), (some 53), none, []⟩, ⟨.mov (.t 53), (some 28), none, []⟩]
theorem v25_31 : VS L25_31.eq_1 := rfl
def L25_32 : List AStep := [⟨.store 2 (.t 4) (.t 55), none, none, []⟩, ⟨.mov (.c (.bool true)), (some 5), none, []⟩]
theorem v25_32 : VS L25_32.eq_1 := rfl
def L25_33 : List AStep := ⟨.load 2 true (.t 8), (some 54), none, []⟩ :: ⟨.call 63 [(.t 54)], (some 55), none, []⟩ :: L25_32
theorem v25_33 : VS L25_33.eq_1 := rfl
def C25_0 : ACode := .seq (.reg L25_12) .ret
theorem u25_0 : VC C25_0.eq_1 := rfl
def C25_1 : ACode := .cond (.t 23) C25_0 .skip
theorem u25_1 : VC C25_1.eq_1 := rfl
def C25_2 : ACode := .seq (.reg L25_10) C25_1
theorem u25_2 : VC C25_2.eq_1 := rfl
def C25_3 : ACode := .cond (.t 29) .skip (.exit 0)
theorem u25_3 : VC C25_3.eq_1 := rfl
def C25_4 : ACode := .cond (.t 44) (.reg L25_30) .skip
theorem u25_4 : VC C25_4.eq_1 := rfl
def C25_5 : ACode := .seq (.reg L25_26) C25_4
theorem u25_5 : VC C25_5.eq_1 := rfl
def C25_6 : ACode := .cond (.t 35) (.reg L25_25) C25_5
theorem u25_6 : VC C25_6.eq_1 := rfl
def C25_7 : ACode := .seq (.reg L25_21) C25_6
theorem u25_7 : VC C25_7.eq_1 := rfl
def C25_8 : ACode := .block 2 C25_7
theorem u25_8 : VC C25_8.eq_1 := rfl
def C25_9 : ACode := .seq (.reg L25_20) C25_8
theorem u25_9 : VC C25_9.eq_1 := rfl
def C25_10 : ACode := .seq (.reg L25_19) C25_9
theorem u25_10 : VC C25_10.eq_1 := rfl
def C25_11 : ACode := .block 1 C25_10
theorem u25_11 : VC C25_11.eq_1 := rfl
def C25_12 : ACode := .seq C25_11 (.reg L25_31)
theorem u25_12 : VC C25_12.eq_1 := rfl
def C25_13 : ACode := .seq C25_3 C25_12
theorem u25_13 : VC C25_13.eq_1 := rfl
def C25_14 : ACode := .seq (.reg L25_16) C25_13
theorem u25_14 : VC C25_14.eq_1 := rfl
def C25_15 : ACode := .block 0 (.loop C25_14)
theorem u25_15 : VC C25_15.eq_1 := rfl
def C25_16 : ACode := .seq (.reg L25_15) C25_15
theorem u25_16 : VC C25_16.eq_1 := rfl
def C25_17 : ACode := .seq (.reg L25_33) .ret
theorem u25_17 : VC C25_17.eq_1 := rfl
def C25_18 : ACode := .seq C25_16 C25_17
theorem u25_18 : VC C25_18.eq_1 := rfl
def C25_19 : ACode := .seq (.reg L25_13) C25_18
theorem u25_19 : VC C25_19.eq_1 := rfl
def C25_20 : ACode := .seq C25_2 C25_19
theorem u25_20 : VC C25_20.eq_1 := rfl
def C25_21 : ACode := .seq (.reg L25_6) C25_20
theorem u25_21 : VC C25_21.eq_1 := rfl
def C25_22 : ACode := .seq (.reg L25_1) C25_21
theorem u25_22 : VC C25_22.eq_1 := rfl
def F25 : AFunc := ⟨56, [.cell 4 2 true, .tmp 5], C25_22⟩
theorem cF25 : compB Try.prog 25 = some F25 := by kernel_rfl
attribute [local go_sem ↓] u25_0 u25_1 u25_2 u25_3 u25_4 u25_5 u25_6 u25_7 u25_8 u25_9 u25_10 u25_11 u25_12 u25_13 u25_14 u25_15 u25_16 u25_17 u25_18 u25_19 u25_20 u25_21 u25_22 v25_0 v25_1 v25_2 v25_3 v25_4 v25_5 v25_6 v25_7 v25_8 v25_9 v25_10 v25_11 v25_12 v25_13 v25_14 v25_15 v25_16 v25_17 v25_18 v25_19 v25_20 v25_21 v25_22 v25_23 v25_24 v25_25 v25_26 v25_27 v25_28 v25_29 v25_30 v25_31 v25_32 v25_33
theorem k_iPassedFlat (l : List Param) (f : Flat) (q p n : CV) (h : H) (hl : SlG h q l) (hf : SlF h p n f) (hn : miniG l) (hm : miniF f) :
    callK (bm Try.prog 25 [.agg [q], .agg [p, n]] h) fun r h' => Grow h h' ∧ ∃ p' n', r = .tup [.agg [p', n'], .one (.bool (passOk l f))] ∧ NwF h h' p' n' (passF l f) := by
  refine bm_of cF25 ?_
  simp +contextual (maxSteps := 2000000) only [go_sem, Nat.reduceEqDiff, reduceCtorEq, Nat.reduceAdd, Nat.reduceLeDiff, F25]
  refine wp_call (k_iBind l f q p n h hl hf hn hm) ?_
  rintro r h1 ⟨g1, v, rs, rfl, x⟩
  have wr := c_IsWrapper l q h1 (hl.grow g1) hn
  unfold passF passOk
  unfold bindF at x
  cases b2 : acceptsF l f with
  | false =>
    simp +contextual (maxSteps := 2000000) only [go_sem, Nat.reduceEqDiff, reduceCtorEq, Nat.reduceAdd, Nat.reduceLeDiff, b2, Bool.false_and, if_false]
    exact gcK_of ⟨g1, _, _, rfl, .nil⟩ (fun hs _ => ⟨Grow.refl h, _, _, rfl, .nil⟩)
  | true =>
  cases b1 : isWrap l with
  | false =>
    rw [b1] at wr
    simp +contextual (maxSteps := 2000000) only [go_sem, Nat.reduceEqDiff, reduceCtorEq, Nat.reduceAdd, Nat.reduceLeDiff, b2, wr, Bool.and_false, if_false]
    exact gcK_of ⟨g1, _, _, rfl, .nil⟩ (fun hs _ => ⟨Grow.refl h, _, _, rfl, .nil⟩)
  | true =>
  rw [b1] at wr
  rw [if_pos b2] at x
  obtain ⟨ok1, ok2⟩ := fits_ok (accepts_fits b2)
  have o := Ord.of ok1
  have k := hl.out.grow g1
  have y := x.out.rd
  have hn8 := okSig_len ok1
  simp +contextual (maxSteps := 2000000) only [go_sem, Nat.reduceEqDiff, reduceCtorEq, Nat.reduceAdd, Nat.reduceLeDiff, b2, wr, Bool.and_true, if_true, k.len]
  refine wpC_loop (fun i T L h' => h' = h1 ∧ T 4 = .lp 4 0 ∧ (L 4).2 = [.sl none 0 (some 0), .sl none 0 (some 0)] ∧ T 6 = .lp 6 0 ∧ (L 6).2 = [v] ∧ T 8 = .lp 8 0 ∧ (∃ c d, (L 8).2 = [c, d] ∧ SlI h1 (.one c) (passT l (boundS l f) i).pl ∧ SlP h1 (.one d) (passT l (boundS l f) i).nl) ∧ T 26 = .v (.one q) ∧ T 27 = .v (.one (.int .i64 l.length)) ∧ T 28 = .v (.one (.int .i64 i))) l.length ?_ ?_ (Nat.zero_le _) ?_
  · rintro i T L h' hi ⟨rfl, t4, l4, t6, l6, t8, ⟨c, d, l8, s1, s2⟩, t26, t27, t28⟩
    have hsl : i < (boundS l f).length := by rw [boundS_len]; exact hi
    have hrs : i < rs.length := by rw [y.len]; exact hsl
    have ye := y.el i hrs
    rw [getY_eq hsl] at ye
    have yi : iaddrO 3 (.one v) (.one (.int .i64 i)) = some (.one (.ptr (some (elem 3 (.one v) i)))) := y.out.iaddr hrs
    have f1 := y.out.fieldO (off := 1) hrs (by omega)
    have f2 := y.out.fieldO (off := 2) hrs (by omega)
    rw [encY_1] at f1
    rw [encY_2] at f2
    by_cases k2 : l[i].kind = 2
    · rw [passT_rest o hi hsl k2]
      simp +contextual (maxSteps := 2000000) only [go_sem, Nat.reduceEqDiff, reduceCtorEq, Nat.reduceAdd, Nat.reduceLeDiff, t4, l4, t6, l6, t8, l8, t26, t27, t28, k.iaddr hi, k.whole hi, encQ, lt_true hi, decide_eq_true k2, yi, f1]
      exact ⟨⟨_, _, rfl, ye.list, s2⟩, by rw [wrap_next hi (by omega)]⟩
    by_cases k4 : l[i].kind = 4
    · rw [passT_map o hi hsl k4]
      simp +contextual (maxSteps := 2000000) only [go_sem, Nat.reduceEqDiff, reduceCtorEq, Nat.reduceAdd, Nat.reduceLeDiff, t4, l4, t6, l6, t8, l8, t26, t27, t28, k.iaddr hi, k.whole hi, encQ, lt_true hi, decide_eq_false k2, decide_eq_true k4, yi, f2]
      exact ⟨⟨_, _, rfl, s1, ye.pairs⟩, by rw [wrap_next hi (by omega)]⟩
    rw [passT_else o hi k2 k4]
    simp +contextual (maxSteps := 2000000) only [go_sem, Nat.reduceEqDiff, reduceCtorEq, Nat.reduceAdd, Nat.reduceLeDiff, t4, l4, t6, l6, t8, l8, t26, t27, t28, k.iaddr hi, k.whole hi, encQ, lt_true hi, decide_eq_false k2, decide_eq_false k4]
    exact ⟨⟨_, _, rfl, s1, s2⟩, by rw [wrap_next hi (by omega)]⟩
  · rintro T L h' ⟨rfl, t4, l4, t6, l6, t8, ⟨c, d, l8, s1, s2⟩, t26, t27, t28⟩
    have okp : okFlat (passT l (boundS l f) l.length) = true := passT_ok ok1 ok2
    simp +contextual (maxSteps := 2000000) only [go_sem, Nat.reduceEqDiff, reduceCtorEq, Nat.reduceAdd, Nat.reduceLeDiff, t4, l4, t6, l6, t8, l8, t26, t27, t28, lt_false]
    refine wp_call (c_copyOfF (passT l (boundS l f) l.length) c d _ ⟨s1, s2⟩ (miniF.of okp).sm) ?_
    rintro r h5 ⟨g5, p', n', rfl, x5⟩
    have x6 := x5.from g1.n
    simp +contextual (maxSteps := 2000000) only [go_sem, Nat.reduceEqDiff, reduceCtorEq, Nat.reduceAdd, Nat.reduceLeDiff, t4, l4]
    exact gcK_of ⟨g1.trans g5, _, _, rfl, x6⟩ (fun hs _ => ⟨Grow.refl h, _, _, rfl, x6.scalar (by simpa [AV.scalar, AV.scalars, CV.scalar] using hs) h⟩)
  · rw [passT_zero]
    simp +contextual (maxSteps := 2000000) only [go_sem, Nat.reduceEqDiff, reduceCtorEq, Nat.reduceAdd, Nat.reduceLeDiff]
    exact ⟨⟨_, _, rfl, Sl.nil lenI, Sl.nil lenP⟩, rfl⟩
theorem wrapAcc_of {l m : List Param} {f : Flat} (h : passOk l f = true) : acceptsF m (passF l f) = (okSig m && (wrong m (passF l f)).isEmpty) := by
  obtain ⟨ok1, ok2⟩ := pass_fits h
  have okp : okFlat (passF l f) = true := by unfold passF; rw [if_pos h]; exact passT_ok ok1 ok2
  unfold acceptsF fits
  rw [okp, Bool.and_true]
/-! spec.AcceptsWrapped -/
def L31_0 : List AStep := [⟨.box 39 (.t 2), (some 5), none, []⟩, ⟨.mov (.c (.bool false)), (some 6), none, []⟩]
theorem v31_0 : VS L31_0.eq_1 := rfl
def L31_1 : List AStep := ⟨.box 36 (.t 0), (some 3), none, []⟩ :: ⟨.box 36 (.t 1), (some 4), none, []⟩ :: L31_0
theorem v31_1 : VS L31_1.eq_1 := rfl
def L31_2 : List AStep := [⟨.mov (.t 14), (some 8), none, []⟩]
theorem v31_2 : VS L31_2.eq_1 := rfl
def L31_3 : List AStep := ⟨.alloc 39 [(.sl none 0 (some 0)), (.sl none 0 (some 0))], (some 7), none, []⟩ :: ⟨.store 2 (.t 7) (.t 13), none, none, []⟩ :: L31_2
theorem v31_3 : VS L31_3.eq_1 := rfl
def L31_4 : List AStep := ⟨.extract (.t 9) 0, (some 13), none, []⟩ :: ⟨.extract (.t 9) 1, (some 14), none, []⟩ :: L31_3
theorem v31_4 : VS L31_4.eq_1 := rfl
def L31_5 : List AStep := ⟨.call 22 [(.t 10), (.t 11)], (some 12), none, []⟩ :: ⟨.mov (.t 12), (some 9), none, []⟩ :: L31_4
theorem v31_5 : VS L31_5.eq_1 := rfl
def L31_6 : List AStep := ⟨.load 1 true (.t 3), (some 10), none, []⟩ :: ⟨.load 2 true (.t 5), (some 11), none, []⟩ :: L31_5
theorem v31_6 : VS L31_6.eq_1 := rfl
def L31_7 : List AStep := [⟨.mov (.t 24), (some 6), none, []⟩]
theorem v31_7 : VS L31_7.eq_1 := rfl
def L31_8 : List AStep := ⟨.call 70 [(.t 21), (.t 22)], (some 23), (some (20, true)), []⟩ :: ⟨.pick (.t 20) (.t 23) (.c (.bool false)), (some 24), none, []⟩ :: L31_7
theorem v31_8 : VS L31_8.eq_1 := rfl
def L31_9 : List AStep := ⟨.load 1 true (.t 4), (some 21), (some (20, true)), []⟩ :: ⟨.load 2 true (.t 7), (some 22), (some (20, true)), []⟩ :: L31_8
theorem v31_9 : VS L31_9.eq_1 := rfl
def L31_10 : List AStep := ⟨.pick (.t 16) (.t 18) (.c (.bool false)), (some 19), none, []⟩ :: ⟨.mov (.t 19), (some 20), none, []⟩ :: L31_9
theorem v31_10 : VS L31_10.eq_1 := rfl
def L31_11 : List AStep := ⟨.load 1 true (.t 4), (some 17), (some (16, true)), []⟩ :: ⟨.call 69 [(.t 17)], (some 18), (some (16, true)), []⟩ :: L31_10
theorem v31_11 : VS L31_11.eq_1 := rfl
def L31_12 : List AStep := ⟨.mov (.t 8), (some 15), none, []⟩ :: ⟨.mov (.t 15), (some 16), none, []⟩ :: L31_11
theorem v31_12 : VS L31_12.eq_1 := rfl
def C31_0 : ACode := .seq (.reg L31_12) .ret
theorem u31_0 : VC C31_0.eq_1 := rfl
def C31_1 : ACode := .seq (.reg L31_6) C31_0
theorem u31_1 : VC C31_1.eq_1 := rfl
def C31_2 : ACode := .seq (.reg L31_1) C31_1
theorem u31_2 : VC C31_2.eq_1 := rfl
def F31 : AFunc := ⟨25, [.tmp 6], C31_2⟩
theorem cF31 : compB Try.prog 31 = some F31 := by kernel_rfl
attribute [local go_sem ↓] u31_0 u31_1 u31_2 v31_0 v31_1 v31_2 v31_3 v31_4 v31_5 v31_6 v31_7 v31_8 v31_9 v31_10 v31_11 v31_12
theorem k_sAcceptsWrapped (l m : List Param) (f : Flat) (q q2 p n : CV) (h : H) (hl : SlG h q l) (hi : SlG h q2 m) (hf : SlF h p n f) (hn : miniG l) (hn2 : miniG m) (hm : miniF f) : bm Try.prog 31 [.agg [q], .agg [q2], .agg [p, n]] h = some (ib (wrapAcc l m f), h) := by
  refine bm_eq cF31 ?_
  simp +contextual (maxSteps := 2000000) only [go_sem, Nat.reduceEqDiff, reduceCtorEq, Nat.reduceAdd, Nat.reduceLeDiff, F31]
  refine wp_call (k_sPassedFlat l f q p n h hl hf hn hm) ?_
  rintro r h1 ⟨g1, p', n', rfl, x⟩
  unfold wrapAcc
  cases b1 : passOk l f with
  | false =>
    simp +contextual (maxSteps := 2000000) only [go_sem, Nat.reduceEqDiff, reduceCtorEq, Nat.reduceAdd, Nat.reduceLeDiff, Bool.false_and]
    exact gcR_of g1 rfl ⟨rfl, rfl⟩
  | true =>
  rw [wrapAcc_of b1, Bool.true_and]
  obtain ⟨ok1, ok2⟩ := pass_fits b1
  have okp : okFlat (passF l f) = true := by unfold passF; rw [if_pos b1]; exact passT_ok ok1 ok2
  have vs := c_validSignature m q2 h1 (hi.out.grow g1) hn2.sm
  cases b2 : okSig m with
  | false =>
    rw [b2] at vs
    simp +contextual (maxSteps := 2000000) only [go_sem, Nat.reduceEqDiff, reduceCtorEq, Nat.reduceAdd, Nat.reduceLeDiff, vs, Bool.false_and]
    exact gcR_of g1 rfl ⟨rfl, rfl⟩
  | true =>
    rw [b2] at vs
    simp +contextual (maxSteps := 2000000) only [go_sem, Nat.reduceEqDiff, reduceCtorEq, Nat.reduceAdd, Nat.reduceLeDiff, vs, Bool.true_and, c_accepts m (passF l f) q2 p' n' h1 (hi.out.grow g1) x.sl b2 okp]
    exact gcR_of g1 rfl ⟨rfl, rfl⟩
/-! impl.AcceptsWrapped -/
def L32_0 : List AStep := [⟨.box 39 (.t 2), (some 5), none, []⟩, ⟨.mov (.c (.bool false)), (some 6), none, []⟩]
theorem v32_0 : VS L32_0.eq_1 := rfl
def L32_1 : List AStep := ⟨.box 36 (.t 0), (some 3), none, []⟩ :: ⟨.box 36 (.t 1), (some 4), none, []⟩ :: L32_0
theorem v32_1 : VS L32_1.eq_1 := rfl
def L32_2 : List AStep := [⟨.mov (.t 14), (some 8), none, []⟩]
theorem v32_2 : VS L32_2.eq_1 := rfl
def L32_3 : List AStep := ⟨.alloc 39 [(.sl none 0 (some 0)), (.sl none 0 (some 0))], (some 7), none, []⟩ :: ⟨.store 2 (.t 7) (.t 13), none, none, []⟩ :: L32_2
theorem v32_3 : VS L32_3.eq_1 := rfl
def L32_4 : List AStep := ⟨.extract (.t 9) 0, (some 13), none, []⟩ :: ⟨.extract (.t 9) 1, (some 14), none, []⟩ :: L32_3
theorem v32_4 : VS L32_4.eq_1 := rfl
def L32_5 : List AStep := ⟨.call 25 [(.t 10), (.t 11)], (some 12), none, []⟩ :: ⟨.mov (.t 12), (some 9), none, []⟩ :: L32_4
theorem v32_5 : VS L32_5.eq_1 := rfl
def L32_6 : List AStep := ⟨.load 1 true (.t 3), (some 10), none, []⟩ :: ⟨.load 2 true (.t 5), (some 11), none, []⟩ :: L32_5
theorem v32_6 : VS L32_6.eq_1 := rfl
def L32_7 : List AStep := [⟨.mov (.t 20), (some 6), none, []⟩]
theorem v32_7 : VS L32_7.eq_1 := rfl
def L32_8 : List AStep := ⟨.call 71 [(.t 17), (.t 18)], (some 19), (some (16, true)), []⟩ :: ⟨.pick (.t 16) (.t 19) (.c (.bool false)), (some 20), none, []⟩ :: L32_7
theorem v32_8 : VS L32_8.eq_1 := rfl
def L32_9 : List AStep := ⟨.load 1 true (.t 4), (some 17), (some (16, true)), []⟩ :: ⟨.load 2 true (.t 7), (some 18), (some (16, true)), []⟩ :: L32_8
theorem v32_9 : VS L32_9.eq_1 := rfl
def L32_10 : List AStep := ⟨.mov (.t 8), (some 15), none, []⟩ :: ⟨.mov (.t 15), (some 16), none, []⟩ :: L32_9
theorem v32_10 : VS L32_10.eq_1 := rfl
def C32_0 : ACode := .seq (.reg L32_10) .ret
theorem u32_0 : VC C32_0.eq_1 := rfl
def C32_1 : ACode := .seq (.reg L32_6) C32_0
theorem u32_1 : VC C32_1.eq_1 := rfl
def C32_2 : ACode := .seq (.reg L32_1) C32_1
theorem u32_2 : VC C32_2.eq_1 := rfl
def F32 : AFunc := ⟨21, [.tmp 6], C32_2⟩
theorem cF32 : compB Try.prog 32 = some F32 := by kernel_rfl
attribute [local go_sem ↓] u32_0 u32_1 u32_2 v32_0 v32_1 v32_2 v32_3 v32_4 v32_5 v32_6 v32_7 v32_8 v32_9 v32_10
theorem k_iAcceptsWrapped (l m : List Param) (f : Flat) (q q2 p n : CV) (h : H) (hl : SlG h q l) (hi : SlG h q2 m) (hf : SlF h p n f) (hn : miniG l) (hn2 : miniG m) (hm : miniF f) : bm Try.prog 32 [.agg [q], .agg [q2], .agg [p, n]] h = some (ib (wrapAcc l m f), h) := by
  refine bm_eq cF32 ?_
  simp +contextual (maxSteps := 2000000) only [go_sem, Nat.reduceEqDiff, reduceCtorEq, Nat.reduceAdd, Nat.reduceLeDiff, F32]
  refine wp_call (k_iPassedFlat l f q p n h hl hf hn hm) ?_
  rintro r h1 ⟨g1, p', n', rfl, x⟩
  unfold wrapAcc
  cases b1 : passOk l f with
  | false =>
    simp +contextual (maxSteps := 2000000) only [go_sem, Nat.reduceEqDiff, reduceCtorEq, Nat.reduceAdd, Nat.reduceLeDiff, Bool.false_and]
    exact gcR_of g1 rfl ⟨rfl, rfl⟩
  | true =>
    simp +contextual (maxSteps := 2000000) only [go_sem, Nat.reduceEqDiff, reduceCtorEq, Nat.reduceAdd, Nat.reduceLeDiff, Bool.true_and, k_iAccepts m (passF l f) q2 p' n' h1 (hi.grow g1) x.sl hn2 .pass]
    exact gcR_of g1 rfl ⟨rfl, rfl⟩
end Go.Proofs.Ytdalgphpacikkab.Am
