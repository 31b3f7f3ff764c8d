/- Contracts: signatures of wrappers, of the specification. -/
import Derived.Test.YtekkimfdcbgcoabPB
import Derived.Test.YtekkimfdcbgcoabWQ
namespace Go.Proofs.Ytekkimfdcbgcoab.Am
open Go
set_option maxRecDepth 100000
set_option maxHeartbeats 4000000
set_option linter.unusedSimpArgs false
set_option linter.unusedVariables false
attribute [local go_sem ↓] bv_t bv_c ev_t ev_c put_same put_ne put_none kill_at pro_at lb_same lb_ne start_zero start_succ wpC_seq wpC_reg wpC_cond wpC_block wpC_skip wpC_exit wpC_ret thenQ_normal thenQ_exit thenQ_ret inBlk_normal inBlk_exit inBlk_ret wpS_nil wpS_step wpS_again wpS_guard wpO_mov wpO_load wpO_faddr wpO_nilCheck wpO_pick wpO_build wpO_bin wpO_eqb wpO_eqst wpO_eqnil wpO_not wpO_conv wpO_bytesStr wpO_iaddr wpO_idxStr wpO_field wpO_extract wpO_len wpO_lenStr wpO_cap wpO_min wpO_slice wpO_sliceStr wpO_alloc wpO_box wpO_store wpO_call wpO_callv wpO_mkfn wpO_buildSlice wpO_mkslice wpO_append wpO_appz proA_nil proA_cons tmpX_nil tmpX_tmp tmpX_cell doneB_normal doneB_ret agK_cons agK_nil agK_guard agG_tt agG_ff agG_tf agG_ft agG_undef pureB_load results_one results_two results_nil resBs_cons resBs_nil resB_tmp resB_cell
attribute [local go_sem] kill_v kill_lp_ne kill_lp_same pro_v pro_lp_same pro_lp_ne av_v av_lp optB_some optX_some valX_eq ldX_lp ldX_v faX_lp faX_v ncX_lp ncX_ptr ncX_fn boxK_one boxK_agg stL_some stK_lp_one stK_lp_agg stK_v_one stK_v_agg proM_v proM_lp callG_mk callVG_mk callvK_fn fnG_mk ptrsA_nil ptrsA_cons callH_some whenA_true whenA_false guardH_tt guardH_ff guardH_tf guardH_ft guardH_undef agV_one agV_agg lenO_sl lenStrO_str notO_bool pickO_bool convO_int eqbO_bool eqnilO_sl extractO_tup capO_sl minO_int loadL_one loadL_all storeL_eq fillA_nil fillA_one fillA_agg nat_ge neg_ge nat_lt neg_lt buildO bin_add bin_sub bin_mul bin_eql bin_neq bin_lss bin_leq bin_gtr bin_geq str_eql str_neq str_lss str_leq str_gtr str_geq retK_some endK_mk gcK_same gcK_int gcK_bool tupO_one tupO_agg rdy_self ib ii Option.map_none Option.map_some Option.some.injEq exists_eq_left' exists_eq_left ne_eq not_false_eq_true if_true if_false List.map_cons List.map_nil List.getElem?_cons_zero List.getElem?_cons_succ List.length_cons List.length_nil List.take_succ_cons List.take_zero List.take_nil List.drop_succ_cons List.drop_zero List.drop_nil List.cons_append List.nil_append List.append_nil List.set_cons_zero List.set_cons_succ Nat.zero_add forall_const true_and and_true and_self Bool.false_eq_true false_implies true_implies implies_true Bool.not_true Bool.not_false Bool.not_eq_true' Bool.not_eq_false' beq_self_eq_true Bool.bne_true Bool.bne_false
attribute [local go_sem] lenI lenS lenP lenQ lenB lenL lenT encI_0 encS_0 encP_0 encP_1 encQ_0 encQ_1 encQ_2 encQ_3 encB_0 encB_1 encL_0 encL_1 encT_0 encT_1
attribute [local go_sem low] whenA_bool guardH_bool
/-! spec.ofKinds -/
def L95_0 : List AStep := [⟨.box 25 (.t 0), (some 3), none, []⟩, ⟨.mov (.c (.sl none 0 (some 0))), (some 6), none, []⟩]
theorem v95_0 : VS L95_0.eq_1 := rfl
def L95_1 : List AStep := [⟨.buildSlice 39 0 [(.str (strOfNums [])), (.int .i64 0), (.bool false), (.int .i64 0)] [], (some 9), none, []⟩, ⟨.mov (.t 9), (some 7), none, []⟩]
theorem v95_1 : VS L95_1.eq_1 := rfl
def L95_2 : List AStep := [⟨.mov (.c (.int .i64 0)), (some 8), none, []⟩]
theorem v95_2 : VS L95_2.eq_1 := rfl
def L95_3 : List AStep := [⟨.bin .lss (.t 10) (.t 13), (some 14), none, []⟩]
theorem v95_3 : VS L95_3.eq_1 := rfl
def L95_4 : List AStep := ⟨.load 1 false (.t 11), (some 12), none, []⟩ :: ⟨.len (.t 12), (some 13), none, []⟩ :: L95_3
theorem v95_4 : VS L95_4.eq_1 := rfl
def L95_5 : List AStep := ⟨.mov (.t 8), (some 10), none, []⟩ :: ⟨.faddr 0 (.t 3), (some 11), none, []⟩ :: L95_4
theorem v95_5 : VS L95_5.eq_1 := rfl
def L95_6 : List AStep := [⟨.bin .eql (.t 31) (.t 32), (some 33), (some (25, false)), []⟩, ⟨.pick (.t 25) (.c (.bool true)) (.t 33), (some 34), none, []⟩]
theorem v95_6 : VS L95_6.eq_1 := rfl
def L95_7 : List AStep := ⟨.load 1 false (.t 30), (some 31), (some (25, false)), []⟩ :: ⟨.mov (.t 2), (some 32), (some (25, false)), []⟩ :: L95_6
theorem v95_7 : VS L95_7.eq_1 := rfl
def L95_8 : List AStep := ⟨.iaddr 4 (.t 27) (.t 28), (some 29), (some (25, false)), []⟩ :: ⟨.faddr 1 (.t 29), (some 30), (some (25, false)), []⟩ :: L95_7
theorem v95_8 : VS L95_8.eq_1 := rfl
def L95_9 : List AStep := ⟨.load 1 false (.t 26), (some 27), (some (25, false)), []⟩ :: ⟨.mov (.t 8), (some 28), (some (25, false)), []⟩ :: L95_8
theorem v95_9 : VS L95_9.eq_1 := rfl
def L95_10 : List AStep := ⟨.mov (.t 24), (some 25), none, []⟩ :: ⟨.faddr 0 (.t 3), (some 26), (some (25, false)), []⟩ :: L95_9
theorem v95_10 : VS L95_10.eq_1 := rfl
def L95_11 : List AStep := ⟨.mov (.t 1), (some 23), none, []⟩ :: ⟨.bin .eql (.t 22) (.t 23), (some 24), none, []⟩ :: L95_10
theorem v95_11 : VS L95_11.eq_1 := rfl
def L95_12 : List AStep := ⟨.faddr 1 (.t 20), (some 21), none, []⟩ :: ⟨.load 1 false (.t 21), (some 22), none, []⟩ :: L95_11
theorem v95_12 : VS L95_12.eq_1 := rfl
def L95_13 : List AStep := ⟨.mov (.t 8), (some 19), none, []⟩ :: ⟨.iaddr 4 (.t 18) (.t 19), (some 20), none, []⟩ :: L95_12
theorem v95_13 : VS L95_13.eq_1 := rfl
def L95_14 : List AStep := ⟨.faddr 0 (.t 3), (some 17), none, []⟩ :: ⟨.load 1 false (.t 17), (some 18), none, []⟩ :: L95_13
theorem v95_14 : VS L95_14.eq_1 := rfl
def L95_15 : List AStep := [⟨.mov (.t 42), (some 7), none, []⟩]
theorem v95_15 : VS L95_15.eq_1 := rfl
def L95_16 : List AStep := ⟨.buildSlice 39 1 [(.str (strOfNums [])), (.int .i64 0), (.bool false), (.int .i64 0)] [(0, 4, (.t 40))], (some 41), none, []⟩ :: ⟨.append 39 4 40 (.t 35) (.t 41), (some 42), none, []⟩ :: L95_15
theorem v95_16 : VS L95_16.eq_1 := rfl
def L95_17 : List AStep := ⟨.iaddr 4 (.t 37) (.t 38), (some 39), none, []⟩ :: ⟨.load 4 true (.t 39), (some 40), none, []⟩ :: L95_16
theorem v95_17 : VS L95_17.eq_1 := rfl
def L95_18 : List AStep := ⟨.load 1 false (.t 36), (some 37), none, []⟩ :: ⟨.mov (.t 8), (some 38), none, []⟩ :: L95_17
theorem v95_18 : VS L95_18.eq_1 := rfl
def L95_19 : List AStep := ⟨.mov (.t 7), (some 35), none, []⟩ :: ⟨.faddr 0 (.t 3), (some 36), none, []⟩ :: L95_18
theorem v95_19 : VS L95_19.eq_1 := rfl
def L95_20 : List AStep := [⟨.mov (.t 16), (some 8), none, []⟩]
theorem v95_20 : VS L95_20.eq_1 := rfl
def L95_21 : List AStep := ⟨.mov (.t 8), (some 15), none, []⟩ :: ⟨.bin .add (.t 15) (.c (.int .i64 1)), (some 16), none, []⟩ :: L95_20
theorem v95_21 : VS L95_21.eq_1 := rfl
def L95_22 : List AStep := [⟨.mov (.t 7), (some 43), none, []⟩, ⟨.mov (.t 43), (some 6), none, []⟩]
theorem v95_22 : VS L95_22.eq_1 := rfl
def C95_0 : ACode := .cond (.t 14) .skip (.exit 0)
theorem u95_0 : VC C95_0.eq_1 := rfl
def C95_1 : ACode := .seq (.reg L95_5) C95_0
theorem u95_1 : VC C95_1.eq_1 := rfl
def C95_2 : ACode := .cond (.t 34) (.reg L95_19) .skip
theorem u95_2 : VC C95_2.eq_1 := rfl
def C95_3 : ACode := .seq (.reg L95_14) C95_2
theorem u95_3 : VC C95_3.eq_1 := rfl
def C95_4 : ACode := .block 1 C95_3
theorem u95_4 : VC C95_4.eq_1 := rfl
def C95_5 : ACode := .seq C95_4 (.reg L95_21)
theorem u95_5 : VC C95_5.eq_1 := rfl
def C95_6 : ACode := .seq C95_1 C95_5
theorem u95_6 : VC C95_6.eq_1 := rfl
def C95_7 : ACode := .block 0 (.loop C95_6)
theorem u95_7 : VC C95_7.eq_1 := rfl
def C95_8 : ACode := .seq (.reg L95_2) C95_7
theorem u95_8 : VC C95_8.eq_1 := rfl
def C95_9 : ACode := .seq (.reg L95_22) .ret
theorem u95_9 : VC C95_9.eq_1 := rfl
def C95_10 : ACode := .seq C95_8 C95_9
theorem u95_10 : VC C95_10.eq_1 := rfl
def C95_11 : ACode := .seq (.reg L95_1) C95_10
theorem u95_11 : VC C95_11.eq_1 := rfl
def C95_12 : ACode := .seq (.reg L95_0) C95_11
theorem u95_12 : VC C95_12.eq_1 := rfl
def F95 : AFunc := ⟨44, [.tmp 6], C95_12⟩
theorem cF95 : compB Try.prog 95 = some F95 := by kernel_rfl
attribute [local go_sem ↓] u95_0 u95_1 u95_2 u95_3 u95_4 u95_5 u95_6 u95_7 u95_8 u95_9 u95_10 u95_11 u95_12 v95_0 v95_1 v95_2 v95_3 v95_4 v95_5 v95_6 v95_7 v95_8 v95_9 v95_10 v95_11 v95_12 v95_13 v95_14 v95_15 v95_16 v95_17 v95_18 v95_19 v95_20 v95_21 v95_22
theorem c_ofKinds (l : List Param) (q : CV) (a b : Int) (h : H) (hl : SlG h q l) (hn : miniG l) : callK (bm Try.prog 95 [.agg [q], .one (.int .i64 a), .one (.int .i64 b)] h) fun r h' => Grow h h' ∧ NwQ h h' r (ofK l a b) := by
  refine bm_of cF95 ?_
  simp +contextual (maxSteps := 2000000) only [go_sem, Nat.reduceEqDiff, reduceCtorEq, Nat.reduceAdd, Nat.reduceLeDiff, F95]
  refine wp_lit (enc := encQ) (k := 4) (l := []) rfl rfl ?_
  intro h1 w g1 n1 _
  obtain ⟨w, rfl⟩ := n1.one
  simp +contextual (maxSteps := 2000000) only [go_sem, Nat.reduceEqDiff, reduceCtorEq, Nat.reduceAdd, Nat.reduceLeDiff]
  refine wpC_loop (fun i T L h' => Grow h h' ∧ T 1 = .v (.one (.int .i64 a)) ∧ T 2 = .v (.one (.int .i64 b)) ∧ T 3 = .lp 3 0 ∧ (L 3).2 = [q] ∧ (∃ w, T 7 = .v (.one w) ∧ NwQ h h' (.one w) (ofK (l.take i) a b)) ∧ T 8 = .v (.one (.int .i64 i))) l.length ?_ ?_ (Nat.zero_le _) ?_
  · rintro i T L h' hi ⟨gh, t1, t2, t3, l3, ⟨w, t7, z⟩, t8⟩
    have k := hl.out.grow gh
    have hlen := hn.len
    have zl : (ofK (l.take i) a b).length ≤ 1048576 := Nat.le_trans ofK_len (by rw [List.length_take]; omega)
    have en := ofK_next (a := a) (b := b) hi
    cases k1 : decide (l[i].kind = a) with
    | true =>
      rw [k1, Bool.true_or, if_pos rfl] at en
      simp +contextual (maxSteps := 2000000) only [go_sem, Nat.reduceEqDiff, reduceCtorEq, Nat.reduceAdd, Nat.reduceLeDiff, t1, t2, t3, l3, t7, t8, k.len, k.iaddr hi, k.fieldO hi, k.whole hi, lt_true hi, k1]
      refine wp_lit (enc := encQ) (k := 4) (l := [l[i]]) rfl rfl ?_
      intro h3 w3 g3 n3 _
      simp +contextual (maxSteps := 2000000) only [go_sem, Nat.reduceEqDiff, reduceCtorEq, Nat.reduceAdd, Nat.reduceLeDiff, t1, t2, t3, l3, t7, t8]
      refine wp_append lenQ (z.grow g3) (n3.sl lenQ) (gh.trans g3) (by simp; omega) ?_
      intro h4 s4 g4 n4 st4 hb4
      obtain ⟨c4, rfl⟩ := n4.one
      simp +contextual (maxSteps := 2000000) only [go_sem, Nat.reduceEqDiff, reduceCtorEq, Nat.reduceAdd, Nat.reduceLeDiff, t1, t2, t3, l3, t7, t8]
      exact ⟨g4, ⟨c4, rfl, by rw [en]; exact n4⟩, by rw [wrap_next hi hn.sm.len]⟩
    | false =>
    cases k2 : decide (l[i].kind = b) with
    | true =>
      rw [k1, k2, Bool.or_true, if_pos rfl] at en
      simp +contextual (maxSteps := 2000000) only [go_sem, Nat.reduceEqDiff, reduceCtorEq, Nat.reduceAdd, Nat.reduceLeDiff, t1, t2, t3, l3, t7, t8, k.len, k.iaddr hi, k.fieldO hi, k.whole hi, lt_true hi, k1, k2]
      refine wp_lit (enc := encQ) (k := 4) (l := [l[i]]) rfl rfl ?_
      intro h3 w3 g3 n3 _
      simp +contextual (maxSteps := 2000000) only [go_sem, Nat.reduceEqDiff, reduceCtorEq, Nat.reduceAdd, Nat.reduceLeDiff, t1, t2, t3, l3, t7, t8]
      refine wp_append lenQ (z.grow g3) (n3.sl lenQ) (gh.trans g3) (by simp; omega) ?_
      intro h4 s4 g4 n4 st4 hb4
      obtain ⟨c4, rfl⟩ := n4.one
      simp +contextual (maxSteps := 2000000) only [go_sem, Nat.reduceEqDiff, reduceCtorEq, Nat.reduceAdd, Nat.reduceLeDiff, t1, t2, t3, l3, t7, t8]
      exact ⟨g4, ⟨c4, rfl, by rw [en]; exact n4⟩, by rw [wrap_next hi hn.sm.len]⟩
    | false =>
      rw [k1, k2, Bool.or_self, if_neg (by simp), List.append_nil] at en
      simp +contextual (maxSteps := 2000000) only [go_sem, Nat.reduceEqDiff, reduceCtorEq, Nat.reduceAdd, Nat.reduceLeDiff, t1, t2, t3, l3, t7, t8, k.len, k.iaddr hi, k.fieldO hi, lt_true hi, k1, k2]
      exact ⟨gh, ⟨w, rfl, by rw [en]; exact z⟩, by rw [wrap_next hi hn.sm.len]⟩
  · rintro T L h' ⟨gh, t1, t2, t3, l3, ⟨w, t7, z⟩, t8⟩
    have k := hl.out.grow gh
    rw [List.take_length] at z
    simp +contextual (maxSteps := 2000000) only [go_sem, Nat.reduceEqDiff, reduceCtorEq, Nat.reduceAdd, Nat.reduceLeDiff, t1, t2, t3, l3, t7, t8, k.len, lt_false]
    exact gcK_of ⟨gh, z⟩ (fun hs _ => ⟨Grow.refl h, z.scalar hs h⟩)
  · simp +contextual (maxSteps := 2000000) only [go_sem, Nat.reduceEqDiff, reduceCtorEq, Nat.reduceAdd, Nat.reduceLeDiff]
    exact ⟨g1, ⟨_, rfl, n1⟩, rfl⟩
/-! spec.checkedSignature -/
def L96_0 : List AStep := [⟨.alloc 25 [(.sl none 0 (some 0))], (some 2), none, []⟩, ⟨.mov (.c (.bool false)), (some 3), none, []⟩]
theorem v96_0 : VS L96_0.eq_1 := rfl
def L96_1 : List AStep := [⟨.not (.t 5), (some 6), none, []⟩]
theorem v96_1 : VS L96_1.eq_1 := rfl
def L96_2 : List AStep := ⟨.mov (.t 0), (some 4), none, []⟩ :: ⟨.call 103 [(.t 4)], (some 5), none, []⟩ :: L96_1
theorem v96_2 : VS L96_2.eq_1 := rfl
def L96_3 : List AStep := [⟨.mov (.c (.bool false)), (some 3), none, []⟩]
theorem v96_3 : VS L96_3.eq_1 := rfl
def L96_4 : List AStep := ⟨.build [(.sl none 0 (some 0))] [], (some 7), none, []⟩ :: ⟨.store 1 (.t 2) (.t 7), none, none, []⟩ :: L96_3
theorem v96_4 : VS L96_4.eq_1 := rfl
def L96_5 : List AStep := [⟨.store 1 (.t 2) (.t 9), none, none, []⟩, ⟨.mov (.c (.bool true)), (some 3), none, []⟩]
theorem v96_5 : VS L96_5.eq_1 := rfl
def L96_6 : List AStep := ⟨.mov (.t 0), (some 8), none, []⟩ :: ⟨.build [(.sl none 0 (some 0))] [(0, 1, (.t 8))], (some 9), none, []⟩ :: L96_5
theorem v96_6 : VS L96_6.eq_1 := rfl
def C96_0 : ACode := .seq (.reg L96_4) .ret
theorem u96_0 : VC C96_0.eq_1 := rfl
def C96_1 : ACode := .cond (.t 6) C96_0 .skip
theorem u96_1 : VC C96_1.eq_1 := rfl
def C96_2 : ACode := .seq (.reg L96_2) C96_1
theorem u96_2 : VC C96_2.eq_1 := rfl
def C96_3 : ACode := .seq (.reg L96_6) .ret
theorem u96_3 : VC C96_3.eq_1 := rfl
def C96_4 : ACode := .seq C96_2 C96_3
theorem u96_4 : VC C96_4.eq_1 := rfl
def C96_5 : ACode := .seq (.reg L96_0) C96_4
theorem u96_5 : VC C96_5.eq_1 := rfl
def F96 : AFunc := ⟨10, [.cell 2 1 true, .tmp 3], C96_5⟩
theorem cF96 : compB Try.prog 96 = some F96 := by kernel_rfl
attribute [local go_sem ↓] u96_0 u96_1 u96_2 u96_3 u96_4 u96_5 v96_0 v96_1 v96_2 v96_3 v96_4 v96_5 v96_6
theorem c_checkedSig (l : List Param) (w : CV) (h : H) (hl : SlQ h (.one w) l) (hn : smQ l) : bm Try.prog 96 [.one w] h = some (.tup [.agg [if okSig l = true then w else .sl none 0 (some 0)], .one (.bool (okSig l))], h) := by
  refine bm_eq cF96 ?_
  cases b : okSig l with
  | true => simp +contextual (maxSteps := 2000000) only [go_sem, Nat.reduceEqDiff, reduceCtorEq, Nat.reduceAdd, Nat.reduceLeDiff, F96, c_validParams _ _ _ hl hn, b]
  | false => simp +contextual (maxSteps := 2000000) only [go_sem, Nat.reduceEqDiff, reduceCtorEq, Nat.reduceAdd, Nat.reduceLeDiff, F96, c_validParams _ _ _ hl hn, b]
/-! spec.WrappedSignature -/
def L40_0 : List AStep := [⟨.alloc 25 [(.sl none 0 (some 0))], (some 4), none, []⟩, ⟨.mov (.c (.bool false)), (some 5), none, []⟩]
theorem v40_0 : VS L40_0.eq_1 := rfl
def L40_1 : List AStep := ⟨.box 25 (.t 0), (some 2), none, []⟩ :: ⟨.box 25 (.t 1), (some 3), none, []⟩ :: L40_0
theorem v40_1 : VS L40_1.eq_1 := rfl
def L40_2 : List AStep := [⟨.not (.t 12), (some 13), (some (10, false)), []⟩, ⟨.pick (.t 10) (.c (.bool true)) (.t 13), (some 14), none, []⟩]
theorem v40_2 : VS L40_2.eq_1 := rfl
def L40_3 : List AStep := ⟨.load 1 true (.t 3), (some 11), (some (10, false)), []⟩ :: ⟨.call 53 [(.t 11)], (some 12), (some (10, false)), []⟩ :: L40_2
theorem v40_3 : VS L40_3.eq_1 := rfl
def L40_4 : List AStep := ⟨.not (.t 8), (some 9), none, []⟩ :: ⟨.mov (.t 9), (some 10), none, []⟩ :: L40_3
theorem v40_4 : VS L40_4.eq_1 := rfl
def L40_5 : List AStep := ⟨.load 1 true (.t 2), (some 7), none, []⟩ :: ⟨.call 94 [(.t 7)], (some 8), none, []⟩ :: L40_4
theorem v40_5 : VS L40_5.eq_1 := rfl
def L40_6 : List AStep := [⟨.mov (.c (.bool false)), (some 5), none, []⟩]
theorem v40_6 : VS L40_6.eq_1 := rfl
def L40_7 : List AStep := ⟨.build [(.sl none 0 (some 0))] [], (some 15), none, []⟩ :: ⟨.store 1 (.t 4) (.t 15), none, none, []⟩ :: L40_6
theorem v40_7 : VS L40_7.eq_1 := rfl
def L40_8 : List AStep := [⟨.mov (.t 17), (some 6), none, []⟩]
theorem v40_8 : VS L40_8.eq_1 := rfl
def L40_9 : List AStep := ⟨.load 1 true (.t 2), (some 16), none, []⟩ :: ⟨.call 95 [(.t 16), (.c (.int .i64 0)), (.c (.int .i64 1))], (some 17), none, []⟩ :: L40_8
theorem v40_9 : VS L40_9.eq_1 := rfl
def L40_10 : List AStep := [⟨.mov (.t 21), (some 6), none, []⟩]
theorem v40_10 : VS L40_10.eq_1 := rfl
def L40_11 : List AStep := ⟨.call 95 [(.t 19), (.c (.int .i64 0)), (.c (.int .i64 1))], (some 20), none, []⟩ :: ⟨.append 39 4 40 (.t 18) (.t 20), (some 21), none, []⟩ :: L40_10
theorem v40_11 : VS L40_11.eq_1 := rfl
def L40_12 : List AStep := ⟨.mov (.t 6), (some 18), none, []⟩ :: ⟨.load 1 true (.t 3), (some 19), none, []⟩ :: L40_11
theorem v40_12 : VS L40_12.eq_1 := rfl
def L40_13 : List AStep := [⟨.mov (.t 25), (some 6), none, []⟩]
theorem v40_13 : VS L40_13.eq_1 := rfl
def L40_14 : List AStep := ⟨.call 95 [(.t 23), (.c (.int .i64 2)), (.c (.int .i64 2))], (some 24), none, []⟩ :: ⟨.append 39 4 40 (.t 22) (.t 24), (some 25), none, []⟩ :: L40_13
theorem v40_14 : VS L40_14.eq_1 := rfl
def L40_15 : List AStep := ⟨.mov (.t 6), (some 22), none, []⟩ :: ⟨.load 1 true (.t 3), (some 23), none, []⟩ :: L40_14
theorem v40_15 : VS L40_15.eq_1 := rfl
def L40_16 : List AStep := [⟨.mov (.t 29), (some 6), none, []⟩]
theorem v40_16 : VS L40_16.eq_1 := rfl
def L40_17 : List AStep := ⟨.call 95 [(.t 27), (.c (.int .i64 3)), (.c (.int .i64 3))], (some 28), none, []⟩ :: ⟨.append 39 4 40 (.t 26) (.t 28), (some 29), none, []⟩ :: L40_16
theorem v40_17 : VS L40_17.eq_1 := rfl
def L40_18 : List AStep := ⟨.mov (.t 6), (some 26), none, []⟩ :: ⟨.load 1 true (.t 2), (some 27), none, []⟩ :: L40_17
theorem v40_18 : VS L40_18.eq_1 := rfl
def L40_19 : List AStep := [⟨.mov (.t 33), (some 6), none, []⟩]
theorem v40_19 : VS L40_19.eq_1 := rfl
def L40_20 : List AStep := ⟨.call 95 [(.t 31), (.c (.int .i64 3)), (.c (.int .i64 3))], (some 32), none, []⟩ :: ⟨.append 39 4 40 (.t 30) (.t 32), (some 33), none, []⟩ :: L40_19
theorem v40_20 : VS L40_20.eq_1 := rfl
def L40_21 : List AStep := ⟨.mov (.t 6), (some 30), none, []⟩ :: ⟨.load 1 true (.t 3), (some 31), none, []⟩ :: L40_20
theorem v40_21 : VS L40_21.eq_1 := rfl
def L40_22 : List AStep := [⟨.mov (.t 37), (some 6), none, []⟩]
theorem v40_22 : VS L40_22.eq_1 := rfl
def L40_23 : List AStep := ⟨.call 95 [(.t 35), (.c (.int .i64 4)), (.c (.int .i64 4))], (some 36), none, []⟩ :: ⟨.append 39 4 40 (.t 34) (.t 36), (some 37), none, []⟩ :: L40_22
theorem v40_23 : VS L40_23.eq_1 := rfl
def L40_24 : List AStep := ⟨.mov (.t 6), (some 34), none, []⟩ :: ⟨.load 1 true (.t 3), (some 35), none, []⟩ :: L40_23
theorem v40_24 : VS L40_24.eq_1 := rfl
def L40_25 : List AStep := [⟨.store 1 (.t 4) (.t 40), none, none, []⟩, ⟨.mov (.t 41), (some 5), none, []⟩]
theorem v40_25 : VS L40_25.eq_1 := rfl
def L40_26 : List AStep := ⟨.extract (.t 39) 0, (some 40), none, []⟩ :: ⟨.extract (.t 39) 1, (some 41), none, []⟩ :: L40_25
theorem v40_26 : VS L40_26.eq_1 := rfl
def L40_27 : List AStep := ⟨.mov (.t 6), (some 38), none, []⟩ :: ⟨.call 96 [(.t 38)], (some 39), none, []⟩ :: L40_26
theorem v40_27 : VS L40_27.eq_1 := rfl
def C40_0 : ACode := .seq (.reg L40_7) .ret
theorem u40_0 : VC C40_0.eq_1 := rfl
def C40_1 : ACode := .cond (.t 14) C40_0 .skip
theorem u40_1 : VC C40_1.eq_1 := rfl
def C40_2 : ACode := .seq (.reg L40_5) C40_1
theorem u40_2 : VC C40_2.eq_1 := rfl
def C40_3 : ACode := .seq (.reg L40_27) .ret
theorem u40_3 : VC C40_3.eq_1 := rfl
def C40_4 : ACode := .seq (.reg L40_24) C40_3
theorem u40_4 : VC C40_4.eq_1 := rfl
def C40_5 : ACode := .seq (.reg L40_21) C40_4
theorem u40_5 : VC C40_5.eq_1 := rfl
def C40_6 : ACode := .seq (.reg L40_18) C40_5
theorem u40_6 : VC C40_6.eq_1 := rfl
def C40_7 : ACode := .seq (.reg L40_15) C40_6
theorem u40_7 : VC C40_7.eq_1 := rfl
def C40_8 : ACode := .seq (.reg L40_12) C40_7
theorem u40_8 : VC C40_8.eq_1 := rfl
def C40_9 : ACode := .seq (.reg L40_9) C40_8
theorem u40_9 : VC C40_9.eq_1 := rfl
def C40_10 : ACode := .seq C40_2 C40_9
theorem u40_10 : VC C40_10.eq_1 := rfl
def C40_11 : ACode := .seq (.reg L40_1) C40_10
theorem u40_11 : VC C40_11.eq_1 := rfl
def F40 : AFunc := ⟨42, [.cell 4 1 true, .tmp 5], C40_11⟩
theorem cF40 : compB Try.prog 40 = some F40 := by kernel_rfl
attribute [local go_sem ↓] u40_0 u40_1 u40_2 u40_3 u40_4 u40_5 u40_6 u40_7 u40_8 u40_9 u40_10 u40_11 v40_0 v40_1 v40_2 v40_3 v40_4 v40_5 v40_6 v40_7 v40_8 v40_9 v40_10 v40_11 v40_12 v40_13 v40_14 v40_15 v40_16 v40_17 v40_18 v40_19 v40_20 v40_21 v40_22 v40_23 v40_24 v40_25 v40_26 v40_27
theorem k_sWrappedSignature (l m : List Param) (q q2 : CV) (h : H) (hl : SlG h q l) (hm : SlG h q2 m) (hn : miniG l) (hk : miniG m) :
    callK (bm Try.prog 40 [.agg [q], .agg [q2]] h) fun r h' => Grow h h' ∧ ∃ w, r = .tup [.agg [w], .one (.bool (wrapOk l m))] ∧ NwQ h h' (.one w) (wrapSig l m) := by
  refine bm_of cF40 ?_
  have e1 := c_isWrapper l q h hl hn
  have e2 := c_validSignature m q2 h hm.out hk.sm
  have ln := fun a b => (hn.ofK (a := a) (b := b)).len
  have lk := fun a b => (hk.ofK (a := a) (b := b)).len
  unfold wrapSig wrapOk
  cases b1 : isWrap l with
  | false =>
    simp +contextual (maxSteps := 2000000) only [go_sem, Nat.reduceEqDiff, reduceCtorEq, Nat.reduceAdd, Nat.reduceLeDiff, F40, e1, b1, Bool.false_and]
    exact ⟨Grow.refl h, _, rfl, .nil⟩
  | true =>
  cases b2 : okSig m with
  | false =>
    simp +contextual (maxSteps := 2000000) only [go_sem, Nat.reduceEqDiff, reduceCtorEq, Nat.reduceAdd, Nat.reduceLeDiff, F40, e1, b1, e2, b2, Bool.false_and, Bool.true_and]
    exact ⟨Grow.refl h, _, rfl, .nil⟩
  | true =>
  simp +contextual (maxSteps := 2000000) only [go_sem, Nat.reduceEqDiff, reduceCtorEq, Nat.reduceAdd, Nat.reduceLeDiff, F40, e1, b1, e2, b2, Bool.true_and]
  refine wp_call (c_ofKinds l q 0 1 h hl hn) ?_
  rintro r h1 ⟨g1, z1⟩
  obtain ⟨c1, rfl⟩ := z1.one
  simp +contextual (maxSteps := 2000000) only [go_sem, Nat.reduceEqDiff, reduceCtorEq, Nat.reduceAdd, Nat.reduceLeDiff]
  refine wp_call (c_ofKinds m q2 0 1 h1 (hm.grow g1) hk) ?_
  rintro r h2 ⟨g2, n2⟩
  obtain ⟨d2, rfl⟩ := n2.one
  simp +contextual (maxSteps := 2000000) only [go_sem, Nat.reduceEqDiff, reduceCtorEq, Nat.reduceAdd, Nat.reduceLeDiff]
  refine wp_append lenQ (z1.grow g2) (n2.sl lenQ) (g1.trans g2) (by have := ln 0 1; have := lk 0 1; simp; omega) ?_
  intro h3 s3 g3 z3 _ _
  obtain ⟨c3, rfl⟩ := z3.one
  simp +contextual (maxSteps := 2000000) only [go_sem, Nat.reduceEqDiff, reduceCtorEq, Nat.reduceAdd, Nat.reduceLeDiff]
  refine wp_call (c_ofKinds m q2 2 2 h3 (hm.grow g3) hk) ?_
  rintro r h4 ⟨g4, n4⟩
  obtain ⟨d4, rfl⟩ := n4.one
  simp +contextual (maxSteps := 2000000) only [go_sem, Nat.reduceEqDiff, reduceCtorEq, Nat.reduceAdd, Nat.reduceLeDiff]
  refine wp_append lenQ (z3.grow g4) (n4.sl lenQ) (g3.trans g4) (by have := ln 0 1; have := lk 0 1; have := lk 2 2; simp; omega) ?_
  intro h5 s5 g5 z5 _ _
  obtain ⟨c5, rfl⟩ := z5.one
  simp +contextual (maxSteps := 2000000) only [go_sem, Nat.reduceEqDiff, reduceCtorEq, Nat.reduceAdd, Nat.reduceLeDiff]
  refine wp_call (c_ofKinds l q 3 3 h5 (hl.grow g5) hn) ?_
  rintro r h6 ⟨g6, n6⟩
  obtain ⟨d6, rfl⟩ := n6.one
  simp +contextual (maxSteps := 2000000) only [go_sem, Nat.reduceEqDiff, reduceCtorEq, Nat.reduceAdd, Nat.reduceLeDiff]
  refine wp_append lenQ (z5.grow g6) (n6.sl lenQ) (g5.trans g6) (by have := ln 0 1; have := lk 0 1; have := lk 2 2; have := ln 3 3; simp; omega) ?_
  intro h7 s7 g7 z7 _ _
  obtain ⟨c7, rfl⟩ := z7.one
  simp +contextual (maxSteps := 2000000) only [go_sem, Nat.reduceEqDiff, reduceCtorEq, Nat.reduceAdd, Nat.reduceLeDiff]
  refine wp_call (c_ofKinds m q2 3 3 h7 (hm.grow g7) hk) ?_
  rintro r h8 ⟨g8, n8⟩
  obtain ⟨d8, rfl⟩ := n8.one
  simp +contextual (maxSteps := 2000000) only [go_sem, Nat.reduceEqDiff, reduceCtorEq, Nat.reduceAdd, Nat.reduceLeDiff]
  refine wp_append lenQ (z7.grow g8) (n8.sl lenQ) (g7.trans g8) (by have := ln 0 1; have := lk 0 1; have := lk 2 2; have := ln 3 3; have := lk 3 3; simp; omega) ?_
  intro h9 s9 g9 z9 _ _
  obtain ⟨c9, rfl⟩ := z9.one
  simp +contextual (maxSteps := 2000000) only [go_sem, Nat.reduceEqDiff, reduceCtorEq, Nat.reduceAdd, Nat.reduceLeDiff]
  refine wp_call (c_ofKinds m q2 4 4 h9 (hm.grow g9) hk) ?_
  rintro r h10 ⟨g10, n10⟩
  obtain ⟨d10, rfl⟩ := n10.one
  simp +contextual (maxSteps := 2000000) only [go_sem, Nat.reduceEqDiff, reduceCtorEq, Nat.reduceAdd, Nat.reduceLeDiff]
  refine wp_append lenQ (z9.grow g10) (n10.sl lenQ) (g9.trans g10) (by have := ln 0 1; have := lk 0 1; have := lk 2 2; have := ln 3 3; have := lk 3 3; have := lk 4 4; simp; omega) ?_
  intro h11 s11 g11 z11 _ _
  obtain ⟨c11, rfl⟩ := z11.one
  have z : NwQ h h11 (.one c11) (wrapAll l m) := z11
  have ec := c_checkedSig (wrapAll l m) c11 h11 (z.sl lenQ) (wrapAll_sm hn hk)
  cases b3 : okSig (wrapAll l m) with
  | true =>
    rw [b3, if_pos rfl] at ec
    simp +contextual (maxSteps := 2000000) only [go_sem, Nat.reduceEqDiff, reduceCtorEq, Nat.reduceAdd, Nat.reduceLeDiff, ec]
    exact gcK_of ⟨g11, _, rfl, z⟩ (fun hs _ => ⟨Grow.refl h, _, rfl, z.scalar (by simpa [AV.scalar, AV.scalars, CV.scalar] using hs) h⟩)
  | false =>
    rw [b3, if_neg (by simp)] at ec
    simp +contextual (maxSteps := 2000000) only [go_sem, Nat.reduceEqDiff, reduceCtorEq, Nat.reduceAdd, Nat.reduceLeDiff, ec]
    exact gcK_of ⟨g11, _, rfl, .nil⟩ (fun _ _ => ⟨Grow.refl h, _, rfl, .nil⟩)
end Go.Proofs.Ytekkimfdcbgcoab.Am
