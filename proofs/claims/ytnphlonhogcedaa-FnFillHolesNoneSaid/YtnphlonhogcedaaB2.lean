/- Contracts: one call over the other, of the laws' own reckoning. -/
import Derived.Test.YtnphlonhogcedaaA1
namespace Go.Proofs.Ytnphlonhogcedaa.Am
open Go
set_option maxRecDepth 100000
set_option maxHeartbeats 4000000
set_option linter.unusedSimpArgs false
set_option linter.unusedVariables false
attribute [local go_sem ↓] bv_t bv_c ev_t ev_c put_same put_ne put_none kill_at pro_at lb_same lb_ne start_zero start_succ wpC_seq wpC_reg wpC_cond wpC_block wpC_skip wpC_exit wpC_ret thenQ_normal thenQ_exit thenQ_ret inBlk_normal inBlk_exit inBlk_ret wpS_nil wpS_step wpS_again wpS_guard wpO_mov wpO_load wpO_faddr wpO_nilCheck wpO_pick wpO_build wpO_bin wpO_eqb wpO_eqst wpO_eqnil wpO_not wpO_conv wpO_bytesStr wpO_iaddr wpO_idxStr wpO_field wpO_extract wpO_len wpO_lenStr wpO_cap wpO_min wpO_slice wpO_sliceStr wpO_alloc wpO_box wpO_store wpO_call wpO_callv wpO_mkfn wpO_buildSlice wpO_mkslice wpO_append wpO_appz proA_nil proA_cons tmpX_nil tmpX_tmp tmpX_cell doneB_normal doneB_ret agK_cons agK_nil agK_guard agG_tt agG_ff agG_tf agG_ft agG_undef pureB_load results_one results_two results_nil resBs_cons resBs_nil resB_tmp resB_cell
attribute [local go_sem] kill_v kill_lp_ne kill_lp_same pro_v pro_lp_same pro_lp_ne av_v av_lp optB_some optX_some valX_eq ldX_lp ldX_v faX_lp faX_v ncX_lp ncX_ptr ncX_fn boxK_one boxK_agg stL_some stK_lp_one stK_lp_agg stK_v_one stK_v_agg proM_v proM_lp callG_mk callVG_mk callvK_fn fnG_mk ptrsA_nil ptrsA_cons callH_some whenA_true whenA_false guardH_tt guardH_ff guardH_tf guardH_ft guardH_undef agV_one agV_agg lenO_sl lenStrO_str notO_bool pickO_bool convO_int eqbO_bool eqnilO_sl extractO_tup capO_sl minO_int loadL_one loadL_all storeL_eq fillA_nil fillA_one fillA_agg nat_ge neg_ge nat_lt neg_lt buildO bin_add bin_sub bin_mul bin_eql bin_neq bin_lss bin_leq bin_gtr bin_geq str_eql str_neq str_lss str_leq str_gtr str_geq retK_some endK_mk gcK_same gcK_int gcK_bool tupO_one tupO_agg rdy_self ib ii Option.map_none Option.map_some Option.some.injEq exists_eq_left' exists_eq_left ne_eq not_false_eq_true if_true if_false List.map_cons List.map_nil List.getElem?_cons_zero List.getElem?_cons_succ List.length_cons List.length_nil List.take_succ_cons List.take_zero List.take_nil List.drop_succ_cons List.drop_zero List.drop_nil List.cons_append List.nil_append List.append_nil List.set_cons_zero List.set_cons_succ Nat.zero_add forall_const true_and and_true and_self Bool.false_eq_true false_implies true_implies implies_true Bool.not_true Bool.not_false Bool.not_eq_true' Bool.not_eq_false' beq_self_eq_true Bool.bne_true Bool.bne_false
attribute [local go_sem] lenI lenS lenP lenQ lenB lenL lenT encI_0 encS_0 encP_0 encP_1 encQ_0 encQ_1 encQ_2 encQ_3 encB_0 encB_1 encL_0 encL_1 encT_0 encT_1
attribute [local go_sem low] whenA_bool guardH_bool
/-! spec.copyFlat -/
def L146_0 : List AStep := [⟨.box 30 (.t 0), (some 1), none, []⟩, ⟨.alloc 30 [(.sl none 0 (some 0)), (.sl none 0 (some 0))], (some 2), none, []⟩]
theorem v146_0 : VS L146_0.eq_1 := rfl
def L146_1 : List AStep := [⟨.build [(.sl none 0 (some 0)), (.sl none 0 (some 0))] [(0, 1, (.t 6)), (1, 1, (.t 10))], (some 11), none, []⟩, ⟨.store 2 (.t 2) (.t 11), none, none, []⟩]
theorem v146_1 : VS L146_1.eq_1 := rfl
def L146_2 : List AStep := ⟨.append 3 1 8 (.t 3) (.t 5), (some 6), none, [(.load 1 false (.t 8), (some 9), none)]⟩ :: ⟨.append 86 2 24 (.t 7) (.t 9), (some 10), none, []⟩ :: L146_1
theorem v146_2 : VS L146_2.eq_1 := rfl
def L146_3 : List AStep := ⟨.faddr 1 (.t 1), (some 8), none, []⟩ :: ⟨.load 1 false (.t 8), (some 9), none, []⟩ :: L146_2
theorem v146_3 : VS L146_3.eq_1 := rfl
def L146_4 : List AStep := ⟨.load 1 false (.t 4), (some 5), none, []⟩ :: ⟨.buildSlice 86 0 [(.str (strOfNums [])), (.int .i64 0)] [], (some 7), none, []⟩ :: L146_3
theorem v146_4 : VS L146_4.eq_1 := rfl
def L146_5 : List AStep := ⟨.buildSlice 3 0 [(.int .i64 0)] [], (some 3), none, []⟩ :: ⟨.faddr 0 (.t 1), (some 4), none, []⟩ :: L146_4
theorem v146_5 : VS L146_5.eq_1 := rfl
def C146_0 : ACode := .seq (.reg L146_5) .ret
theorem u146_0 : VC C146_0.eq_1 := rfl
def C146_1 : ACode := .seq (.reg L146_0) C146_0
theorem u146_1 : VC C146_1.eq_1 := rfl
def F146 : AFunc := ⟨12, [.cell 2 2 true], C146_1⟩
theorem cF146 : compB Try.prog 146 = some F146 := by kernel_rfl
attribute [local go_sem ↓] u146_0 u146_1 v146_0 v146_1 v146_2 v146_3 v146_4 v146_5
theorem c_copyFlat (f : Flat) (p n : CV) (h : H) (hf : SlF h p n f) (hn : smF f) : callK (bm Try.prog 146 [.agg [p, n]] h) fun r h' => Grow h h' ∧ ∃ p' n', r = .agg [p', n'] ∧ NwF h h' p' n' f := by
  refine bm_of cF146 ?_
  simp +contextual (maxSteps := 2000000) only [go_sem, Nat.reduceEqDiff, reduceCtorEq, Nat.reduceAdd, Nat.reduceLeDiff, F146]
  have b1 := hn.pl
  have b2 := hn.nl.1
  unfold big at b1 b2
  refine wp_lit (enc := encI) (k := 1) (l := []) rfl rfl ?_
  intro h1 w1 g1 n1 _
  simp +contextual (maxSteps := 2000000) only [go_sem, Nat.reduceEqDiff, reduceCtorEq, Nat.reduceAdd, Nat.reduceLeDiff]
  refine wp_lit (enc := encP) (k := 2) (l := []) rfl rfl ?_
  intro h2 w2 g2 n2 _
  simp +contextual (maxSteps := 2000000) only [go_sem, Nat.reduceEqDiff, reduceCtorEq, Nat.reduceAdd, Nat.reduceLeDiff]
  refine wp_append lenI (n1.grow g2) ((hf.pl.grow g1).grow g2) (g1.trans g2) (by simp; omega) ?_
  intro h3 s3 g3 n3 st3 hb3
  simp +contextual (maxSteps := 2000000) only [go_sem, Nat.reduceEqDiff, reduceCtorEq, Nat.reduceAdd, Nat.reduceLeDiff]
  have m2 := (n2.stay st3 (n1.apart n2).symm).from g1.n
  refine wp_append lenP m2 (hf.nl.grow g3) g3 (by simp; omega) ?_
  intro h4 s4 g4 n4 st4 hb4
  obtain ⟨c, rfl⟩ := n3.one
  obtain ⟨d, rfl⟩ := n4.one
  simp +contextual (maxSteps := 2000000) only [go_sem, Nat.reduceEqDiff, reduceCtorEq, Nat.reduceAdd, Nat.reduceLeDiff]
  have sp : Sep (.one c) w2 := fun i hi hw => by
    rcases hb3 i hi with e | e
    · exact n1.apart n2 i e hw
    · have := (n2.lt hw).1
      omega
  have n5 : NwF h h4 c d f := ⟨(by simpa using n3.stay st4 sp), (by simpa using n4), fun i hi hd => by
    rcases hb4 i hd with e | e
    · exact sp i hi e
    · have := (n3.lt hi).1
      omega⟩
  exact gcK_of ⟨g4, _, _, rfl, n5⟩ (fun hs _ => ⟨Grow.refl h, _, _, rfl, n5.scalar hs h⟩)
/-! spec.putPair -/
def L90_0 : List AStep := [⟨.box 86 (.t 1), (some 3), none, []⟩, ⟨.mov (.c (.sl none 0 (some 0))), (some 4), none, []⟩]
theorem v90_0 : VS L90_0.eq_1 := rfl
def L90_1 : List AStep := [⟨.append 86 2 24 (.t 7) (.t 8), (some 9), none, []⟩, ⟨.mov (.t 9), (some 5), none, []⟩]
theorem v90_1 : VS L90_1.eq_1 := rfl
def L90_2 : List AStep := ⟨.buildSlice 86 0 [(.str (strOfNums [])), (.int .i64 0)] [], (some 7), none, []⟩ :: ⟨.mov (.t 0), (some 8), none, []⟩ :: L90_1
theorem v90_2 : VS L90_2.eq_1 := rfl
def L90_3 : List AStep := [⟨.mov (.t 13), (some 6), none, []⟩]
theorem v90_3 : VS L90_3.eq_1 := rfl
def L90_4 : List AStep := ⟨.load 1 false (.t 11), (some 12), none, []⟩ :: ⟨.call 169 [(.t 10), (.t 12)], (some 13), none, []⟩ :: L90_3
theorem v90_4 : VS L90_4.eq_1 := rfl
def L90_5 : List AStep := ⟨.mov (.t 5), (some 10), none, []⟩ :: ⟨.faddr 0 (.t 3), (some 11), none, []⟩ :: L90_4
theorem v90_5 : VS L90_5.eq_1 := rfl
def L90_6 : List AStep := [⟨.mov (.t 6), (some 14), none, []⟩, ⟨.bin .geq (.t 14) (.c (.int .i64 0)), (some 15), none, []⟩]
theorem v90_6 : VS L90_6.eq_1 := rfl
def L90_7 : List AStep := [⟨.store 2 (.t 19) (.t 18), none, none, []⟩]
theorem v90_7 : VS L90_7.eq_1 := rfl
def L90_8 : List AStep := ⟨.load 2 true (.t 3), (some 18), none, []⟩ :: ⟨.iaddr 2 (.t 16) (.t 17), (some 19), none, []⟩ :: L90_7
theorem v90_8 : VS L90_8.eq_1 := rfl
def L90_9 : List AStep := ⟨.mov (.t 5), (some 16), none, []⟩ :: ⟨.mov (.t 6), (some 17), none, []⟩ :: L90_8
theorem v90_9 : VS L90_9.eq_1 := rfl
def L90_10 : List AStep := [⟨.mov (.t 5), (some 20), none, []⟩, ⟨.mov (.t 20), (some 4), none, []⟩]
theorem v90_10 : VS L90_10.eq_1 := rfl
def L90_11 : List AStep := [⟨.mov (.t 24), (some 4), none, []⟩]
theorem v90_11 : VS L90_11.eq_1 := rfl
def L90_12 : List AStep := ⟨.buildSlice 86 1 [(.str (strOfNums [])), (.int .i64 0)] [(0, 2, (.t 22))], (some 23), none, []⟩ :: ⟨.append 86 2 24 (.t 21) (.t 23), (some 24), none, []⟩ :: L90_11
theorem v90_12 : VS L90_12.eq_1 := rfl
def L90_13 : List AStep := ⟨.mov (.t 5), (some 21), none, []⟩ :: ⟨.load 2 true (.t 3), (some 22), none, []⟩ :: L90_12
theorem v90_13 : VS L90_13.eq_1 := rfl
def C90_0 : ACode := .seq (.reg L90_10) .ret
theorem u90_0 : VC C90_0.eq_1 := rfl
def C90_1 : ACode := .seq (.reg L90_9) C90_0
theorem u90_1 : VC C90_1.eq_1 := rfl
def C90_2 : ACode := .cond (.t 15) C90_1 .skip
theorem u90_2 : VC C90_2.eq_1 := rfl
def C90_3 : ACode := .seq (.reg L90_6) C90_2
theorem u90_3 : VC C90_3.eq_1 := rfl
def C90_4 : ACode := .seq (.reg L90_13) .ret
theorem u90_4 : VC C90_4.eq_1 := rfl
def C90_5 : ACode := .seq C90_3 C90_4
theorem u90_5 : VC C90_5.eq_1 := rfl
def C90_6 : ACode := .seq (.reg L90_5) C90_5
theorem u90_6 : VC C90_6.eq_1 := rfl
def C90_7 : ACode := .seq (.reg L90_2) C90_6
theorem u90_7 : VC C90_7.eq_1 := rfl
def C90_8 : ACode := .seq (.reg L90_0) C90_7
theorem u90_8 : VC C90_8.eq_1 := rfl
def F90 : AFunc := ⟨25, [.tmp 4], C90_8⟩
theorem cF90 : compB Try.prog 90 = some F90 := by kernel_rfl
attribute [local go_sem ↓] u90_0 u90_1 u90_2 u90_3 u90_4 u90_5 u90_6 u90_7 u90_8 v90_0 v90_1 v90_2 v90_3 v90_4 v90_5 v90_6 v90_7 v90_8 v90_9 v90_10 v90_11 v90_12 v90_13
theorem c_putPair (l : List Pair) (v : AV) (x : Pair) (h : H) (hl : SlP h v l) (hn : smP l) : callK (bm Try.prog 90 [v, .agg (encP x)] h) fun r h' => Grow h h' ∧ NwP h h' r (putP l x) := by
  refine bm_of cF90 ?_
  simp +contextual (maxSteps := 2000000) only [go_sem, Nat.reduceEqDiff, reduceCtorEq, Nat.reduceAdd, Nat.reduceLeDiff, F90]
  refine wp_lit (enc := encP) (k := 2) (l := []) rfl rfl ?_
  intro h1 w g1 n1 _
  simp +contextual (maxSteps := 2000000) only [go_sem, Nat.reduceEqDiff, reduceCtorEq, Nat.reduceAdd, Nat.reduceLeDiff]
  refine wp_append lenP n1 (hl.grow g1) g1 (by have := hn.1; unfold big at this; simp; omega) ?_
  intro h2 s g2 n2 _ _
  rw [List.nil_append] at n2
  rcases idx_cases (fun q : Pair => decide (q.name = x.name)) l with e | ⟨j, hj, e, hs⟩ <;> (replace e := (show pairAt l x.name = _ from e))
  · simp +contextual (maxSteps := 2000000) only [go_sem, Nat.reduceEqDiff, reduceCtorEq, Nat.reduceAdd, Nat.reduceLeDiff, c_pairAt _ _ _ _ (n2.sl lenP) hn, e]
    refine wp_lit (enc := encP) (k := 2) (l := [x]) rfl rfl ?_
    intro h3 w2 g3 n3 _
    simp +contextual (maxSteps := 2000000) only [go_sem, Nat.reduceEqDiff, reduceCtorEq, Nat.reduceAdd, Nat.reduceLeDiff]
    refine wp_append lenP (n2.grow g3) (n3.sl lenP) (g2.trans g3) (by have := hn.1; unfold big at this; simp; omega) ?_
    intro h4 s4 g4 n4 _ _
    simp +contextual (maxSteps := 2000000) only [go_sem, Nat.reduceEqDiff, reduceCtorEq, Nat.reduceAdd, Nat.reduceLeDiff]
    rw [← putP_none e] at n4
    exact gcK_of ⟨g4, n4⟩ (fun hs _ => ⟨Grow.refl h, n4.scalar hs h⟩)
  · simp +contextual (maxSteps := 2000000) only [go_sem, Nat.reduceEqDiff, reduceCtorEq, Nat.reduceAdd, Nat.reduceLeDiff, c_pairAt _ _ _ _ (n2.sl lenP) hn, e, n2.iaddr hj]
    refine wp_setE (x := x) lenP n2 hj rfl rfl g2 ?_
    intro h3 g3 n3 st
    simp +contextual (maxSteps := 2000000) only [go_sem, Nat.reduceEqDiff, reduceCtorEq, Nat.reduceAdd, Nat.reduceLeDiff]
    rw [← putP_some e] at n3
    exact gcK_of ⟨g3, n3⟩ (fun hs _ => ⟨Grow.refl h, n3.scalar hs h⟩)
/-! spec.checkedFlat -/
def L116_0 : List AStep := [⟨.mov (.c (.bool false)), (some 3), none, []⟩]
theorem v116_0 : VS L116_0.eq_1 := rfl
def L116_1 : List AStep := ⟨.box 30 (.t 0), (some 1), none, []⟩ :: ⟨.alloc 30 [(.sl none 0 (some 0)), (.sl none 0 (some 0))], (some 2), none, []⟩ :: L116_0
theorem v116_1 : VS L116_1.eq_1 := rfl
def L116_2 : List AStep := [⟨.not (.t 5), (some 6), none, []⟩]
theorem v116_2 : VS L116_2.eq_1 := rfl
def L116_3 : List AStep := ⟨.load 2 true (.t 1), (some 4), none, []⟩ :: ⟨.call 105 [(.t 4)], (some 5), none, []⟩ :: L116_2
theorem v116_3 : VS L116_3.eq_1 := rfl
def L116_4 : List AStep := [⟨.mov (.c (.bool false)), (some 3), none, []⟩]
theorem v116_4 : VS L116_4.eq_1 := rfl
def L116_5 : List AStep := ⟨.build [(.sl none 0 (some 0)), (.sl none 0 (some 0))] [], (some 7), none, []⟩ :: ⟨.store 2 (.t 2) (.t 7), none, none, []⟩ :: L116_4
theorem v116_5 : VS L116_5.eq_1 := rfl
def L116_6 : List AStep := [⟨.mov (.c (.bool true)), (some 3), none, []⟩]
theorem v116_6 : VS L116_6.eq_1 := rfl
def L116_7 : List AStep := ⟨.load 2 true (.t 1), (some 8), none, []⟩ :: ⟨.store 2 (.t 2) (.t 8), none, none, []⟩ :: L116_6
theorem v116_7 : VS L116_7.eq_1 := rfl
def C116_0 : ACode := .seq (.reg L116_5) .ret
theorem u116_0 : VC C116_0.eq_1 := rfl
def C116_1 : ACode := .cond (.t 6) C116_0 .skip
theorem u116_1 : VC C116_1.eq_1 := rfl
def C116_2 : ACode := .seq (.reg L116_3) C116_1
theorem u116_2 : VC C116_2.eq_1 := rfl
def C116_3 : ACode := .seq (.reg L116_7) .ret
theorem u116_3 : VC C116_3.eq_1 := rfl
def C116_4 : ACode := .seq C116_2 C116_3
theorem u116_4 : VC C116_4.eq_1 := rfl
def C116_5 : ACode := .seq (.reg L116_1) C116_4
theorem u116_5 : VC C116_5.eq_1 := rfl
def F116 : AFunc := ⟨9, [.cell 2 2 true, .tmp 3], C116_5⟩
theorem cF116 : compB Try.prog 116 = some F116 := by kernel_rfl
attribute [local go_sem ↓] u116_0 u116_1 u116_2 u116_3 u116_4 u116_5 v116_0 v116_1 v116_2 v116_3 v116_4 v116_5 v116_6 v116_7
theorem c_checkedFlat (f : Flat) (p n : CV) (h : H) (hf : SlF h p n f) (hn : smF f) :
    bm Try.prog 116 [.agg [p, n]] h = some (.tup [if okFlat f = true then .agg [p, n] else .agg [.sl none 0 (some 0), .sl none 0 (some 0)], .one (.bool (okFlat f))], h) := by
  refine bm_eq cF116 ?_
  cases hok : okFlat f with
  | false =>
    simp +contextual (maxSteps := 2000000) only [go_sem, Nat.reduceEqDiff, reduceCtorEq, Nat.reduceAdd, Nat.reduceLeDiff, F116, c_validFlat _ _ _ _ hf.pl hf.nl hn, hok]
  | true =>
    simp +contextual (maxSteps := 2000000) only [go_sem, Nat.reduceEqDiff, reduceCtorEq, Nat.reduceAdd, Nat.reduceLeDiff, F116, c_validFlat _ _ _ _ hf.pl hf.nl hn, hok]
/-! spec.over -/
def L117_0 : List AStep := [⟨.alloc 30 [(.sl none 0 (some 0)), (.sl none 0 (some 0))], (some 4), none, []⟩]
theorem v117_0 : VS L117_0.eq_1 := rfl
def L117_1 : List AStep := ⟨.box 30 (.t 0), (some 2), none, []⟩ :: ⟨.box 30 (.t 1), (some 3), none, []⟩ :: L117_0
theorem v117_1 : VS L117_1.eq_1 := rfl
def L117_2 : List AStep := [⟨.alloc 30 [(.sl none 0 (some 0)), (.sl none 0 (some 0))], (some 5), none, []⟩, ⟨.store 2 (.t 5) (.t 8), none, none, []⟩]
theorem v117_2 : VS L117_2.eq_1 := rfl
def L117_3 : List AStep := ⟨.load 2 true (.t 2), (some 7), none, []⟩ :: ⟨.call 146 [(.t 7)], (some 8), none, []⟩ :: L117_2
theorem v117_3 : VS L117_3.eq_1 := rfl
def L117_4 : List AStep := [⟨.store 1 (.t 14) (.t 13), none, none, []⟩]
theorem v117_4 : VS L117_4.eq_1 := rfl
def L117_5 : List AStep := ⟨.append 3 1 8 (.t 10) (.t 12), (some 13), none, []⟩ :: ⟨.faddr 0 (.t 5), (some 14), none, []⟩ :: L117_4
theorem v117_5 : VS L117_5.eq_1 := rfl
def L117_6 : List AStep := ⟨.faddr 0 (.t 3), (some 11), none, []⟩ :: ⟨.load 1 false (.t 11), (some 12), none, []⟩ :: L117_5
theorem v117_6 : VS L117_6.eq_1 := rfl
def L117_7 : List AStep := ⟨.faddr 0 (.t 5), (some 9), none, []⟩ :: ⟨.load 1 false (.t 9), (some 10), none, []⟩ :: L117_6
theorem v117_7 : VS L117_7.eq_1 := rfl
def L117_8 : List AStep := [⟨.mov (.c (.int .i64 0)), (some 6), none, []⟩]
theorem v117_8 : VS L117_8.eq_1 := rfl
def L117_9 : List AStep := [⟨.bin .lss (.t 15) (.t 18), (some 19), none, []⟩]
theorem v117_9 : VS L117_9.eq_1 := rfl
def L117_10 : List AStep := ⟨.load 1 false (.t 16), (some 17), none, []⟩ :: ⟨.len (.t 17), (some 18), none, []⟩ :: L117_9
theorem v117_10 : VS L117_10.eq_1 := rfl
def L117_11 : List AStep := ⟨.mov (.t 6), (some 15), none, []⟩ :: ⟨.faddr 1 (.t 3), (some 16), none, []⟩ :: L117_10
theorem v117_11 : VS L117_11.eq_1 := rfl
def L117_12 : List AStep := [⟨.faddr 1 (.t 5), (some 30), none, []⟩, ⟨.store 1 (.t 30) (.t 29), none, none, []⟩]
theorem v117_12 : VS L117_12.eq_1 := rfl
def L117_13 : List AStep := ⟨.load 2 true (.t 27), (some 28), none, []⟩ :: ⟨.call 90 [(.t 23), (.t 28)], (some 29), none, []⟩ :: L117_12
theorem v117_13 : VS L117_13.eq_1 := rfl
def L117_14 : List AStep := ⟨.mov (.t 6), (some 26), none, []⟩ :: ⟨.iaddr 2 (.t 25) (.t 26), (some 27), none, []⟩ :: L117_13
theorem v117_14 : VS L117_14.eq_1 := rfl
def L117_15 : List AStep := ⟨.faddr 1 (.t 3), (some 24), none, []⟩ :: ⟨.load 1 false (.t 24), (some 25), none, []⟩ :: L117_14
theorem v117_15 : VS L117_15.eq_1 := rfl
def L117_16 : List AStep := ⟨.faddr 1 (.t 5), (some 22), none, []⟩ :: ⟨.load 1 false (.t 22), (some 23), none, []⟩ :: L117_15
theorem v117_16 : VS L117_16.eq_1 := rfl
def L117_17 : List AStep := [⟨.mov (.t 21), (some 6), none, []⟩]
theorem v117_17 : VS L117_17.eq_1 := rfl
def L117_18 : List AStep := ⟨.mov (.t 6), (some 20), none, []⟩ :: ⟨.bin .add (.t 20) (.c (.int .i64 1)), (some 21), none, []⟩ :: L117_17
theorem v117_18 : VS L117_18.eq_1 := rfl
def L117_19 : List AStep := [⟨.load 2 true (.t 5), (some 31), none, []⟩, ⟨.store 2 (.t 4) (.t 31), none, none, []⟩]
theorem v117_19 : VS L117_19.eq_1 := rfl
def C117_0 : ACode := .cond (.t 19) .skip (.exit 0)
theorem u117_0 : VC C117_0.eq_1 := rfl
def C117_1 : ACode := .seq (.reg L117_11) C117_0
theorem u117_1 : VC C117_1.eq_1 := rfl
def C117_2 : ACode := .block 1 (.reg L117_16)
theorem u117_2 : VC C117_2.eq_1 := rfl
def C117_3 : ACode := .seq C117_2 (.reg L117_18)
theorem u117_3 : VC C117_3.eq_1 := rfl
def C117_4 : ACode := .seq C117_1 C117_3
theorem u117_4 : VC C117_4.eq_1 := rfl
def C117_5 : ACode := .block 0 (.loop C117_4)
theorem u117_5 : VC C117_5.eq_1 := rfl
def C117_6 : ACode := .seq (.reg L117_8) C117_5
theorem u117_6 : VC C117_6.eq_1 := rfl
def C117_7 : ACode := .seq (.reg L117_19) .ret
theorem u117_7 : VC C117_7.eq_1 := rfl
def C117_8 : ACode := .seq C117_6 C117_7
theorem u117_8 : VC C117_8.eq_1 := rfl
def C117_9 : ACode := .seq (.reg L117_7) C117_8
theorem u117_9 : VC C117_9.eq_1 := rfl
def C117_10 : ACode := .seq (.reg L117_3) C117_9
theorem u117_10 : VC C117_10.eq_1 := rfl
def C117_11 : ACode := .seq (.reg L117_1) C117_10
theorem u117_11 : VC C117_11.eq_1 := rfl
def F117 : AFunc := ⟨32, [.cell 4 2 true], C117_11⟩
theorem cF117 : compB Try.prog 117 = some F117 := by kernel_rfl
attribute [local go_sem ↓] u117_0 u117_1 u117_2 u117_3 u117_4 u117_5 u117_6 u117_7 u117_8 u117_9 u117_10 u117_11 v117_0 v117_1 v117_2 v117_3 v117_4 v117_5 v117_6 v117_7 v117_8 v117_9 v117_10 v117_11 v117_12 v117_13 v117_14 v117_15 v117_16 v117_17 v117_18 v117_19
theorem c_over (f g : Flat) (p n q m : CV) (h : H) (hf : SlF h p n f) (hg : SlF h q m g) (hn : smF f) (hm : smF g) (hb : f.pl.length + g.pl.length ≤ big) (hc : f.nl.length + g.nl.length ≤ big) :
    callK (bm Try.prog 117 [.agg [p, n], .agg [q, m]] h) fun r h' => Grow h h' ∧ ∃ p' n', r = .agg [p', n'] ∧ NwF h h' p' n' (overF f g) := by
  refine bm_of cF117 ?_
  simp +contextual (maxSteps := 2000000) only [go_sem, Nat.reduceEqDiff, reduceCtorEq, Nat.reduceAdd, Nat.reduceLeDiff, F117]
  refine wp_call (c_copyFlat f p n h hf hn) ?_
  rintro r h1 ⟨g1, p1, n1, rfl, e1⟩
  simp +contextual (maxSteps := 2000000) only [go_sem, Nat.reduceEqDiff, reduceCtorEq, Nat.reduceAdd, Nat.reduceLeDiff]
  refine wp_append lenI e1.pl (hg.pl.grow g1) g1 (by unfold big at hb; omega) ?_
  intro h2 s2 g2 n2 st2 hb2
  obtain ⟨c, rfl⟩ := n2.one
  have sp : Sep (.one c) (.one n1) := fun i hi hw => by
    rcases hb2 i hi with e | e
    · exact e1.sep i e hw
    · have := (e1.nl.lt hw).1
      omega
  have f2 : NwF h h2 c n1 ⟨f.pl ++ g.pl, f.nl⟩ := ⟨n2, e1.nl.stay st2 e1.sep.symm, sp⟩
  simp +contextual (maxSteps := 2000000) only [go_sem, Nat.reduceEqDiff, reduceCtorEq, Nat.reduceAdd, Nat.reduceLeDiff]
  refine wpC_loop (fun i T L h' => Grow h h' ∧ T 3 = .lp 3 0 ∧ (L 3).2 = [q, m] ∧ T 4 = .lp 4 0 ∧ (L 4).2 = [.sl none 0 (some 0), .sl none 0 (some 0)] ∧ T 5 = .lp 5 0 ∧ (∃ b, (L 5).2 = [c, b] ∧ NwF h h' c b ⟨f.pl ++ g.pl, putAll f.nl (g.nl.take i)⟩) ∧ T 6 = .v (.one (.int .i64 i))) g.nl.length ?_ ?_ (Nat.zero_le _) ?_
  · rintro i T L h' hi ⟨gg, t3, l3, t4, l4, t5, ⟨b, l5, f5⟩, t6⟩
    have k5 := hg.grow gg
    have hsm : smP (putAll f.nl (g.nl.take i)) := putAll_sm hc hn.nl.2 hm.nl.2
    simp +contextual (maxSteps := 2000000) only [go_sem, Nat.reduceEqDiff, reduceCtorEq, Nat.reduceAdd, Nat.reduceLeDiff, t3, l3, t4, l4, t5, l5, t6, k5.nl.len, k5.nl.iaddr hi, k5.nl.whole hi, lt_true hi]
    refine wp_call (c_putPair _ _ g.nl[i] h' (f5.nl.sl lenP) hsm) ?_
    rintro r h5 ⟨g5, n5⟩
    obtain ⟨d, rfl⟩ := n5.one
    simp +contextual (maxSteps := 2000000) only [go_sem, Nat.reduceEqDiff, reduceCtorEq, Nat.reduceAdd, Nat.reduceLeDiff, t3, l3, t4, l4, t5, l5, t6]
    rw [wrap_next hi hm.nl.len, putAll_next hi]
    exact ⟨gg.trans g5, ⟨d, rfl, f5.pl.grow g5, n5.from gg.n, f5.pl.apart n5⟩, rfl⟩
  · rintro T L h' ⟨gg, t3, l3, t4, l4, t5, ⟨b, l5, f5⟩, t6⟩
    rw [List.take_length] at f5
    simp +contextual (maxSteps := 2000000) only [go_sem, Nat.reduceEqDiff, reduceCtorEq, Nat.reduceAdd, Nat.reduceLeDiff, t3, l3, t4, l4, t5, l5, t6, (hg.grow gg).nl.len, lt_false]
    exact gcK_of ⟨gg, _, _, rfl, f5⟩ (fun hs _ => ⟨Grow.refl h, _, _, rfl, f5.scalar hs h⟩)
  · simp +contextual (maxSteps := 2000000) only [go_sem, Nat.reduceEqDiff, reduceCtorEq, Nat.reduceAdd, Nat.reduceLeDiff]
    exact ⟨g2, ⟨n1, rfl, f2⟩, rfl⟩
end Go.Proofs.Ytnphlonhogcedaa.Am
