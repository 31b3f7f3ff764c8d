/- Contracts: one call over the other, of the laws' own reckoning. -/
import Derived.Test.YtdalgphpacikkacA1
namespace Go.Proofs.Ytdalgphpacikkac.Am
open Go
set_option maxRecDepth 100000
set_option maxHeartbeats 4000000
set_option linter.unusedSimpArgs false
set_option linter.unusedVariables false
attribute [local go_sem ↓] bv_t bv_c ev_t ev_c put_same put_ne put_none kill_at pro_at lb_same lb_ne start_zero start_succ wpC_seq wpC_reg wpC_cond wpC_block wpC_skip wpC_exit wpC_ret thenQ_normal thenQ_exit thenQ_ret inBlk_normal inBlk_exit inBlk_ret wpS_nil wpS_step wpS_again wpS_guard wpO_mov wpO_load wpO_faddr wpO_nilCheck wpO_pick wpO_build wpO_bin wpO_eqb wpO_eqst wpO_eqnil wpO_not wpO_conv wpO_bytesStr wpO_iaddr wpO_idxStr wpO_field wpO_extract wpO_len wpO_lenStr wpO_cap wpO_min wpO_slice wpO_sliceStr wpO_alloc wpO_box wpO_store wpO_call wpO_callv wpO_mkfn wpO_buildSlice wpO_mkslice wpO_append wpO_appz proA_nil proA_cons tmpX_nil tmpX_tmp tmpX_cell doneB_normal doneB_ret agK_cons agK_nil agK_guard agG_tt agG_ff agG_tf agG_ft agG_undef pureB_load results_one results_two results_nil resBs_cons resBs_nil resB_tmp resB_cell
attribute [local go_sem] kill_v kill_lp_ne kill_lp_same pro_v pro_lp_same pro_lp_ne av_v av_lp optB_some optX_some valX_eq ldX_lp ldX_v faX_lp faX_v ncX_lp ncX_ptr ncX_fn boxK_one boxK_agg stL_some stK_lp_one stK_lp_agg stK_v_one stK_v_agg proM_v proM_lp callG_mk callVG_mk callvK_fn fnG_mk ptrsA_nil ptrsA_cons callH_some whenA_true whenA_false guardH_tt guardH_ff guardH_tf guardH_ft guardH_undef agV_one agV_agg lenO_sl lenStrO_str notO_bool pickO_bool convO_int eqbO_bool eqnilO_sl extractO_tup capO_sl minO_int loadL_one loadL_all storeL_eq fillA_nil fillA_one fillA_agg nat_ge neg_ge nat_lt neg_lt buildO bin_add bin_sub bin_mul bin_eql bin_neq bin_lss bin_leq bin_gtr bin_geq str_eql str_neq str_lss str_leq str_gtr str_geq retK_some endK_mk gcK_same gcK_int gcK_bool tupO_one tupO_agg rdy_self ib ii Option.map_none Option.map_some Option.some.injEq exists_eq_left' exists_eq_left ne_eq not_false_eq_true if_true if_false List.map_cons List.map_nil List.getElem?_cons_zero List.getElem?_cons_succ List.length_cons List.length_nil List.take_succ_cons List.take_zero List.take_nil List.drop_succ_cons List.drop_zero List.drop_nil List.cons_append List.nil_append List.append_nil List.set_cons_zero List.set_cons_succ Nat.zero_add forall_const true_and and_true and_self Bool.false_eq_true false_implies true_implies implies_true Bool.not_true Bool.not_false Bool.not_eq_true' Bool.not_eq_false' beq_self_eq_true Bool.bne_true Bool.bne_false
attribute [local go_sem] lenI lenS lenP lenQ lenB lenL lenT encI_0 encS_0 encP_0 encP_1 encQ_0 encQ_1 encQ_2 encQ_3 encB_0 encB_1 encL_0 encL_1 encT_0 encT_1
attribute [local go_sem low] whenA_bool guardH_bool
/-! spec.copyFlat -/
def L91_0 : List AStep := [⟨.box 33 (.t 0), (some 1), none, []⟩, ⟨.alloc 33 [(.sl none 0 (some 0)), (.sl none 0 (some 0))], (some 2), none, []⟩]
theorem v91_0 : VS L91_0.eq_1 := rfl
def L91_1 : List AStep := [⟨.build [(.sl none 0 (some 0)), (.sl none 0 (some 0))] [(0, 1, (.t 6)), (1, 1, (.t 10))], (some 11), none, []⟩, ⟨.store 2 (.t 2) (.t 11), none, none, []⟩]
theorem v91_1 : VS L91_1.eq_1 := rfl
def L91_2 : List AStep := ⟨.append 3 1 8 (.t 3) (.t 5), (some 6), none, [(.load 1 false (.t 8), (some 9), none)]⟩ :: ⟨.append 106 2 24 (.t 7) (.t 9), (some 10), none, []⟩ :: L91_1
theorem v91_2 : VS L91_2.eq_1 := rfl
def L91_3 : List AStep := ⟨.faddr 1 (.t 1), (some 8), none, []⟩ :: ⟨.load 1 false (.t 8), (some 9), none, []⟩ :: L91_2
theorem v91_3 : VS L91_3.eq_1 := rfl
def L91_4 : List AStep := ⟨.load 1 false (.t 4), (some 5), none, []⟩ :: ⟨.buildSlice 106 0 [(.str (strOfNums [])), (.int .i64 0)] [], (some 7), none, []⟩ :: L91_3
theorem v91_4 : VS L91_4.eq_1 := rfl
def L91_5 : List AStep := ⟨.buildSlice 3 0 [(.int .i64 0)] [], (some 3), none, []⟩ :: ⟨.faddr 0 (.t 1), (some 4), none, []⟩ :: L91_4
theorem v91_5 : VS L91_5.eq_1 := rfl
def C91_0 : ACode := .seq (.reg L91_5) .ret
theorem u91_0 : VC C91_0.eq_1 := rfl
def C91_1 : ACode := .seq (.reg L91_0) C91_0
theorem u91_1 : VC C91_1.eq_1 := rfl
def F91 : AFunc := ⟨12, [.cell 2 2 true], C91_1⟩
theorem cF91 : compB Try.prog 91 = some F91 := by kernel_rfl
attribute [local go_sem ↓] u91_0 u91_1 v91_0 v91_1 v91_2 v91_3 v91_4 v91_5
theorem c_copyFlat (f : Flat) (p n : CV) (h : H) (hf : SlF h p n f) (hn : smF f) : callK (bm Try.prog 91 [.agg [p, n]] h) fun r h' => Grow h h' ∧ ∃ p' n', r = .agg [p', n'] ∧ NwF h h' p' n' f := by
  refine bm_of cF91 ?_
  simp +contextual (maxSteps := 2000000) only [go_sem, Nat.reduceEqDiff, reduceCtorEq, Nat.reduceAdd, Nat.reduceLeDiff, F91]
  have b1 := hn.pl
  have b2 := hn.nl.1
  unfold big at b1 b2
  refine wp_lit (enc := encI) (k := 1) (l := []) rfl rfl ?_
  intro h1 w1 g1 n1 _
  simp +contextual (maxSteps := 2000000) only [go_sem, Nat.reduceEqDiff, reduceCtorEq, Nat.reduceAdd, Nat.reduceLeDiff]
  refine wp_lit (enc := encP) (k := 2) (l := []) rfl rfl ?_
  intro h2 w2 g2 n2 _
  simp +contextual (maxSteps := 2000000) only [go_sem, Nat.reduceEqDiff, reduceCtorEq, Nat.reduceAdd, Nat.reduceLeDiff]
  refine wp_append lenI (n1.grow g2) ((hf.pl.grow g1).grow g2) (g1.trans g2) (by simp; omega) ?_
  intro h3 s3 g3 n3 st3 hb3
  simp +contextual (maxSteps := 2000000) only [go_sem, Nat.reduceEqDiff, reduceCtorEq, Nat.reduceAdd, Nat.reduceLeDiff]
  have m2 := (n2.stay st3 (n1.apart n2).symm).from g1.n
  refine wp_append lenP m2 (hf.nl.grow g3) g3 (by simp; omega) ?_
  intro h4 s4 g4 n4 st4 hb4
  obtain ⟨c, rfl⟩ := n3.one
  obtain ⟨d, rfl⟩ := n4.one
  simp +contextual (maxSteps := 2000000) only [go_sem, Nat.reduceEqDiff, reduceCtorEq, Nat.reduceAdd, Nat.reduceLeDiff]
  have sp : Sep (.one c) w2 := fun i hi hw => by
    rcases hb3 i hi with e | e
    · exact n1.apart n2 i e hw
    · have := (n2.lt hw).1
      omega
  have n5 : NwF h h4 c d f := ⟨(by simpa using n3.stay st4 sp), (by simpa using n4), fun i hi hd => by
    rcases hb4 i hd with e | e
    · exact sp i hi e
    · have := (n3.lt hi).1
      omega⟩
  exact gcK_of ⟨g4, _, _, rfl, n5⟩ (fun hs _ => ⟨Grow.refl h, _, _, rfl, n5.scalar hs h⟩)
/-! spec.putPair -/
def L92_0 : List AStep := [⟨.box 106 (.t 1), (some 3), none, []⟩, ⟨.mov (.c (.sl none 0 (some 0))), (some 4), none, []⟩]
theorem v92_0 : VS L92_0.eq_1 := rfl
def L92_1 : List AStep := [⟨.append 106 2 24 (.t 7) (.t 8), (some 9), none, []⟩, ⟨.mov (.t 9), (some 5), none, []⟩]
theorem v92_1 : VS L92_1.eq_1 := rfl
def L92_2 : List AStep := ⟨.buildSlice 106 0 [(.str (strOfNums [])), (.int .i64 0)] [], (some 7), none, []⟩ :: ⟨.mov (.t 0), (some 8), none, []⟩ :: L92_1
theorem v92_2 : VS L92_2.eq_1 := rfl
def L92_3 : List AStep := [⟨.mov (.t 13), (some 6), none, []⟩]
theorem v92_3 : VS L92_3.eq_1 := rfl
def L92_4 : List AStep := ⟨.load 1 false (.t 11), (some 12), none, []⟩ :: ⟨.call 88 [(.t 10), (.t 12)], (some 13), none, []⟩ :: L92_3
theorem v92_4 : VS L92_4.eq_1 := rfl
def L92_5 : List AStep := ⟨.mov (.t 5), (some 10), none, []⟩ :: ⟨.faddr 0 (.t 3), (some 11), none, []⟩ :: L92_4
theorem v92_5 : VS L92_5.eq_1 := rfl
def L92_6 : List AStep := [⟨.mov (.t 6), (some 14), none, []⟩, ⟨.bin .geq (.t 14) (.c (.int .i64 0)), (some 15), none, []⟩]
theorem v92_6 : VS L92_6.eq_1 := rfl
def L92_7 : List AStep := [⟨.store 2 (.t 19) (.t 18), none, none, []⟩]
theorem v92_7 : VS L92_7.eq_1 := rfl
def L92_8 : List AStep := ⟨.load 2 true (.t 3), (some 18), none, []⟩ :: ⟨.iaddr 2 (.t 16) (.t 17), (some 19), none, []⟩ :: L92_7
theorem v92_8 : VS L92_8.eq_1 := rfl
def L92_9 : List AStep := ⟨.mov (.t 5), (some 16), none, []⟩ :: ⟨.mov (.t 6), (some 17), none, []⟩ :: L92_8
theorem v92_9 : VS L92_9.eq_1 := rfl
def L92_10 : List AStep := [⟨.mov (.t 5), (some 20), none, []⟩, ⟨.mov (.t 20), (some 4), none, []⟩]
theorem v92_10 : VS L92_10.eq_1 := rfl
def L92_11 : List AStep := [⟨.mov (.t 24), (some 4), none, []⟩]
theorem v92_11 : VS L92_11.eq_1 := rfl
def L92_12 : List AStep := ⟨.buildSlice 106 1 [(.str (strOfNums [])), (.int .i64 0)] [(0, 2, (.t 22))], (some 23), none, []⟩ :: ⟨.append 106 2 24 (.t 21) (.t 23), (some 24), none, []⟩ :: L92_11
theorem v92_12 : VS L92_12.eq_1 := rfl
def L92_13 : List AStep := ⟨.mov (.t 5), (some 21), none, []⟩ :: ⟨.load 2 true (.t 3), (some 22), none, []⟩ :: L92_12
theorem v92_13 : VS L92_13.eq_1 := rfl
def C92_0 : ACode := .seq (.reg L92_10) .ret
theorem u92_0 : VC C92_0.eq_1 := rfl
def C92_1 : ACode := .seq (.reg L92_9) C92_0
theorem u92_1 : VC C92_1.eq_1 := rfl
def C92_2 : ACode := .cond (.t 15) C92_1 .skip
theorem u92_2 : VC C92_2.eq_1 := rfl
def C92_3 : ACode := .seq (.reg L92_6) C92_2
theorem u92_3 : VC C92_3.eq_1 := rfl
def C92_4 : ACode := .seq (.reg L92_13) .ret
theorem u92_4 : VC C92_4.eq_1 := rfl
def C92_5 : ACode := .seq C92_3 C92_4
theorem u92_5 : VC C92_5.eq_1 := rfl
def C92_6 : ACode := .seq (.reg L92_5) C92_5
theorem u92_6 : VC C92_6.eq_1 := rfl
def C92_7 : ACode := .seq (.reg L92_2) C92_6
theorem u92_7 : VC C92_7.eq_1 := rfl
def C92_8 : ACode := .seq (.reg L92_0) C92_7
theorem u92_8 : VC C92_8.eq_1 := rfl
def F92 : AFunc := ⟨25, [.tmp 4], C92_8⟩
theorem cF92 : compB Try.prog 92 = some F92 := by kernel_rfl
attribute [local go_sem ↓] u92_0 u92_1 u92_2 u92_3 u92_4 u92_5 u92_6 u92_7 u92_8 v92_0 v92_1 v92_2 v92_3 v92_4 v92_5 v92_6 v92_7 v92_8 v92_9 v92_10 v92_11 v92_12 v92_13
theorem c_putPair (l : List Pair) (v : AV) (x : Pair) (h : H) (hl : SlP h v l) (hn : smP l) : callK (bm Try.prog 92 [v, .agg (encP x)] h) fun r h' => Grow h h' ∧ NwP h h' r (putP l x) := by
  refine bm_of cF92 ?_
  simp +contextual (maxSteps := 2000000) only [go_sem, Nat.reduceEqDiff, reduceCtorEq, Nat.reduceAdd, Nat.reduceLeDiff, F92]
  refine wp_lit (enc := encP) (k := 2) (l := []) rfl rfl ?_
  intro h1 w g1 n1 _
  simp +contextual (maxSteps := 2000000) only [go_sem, Nat.reduceEqDiff, reduceCtorEq, Nat.reduceAdd, Nat.reduceLeDiff]
  refine wp_append lenP n1 (hl.grow g1) g1 (by have := hn.1; unfold big at this; simp; omega) ?_
  intro h2 s g2 n2 _ _
  rw [List.nil_append] at n2
  rcases idx_cases (fun q : Pair => decide (q.name = x.name)) l with e | ⟨j, hj, e, hs⟩ <;> (replace e := (show pairAt l x.name = _ from e))
  · simp +contextual (maxSteps := 2000000) only [go_sem, Nat.reduceEqDiff, reduceCtorEq, Nat.reduceAdd, Nat.reduceLeDiff, c_pairAt _ _ _ _ (n2.sl lenP) hn, e]
    refine wp_lit (enc := encP) (k := 2) (l := [x]) rfl rfl ?_
    intro h3 w2 g3 n3 _
    simp +contextual (maxSteps := 2000000) only [go_sem, Nat.reduceEqDiff, reduceCtorEq, Nat.reduceAdd, Nat.reduceLeDiff]
    refine wp_append lenP (n2.grow g3) (n3.sl lenP) (g2.trans g3) (by have := hn.1; unfold big at this; simp; omega) ?_
    intro h4 s4 g4 n4 _ _
    simp +contextual (maxSteps := 2000000) only [go_sem, Nat.reduceEqDiff, reduceCtorEq, Nat.reduceAdd, Nat.reduceLeDiff]
    rw [← putP_none e] at n4
    exact gcK_of ⟨g4, n4⟩ (fun hs _ => ⟨Grow.refl h, n4.scalar hs h⟩)
  · simp +contextual (maxSteps := 2000000) only [go_sem, Nat.reduceEqDiff, reduceCtorEq, Nat.reduceAdd, Nat.reduceLeDiff, c_pairAt _ _ _ _ (n2.sl lenP) hn, e, n2.iaddr hj]
    refine wp_setE (x := x) lenP n2 hj rfl rfl g2 ?_
    intro h3 g3 n3 st
    simp +contextual (maxSteps := 2000000) only [go_sem, Nat.reduceEqDiff, reduceCtorEq, Nat.reduceAdd, Nat.reduceLeDiff]
    rw [← putP_some e] at n3
    exact gcK_of ⟨g3, n3⟩ (fun hs _ => ⟨Grow.refl h, n3.scalar hs h⟩)
/-! spec.checkedFlat -/
def L43_0 : List AStep := [⟨.mov (.c (.bool false)), (some 3), none, []⟩]
theorem v43_0 : VS L43_0.eq_1 := rfl
def L43_1 : List AStep := ⟨.box 33 (.t 0), (some 1), none, []⟩ :: ⟨.alloc 33 [(.sl none 0 (some 0)), (.sl none 0 (some 0))], (some 2), none, []⟩ :: L43_0
theorem v43_1 : VS L43_1.eq_1 := rfl
def L43_2 : List AStep := [⟨.not (.t 5), (some 6), none, []⟩]
theorem v43_2 : VS L43_2.eq_1 := rfl
def L43_3 : List AStep := ⟨.load 2 true (.t 1), (some 4), none, []⟩ :: ⟨.call 41 [(.t 4)], (some 5), none, []⟩ :: L43_2
theorem v43_3 : VS L43_3.eq_1 := rfl
def L43_4 : List AStep := [⟨.mov (.c (.bool false)), (some 3), none, []⟩]
theorem v43_4 : VS L43_4.eq_1 := rfl
def L43_5 : List AStep := ⟨.build [(.sl none 0 (some 0)), (.sl none 0 (some 0))] [], (some 7), none, []⟩ :: ⟨.store 2 (.t 2) (.t 7), none, none, []⟩ :: L43_4
theorem v43_5 : VS L43_5.eq_1 := rfl
def L43_6 : List AStep := [⟨.mov (.c (.bool true)), (some 3), none, []⟩]
theorem v43_6 : VS L43_6.eq_1 := rfl
def L43_7 : List AStep := ⟨.load 2 true (.t 1), (some 8), none, []⟩ :: ⟨.store 2 (.t 2) (.t 8), none, none, []⟩ :: L43_6
theorem v43_7 : VS L43_7.eq_1 := rfl
def C43_0 : ACode := .seq (.reg L43_5) .ret
theorem u43_0 : VC C43_0.eq_1 := rfl
def C43_1 : ACode := .cond (.t 6) C43_0 .skip
theorem u43_1 : VC C43_1.eq_1 := rfl
def C43_2 : ACode := .seq (.reg L43_3) C43_1
theorem u43_2 : VC C43_2.eq_1 := rfl
def C43_3 : ACode := .seq (.reg L43_7) .ret
theorem u43_3 : VC C43_3.eq_1 := rfl
def C43_4 : ACode := .seq C43_2 C43_3
theorem u43_4 : VC C43_4.eq_1 := rfl
def C43_5 : ACode := .seq (.reg L43_1) C43_4
theorem u43_5 : VC C43_5.eq_1 := rfl
def F43 : AFunc := ⟨9, [.cell 2 2 true, .tmp 3], C43_5⟩
theorem cF43 : compB Try.prog 43 = some F43 := by kernel_rfl
attribute [local go_sem ↓] u43_0 u43_1 u43_2 u43_3 u43_4 u43_5 v43_0 v43_1 v43_2 v43_3 v43_4 v43_5 v43_6 v43_7
theorem c_checkedFlat (f : Flat) (p n : CV) (h : H) (hf : SlF h p n f) (hn : smF f) :
    bm Try.prog 43 [.agg [p, n]] h = some (.tup [if okFlat f = true then .agg [p, n] else .agg [.sl none 0 (some 0), .sl none 0 (some 0)], .one (.bool (okFlat f))], h) := by
  refine bm_eq cF43 ?_
  cases hok : okFlat f with
  | false =>
    simp +contextual (maxSteps := 2000000) only [go_sem, Nat.reduceEqDiff, reduceCtorEq, Nat.reduceAdd, Nat.reduceLeDiff, F43, c_validFlat _ _ _ _ hf.pl hf.nl hn, hok]
  | true =>
    simp +contextual (maxSteps := 2000000) only [go_sem, Nat.reduceEqDiff, reduceCtorEq, Nat.reduceAdd, Nat.reduceLeDiff, F43, c_validFlat _ _ _ _ hf.pl hf.nl hn, hok]
/-! spec.over -/
def L44_0 : List AStep := [⟨.alloc 33 [(.sl none 0 (some 0)), (.sl none 0 (some 0))], (some 4), none, []⟩]
theorem v44_0 : VS L44_0.eq_1 := rfl
def L44_1 : List AStep := ⟨.box 33 (.t 0), (some 2), none, []⟩ :: ⟨.box 33 (.t 1), (some 3), none, []⟩ :: L44_0
theorem v44_1 : VS L44_1.eq_1 := rfl
def L44_2 : List AStep := [⟨.alloc 33 [(.sl none 0 (some 0)), (.sl none 0 (some 0))], (some 5), none, []⟩, ⟨.store 2 (.t 5) (.t 8), none, none, []⟩]
theorem v44_2 : VS L44_2.eq_1 := rfl
def L44_3 : List AStep := ⟨.load 2 true (.t 2), (some 7), none, []⟩ :: ⟨.call 91 [(.t 7)], (some 8), none, []⟩ :: L44_2
theorem v44_3 : VS L44_3.eq_1 := rfl
def L44_4 : List AStep := [⟨.store 1 (.t 14) (.t 13), none, none, []⟩]
theorem v44_4 : VS L44_4.eq_1 := rfl
def L44_5 : List AStep := ⟨.append 3 1 8 (.t 10) (.t 12), (some 13), none, []⟩ :: ⟨.faddr 0 (.t 5), (some 14), none, []⟩ :: L44_4
theorem v44_5 : VS L44_5.eq_1 := rfl
def L44_6 : List AStep := ⟨.faddr 0 (.t 3), (some 11), none, []⟩ :: ⟨.load 1 false (.t 11), (some 12), none, []⟩ :: L44_5
theorem v44_6 : VS L44_6.eq_1 := rfl
def L44_7 : List AStep := ⟨.faddr 0 (.t 5), (some 9), none, []⟩ :: ⟨.load 1 false (.t 9), (some 10), none, []⟩ :: L44_6
theorem v44_7 : VS L44_7.eq_1 := rfl
def L44_8 : List AStep := [⟨.mov (.c (.int .i64 0)), (some 6), none, []⟩]
theorem v44_8 : VS L44_8.eq_1 := rfl
def L44_9 : List AStep := [⟨.bin .lss (.t 15) (.t 18), (some 19), none, []⟩]
theorem v44_9 : VS L44_9.eq_1 := rfl
def L44_10 : List AStep := ⟨.load 1 false (.t 16), (some 17), none, []⟩ :: ⟨.len (.t 17), (some 18), none, []⟩ :: L44_9
theorem v44_10 : VS L44_10.eq_1 := rfl
def L44_11 : List AStep := ⟨.mov (.t 6), (some 15), none, []⟩ :: ⟨.faddr 1 (.t 3), (some 16), none, []⟩ :: L44_10
theorem v44_11 : VS L44_11.eq_1 := rfl
def L44_12 : List AStep := [⟨.faddr 1 (.t 5), (some 30), none, []⟩, ⟨.store 1 (.t 30) (.t 29), none, none, []⟩]
theorem v44_12 : VS L44_12.eq_1 := rfl
def L44_13 : List AStep := ⟨.load 2 true (.t 27), (some 28), none, []⟩ :: ⟨.call 92 [(.t 23), (.t 28)], (some 29), none, []⟩ :: L44_12
theorem v44_13 : VS L44_13.eq_1 := rfl
def L44_14 : List AStep := ⟨.mov (.t 6), (some 26), none, []⟩ :: ⟨.iaddr 2 (.t 25) (.t 26), (some 27), none, []⟩ :: L44_13
theorem v44_14 : VS L44_14.eq_1 := rfl
def L44_15 : List AStep := ⟨.faddr 1 (.t 3), (some 24), none, []⟩ :: ⟨.load 1 false (.t 24), (some 25), none, []⟩ :: L44_14
theorem v44_15 : VS L44_15.eq_1 := rfl
def L44_16 : List AStep := ⟨.faddr 1 (.t 5), (some 22), none, []⟩ :: ⟨.load 1 false (.t 22), (some 23), none, []⟩ :: L44_15
theorem v44_16 : VS L44_16.eq_1 := rfl
def L44_17 : List AStep := [⟨.mov (.t 21), (some 6), none, []⟩]
theorem v44_17 : VS L44_17.eq_1 := rfl
def L44_18 : List AStep := ⟨.mov (.t 6), (some 20), none, []⟩ :: ⟨.bin .add (.t 20) (.c (.int .i64 1)), (some 21), none, []⟩ :: L44_17
theorem v44_18 : VS L44_18.eq_1 := rfl
def L44_19 : List AStep := [⟨.load 2 true (.t 5), (some 31), none, []⟩, ⟨.store 2 (.t 4) (.t 31), none, none, []⟩]
theorem v44_19 : VS L44_19.eq_1 := rfl
def C44_0 : ACode := .cond (.t 19) .skip (.exit 0)
theorem u44_0 : VC C44_0.eq_1 := rfl
def C44_1 : ACode := .seq (.reg L44_11) C44_0
theorem u44_1 : VC C44_1.eq_1 := rfl
def C44_2 : ACode := .block 1 (.reg L44_16)
theorem u44_2 : VC C44_2.eq_1 := rfl
def C44_3 : ACode := .seq C44_2 (.reg L44_18)
theorem u44_3 : VC C44_3.eq_1 := rfl
def C44_4 : ACode := .seq C44_1 C44_3
theorem u44_4 : VC C44_4.eq_1 := rfl
def C44_5 : ACode := .block 0 (.loop C44_4)
theorem u44_5 : VC C44_5.eq_1 := rfl
def C44_6 : ACode := .seq (.reg L44_8) C44_5
theorem u44_6 : VC C44_6.eq_1 := rfl
def C44_7 : ACode := .seq (.reg L44_19) .ret
theorem u44_7 : VC C44_7.eq_1 := rfl
def C44_8 : ACode := .seq C44_6 C44_7
theorem u44_8 : VC C44_8.eq_1 := rfl
def C44_9 : ACode := .seq (.reg L44_7) C44_8
theorem u44_9 : VC C44_9.eq_1 := rfl
def C44_10 : ACode := .seq (.reg L44_3) C44_9
theorem u44_10 : VC C44_10.eq_1 := rfl
def C44_11 : ACode := .seq (.reg L44_1) C44_10
theorem u44_11 : VC C44_11.eq_1 := rfl
def F44 : AFunc := ⟨32, [.cell 4 2 true], C44_11⟩
theorem cF44 : compB Try.prog 44 = some F44 := by kernel_rfl
attribute [local go_sem ↓] u44_0 u44_1 u44_2 u44_3 u44_4 u44_5 u44_6 u44_7 u44_8 u44_9 u44_10 u44_11 v44_0 v44_1 v44_2 v44_3 v44_4 v44_5 v44_6 v44_7 v44_8 v44_9 v44_10 v44_11 v44_12 v44_13 v44_14 v44_15 v44_16 v44_17 v44_18 v44_19
theorem c_over (f g : Flat) (p n q m : CV) (h : H) (hf : SlF h p n f) (hg : SlF h q m g) (hn : smF f) (hm : smF g) (hb : f.pl.length + g.pl.length ≤ big) (hc : f.nl.length + g.nl.length ≤ big) :
    callK (bm Try.prog 44 [.agg [p, n], .agg [q, m]] h) fun r h' => Grow h h' ∧ ∃ p' n', r = .agg [p', n'] ∧ NwF h h' p' n' (overF f g) := by
  refine bm_of cF44 ?_
  simp +contextual (maxSteps := 2000000) only [go_sem, Nat.reduceEqDiff, reduceCtorEq, Nat.reduceAdd, Nat.reduceLeDiff, F44]
  refine wp_call (c_copyFlat f p n h hf hn) ?_
  rintro r h1 ⟨g1, p1, n1, rfl, e1⟩
  simp +contextual (maxSteps := 2000000) only [go_sem, Nat.reduceEqDiff, reduceCtorEq, Nat.reduceAdd, Nat.reduceLeDiff]
  refine wp_append lenI e1.pl (hg.pl.grow g1) g1 (by unfold big at hb; omega) ?_
  intro h2 s2 g2 n2 st2 hb2
  obtain ⟨c, rfl⟩ := n2.one
  have sp : Sep (.one c) (.one n1) := fun i hi hw => by
    rcases hb2 i hi with e | e
    · exact e1.sep i e hw
    · have := (e1.nl.lt hw).1
      omega
  have f2 : NwF h h2 c n1 ⟨f.pl ++ g.pl, f.nl⟩ := ⟨n2, e1.nl.stay st2 e1.sep.symm, sp⟩
  simp +contextual (maxSteps := 2000000) only [go_sem, Nat.reduceEqDiff, reduceCtorEq, Nat.reduceAdd, Nat.reduceLeDiff]
  refine wpC_loop (fun i T L h' => Grow h h' ∧ T 3 = .lp 3 0 ∧ (L 3).2 = [q, m] ∧ T 4 = .lp 4 0 ∧ (L 4).2 = [.sl none 0 (some 0), .sl none 0 (some 0)] ∧ T 5 = .lp 5 0 ∧ (∃ b, (L 5).2 = [c, b] ∧ NwF h h' c b ⟨f.pl ++ g.pl, putAll f.nl (g.nl.take i)⟩) ∧ T 6 = .v (.one (.int .i64 i))) g.nl.length ?_ ?_ (Nat.zero_le _) ?_
  · rintro i T L h' hi ⟨gg, t3, l3, t4, l4, t5, ⟨b, l5, f5⟩, t6⟩
    have k5 := hg.grow gg
    have hsm : smP (putAll f.nl (g.nl.take i)) := putAll_sm hc hn.nl.2 hm.nl.2
    simp +contextual (maxSteps := 2000000) only [go_sem, Nat.reduceEqDiff, reduceCtorEq, Nat.reduceAdd, Nat.reduceLeDiff, t3, l3, t4, l4, t5, l5, t6, k5.nl.len, k5.nl.iaddr hi, k5.nl.whole hi, lt_true hi]
    refine wp_call (c_putPair _ _ g.nl[i] h' (f5.nl.sl lenP) hsm) ?_
    rintro r h5 ⟨g5, n5⟩
    obtain ⟨d, rfl⟩ := n5.one
    simp +contextual (maxSteps := 2000000) only [go_sem, Nat.reduceEqDiff, reduceCtorEq, Nat.reduceAdd, Nat.reduceLeDiff, t3, l3, t4, l4, t5, l5, t6]
    rw [wrap_next hi hm.nl.len, putAll_next hi]
    exact ⟨gg.trans g5, ⟨d, rfl, f5.pl.grow g5, n5.from gg.n, f5.pl.apart n5⟩, rfl⟩
  · rintro T L h' ⟨gg, t3, l3, t4, l4, t5, ⟨b, l5, f5⟩, t6⟩
    rw [List.take_length] at f5
    simp +contextual (maxSteps := 2000000) only [go_sem, Nat.reduceEqDiff, reduceCtorEq, Nat.reduceAdd, Nat.reduceLeDiff, t3, l3, t4, l4, t5, l5, t6, (hg.grow gg).nl.len, lt_false]
    exact gcK_of ⟨gg, _, _, rfl, f5⟩ (fun hs _ => ⟨Grow.refl h, _, _, rfl, f5.scalar hs h⟩)
  · simp +contextual (maxSteps := 2000000) only [go_sem, Nat.reduceEqDiff, reduceCtorEq, Nat.reduceAdd, Nat.reduceLeDiff]
    exact ⟨g2, ⟨n1, rfl, f2⟩, rfl⟩
end Go.Proofs.Ytdalgphpacikkac.Am
