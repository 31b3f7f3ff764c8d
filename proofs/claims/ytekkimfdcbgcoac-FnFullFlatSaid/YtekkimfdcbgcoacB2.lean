/- Contracts: one call over the other, of the laws' own reckoning. -/
import Derived.Test.YtekkimfdcbgcoacA1
namespace Go.Proofs.Ytekkimfdcbgcoac.Am
open Go
set_option maxRecDepth 100000
set_option maxHeartbeats 4000000
set_option linter.unusedSimpArgs false
set_option linter.unusedVariables false
attribute [local go_sem ↓] bv_t bv_c ev_t ev_c put_same put_ne put_none kill_at pro_at lb_same lb_ne start_zero start_succ wpC_seq wpC_reg wpC_cond wpC_block wpC_skip wpC_exit wpC_ret thenQ_normal thenQ_exit thenQ_ret inBlk_normal inBlk_exit inBlk_ret wpS_nil wpS_step wpS_again wpS_guard wpO_mov wpO_load wpO_faddr wpO_nilCheck wpO_pick wpO_build wpO_bin wpO_eqb wpO_eqst wpO_eqnil wpO_not wpO_conv wpO_bytesStr wpO_iaddr wpO_idxStr wpO_field wpO_extract wpO_len wpO_lenStr wpO_cap wpO_min wpO_slice wpO_sliceStr wpO_alloc wpO_box wpO_store wpO_call wpO_callv wpO_mkfn wpO_buildSlice wpO_mkslice wpO_append wpO_appz proA_nil proA_cons tmpX_nil tmpX_tmp tmpX_cell doneB_normal doneB_ret agK_cons agK_nil agK_guard agG_tt agG_ff agG_tf agG_ft agG_undef pureB_load results_one results_two results_nil resBs_cons resBs_nil resB_tmp resB_cell
attribute [local go_sem] kill_v kill_lp_ne kill_lp_same pro_v pro_lp_same pro_lp_ne av_v av_lp optB_some optX_some valX_eq ldX_lp ldX_v faX_lp faX_v ncX_lp ncX_ptr ncX_fn boxK_one boxK_agg stL_some stK_lp_one stK_lp_agg stK_v_one stK_v_agg proM_v proM_lp callG_mk callVG_mk callvK_fn fnG_mk ptrsA_nil ptrsA_cons callH_some whenA_true whenA_false guardH_tt guardH_ff guardH_tf guardH_ft guardH_undef agV_one agV_agg lenO_sl lenStrO_str notO_bool pickO_bool convO_int eqbO_bool eqnilO_sl extractO_tup capO_sl minO_int loadL_one loadL_all storeL_eq fillA_nil fillA_one fillA_agg nat_ge neg_ge nat_lt neg_lt buildO bin_add bin_sub bin_mul bin_eql bin_neq bin_lss bin_leq bin_gtr bin_geq str_eql str_neq str_lss str_leq str_gtr str_geq retK_some endK_mk gcK_same gcK_int gcK_bool tupO_one tupO_agg rdy_self ib ii Option.map_none Option.map_some Option.some.injEq exists_eq_left' exists_eq_left ne_eq not_false_eq_true if_true if_false List.map_cons List.map_nil List.getElem?_cons_zero List.getElem?_cons_succ List.length_cons List.length_nil List.take_succ_cons List.take_zero List.take_nil List.drop_succ_cons List.drop_zero List.drop_nil List.cons_append List.nil_append List.append_nil List.set_cons_zero List.set_cons_succ Nat.zero_add forall_const true_and and_true and_self Bool.false_eq_true false_implies true_implies implies_true Bool.not_true Bool.not_false Bool.not_eq_true' Bool.not_eq_false' beq_self_eq_true Bool.bne_true Bool.bne_false
attribute [local go_sem] lenI lenS lenP lenQ lenB lenL lenT encI_0 encS_0 encP_0 encP_1 encQ_0 encQ_1 encQ_2 encQ_3 encB_0 encB_1 encL_0 encL_1 encT_0 encT_1
attribute [local go_sem low] whenA_bool guardH_bool
/-! spec.copyParams -/
def L74_0 : List AStep := [⟨.mov (.c (.sl none 0 (some 0))), (some 2), none, []⟩]
theorem v74_0 : VS L74_0.eq_1 := rfl
def L74_1 : List AStep := [⟨.append 44 4 40 (.t 3) (.t 4), (some 5), none, []⟩, ⟨.mov (.t 5), (some 2), none, []⟩]
theorem v74_1 : VS L74_1.eq_1 := rfl
def L74_2 : List AStep := ⟨.buildSlice 44 0 [(.str (strOfNums [])), (.int .i64 0), (.bool false), (.int .i64 0)] [], (some 3), none, []⟩ :: ⟨.mov (.t 0), (some 4), none, []⟩ :: L74_1
theorem v74_2 : VS L74_2.eq_1 := rfl
def C74_0 : ACode := .seq (.reg L74_2) .ret
theorem u74_0 : VC C74_0.eq_1 := rfl
def C74_1 : ACode := .seq (.reg L74_0) C74_0
theorem u74_1 : VC C74_1.eq_1 := rfl
def F74 : AFunc := ⟨6, [.tmp 2], C74_1⟩
theorem cF74 : compB Try.prog 74 = some F74 := by kernel_rfl
attribute [local go_sem ↓] u74_0 u74_1 v74_0 v74_1 v74_2
theorem c_copyParams (l : List Param) (v : AV) (h : H) (hl : SlQ h v l) (hn : l.length ≤ big) : callK (bm Try.prog 74 [v] h) fun r h' => Grow h h' ∧ NwQ h h' r l := by
  refine bm_of cF74 ?_
  simp +contextual (maxSteps := 2000000) only [go_sem, Nat.reduceEqDiff, reduceCtorEq, Nat.reduceAdd, Nat.reduceLeDiff, F74]
  refine wp_lit (enc := encQ) (k := 4) (l := []) rfl rfl ?_
  intro h1 w g1 n1 _
  simp +contextual (maxSteps := 2000000) only [go_sem, Nat.reduceEqDiff, reduceCtorEq, Nat.reduceAdd, Nat.reduceLeDiff]
  refine wp_append lenQ n1 (hl.grow g1) g1 (by have := hn; unfold big at this; simp; omega) ?_
  intro h2 s g2 n2 _ _
  simp +contextual (maxSteps := 2000000) only [go_sem, Nat.reduceEqDiff, reduceCtorEq, Nat.reduceAdd, Nat.reduceLeDiff]
  exact gcK_of ⟨g2, n2⟩ (fun hs _ => ⟨Grow.refl h, n2.scalar hs h⟩)
/-! spec.copyFlat -/
def L75_0 : List AStep := [⟨.box 29 (.t 0), (some 1), none, []⟩, ⟨.alloc 29 [(.sl none 0 (some 0)), (.sl none 0 (some 0))], (some 2), none, []⟩]
theorem v75_0 : VS L75_0.eq_1 := rfl
def L75_1 : List AStep := [⟨.build [(.sl none 0 (some 0)), (.sl none 0 (some 0))] [(0, 1, (.t 6)), (1, 1, (.t 10))], (some 11), none, []⟩, ⟨.store 2 (.t 2) (.t 11), none, none, []⟩]
theorem v75_1 : VS L75_1.eq_1 := rfl
def L75_2 : List AStep := ⟨.append 3 1 8 (.t 3) (.t 5), (some 6), none, [(.load 1 false (.t 8), (some 9), none)]⟩ :: ⟨.append 93 2 24 (.t 7) (.t 9), (some 10), none, []⟩ :: L75_1
theorem v75_2 : VS L75_2.eq_1 := rfl
def L75_3 : List AStep := ⟨.faddr 1 (.t 1), (some 8), none, []⟩ :: ⟨.load 1 false (.t 8), (some 9), none, []⟩ :: L75_2
theorem v75_3 : VS L75_3.eq_1 := rfl
def L75_4 : List AStep := ⟨.load 1 false (.t 4), (some 5), none, []⟩ :: ⟨.buildSlice 93 0 [(.str (strOfNums [])), (.int .i64 0)] [], (some 7), none, []⟩ :: L75_3
theorem v75_4 : VS L75_4.eq_1 := rfl
def L75_5 : List AStep := ⟨.buildSlice 3 0 [(.int .i64 0)] [], (some 3), none, []⟩ :: ⟨.faddr 0 (.t 1), (some 4), none, []⟩ :: L75_4
theorem v75_5 : VS L75_5.eq_1 := rfl
def C75_0 : ACode := .seq (.reg L75_5) .ret
theorem u75_0 : VC C75_0.eq_1 := rfl
def C75_1 : ACode := .seq (.reg L75_0) C75_0
theorem u75_1 : VC C75_1.eq_1 := rfl
def F75 : AFunc := ⟨12, [.cell 2 2 true], C75_1⟩
theorem cF75 : compB Try.prog 75 = some F75 := by kernel_rfl
attribute [local go_sem ↓] u75_0 u75_1 v75_0 v75_1 v75_2 v75_3 v75_4 v75_5
theorem c_copyFlat (f : Flat) (p n : CV) (h : H) (hf : SlF h p n f) (hn : smF f) : callK (bm Try.prog 75 [.agg [p, n]] h) fun r h' => Grow h h' ∧ ∃ p' n', r = .agg [p', n'] ∧ NwF h h' p' n' f := by
  refine bm_of cF75 ?_
  simp +contextual (maxSteps := 2000000) only [go_sem, Nat.reduceEqDiff, reduceCtorEq, Nat.reduceAdd, Nat.reduceLeDiff, F75]
  have b1 := hn.pl
  have b2 := hn.nl.1
  unfold big at b1 b2
  refine wp_lit (enc := encI) (k := 1) (l := []) rfl rfl ?_
  intro h1 w1 g1 n1 _
  simp +contextual (maxSteps := 2000000) only [go_sem, Nat.reduceEqDiff, reduceCtorEq, Nat.reduceAdd, Nat.reduceLeDiff]
  refine wp_lit (enc := encP) (k := 2) (l := []) rfl rfl ?_
  intro h2 w2 g2 n2 _
  simp +contextual (maxSteps := 2000000) only [go_sem, Nat.reduceEqDiff, reduceCtorEq, Nat.reduceAdd, Nat.reduceLeDiff]
  refine wp_append lenI (n1.grow g2) ((hf.pl.grow g1).grow g2) (g1.trans g2) (by simp; omega) ?_
  intro h3 s3 g3 n3 st3 hb3
  simp +contextual (maxSteps := 2000000) only [go_sem, Nat.reduceEqDiff, reduceCtorEq, Nat.reduceAdd, Nat.reduceLeDiff]
  have m2 := (n2.stay st3 (n1.apart n2).symm).from g1.n
  refine wp_append lenP m2 (hf.nl.grow g3) g3 (by simp; omega) ?_
  intro h4 s4 g4 n4 st4 hb4
  obtain ⟨c, rfl⟩ := n3.one
  obtain ⟨d, rfl⟩ := n4.one
  simp +contextual (maxSteps := 2000000) only [go_sem, Nat.reduceEqDiff, reduceCtorEq, Nat.reduceAdd, Nat.reduceLeDiff]
  have sp : Sep (.one c) w2 := fun i hi hw => by
    rcases hb3 i hi with e | e
    · exact n1.apart n2 i e hw
    · have := (n2.lt hw).1
      omega
  have n5 : NwF h h4 c d f := ⟨(by simpa using n3.stay st4 sp), (by simpa using n4), fun i hi hd => by
    rcases hb4 i hd with e | e
    · exact sp i hi e
    · have := (n3.lt hi).1
      omega⟩
  exact gcK_of ⟨g4, _, _, rfl, n5⟩ (fun hs _ => ⟨Grow.refl h, _, _, rfl, n5.scalar hs h⟩)
/-! spec.putPair -/
def L119_0 : List AStep := [⟨.box 93 (.t 1), (some 3), none, []⟩, ⟨.mov (.c (.sl none 0 (some 0))), (some 4), none, []⟩]
theorem v119_0 : VS L119_0.eq_1 := rfl
def L119_1 : List AStep := [⟨.append 93 2 24 (.t 7) (.t 8), (some 9), none, []⟩, ⟨.mov (.t 9), (some 5), none, []⟩]
theorem v119_1 : VS L119_1.eq_1 := rfl
def L119_2 : List AStep := ⟨.buildSlice 93 0 [(.str (strOfNums [])), (.int .i64 0)] [], (some 7), none, []⟩ :: ⟨.mov (.t 0), (some 8), none, []⟩ :: L119_1
theorem v119_2 : VS L119_2.eq_1 := rfl
def L119_3 : List AStep := [⟨.mov (.t 13), (some 6), none, []⟩]
theorem v119_3 : VS L119_3.eq_1 := rfl
def L119_4 : List AStep := ⟨.load 1 false (.t 11), (some 12), none, []⟩ :: ⟨.call 116 [(.t 10), (.t 12)], (some 13), none, []⟩ :: L119_3
theorem v119_4 : VS L119_4.eq_1 := rfl
def L119_5 : List AStep := ⟨.mov (.t 5), (some 10), none, []⟩ :: ⟨.faddr 0 (.t 3), (some 11), none, []⟩ :: L119_4
theorem v119_5 : VS L119_5.eq_1 := rfl
def L119_6 : List AStep := [⟨.mov (.t 6), (some 14), none, []⟩, ⟨.bin .geq (.t 14) (.c (.int .i64 0)), (some 15), none, []⟩]
theorem v119_6 : VS L119_6.eq_1 := rfl
def L119_7 : List AStep := [⟨.store 2 (.t 19) (.t 18), none, none, []⟩]
theorem v119_7 : VS L119_7.eq_1 := rfl
def L119_8 : List AStep := ⟨.load 2 true (.t 3), (some 18), none, []⟩ :: ⟨.iaddr 2 (.t 16) (.t 17), (some 19), none, []⟩ :: L119_7
theorem v119_8 : VS L119_8.eq_1 := rfl
def L119_9 : List AStep := ⟨.mov (.t 5), (some 16), none, []⟩ :: ⟨.mov (.t 6), (some 17), none, []⟩ :: L119_8
theorem v119_9 : VS L119_9.eq_1 := rfl
def L119_10 : List AStep := [⟨.mov (.t 5), (some 20), none, []⟩, ⟨.mov (.t 20), (some 4), none, []⟩]
theorem v119_10 : VS L119_10.eq_1 := rfl
def L119_11 : List AStep := [⟨.mov (.t 24), (some 4), none, []⟩]
theorem v119_11 : VS L119_11.eq_1 := rfl
def L119_12 : List AStep := ⟨.buildSlice 93 1 [(.str (strOfNums [])), (.int .i64 0)] [(0, 2, (.t 22))], (some 23), none, []⟩ :: ⟨.append 93 2 24 (.t 21) (.t 23), (some 24), none, []⟩ :: L119_11
theorem v119_12 : VS L119_12.eq_1 := rfl
def L119_13 : List AStep := ⟨.mov (.t 5), (some 21), none, []⟩ :: ⟨.load 2 true (.t 3), (some 22), none, []⟩ :: L119_12
theorem v119_13 : VS L119_13.eq_1 := rfl
def C119_0 : ACode := .seq (.reg L119_10) .ret
theorem u119_0 : VC C119_0.eq_1 := rfl
def C119_1 : ACode := .seq (.reg L119_9) C119_0
theorem u119_1 : VC C119_1.eq_1 := rfl
def C119_2 : ACode := .cond (.t 15) C119_1 .skip
theorem u119_2 : VC C119_2.eq_1 := rfl
def C119_3 : ACode := .seq (.reg L119_6) C119_2
theorem u119_3 : VC C119_3.eq_1 := rfl
def C119_4 : ACode := .seq (.reg L119_13) .ret
theorem u119_4 : VC C119_4.eq_1 := rfl
def C119_5 : ACode := .seq C119_3 C119_4
theorem u119_5 : VC C119_5.eq_1 := rfl
def C119_6 : ACode := .seq (.reg L119_5) C119_5
theorem u119_6 : VC C119_6.eq_1 := rfl
def C119_7 : ACode := .seq (.reg L119_2) C119_6
theorem u119_7 : VC C119_7.eq_1 := rfl
def C119_8 : ACode := .seq (.reg L119_0) C119_7
theorem u119_8 : VC C119_8.eq_1 := rfl
def F119 : AFunc := ⟨25, [.tmp 4], C119_8⟩
theorem cF119 : compB Try.prog 119 = some F119 := by kernel_rfl
attribute [local go_sem ↓] u119_0 u119_1 u119_2 u119_3 u119_4 u119_5 u119_6 u119_7 u119_8 v119_0 v119_1 v119_2 v119_3 v119_4 v119_5 v119_6 v119_7 v119_8 v119_9 v119_10 v119_11 v119_12 v119_13
theorem c_putPair (l : List Pair) (v : AV) (x : Pair) (h : H) (hl : SlP h v l) (hn : smP l) : callK (bm Try.prog 119 [v, .agg (encP x)] h) fun r h' => Grow h h' ∧ NwP h h' r (putP l x) := by
  refine bm_of cF119 ?_
  simp +contextual (maxSteps := 2000000) only [go_sem, Nat.reduceEqDiff, reduceCtorEq, Nat.reduceAdd, Nat.reduceLeDiff, F119]
  refine wp_lit (enc := encP) (k := 2) (l := []) rfl rfl ?_
  intro h1 w g1 n1 _
  simp +contextual (maxSteps := 2000000) only [go_sem, Nat.reduceEqDiff, reduceCtorEq, Nat.reduceAdd, Nat.reduceLeDiff]
  refine wp_append lenP n1 (hl.grow g1) g1 (by have := hn.1; unfold big at this; simp; omega) ?_
  intro h2 s g2 n2 _ _
  rw [List.nil_append] at n2
  rcases idx_cases (fun q : Pair => decide (q.name = x.name)) l with e | ⟨j, hj, e, hs⟩ <;> (replace e := (show pairAt l x.name = _ from e))
  · simp +contextual (maxSteps := 2000000) only [go_sem, Nat.reduceEqDiff, reduceCtorEq, Nat.reduceAdd, Nat.reduceLeDiff, c_pairAt _ _ _ _ (n2.sl lenP) hn, e]
    refine wp_lit (enc := encP) (k := 2) (l := [x]) rfl rfl ?_
    intro h3 w2 g3 n3 _
    simp +contextual (maxSteps := 2000000) only [go_sem, Nat.reduceEqDiff, reduceCtorEq, Nat.reduceAdd, Nat.reduceLeDiff]
    refine wp_append lenP (n2.grow g3) (n3.sl lenP) (g2.trans g3) (by have := hn.1; unfold big at this; simp; omega) ?_
    intro h4 s4 g4 n4 _ _
    simp +contextual (maxSteps := 2000000) only [go_sem, Nat.reduceEqDiff, reduceCtorEq, Nat.reduceAdd, Nat.reduceLeDiff]
    rw [← putP_none e] at n4
    exact gcK_of ⟨g4, n4⟩ (fun hs _ => ⟨Grow.refl h, n4.scalar hs h⟩)
  · simp +contextual (maxSteps := 2000000) only [go_sem, Nat.reduceEqDiff, reduceCtorEq, Nat.reduceAdd, Nat.reduceLeDiff, c_pairAt _ _ _ _ (n2.sl lenP) hn, e, n2.iaddr hj]
    refine wp_setE (x := x) lenP n2 hj rfl rfl g2 ?_
    intro h3 g3 n3 st
    simp +contextual (maxSteps := 2000000) only [go_sem, Nat.reduceEqDiff, reduceCtorEq, Nat.reduceAdd, Nat.reduceLeDiff]
    rw [← putP_some e] at n3
    exact gcK_of ⟨g3, n3⟩ (fun hs _ => ⟨Grow.refl h, n3.scalar hs h⟩)
/-! spec.checkedFlat -/
def L79_0 : List AStep := [⟨.mov (.c (.bool false)), (some 3), none, []⟩]
theorem v79_0 : VS L79_0.eq_1 := rfl
def L79_1 : List AStep := ⟨.box 29 (.t 0), (some 1), none, []⟩ :: ⟨.alloc 29 [(.sl none 0 (some 0)), (.sl none 0 (some 0))], (some 2), none, []⟩ :: L79_0
theorem v79_1 : VS L79_1.eq_1 := rfl
def L79_2 : List AStep := [⟨.not (.t 5), (some 6), none, []⟩]
theorem v79_2 : VS L79_2.eq_1 := rfl
def L79_3 : List AStep := ⟨.load 2 true (.t 1), (some 4), none, []⟩ :: ⟨.call 78 [(.t 4)], (some 5), none, []⟩ :: L79_2
theorem v79_3 : VS L79_3.eq_1 := rfl
def L79_4 : List AStep := [⟨.mov (.c (.bool false)), (some 3), none, []⟩]
theorem v79_4 : VS L79_4.eq_1 := rfl
def L79_5 : List AStep := ⟨.build [(.sl none 0 (some 0)), (.sl none 0 (some 0))] [], (some 7), none, []⟩ :: ⟨.store 2 (.t 2) (.t 7), none, none, []⟩ :: L79_4
theorem v79_5 : VS L79_5.eq_1 := rfl
def L79_6 : List AStep := [⟨.mov (.c (.bool true)), (some 3), none, []⟩]
theorem v79_6 : VS L79_6.eq_1 := rfl
def L79_7 : List AStep := ⟨.load 2 true (.t 1), (some 8), none, []⟩ :: ⟨.store 2 (.t 2) (.t 8), none, none, []⟩ :: L79_6
theorem v79_7 : VS L79_7.eq_1 := rfl
def C79_0 : ACode := .seq (.reg L79_5) .ret
theorem u79_0 : VC C79_0.eq_1 := rfl
def C79_1 : ACode := .cond (.t 6) C79_0 .skip
theorem u79_1 : VC C79_1.eq_1 := rfl
def C79_2 : ACode := .seq (.reg L79_3) C79_1
theorem u79_2 : VC C79_2.eq_1 := rfl
def C79_3 : ACode := .seq (.reg L79_7) .ret
theorem u79_3 : VC C79_3.eq_1 := rfl
def C79_4 : ACode := .seq C79_2 C79_3
theorem u79_4 : VC C79_4.eq_1 := rfl
def C79_5 : ACode := .seq (.reg L79_1) C79_4
theorem u79_5 : VC C79_5.eq_1 := rfl
def F79 : AFunc := ⟨9, [.cell 2 2 true, .tmp 3], C79_5⟩
theorem cF79 : compB Try.prog 79 = some F79 := by kernel_rfl
attribute [local go_sem ↓] u79_0 u79_1 u79_2 u79_3 u79_4 u79_5 v79_0 v79_1 v79_2 v79_3 v79_4 v79_5 v79_6 v79_7
theorem c_checkedFlat (f : Flat) (p n : CV) (h : H) (hf : SlF h p n f) (hn : smF f) :
    bm Try.prog 79 [.agg [p, n]] h = some (.tup [if okFlat f = true then .agg [p, n] else .agg [.sl none 0 (some 0), .sl none 0 (some 0)], .one (.bool (okFlat f))], h) := by
  refine bm_eq cF79 ?_
  cases hok : okFlat f with
  | false =>
    simp +contextual (maxSteps := 2000000) only [go_sem, Nat.reduceEqDiff, reduceCtorEq, Nat.reduceAdd, Nat.reduceLeDiff, F79, c_validFlat _ _ _ _ hf.pl hf.nl hn, hok]
  | true =>
    simp +contextual (maxSteps := 2000000) only [go_sem, Nat.reduceEqDiff, reduceCtorEq, Nat.reduceAdd, Nat.reduceLeDiff, F79, c_validFlat _ _ _ _ hf.pl hf.nl hn, hok]
/-! spec.over -/
def L80_0 : List AStep := [⟨.alloc 29 [(.sl none 0 (some 0)), (.sl none 0 (some 0))], (some 4), none, []⟩]
theorem v80_0 : VS L80_0.eq_1 := rfl
def L80_1 : List AStep := ⟨.box 29 (.t 0), (some 2), none, []⟩ :: ⟨.box 29 (.t 1), (some 3), none, []⟩ :: L80_0
theorem v80_1 : VS L80_1.eq_1 := rfl
def L80_2 : List AStep := [⟨.alloc 29 [(.sl none 0 (some 0)), (.sl none 0 (some 0))], (some 5), none, []⟩, ⟨.store 2 (.t 5) (.t 8), none, none, []⟩]
theorem v80_2 : VS L80_2.eq_1 := rfl
def L80_3 : List AStep := ⟨.load 2 true (.t 2), (some 7), none, []⟩ :: ⟨.call 75 [(.t 7)], (some 8), none, []⟩ :: L80_2
theorem v80_3 : VS L80_3.eq_1 := rfl
def L80_4 : List AStep := [⟨.store 1 (.t 14) (.t 13), none, none, []⟩]
theorem v80_4 : VS L80_4.eq_1 := rfl
def L80_5 : List AStep := ⟨.append 3 1 8 (.t 10) (.t 12), (some 13), none, []⟩ :: ⟨.faddr 0 (.t 5), (some 14), none, []⟩ :: L80_4
theorem v80_5 : VS L80_5.eq_1 := rfl
def L80_6 : List AStep := ⟨.faddr 0 (.t 3), (some 11), none, []⟩ :: ⟨.load 1 false (.t 11), (some 12), none, []⟩ :: L80_5
theorem v80_6 : VS L80_6.eq_1 := rfl
def L80_7 : List AStep := ⟨.faddr 0 (.t 5), (some 9), none, []⟩ :: ⟨.load 1 false (.t 9), (some 10), none, []⟩ :: L80_6
theorem v80_7 : VS L80_7.eq_1 := rfl
def L80_8 : List AStep := [⟨.mov (.c (.int .i64 0)), (some 6), none, []⟩]
theorem v80_8 : VS L80_8.eq_1 := rfl
def L80_9 : List AStep := [⟨.bin .lss (.t 15) (.t 18), (some 19), none, []⟩]
theorem v80_9 : VS L80_9.eq_1 := rfl
def L80_10 : List AStep := ⟨.load 1 false (.t 16), (some 17), none, []⟩ :: ⟨.len (.t 17), (some 18), none, []⟩ :: L80_9
theorem v80_10 : VS L80_10.eq_1 := rfl
def L80_11 : List AStep := ⟨.mov (.t 6), (some 15), none, []⟩ :: ⟨.faddr 1 (.t 3), (some 16), none, []⟩ :: L80_10
theorem v80_11 : VS L80_11.eq_1 := rfl
def L80_12 : List AStep := [⟨.faddr 1 (.t 5), (some 30), none, []⟩, ⟨.store 1 (.t 30) (.t 29), none, none, []⟩]
theorem v80_12 : VS L80_12.eq_1 := rfl
def L80_13 : List AStep := ⟨.load 2 true (.t 27), (some 28), none, []⟩ :: ⟨.call 119 [(.t 23), (.t 28)], (some 29), none, []⟩ :: L80_12
theorem v80_13 : VS L80_13.eq_1 := rfl
def L80_14 : List AStep := ⟨.mov (.t 6), (some 26), none, []⟩ :: ⟨.iaddr 2 (.t 25) (.t 26), (some 27), none, []⟩ :: L80_13
theorem v80_14 : VS L80_14.eq_1 := rfl
def L80_15 : List AStep := ⟨.faddr 1 (.t 3), (some 24), none, []⟩ :: ⟨.load 1 false (.t 24), (some 25), none, []⟩ :: L80_14
theorem v80_15 : VS L80_15.eq_1 := rfl
def L80_16 : List AStep := ⟨.faddr 1 (.t 5), (some 22), none, []⟩ :: ⟨.load 1 false (.t 22), (some 23), none, []⟩ :: L80_15
theorem v80_16 : VS L80_16.eq_1 := rfl
def L80_17 : List AStep := [⟨.mov (.t 21), (some 6), none, []⟩]
theorem v80_17 : VS L80_17.eq_1 := rfl
def L80_18 : List AStep := ⟨.mov (.t 6), (some 20), none, []⟩ :: ⟨.bin .add (.t 20) (.c (.int .i64 1)), (some 21), none, []⟩ :: L80_17
theorem v80_18 : VS L80_18.eq_1 := rfl
def L80_19 : List AStep := [⟨.load 2 true (.t 5), (some 31), none, []⟩, ⟨.store 2 (.t 4) (.t 31), none, none, []⟩]
theorem v80_19 : VS L80_19.eq_1 := rfl
def C80_0 : ACode := .cond (.t 19) .skip (.exit 0)
theorem u80_0 : VC C80_0.eq_1 := rfl
def C80_1 : ACode := .seq (.reg L80_11) C80_0
theorem u80_1 : VC C80_1.eq_1 := rfl
def C80_2 : ACode := .block 1 (.reg L80_16)
theorem u80_2 : VC C80_2.eq_1 := rfl
def C80_3 : ACode := .seq C80_2 (.reg L80_18)
theorem u80_3 : VC C80_3.eq_1 := rfl
def C80_4 : ACode := .seq C80_1 C80_3
theorem u80_4 : VC C80_4.eq_1 := rfl
def C80_5 : ACode := .block 0 (.loop C80_4)
theorem u80_5 : VC C80_5.eq_1 := rfl
def C80_6 : ACode := .seq (.reg L80_8) C80_5
theorem u80_6 : VC C80_6.eq_1 := rfl
def C80_7 : ACode := .seq (.reg L80_19) .ret
theorem u80_7 : VC C80_7.eq_1 := rfl
def C80_8 : ACode := .seq C80_6 C80_7
theorem u80_8 : VC C80_8.eq_1 := rfl
def C80_9 : ACode := .seq (.reg L80_7) C80_8
theorem u80_9 : VC C80_9.eq_1 := rfl
def C80_10 : ACode := .seq (.reg L80_3) C80_9
theorem u80_10 : VC C80_10.eq_1 := rfl
def C80_11 : ACode := .seq (.reg L80_1) C80_10
theorem u80_11 : VC C80_11.eq_1 := rfl
def F80 : AFunc := ⟨32, [.cell 4 2 true], C80_11⟩
theorem cF80 : compB Try.prog 80 = some F80 := by kernel_rfl
attribute [local go_sem ↓] u80_0 u80_1 u80_2 u80_3 u80_4 u80_5 u80_6 u80_7 u80_8 u80_9 u80_10 u80_11 v80_0 v80_1 v80_2 v80_3 v80_4 v80_5 v80_6 v80_7 v80_8 v80_9 v80_10 v80_11 v80_12 v80_13 v80_14 v80_15 v80_16 v80_17 v80_18 v80_19
theorem c_over (f g : Flat) (p n q m : CV) (h : H) (hf : SlF h p n f) (hg : SlF h q m g) (hn : smF f) (hm : smF g) (hb : f.pl.length + g.pl.length ≤ big) (hc : f.nl.length + g.nl.length ≤ big) :
    callK (bm Try.prog 80 [.agg [p, n], .agg [q, m]] h) fun r h' => Grow h h' ∧ ∃ p' n', r = .agg [p', n'] ∧ NwF h h' p' n' (overF f g) := by
  refine bm_of cF80 ?_
  simp +contextual (maxSteps := 2000000) only [go_sem, Nat.reduceEqDiff, reduceCtorEq, Nat.reduceAdd, Nat.reduceLeDiff, F80]
  refine wp_call (c_copyFlat f p n h hf hn) ?_
  rintro r h1 ⟨g1, p1, n1, rfl, e1⟩
  simp +contextual (maxSteps := 2000000) only [go_sem, Nat.reduceEqDiff, reduceCtorEq, Nat.reduceAdd, Nat.reduceLeDiff]
  refine wp_append lenI e1.pl (hg.pl.grow g1) g1 (by unfold big at hb; omega) ?_
  intro h2 s2 g2 n2 st2 hb2
  obtain ⟨c, rfl⟩ := n2.one
  have sp : Sep (.one c) (.one n1) := fun i hi hw => by
    rcases hb2 i hi with e | e
    · exact e1.sep i e hw
    · have := (e1.nl.lt hw).1
      omega
  have f2 : NwF h h2 c n1 ⟨f.pl ++ g.pl, f.nl⟩ := ⟨n2, e1.nl.stay st2 e1.sep.symm, sp⟩
  simp +contextual (maxSteps := 2000000) only [go_sem, Nat.reduceEqDiff, reduceCtorEq, Nat.reduceAdd, Nat.reduceLeDiff]
  refine wpC_loop (fun i T L h' => Grow h h' ∧ T 3 = .lp 3 0 ∧ (L 3).2 = [q, m] ∧ T 4 = .lp 4 0 ∧ (L 4).2 = [.sl none 0 (some 0), .sl none 0 (some 0)] ∧ T 5 = .lp 5 0 ∧ (∃ b, (L 5).2 = [c, b] ∧ NwF h h' c b ⟨f.pl ++ g.pl, putAll f.nl (g.nl.take i)⟩) ∧ T 6 = .v (.one (.int .i64 i))) g.nl.length ?_ ?_ (Nat.zero_le _) ?_
  · rintro i T L h' hi ⟨gg, t3, l3, t4, l4, t5, ⟨b, l5, f5⟩, t6⟩
    have k5 := hg.grow gg
    have hsm : smP (putAll f.nl (g.nl.take i)) := putAll_sm hc hn.nl.2 hm.nl.2
    simp +contextual (maxSteps := 2000000) only [go_sem, Nat.reduceEqDiff, reduceCtorEq, Nat.reduceAdd, Nat.reduceLeDiff, t3, l3, t4, l4, t5, l5, t6, k5.nl.len, k5.nl.iaddr hi, k5.nl.whole hi, lt_true hi]
    refine wp_call (c_putPair _ _ g.nl[i] h' (f5.nl.sl lenP) hsm) ?_
    rintro r h5 ⟨g5, n5⟩
    obtain ⟨d, rfl⟩ := n5.one
    simp +contextual (maxSteps := 2000000) only [go_sem, Nat.reduceEqDiff, reduceCtorEq, Nat.reduceAdd, Nat.reduceLeDiff, t3, l3, t4, l4, t5, l5, t6]
    rw [wrap_next hi hm.nl.len, putAll_next hi]
    exact ⟨gg.trans g5, ⟨d, rfl, f5.pl.grow g5, n5.from gg.n, f5.pl.apart n5⟩, rfl⟩
  · rintro T L h' ⟨gg, t3, l3, t4, l4, t5, ⟨b, l5, f5⟩, t6⟩
    rw [List.take_length] at f5
    simp +contextual (maxSteps := 2000000) only [go_sem, Nat.reduceEqDiff, reduceCtorEq, Nat.reduceAdd, Nat.reduceLeDiff, t3, l3, t4, l4, t5, l5, t6, (hg.grow gg).nl.len, lt_false]
    exact gcK_of ⟨gg, _, _, rfl, f5⟩ (fun hs _ => ⟨Grow.refl h, _, _, rfl, f5.scalar hs h⟩)
  · simp +contextual (maxSteps := 2000000) only [go_sem, Nat.reduceEqDiff, reduceCtorEq, Nat.reduceAdd, Nat.reduceLeDiff]
    exact ⟨g2, ⟨n1, rfl, f2⟩, rfl⟩
end Go.Proofs.Ytekkimfdcbgcoac.Am
