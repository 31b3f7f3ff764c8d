/- Contracts of the laws: copies, marks, and what is held of them. -/
import Derived.Test.YtdalgphpacikkacDat
namespace Go.Proofs.Ytdalgphpacikkac.Am
open Go
set_option maxRecDepth 100000
set_option maxHeartbeats 4000000
set_option linter.unusedSimpArgs false
set_option linter.unusedVariables false
attribute [local go_sem ↓] bv_t bv_c ev_t ev_c put_same put_ne put_none kill_at pro_at lb_same lb_ne start_zero start_succ wpC_seq wpC_reg wpC_cond wpC_block wpC_skip wpC_exit wpC_ret thenQ_normal thenQ_exit thenQ_ret inBlk_normal inBlk_exit inBlk_ret wpS_nil wpS_step wpS_again wpS_guard wpO_mov wpO_load wpO_faddr wpO_nilCheck wpO_pick wpO_build wpO_bin wpO_eqb wpO_eqst wpO_eqnil wpO_not wpO_conv wpO_bytesStr wpO_iaddr wpO_idxStr wpO_field wpO_extract wpO_len wpO_lenStr wpO_cap wpO_min wpO_slice wpO_sliceStr wpO_alloc wpO_box wpO_store wpO_call wpO_callv wpO_mkfn wpO_buildSlice wpO_mkslice wpO_append wpO_appz proA_nil proA_cons tmpX_nil tmpX_tmp tmpX_cell doneB_normal doneB_ret agK_cons agK_nil agK_guard agG_tt agG_ff agG_tf agG_ft agG_undef pureB_load results_one results_two results_nil resBs_cons resBs_nil resB_tmp resB_cell
attribute [local go_sem] kill_v kill_lp_ne kill_lp_same pro_v pro_lp_same pro_lp_ne av_v av_lp optB_some optX_some valX_eq ldX_lp ldX_v faX_lp faX_v ncX_lp ncX_ptr ncX_fn boxK_one boxK_agg stL_some stK_lp_one stK_lp_agg stK_v_one stK_v_agg proM_v proM_lp callG_mk callVG_mk callvK_fn fnG_mk ptrsA_nil ptrsA_cons callH_some whenA_true whenA_false guardH_tt guardH_ff guardH_tf guardH_ft guardH_undef agV_one agV_agg lenO_sl lenStrO_str notO_bool pickO_bool convO_int eqbO_bool eqnilO_sl extractO_tup capO_sl minO_int loadL_one loadL_all storeL_eq fillA_nil fillA_one fillA_agg nat_ge neg_ge nat_lt neg_lt buildO bin_add bin_sub bin_mul bin_eql bin_neq bin_lss bin_leq bin_gtr bin_geq str_eql str_neq str_lss str_leq str_gtr str_geq retK_some endK_mk gcK_same gcK_int gcK_bool tupO_one tupO_agg rdy_self ib ii Option.map_none Option.map_some Option.some.injEq exists_eq_left' exists_eq_left ne_eq not_false_eq_true if_true if_false List.map_cons List.map_nil List.getElem?_cons_zero List.getElem?_cons_succ List.length_cons List.length_nil List.take_succ_cons List.take_zero List.take_nil List.drop_succ_cons List.drop_zero List.drop_nil List.cons_append List.nil_append List.append_nil List.set_cons_zero List.set_cons_succ Nat.zero_add forall_const true_and and_true and_self Bool.false_eq_true false_implies true_implies implies_true Bool.not_true Bool.not_false Bool.not_eq_true' Bool.not_eq_false' beq_self_eq_true Bool.bne_true Bool.bne_false
attribute [local go_sem] lenI lenS lenP lenQ lenB lenL lenT encI_0 encS_0 encP_0 encP_1 encQ_0 encQ_1 encQ_2 encQ_3 encB_0 encB_1 encL_0 encL_1 encT_0 encT_1
attribute [local go_sem low] whenA_bool guardH_bool
def encU (n : Int) : List CV := [.int .u8 n]
/-! laws.toPair -/
def L94_0 : List AStep := [⟨.box 124 (.t 0), (some 1), none, []⟩, ⟨.alloc 106 [(.str (strOfNums [])), (.int .i64 0)], (some 2), none, []⟩]
theorem v94_0 : VS L94_0.eq_1 := rfl
def L94_1 : List AStep := [⟨.alloc 106 [(.str (strOfNums [])), (.int .i64 0)], (some 3), none, []⟩]
theorem v94_1 : VS L94_1.eq_1 := rfl
def L94_2 : List AStep := [⟨.faddr 0 (.t 3), (some 6), none, []⟩, ⟨.store 1 (.t 6) (.t 5), none, none, []⟩]
theorem v94_2 : VS L94_2.eq_1 := rfl
def L94_3 : List AStep := ⟨.faddr 0 (.t 1), (some 4), none, []⟩ :: ⟨.load 1 false (.t 4), (some 5), none, []⟩ :: L94_2
theorem v94_3 : VS L94_3.eq_1 := rfl
def L94_4 : List AStep := [⟨.faddr 1 (.t 3), (some 9), none, []⟩, ⟨.store 1 (.t 9) (.t 8), none, none, []⟩]
theorem v94_4 : VS L94_4.eq_1 := rfl
def L94_5 : List AStep := ⟨.faddr 1 (.t 1), (some 7), none, []⟩ :: ⟨.load 1 false (.t 7), (some 8), none, []⟩ :: L94_4
theorem v94_5 : VS L94_5.eq_1 := rfl
def L94_6 : List AStep := [⟨.load 2 true (.t 3), (some 10), none, []⟩, ⟨.store 2 (.t 2) (.t 10), none, none, []⟩]
theorem v94_6 : VS L94_6.eq_1 := rfl
def C94_0 : ACode := .seq (.reg L94_6) .ret
theorem u94_0 : VC C94_0.eq_1 := rfl
def C94_1 : ACode := .seq (.reg L94_5) C94_0
theorem u94_1 : VC C94_1.eq_1 := rfl
def C94_2 : ACode := .seq (.reg L94_3) C94_1
theorem u94_2 : VC C94_2.eq_1 := rfl
def C94_3 : ACode := .seq (.reg L94_1) C94_2
theorem u94_3 : VC C94_3.eq_1 := rfl
def C94_4 : ACode := .seq (.reg L94_0) C94_3
theorem u94_4 : VC C94_4.eq_1 := rfl
def F94 : AFunc := ⟨11, [.cell 2 2 true], C94_4⟩
theorem cF94 : compB Try.prog 94 = some F94 := by kernel_rfl
attribute [local go_sem ↓] u94_0 u94_1 u94_2 u94_3 u94_4 v94_0 v94_1 v94_2 v94_3 v94_4 v94_5 v94_6
theorem c_toPair (p : Pair) (h : H) : bm Try.prog 94 [.agg (encP p)] h = some (.agg (encP p), h) := by
  refine bm_eq cF94 ?_
  simp +contextual (maxSteps := 2000000) only [go_sem, Nat.reduceEqDiff, reduceCtorEq, Nat.reduceAdd, Nat.reduceLeDiff, F94, encP]
/-! laws.toIntS -/
def L47_0 : List AStep := [⟨.mov (.c (.sl none 0 (some 0))), (some 2), none, []⟩]
theorem v47_0 : VS L47_0.eq_1 := rfl
def L47_1 : List AStep := [⟨.mkslice 3 8 [(.int .i64 0)] (.t 6) (.t 6), (some 7), none, []⟩, ⟨.mov (.t 7), (some 3), none, []⟩]
theorem v47_1 : VS L47_1.eq_1 := rfl
def L47_2 : List AStep := ⟨.mov (.t 0), (some 5), none, []⟩ :: ⟨.len (.t 5), (some 6), none, []⟩ :: L47_1
theorem v47_2 : VS L47_2.eq_1 := rfl
def L47_3 : List AStep := [⟨.mov (.c (.int .i64 0)), (some 4), none, []⟩]
theorem v47_3 : VS L47_3.eq_1 := rfl
def L47_4 : List AStep := [⟨.len (.t 9), (some 10), none, []⟩, ⟨.bin .lss (.t 8) (.t 10), (some 11), none, []⟩]
theorem v47_4 : VS L47_4.eq_1 := rfl
def L47_5 : List AStep := ⟨.mov (.t 4), (some 8), none, []⟩ :: ⟨.mov (.t 0), (some 9), none, []⟩ :: L47_4
theorem v47_5 : VS L47_5.eq_1 := rfl
def L47_6 : List AStep := [⟨.iaddr 1 (.t 14) (.t 15), (some 20), none, []⟩, ⟨.store 1 (.t 20) (.t 19), none, none, []⟩]
theorem v47_6 : VS L47_6.eq_1 := rfl
def L47_7 : List AStep := ⟨.iaddr 1 (.t 16) (.t 17), (some 18), none, []⟩ :: ⟨.load 1 false (.t 18), (some 19), none, []⟩ :: L47_6
theorem v47_7 : VS L47_7.eq_1 := rfl
def L47_8 : List AStep := ⟨.mov (.t 0), (some 16), none, []⟩ :: ⟨.mov (.t 4), (some 17), none, []⟩ :: L47_7
theorem v47_8 : VS L47_8.eq_1 := rfl
def L47_9 : List AStep := ⟨.mov (.t 3), (some 14), none, []⟩ :: ⟨.mov (.t 4), (some 15), none, []⟩ :: L47_8
theorem v47_9 : VS L47_9.eq_1 := rfl
def L47_10 : List AStep := [⟨.mov (.t 13), (some 4), none, []⟩]
theorem v47_10 : VS L47_10.eq_1 := rfl
def L47_11 : List AStep := ⟨.mov (.t 4), (some 12), none, []⟩ :: ⟨.bin .add (.t 12) (.c (.int .i64 1)), (some 13), none, []⟩ :: L47_10
theorem v47_11 : VS L47_11.eq_1 := rfl
def L47_12 : List AStep := [⟨.mov (.t 3), (some 21), none, []⟩, ⟨.mov (.t 21), (some 2), none, []⟩]
theorem v47_12 : VS L47_12.eq_1 := rfl
def C47_0 : ACode := .cond (.t 11) .skip (.exit 0)
theorem u47_0 : VC C47_0.eq_1 := rfl
def C47_1 : ACode := .seq (.reg L47_5) C47_0
theorem u47_1 : VC C47_1.eq_1 := rfl
def C47_2 : ACode := .block 1 (.reg L47_9)
theorem u47_2 : VC C47_2.eq_1 := rfl
def C47_3 : ACode := .seq C47_2 (.reg L47_11)
theorem u47_3 : VC C47_3.eq_1 := rfl
def C47_4 : ACode := .seq C47_1 C47_3
theorem u47_4 : VC C47_4.eq_1 := rfl
def C47_5 : ACode := .block 0 (.loop C47_4)
theorem u47_5 : VC C47_5.eq_1 := rfl
def C47_6 : ACode := .seq (.reg L47_3) C47_5
theorem u47_6 : VC C47_6.eq_1 := rfl
def C47_7 : ACode := .seq (.reg L47_12) .ret
theorem u47_7 : VC C47_7.eq_1 := rfl
def C47_8 : ACode := .seq C47_6 C47_7
theorem u47_8 : VC C47_8.eq_1 := rfl
def C47_9 : ACode := .seq (.reg L47_2) C47_8
theorem u47_9 : VC C47_9.eq_1 := rfl
def C47_10 : ACode := .seq (.reg L47_0) C47_9
theorem u47_10 : VC C47_10.eq_1 := rfl
def F47 : AFunc := ⟨22, [.tmp 2], C47_10⟩
theorem cF47 : compB Try.prog 47 = some F47 := by kernel_rfl
attribute [local go_sem ↓] u47_0 u47_1 u47_2 u47_3 u47_4 u47_5 u47_6 u47_7 u47_8 u47_9 u47_10 v47_0 v47_1 v47_2 v47_3 v47_4 v47_5 v47_6 v47_7 v47_8 v47_9 v47_10 v47_11 v47_12
theorem c_toIntS {t1 : Nat} (l : List Int) (v : AV) (h : H) (hl : Sl encI 1 t1 h v l) (hn : l.length ≤ 1048576) : callK (bm Try.prog 47 [v] h) fun r h' => Grow h h' ∧ NwI h h' r l := by
  refine bm_of cF47 ?_
  simp +contextual (maxSteps := 2000000) only [go_sem, Nat.reduceEqDiff, reduceCtorEq, Nat.reduceAdd, Nat.reduceLeDiff, F47, hl.len]
  refine wp_make (enc := encI) (k := 1) (0 : Int) rfl (by omega) (by omega) ?_
  intro h1 o g1 n1 _
  simp +contextual (maxSteps := 2000000) only [go_sem, Nat.reduceEqDiff, reduceCtorEq, Nat.reduceAdd, Nat.reduceLeDiff]
  refine wpC_loop (fun i T L h' => Grow h h' ∧ T 0 = .v v ∧ T 3 = .v o ∧ T 4 = .v (.one (.int .i64 i)) ∧ NwI h h' o (fillL l (0 : Int) i)) l.length ?_ ?_ (Nat.zero_le _) ?_
  · rintro i T L h' hi ⟨g, t0, t3, t4, no⟩
    have hl := (‹Sl encI 1 t1 h v l›).grow g
    have hio : i < (fillL l (0 : Int) i).length := by rw [fillL_len (by omega)]; exact hi
    simp +contextual (maxSteps := 2000000) only [go_sem, Nat.reduceEqDiff, reduceCtorEq, Nat.reduceAdd, Nat.reduceLeDiff, t0, t3, t4, hl.len, hl.iaddr hi, hl.oneO hi, no.iaddr hio, lt_true hi]
    refine wp_setE (x := l[i]) lenI no hio rfl rfl g ?_
    intro h2 g2 n2 _
    simp +contextual (maxSteps := 2000000) only [go_sem, Nat.reduceEqDiff, reduceCtorEq, Nat.reduceAdd, Nat.reduceLeDiff, t0, t3, t4]
    rw [fillL_set hi] at n2
    exact ⟨g2, by rw [wrap_next hi (by omega)], n2⟩
  · rintro T L h' ⟨g, t0, t3, t4, no⟩
    have hl := (‹Sl encI 1 t1 h v l›).grow g
    simp +contextual (maxSteps := 2000000) only [go_sem, Nat.reduceEqDiff, reduceCtorEq, Nat.reduceAdd, Nat.reduceLeDiff, t0, t3, t4, hl.len, lt_false]
    rw [fillL_all] at no
    exact gcK_of ⟨g, no⟩ (fun hs _ => ⟨Grow.refl h, no.scalar hs h⟩)
  · simp +contextual (maxSteps := 2000000) only [go_sem, Nat.reduceEqDiff, reduceCtorEq, Nat.reduceAdd, Nat.reduceLeDiff]
    exact ⟨g1, rfl, by rw [fillL_zero]; exact n1⟩
/-! laws.toPairS -/
def L46_0 : List AStep := [⟨.mov (.c (.sl none 0 (some 0))), (some 2), none, []⟩]
theorem v46_0 : VS L46_0.eq_1 := rfl
def L46_1 : List AStep := [⟨.mkslice 106 24 [(.str (strOfNums [])), (.int .i64 0)] (.t 6) (.t 6), (some 7), none, []⟩, ⟨.mov (.t 7), (some 3), none, []⟩]
theorem v46_1 : VS L46_1.eq_1 := rfl
def L46_2 : List AStep := ⟨.mov (.t 0), (some 5), none, []⟩ :: ⟨.len (.t 5), (some 6), none, []⟩ :: L46_1
theorem v46_2 : VS L46_2.eq_1 := rfl
def L46_3 : List AStep := [⟨.mov (.c (.int .i64 0)), (some 4), none, []⟩]
theorem v46_3 : VS L46_3.eq_1 := rfl
def L46_4 : List AStep := [⟨.len (.t 9), (some 10), none, []⟩, ⟨.bin .lss (.t 8) (.t 10), (some 11), none, []⟩]
theorem v46_4 : VS L46_4.eq_1 := rfl
def L46_5 : List AStep := ⟨.mov (.t 4), (some 8), none, []⟩ :: ⟨.mov (.t 0), (some 9), none, []⟩ :: L46_4
theorem v46_5 : VS L46_5.eq_1 := rfl
def L46_6 : List AStep := [⟨.store 2 (.t 21) (.t 20), none, none, []⟩]
theorem v46_6 : VS L46_6.eq_1 := rfl
def L46_7 : List AStep := ⟨.call 94 [(.t 19)], (some 20), none, []⟩ :: ⟨.iaddr 2 (.t 14) (.t 15), (some 21), none, []⟩ :: L46_6
theorem v46_7 : VS L46_7.eq_1 := rfl
def L46_8 : List AStep := ⟨.iaddr 2 (.t 16) (.t 17), (some 18), none, []⟩ :: ⟨.load 2 true (.t 18), (some 19), none, []⟩ :: L46_7
theorem v46_8 : VS L46_8.eq_1 := rfl
def L46_9 : List AStep := ⟨.mov (.t 0), (some 16), none, []⟩ :: ⟨.mov (.t 4), (some 17), none, []⟩ :: L46_8
theorem v46_9 : VS L46_9.eq_1 := rfl
def L46_10 : List AStep := ⟨.mov (.t 3), (some 14), none, []⟩ :: ⟨.mov (.t 4), (some 15), none, []⟩ :: L46_9
theorem v46_10 : VS L46_10.eq_1 := rfl
def L46_11 : List AStep := [⟨.mov (.t 13), (some 4), none, []⟩]
theorem v46_11 : VS L46_11.eq_1 := rfl
def L46_12 : List AStep := ⟨.mov (.t 4), (some 12), none, []⟩ :: ⟨.bin .add (.t 12) (.c (.int .i64 1)), (some 13), none, []⟩ :: L46_11
theorem v46_12 : VS L46_12.eq_1 := rfl
def L46_13 : List AStep := [⟨.mov (.t 3), (some 22), none, []⟩, ⟨.mov (.t 22), (some 2), none, []⟩]
theorem v46_13 : VS L46_13.eq_1 := rfl
def C46_0 : ACode := .cond (.t 11) .skip (.exit 0)
theorem u46_0 : VC C46_0.eq_1 := rfl
def C46_1 : ACode := .seq (.reg L46_5) C46_0
theorem u46_1 : VC C46_1.eq_1 := rfl
def C46_2 : ACode := .block 1 (.reg L46_10)
theorem u46_2 : VC C46_2.eq_1 := rfl
def C46_3 : ACode := .seq C46_2 (.reg L46_12)
theorem u46_3 : VC C46_3.eq_1 := rfl
def C46_4 : ACode := .seq C46_1 C46_3
theorem u46_4 : VC C46_4.eq_1 := rfl
def C46_5 : ACode := .block 0 (.loop C46_4)
theorem u46_5 : VC C46_5.eq_1 := rfl
def C46_6 : ACode := .seq (.reg L46_3) C46_5
theorem u46_6 : VC C46_6.eq_1 := rfl
def C46_7 : ACode := .seq (.reg L46_13) .ret
theorem u46_7 : VC C46_7.eq_1 := rfl
def C46_8 : ACode := .seq C46_6 C46_7
theorem u46_8 : VC C46_8.eq_1 := rfl
def C46_9 : ACode := .seq (.reg L46_2) C46_8
theorem u46_9 : VC C46_9.eq_1 := rfl
def C46_10 : ACode := .seq (.reg L46_0) C46_9
theorem u46_10 : VC C46_10.eq_1 := rfl
def F46 : AFunc := ⟨23, [.tmp 2], C46_10⟩
theorem cF46 : compB Try.prog 46 = some F46 := by kernel_rfl
attribute [local go_sem ↓] u46_0 u46_1 u46_2 u46_3 u46_4 u46_5 u46_6 u46_7 u46_8 u46_9 u46_10 v46_0 v46_1 v46_2 v46_3 v46_4 v46_5 v46_6 v46_7 v46_8 v46_9 v46_10 v46_11 v46_12 v46_13
theorem c_toPairS {t1 : Nat} (l : List Pair) (v : AV) (h : H) (hl : Sl encP 2 t1 h v l) (hn : l.length ≤ 1048576) : callK (bm Try.prog 46 [v] h) fun r h' => Grow h h' ∧ NwP h h' r l := by
  refine bm_of cF46 ?_
  simp +contextual (maxSteps := 2000000) only [go_sem, Nat.reduceEqDiff, reduceCtorEq, Nat.reduceAdd, Nat.reduceLeDiff, F46, hl.len]
  refine wp_make (enc := encP) (k := 2) (⟨(strOfNums []), 0⟩ : Pair) rfl (by omega) (by omega) ?_
  intro h1 o g1 n1 _
  simp +contextual (maxSteps := 2000000) only [go_sem, Nat.reduceEqDiff, reduceCtorEq, Nat.reduceAdd, Nat.reduceLeDiff]
  refine wpC_loop (fun i T L h' => Grow h h' ∧ T 0 = .v v ∧ T 3 = .v o ∧ T 4 = .v (.one (.int .i64 i)) ∧ NwP h h' o (fillL l (⟨(strOfNums []), 0⟩ : Pair) i)) l.length ?_ ?_ (Nat.zero_le _) ?_
  · rintro i T L h' hi ⟨g, t0, t3, t4, no⟩
    have hl := (‹Sl encP 2 t1 h v l›).grow g
    have hio : i < (fillL l (⟨(strOfNums []), 0⟩ : Pair) i).length := by rw [fillL_len (by omega)]; exact hi
    simp +contextual (maxSteps := 2000000) only [go_sem, Nat.reduceEqDiff, reduceCtorEq, Nat.reduceAdd, Nat.reduceLeDiff, t0, t3, t4, hl.len, hl.iaddr hi, hl.whole hi, no.iaddr hio, lt_true hi, c_toPair]
    refine wp_setE (x := l[i]) lenP no hio rfl rfl g ?_
    intro h2 g2 n2 _
    simp +contextual (maxSteps := 2000000) only [go_sem, Nat.reduceEqDiff, reduceCtorEq, Nat.reduceAdd, Nat.reduceLeDiff, t0, t3, t4]
    rw [fillL_set hi] at n2
    exact ⟨g2, by rw [wrap_next hi (by omega)], n2⟩
  · rintro T L h' ⟨g, t0, t3, t4, no⟩
    have hl := (‹Sl encP 2 t1 h v l›).grow g
    simp +contextual (maxSteps := 2000000) only [go_sem, Nat.reduceEqDiff, reduceCtorEq, Nat.reduceAdd, Nat.reduceLeDiff, t0, t3, t4, hl.len, lt_false]
    rw [fillL_all] at no
    exact gcK_of ⟨g, no⟩ (fun hs _ => ⟨Grow.refl h, no.scalar hs h⟩)
  · simp +contextual (maxSteps := 2000000) only [go_sem, Nat.reduceEqDiff, reduceCtorEq, Nat.reduceAdd, Nat.reduceLeDiff]
    exact ⟨g1, rfl, by rw [fillL_zero]; exact n1⟩
end Go.Proofs.Ytdalgphpacikkac.Am
