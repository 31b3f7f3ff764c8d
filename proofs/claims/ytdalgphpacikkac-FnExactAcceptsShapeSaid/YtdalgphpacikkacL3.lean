/- Contracts of the laws: copies, marks, and what is held of them. -/
import Derived.Test.YtdalgphpacikkacDat
namespace Go.Proofs.Ytdalgphpacikkac.Am
open Go
set_option maxRecDepth 100000
set_option maxHeartbeats 4000000
set_option linter.unusedSimpArgs false
set_option linter.unusedVariables false
attribute [local go_sem ↓] bv_t bv_c ev_t ev_c put_same put_ne put_none kill_at pro_at lb_same lb_ne start_zero start_succ wpC_seq wpC_reg wpC_cond wpC_block wpC_skip wpC_exit wpC_ret thenQ_normal thenQ_exit thenQ_ret inBlk_normal inBlk_exit inBlk_ret wpS_nil wpS_step wpS_again wpS_guard wpO_mov wpO_load wpO_faddr wpO_nilCheck wpO_pick wpO_build wpO_bin wpO_eqb wpO_eqst wpO_eqnil wpO_not wpO_conv wpO_bytesStr wpO_iaddr wpO_idxStr wpO_field wpO_extract wpO_len wpO_lenStr wpO_cap wpO_min wpO_slice wpO_sliceStr wpO_alloc wpO_box wpO_store wpO_call wpO_callv wpO_mkfn wpO_buildSlice wpO_mkslice wpO_append wpO_appz proA_nil proA_cons tmpX_nil tmpX_tmp tmpX_cell doneB_normal doneB_ret agK_cons agK_nil agK_guard agG_tt agG_ff agG_tf agG_ft agG_undef pureB_load results_one results_two results_nil resBs_cons resBs_nil resB_tmp resB_cell
attribute [local go_sem] kill_v kill_lp_ne kill_lp_same pro_v pro_lp_same pro_lp_ne av_v av_lp optB_some optX_some valX_eq ldX_lp ldX_v faX_lp faX_v ncX_lp ncX_ptr ncX_fn boxK_one boxK_agg stL_some stK_lp_one stK_lp_agg stK_v_one stK_v_agg proM_v proM_lp callG_mk callVG_mk callvK_fn fnG_mk ptrsA_nil ptrsA_cons callH_some whenA_true whenA_false guardH_tt guardH_ff guardH_tf guardH_ft guardH_undef agV_one agV_agg lenO_sl lenStrO_str notO_bool pickO_bool convO_int eqbO_bool eqnilO_sl extractO_tup capO_sl minO_int loadL_one loadL_all storeL_eq fillA_nil fillA_one fillA_agg nat_ge neg_ge nat_lt neg_lt buildO bin_add bin_sub bin_mul bin_eql bin_neq bin_lss bin_leq bin_gtr bin_geq str_eql str_neq str_lss str_leq str_gtr str_geq retK_some endK_mk gcK_same gcK_int gcK_bool tupO_one tupO_agg rdy_self ib ii Option.map_none Option.map_some Option.some.injEq exists_eq_left' exists_eq_left ne_eq not_false_eq_true if_true if_false List.map_cons List.map_nil List.getElem?_cons_zero List.getElem?_cons_succ List.length_cons List.length_nil List.take_succ_cons List.take_zero List.take_nil List.drop_succ_cons List.drop_zero List.drop_nil List.cons_append List.nil_append List.append_nil List.set_cons_zero List.set_cons_succ Nat.zero_add forall_const true_and and_true and_self Bool.false_eq_true false_implies true_implies implies_true Bool.not_true Bool.not_false Bool.not_eq_true' Bool.not_eq_false' beq_self_eq_true Bool.bne_true Bool.bne_false
attribute [local go_sem] lenI lenS lenP lenQ lenB lenL lenT encI_0 encS_0 encP_0 encP_1 encQ_0 encQ_1 encQ_2 encQ_3 encB_0 encB_1 encL_0 encL_1 encT_0 encT_1
attribute [local go_sem low] whenA_bool guardH_bool
def encU (n : Int) : List CV := [.int .u8 n]
/-! laws.toParam -/
def L117_0 : List AStep := [⟨.box 149 (.t 0), (some 1), none, []⟩, ⟨.alloc 155 [(.str (strOfNums [])), (.int .i64 0), (.bool false), (.int .i64 0)], (some 2), none, []⟩]
theorem v117_0 : VS L117_0.eq_1 := rfl
def L117_1 : List AStep := [⟨.alloc 155 [(.str (strOfNums [])), (.int .i64 0), (.bool false), (.int .i64 0)], (some 3), none, []⟩]
theorem v117_1 : VS L117_1.eq_1 := rfl
def L117_2 : List AStep := [⟨.faddr 0 (.t 3), (some 6), none, []⟩, ⟨.store 1 (.t 6) (.t 5), none, none, []⟩]
theorem v117_2 : VS L117_2.eq_1 := rfl
def L117_3 : List AStep := ⟨.faddr 0 (.t 1), (some 4), none, []⟩ :: ⟨.load 1 false (.t 4), (some 5), none, []⟩ :: L117_2
theorem v117_3 : VS L117_3.eq_1 := rfl
def L117_4 : List AStep := [⟨.faddr 1 (.t 3), (some 9), none, []⟩, ⟨.store 1 (.t 9) (.t 8), none, none, []⟩]
theorem v117_4 : VS L117_4.eq_1 := rfl
def L117_5 : List AStep := ⟨.faddr 1 (.t 1), (some 7), none, []⟩ :: ⟨.load 1 false (.t 7), (some 8), none, []⟩ :: L117_4
theorem v117_5 : VS L117_5.eq_1 := rfl
def L117_6 : List AStep := [⟨.faddr 2 (.t 3), (some 12), none, []⟩, ⟨.store 1 (.t 12) (.t 11), none, none, []⟩]
theorem v117_6 : VS L117_6.eq_1 := rfl
def L117_7 : List AStep := ⟨.faddr 2 (.t 1), (some 10), none, []⟩ :: ⟨.load 1 false (.t 10), (some 11), none, []⟩ :: L117_6
theorem v117_7 : VS L117_7.eq_1 := rfl
def L117_8 : List AStep := [⟨.faddr 3 (.t 3), (some 15), none, []⟩, ⟨.store 1 (.t 15) (.t 14), none, none, []⟩]
theorem v117_8 : VS L117_8.eq_1 := rfl
def L117_9 : List AStep := ⟨.faddr 3 (.t 1), (some 13), none, []⟩ :: ⟨.load 1 false (.t 13), (some 14), none, []⟩ :: L117_8
theorem v117_9 : VS L117_9.eq_1 := rfl
def L117_10 : List AStep := [⟨.load 4 true (.t 3), (some 16), none, []⟩, ⟨.store 4 (.t 2) (.t 16), none, none, []⟩]
theorem v117_10 : VS L117_10.eq_1 := rfl
def C117_0 : ACode := .seq (.reg L117_10) .ret
theorem u117_0 : VC C117_0.eq_1 := rfl
def C117_1 : ACode := .seq (.reg L117_9) C117_0
theorem u117_1 : VC C117_1.eq_1 := rfl
def C117_2 : ACode := .seq (.reg L117_7) C117_1
theorem u117_2 : VC C117_2.eq_1 := rfl
def C117_3 : ACode := .seq (.reg L117_5) C117_2
theorem u117_3 : VC C117_3.eq_1 := rfl
def C117_4 : ACode := .seq (.reg L117_3) C117_3
theorem u117_4 : VC C117_4.eq_1 := rfl
def C117_5 : ACode := .seq (.reg L117_1) C117_4
theorem u117_5 : VC C117_5.eq_1 := rfl
def C117_6 : ACode := .seq (.reg L117_0) C117_5
theorem u117_6 : VC C117_6.eq_1 := rfl
def F117 : AFunc := ⟨17, [.cell 2 4 true], C117_6⟩
theorem cF117 : compB Try.prog 117 = some F117 := by kernel_rfl
attribute [local go_sem ↓] u117_0 u117_1 u117_2 u117_3 u117_4 u117_5 u117_6 v117_0 v117_1 v117_2 v117_3 v117_4 v117_5 v117_6 v117_7 v117_8 v117_9 v117_10
theorem c_toParam (p : Param) (h : H) : bm Try.prog 117 [.agg (encQ p)] h = some (.agg (encQ p), h) := by
  refine bm_eq cF117 ?_
  simp +contextual (maxSteps := 2000000) only [go_sem, Nat.reduceEqDiff, reduceCtorEq, Nat.reduceAdd, Nat.reduceLeDiff, F117, encQ]
/-! laws.toStringS -/
def L74_0 : List AStep := [⟨.mov (.c (.sl none 0 (some 0))), (some 2), none, []⟩]
theorem v74_0 : VS L74_0.eq_1 := rfl
def L74_1 : List AStep := [⟨.mkslice 9 16 [(.str (strOfNums []))] (.t 6) (.t 6), (some 7), none, []⟩, ⟨.mov (.t 7), (some 3), none, []⟩]
theorem v74_1 : VS L74_1.eq_1 := rfl
def L74_2 : List AStep := ⟨.mov (.t 0), (some 5), none, []⟩ :: ⟨.len (.t 5), (some 6), none, []⟩ :: L74_1
theorem v74_2 : VS L74_2.eq_1 := rfl
def L74_3 : List AStep := [⟨.mov (.c (.int .i64 0)), (some 4), none, []⟩]
theorem v74_3 : VS L74_3.eq_1 := rfl
def L74_4 : List AStep := [⟨.len (.t 9), (some 10), none, []⟩, ⟨.bin .lss (.t 8) (.t 10), (some 11), none, []⟩]
theorem v74_4 : VS L74_4.eq_1 := rfl
def L74_5 : List AStep := ⟨.mov (.t 4), (some 8), none, []⟩ :: ⟨.mov (.t 0), (some 9), none, []⟩ :: L74_4
theorem v74_5 : VS L74_5.eq_1 := rfl
def L74_6 : List AStep := [⟨.iaddr 1 (.t 14) (.t 15), (some 20), none, []⟩, ⟨.store 1 (.t 20) (.t 19), none, none, []⟩]
theorem v74_6 : VS L74_6.eq_1 := rfl
def L74_7 : List AStep := ⟨.iaddr 1 (.t 16) (.t 17), (some 18), none, []⟩ :: ⟨.load 1 false (.t 18), (some 19), none, []⟩ :: L74_6
theorem v74_7 : VS L74_7.eq_1 := rfl
def L74_8 : List AStep := ⟨.mov (.t 0), (some 16), none, []⟩ :: ⟨.mov (.t 4), (some 17), none, []⟩ :: L74_7
theorem v74_8 : VS L74_8.eq_1 := rfl
def L74_9 : List AStep := ⟨.mov (.t 3), (some 14), none, []⟩ :: ⟨.mov (.t 4), (some 15), none, []⟩ :: L74_8
theorem v74_9 : VS L74_9.eq_1 := rfl
def L74_10 : List AStep := [⟨.mov (.t 13), (some 4), none, []⟩]
theorem v74_10 : VS L74_10.eq_1 := rfl
def L74_11 : List AStep := ⟨.mov (.t 4), (some 12), none, []⟩ :: ⟨.bin .add (.t 12) (.c (.int .i64 1)), (some 13), none, []⟩ :: L74_10
theorem v74_11 : VS L74_11.eq_1 := rfl
def L74_12 : List AStep := [⟨.mov (.t 3), (some 21), none, []⟩, ⟨.mov (.t 21), (some 2), none, []⟩]
theorem v74_12 : VS L74_12.eq_1 := rfl
def C74_0 : ACode := .cond (.t 11) .skip (.exit 0)
theorem u74_0 : VC C74_0.eq_1 := rfl
def C74_1 : ACode := .seq (.reg L74_5) C74_0
theorem u74_1 : VC C74_1.eq_1 := rfl
def C74_2 : ACode := .block 1 (.reg L74_9)
theorem u74_2 : VC C74_2.eq_1 := rfl
def C74_3 : ACode := .seq C74_2 (.reg L74_11)
theorem u74_3 : VC C74_3.eq_1 := rfl
def C74_4 : ACode := .seq C74_1 C74_3
theorem u74_4 : VC C74_4.eq_1 := rfl
def C74_5 : ACode := .block 0 (.loop C74_4)
theorem u74_5 : VC C74_5.eq_1 := rfl
def C74_6 : ACode := .seq (.reg L74_3) C74_5
theorem u74_6 : VC C74_6.eq_1 := rfl
def C74_7 : ACode := .seq (.reg L74_12) .ret
theorem u74_7 : VC C74_7.eq_1 := rfl
def C74_8 : ACode := .seq C74_6 C74_7
theorem u74_8 : VC C74_8.eq_1 := rfl
def C74_9 : ACode := .seq (.reg L74_2) C74_8
theorem u74_9 : VC C74_9.eq_1 := rfl
def C74_10 : ACode := .seq (.reg L74_0) C74_9
theorem u74_10 : VC C74_10.eq_1 := rfl
def F74 : AFunc := ⟨22, [.tmp 2], C74_10⟩
theorem cF74 : compB Try.prog 74 = some F74 := by kernel_rfl
attribute [local go_sem ↓] u74_0 u74_1 u74_2 u74_3 u74_4 u74_5 u74_6 u74_7 u74_8 u74_9 u74_10 v74_0 v74_1 v74_2 v74_3 v74_4 v74_5 v74_6 v74_7 v74_8 v74_9 v74_10 v74_11 v74_12
theorem c_toStringS {t1 : Nat} (l : List ByteArray) (v : AV) (h : H) (hl : Sl encS 1 t1 h v l) (hn : l.length ≤ 1048576) : callK (bm Try.prog 74 [v] h) fun r h' => Grow h h' ∧ NwS h h' r l := by
  refine bm_of cF74 ?_
  simp +contextual (maxSteps := 2000000) only [go_sem, Nat.reduceEqDiff, reduceCtorEq, Nat.reduceAdd, Nat.reduceLeDiff, F74, hl.len]
  refine wp_make (enc := encS) (k := 1) (strOfNums []) rfl (by omega) (by omega) ?_
  intro h1 o g1 n1 _
  simp +contextual (maxSteps := 2000000) only [go_sem, Nat.reduceEqDiff, reduceCtorEq, Nat.reduceAdd, Nat.reduceLeDiff]
  refine wpC_loop (fun i T L h' => Grow h h' ∧ T 0 = .v v ∧ T 3 = .v o ∧ T 4 = .v (.one (.int .i64 i)) ∧ NwS h h' o (fillL l (strOfNums []) i)) l.length ?_ ?_ (Nat.zero_le _) ?_
  · rintro i T L h' hi ⟨g, t0, t3, t4, no⟩
    have hl := (‹Sl encS 1 t1 h v l›).grow g
    have hio : i < (fillL l (strOfNums []) i).length := by rw [fillL_len (by omega)]; exact hi
    simp +contextual (maxSteps := 2000000) only [go_sem, Nat.reduceEqDiff, reduceCtorEq, Nat.reduceAdd, Nat.reduceLeDiff, t0, t3, t4, hl.len, hl.iaddr hi, hl.oneO hi, no.iaddr hio, lt_true hi]
    refine wp_setE (x := l[i]) lenS no hio rfl rfl g ?_
    intro h2 g2 n2 _
    simp +contextual (maxSteps := 2000000) only [go_sem, Nat.reduceEqDiff, reduceCtorEq, Nat.reduceAdd, Nat.reduceLeDiff, t0, t3, t4]
    rw [fillL_set hi] at n2
    exact ⟨g2, by rw [wrap_next hi (by omega)], n2⟩
  · rintro T L h' ⟨g, t0, t3, t4, no⟩
    have hl := (‹Sl encS 1 t1 h v l›).grow g
    simp +contextual (maxSteps := 2000000) only [go_sem, Nat.reduceEqDiff, reduceCtorEq, Nat.reduceAdd, Nat.reduceLeDiff, t0, t3, t4, hl.len, lt_false]
    rw [fillL_all] at no
    exact gcK_of ⟨g, no⟩ (fun hs _ => ⟨Grow.refl h, no.scalar hs h⟩)
  · simp +contextual (maxSteps := 2000000) only [go_sem, Nat.reduceEqDiff, reduceCtorEq, Nat.reduceAdd, Nat.reduceLeDiff]
    exact ⟨g1, rfl, by rw [fillL_zero]; exact n1⟩
/-! laws.toParamS -/
def L73_0 : List AStep := [⟨.mov (.c (.sl none 0 (some 0))), (some 2), none, []⟩]
theorem v73_0 : VS L73_0.eq_1 := rfl
def L73_1 : List AStep := [⟨.mkslice 155 40 [(.str (strOfNums [])), (.int .i64 0), (.bool false), (.int .i64 0)] (.t 6) (.t 6), (some 7), none, []⟩, ⟨.mov (.t 7), (some 3), none, []⟩]
theorem v73_1 : VS L73_1.eq_1 := rfl
def L73_2 : List AStep := ⟨.mov (.t 0), (some 5), none, []⟩ :: ⟨.len (.t 5), (some 6), none, []⟩ :: L73_1
theorem v73_2 : VS L73_2.eq_1 := rfl
def L73_3 : List AStep := [⟨.mov (.c (.int .i64 0)), (some 4), none, []⟩]
theorem v73_3 : VS L73_3.eq_1 := rfl
def L73_4 : List AStep := [⟨.len (.t 9), (some 10), none, []⟩, ⟨.bin .lss (.t 8) (.t 10), (some 11), none, []⟩]
theorem v73_4 : VS L73_4.eq_1 := rfl
def L73_5 : List AStep := ⟨.mov (.t 4), (some 8), none, []⟩ :: ⟨.mov (.t 0), (some 9), none, []⟩ :: L73_4
theorem v73_5 : VS L73_5.eq_1 := rfl
def L73_6 : List AStep := [⟨.store 4 (.t 21) (.t 20), none, none, []⟩]
theorem v73_6 : VS L73_6.eq_1 := rfl
def L73_7 : List AStep := ⟨.call 117 [(.t 19)], (some 20), none, []⟩ :: ⟨.iaddr 4 (.t 14) (.t 15), (some 21), none, []⟩ :: L73_6
theorem v73_7 : VS L73_7.eq_1 := rfl
def L73_8 : List AStep := ⟨.iaddr 4 (.t 16) (.t 17), (some 18), none, []⟩ :: ⟨.load 4 true (.t 18), (some 19), none, []⟩ :: L73_7
theorem v73_8 : VS L73_8.eq_1 := rfl
def L73_9 : List AStep := ⟨.mov (.t 0), (some 16), none, []⟩ :: ⟨.mov (.t 4), (some 17), none, []⟩ :: L73_8
theorem v73_9 : VS L73_9.eq_1 := rfl
def L73_10 : List AStep := ⟨.mov (.t 3), (some 14), none, []⟩ :: ⟨.mov (.t 4), (some 15), none, []⟩ :: L73_9
theorem v73_10 : VS L73_10.eq_1 := rfl
def L73_11 : List AStep := [⟨.mov (.t 13), (some 4), none, []⟩]
theorem v73_11 : VS L73_11.eq_1 := rfl
def L73_12 : List AStep := ⟨.mov (.t 4), (some 12), none, []⟩ :: ⟨.bin .add (.t 12) (.c (.int .i64 1)), (some 13), none, []⟩ :: L73_11
theorem v73_12 : VS L73_12.eq_1 := rfl
def L73_13 : List AStep := [⟨.mov (.t 3), (some 22), none, []⟩, ⟨.mov (.t 22), (some 2), none, []⟩]
theorem v73_13 : VS L73_13.eq_1 := rfl
def C73_0 : ACode := .cond (.t 11) .skip (.exit 0)
theorem u73_0 : VC C73_0.eq_1 := rfl
def C73_1 : ACode := .seq (.reg L73_5) C73_0
theorem u73_1 : VC C73_1.eq_1 := rfl
def C73_2 : ACode := .block 1 (.reg L73_10)
theorem u73_2 : VC C73_2.eq_1 := rfl
def C73_3 : ACode := .seq C73_2 (.reg L73_12)
theorem u73_3 : VC C73_3.eq_1 := rfl
def C73_4 : ACode := .seq C73_1 C73_3
theorem u73_4 : VC C73_4.eq_1 := rfl
def C73_5 : ACode := .block 0 (.loop C73_4)
theorem u73_5 : VC C73_5.eq_1 := rfl
def C73_6 : ACode := .seq (.reg L73_3) C73_5
theorem u73_6 : VC C73_6.eq_1 := rfl
def C73_7 : ACode := .seq (.reg L73_13) .ret
theorem u73_7 : VC C73_7.eq_1 := rfl
def C73_8 : ACode := .seq C73_6 C73_7
theorem u73_8 : VC C73_8.eq_1 := rfl
def C73_9 : ACode := .seq (.reg L73_2) C73_8
theorem u73_9 : VC C73_9.eq_1 := rfl
def C73_10 : ACode := .seq (.reg L73_0) C73_9
theorem u73_10 : VC C73_10.eq_1 := rfl
def F73 : AFunc := ⟨23, [.tmp 2], C73_10⟩
theorem cF73 : compB Try.prog 73 = some F73 := by kernel_rfl
attribute [local go_sem ↓] u73_0 u73_1 u73_2 u73_3 u73_4 u73_5 u73_6 u73_7 u73_8 u73_9 u73_10 v73_0 v73_1 v73_2 v73_3 v73_4 v73_5 v73_6 v73_7 v73_8 v73_9 v73_10 v73_11 v73_12 v73_13
theorem c_toParamS {t1 : Nat} (l : List Param) (v : AV) (h : H) (hl : Sl encQ 4 t1 h v l) (hn : l.length ≤ 1048576) : callK (bm Try.prog 73 [v] h) fun r h' => Grow h h' ∧ NwQ h h' r l := by
  refine bm_of cF73 ?_
  simp +contextual (maxSteps := 2000000) only [go_sem, Nat.reduceEqDiff, reduceCtorEq, Nat.reduceAdd, Nat.reduceLeDiff, F73, hl.len]
  refine wp_make (enc := encQ) (k := 4) (⟨(strOfNums []), 0, false, 0⟩ : Param) rfl (by omega) (by omega) ?_
  intro h1 o g1 n1 _
  simp +contextual (maxSteps := 2000000) only [go_sem, Nat.reduceEqDiff, reduceCtorEq, Nat.reduceAdd, Nat.reduceLeDiff]
  refine wpC_loop (fun i T L h' => Grow h h' ∧ T 0 = .v v ∧ T 3 = .v o ∧ T 4 = .v (.one (.int .i64 i)) ∧ NwQ h h' o (fillL l (⟨(strOfNums []), 0, false, 0⟩ : Param) i)) l.length ?_ ?_ (Nat.zero_le _) ?_
  · rintro i T L h' hi ⟨g, t0, t3, t4, no⟩
    have hl := (‹Sl encQ 4 t1 h v l›).grow g
    have hio : i < (fillL l (⟨(strOfNums []), 0, false, 0⟩ : Param) i).length := by rw [fillL_len (by omega)]; exact hi
    simp +contextual (maxSteps := 2000000) only [go_sem, Nat.reduceEqDiff, reduceCtorEq, Nat.reduceAdd, Nat.reduceLeDiff, t0, t3, t4, hl.len, hl.iaddr hi, hl.whole hi, no.iaddr hio, lt_true hi, c_toParam]
    refine wp_setE (x := l[i]) lenQ no hio rfl rfl g ?_
    intro h2 g2 n2 _
    simp +contextual (maxSteps := 2000000) only [go_sem, Nat.reduceEqDiff, reduceCtorEq, Nat.reduceAdd, Nat.reduceLeDiff, t0, t3, t4]
    rw [fillL_set hi] at n2
    exact ⟨g2, by rw [wrap_next hi (by omega)], n2⟩
  · rintro T L h' ⟨g, t0, t3, t4, no⟩
    have hl := (‹Sl encQ 4 t1 h v l›).grow g
    simp +contextual (maxSteps := 2000000) only [go_sem, Nat.reduceEqDiff, reduceCtorEq, Nat.reduceAdd, Nat.reduceLeDiff, t0, t3, t4, hl.len, lt_false]
    rw [fillL_all] at no
    exact gcK_of ⟨g, no⟩ (fun hs _ => ⟨Grow.refl h, no.scalar hs h⟩)
  · simp +contextual (maxSteps := 2000000) only [go_sem, Nat.reduceEqDiff, reduceCtorEq, Nat.reduceAdd, Nat.reduceLeDiff]
    exact ⟨g1, rfl, by rw [fillL_zero]; exact n1⟩
end Go.Proofs.Ytdalgphpacikkac.Am
