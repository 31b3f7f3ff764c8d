/- Contracts of the laws: copies, marks, and what is held of them. -/
import Derived.Test.YtoeceafibmafpaaDoorDat
namespace Go.Proofs.YtoeceafibmafpaaDoor.Am
open Go
set_option maxRecDepth 100000
set_option maxHeartbeats 4000000
set_option linter.unusedSimpArgs false
set_option linter.unusedVariables false
attribute [local go_sem ↓] bv_t bv_c ev_t ev_c put_same put_ne put_none kill_at pro_at lb_same lb_ne start_zero start_succ wpC_seq wpC_reg wpC_cond wpC_block wpC_skip wpC_exit wpC_ret thenQ_normal thenQ_exit thenQ_ret inBlk_normal inBlk_exit inBlk_ret wpS_nil wpS_step wpS_again wpS_guard wpO_mov wpO_load wpO_faddr wpO_nilCheck wpO_pick wpO_build wpO_bin wpO_eqb wpO_eqst wpO_eqnil wpO_not wpO_conv wpO_bytesStr wpO_iaddr wpO_idxStr wpO_field wpO_extract wpO_len wpO_lenStr wpO_cap wpO_min wpO_slice wpO_sliceStr wpO_alloc wpO_box wpO_store wpO_call wpO_callv wpO_mkfn wpO_buildSlice wpO_mkslice wpO_append wpO_appz proA_nil proA_cons tmpX_nil tmpX_tmp tmpX_cell doneB_normal doneB_ret agK_cons agK_nil agK_guard agG_tt agG_ff agG_tf agG_ft agG_undef pureB_load results_one results_two results_nil resBs_cons resBs_nil resB_tmp resB_cell
attribute [local go_sem] kill_v kill_lp_ne kill_lp_same pro_v pro_lp_same pro_lp_ne av_v av_lp optB_some optX_some valX_eq ldX_lp ldX_v faX_lp faX_v ncX_lp ncX_ptr ncX_fn boxK_one boxK_agg stL_some stK_lp_one stK_lp_agg stK_v_one stK_v_agg proM_v proM_lp callG_mk callVG_mk callvK_fn fnG_mk ptrsA_nil ptrsA_cons callH_some whenA_true whenA_false guardH_tt guardH_ff guardH_tf guardH_ft guardH_undef agV_one agV_agg lenO_sl lenStrO_str notO_bool pickO_bool convO_int eqbO_bool eqnilO_sl extractO_tup capO_sl minO_int loadL_one loadL_all storeL_eq fillA_nil fillA_one fillA_agg nat_ge neg_ge nat_lt neg_lt buildO bin_add bin_sub bin_mul bin_eql bin_neq bin_lss bin_leq bin_gtr bin_geq str_eql str_neq str_lss str_leq str_gtr str_geq retK_some endK_mk gcK_same gcK_int gcK_bool tupO_one tupO_agg rdy_self ib ii Option.map_none Option.map_some Option.some.injEq exists_eq_left' exists_eq_left ne_eq not_false_eq_true if_true if_false List.map_cons List.map_nil List.getElem?_cons_zero List.getElem?_cons_succ List.length_cons List.length_nil List.take_succ_cons List.take_zero List.take_nil List.drop_succ_cons List.drop_zero List.drop_nil List.cons_append List.nil_append List.append_nil List.set_cons_zero List.set_cons_succ Nat.zero_add forall_const true_and and_true and_self Bool.false_eq_true false_implies true_implies implies_true Bool.not_true Bool.not_false Bool.not_eq_true' Bool.not_eq_false' beq_self_eq_true Bool.bne_true Bool.bne_false
attribute [local go_sem] lenI lenS lenP lenQ lenB lenL lenT encI_0 encS_0 encP_0 encP_1 encQ_0 encQ_1 encQ_2 encQ_3 encB_0 encB_1 encL_0 encL_1 encT_0 encT_1
attribute [local go_sem low] whenA_bool guardH_bool
def encU (n : Int) : List CV := [.int .u8 n]
/-! laws.toParam -/
def L80_0 : List AStep := [⟨.box 113 (.t 0), (some 1), none, []⟩, ⟨.alloc 83 [(.str (strOfNums [])), (.int .i64 0), (.bool false), (.int .i64 0)], (some 2), none, []⟩]
theorem v80_0 : VS L80_0.eq_1 := rfl
def L80_1 : List AStep := [⟨.alloc 83 [(.str (strOfNums [])), (.int .i64 0), (.bool false), (.int .i64 0)], (some 3), none, []⟩]
theorem v80_1 : VS L80_1.eq_1 := rfl
def L80_2 : List AStep := [⟨.faddr 0 (.t 3), (some 6), none, []⟩, ⟨.store 1 (.t 6) (.t 5), none, none, []⟩]
theorem v80_2 : VS L80_2.eq_1 := rfl
def L80_3 : List AStep := ⟨.faddr 0 (.t 1), (some 4), none, []⟩ :: ⟨.load 1 false (.t 4), (some 5), none, []⟩ :: L80_2
theorem v80_3 : VS L80_3.eq_1 := rfl
def L80_4 : List AStep := [⟨.faddr 1 (.t 3), (some 9), none, []⟩, ⟨.store 1 (.t 9) (.t 8), none, none, []⟩]
theorem v80_4 : VS L80_4.eq_1 := rfl
def L80_5 : List AStep := ⟨.faddr 1 (.t 1), (some 7), none, []⟩ :: ⟨.load 1 false (.t 7), (some 8), none, []⟩ :: L80_4
theorem v80_5 : VS L80_5.eq_1 := rfl
def L80_6 : List AStep := [⟨.faddr 2 (.t 3), (some 12), none, []⟩, ⟨.store 1 (.t 12) (.t 11), none, none, []⟩]
theorem v80_6 : VS L80_6.eq_1 := rfl
def L80_7 : List AStep := ⟨.faddr 2 (.t 1), (some 10), none, []⟩ :: ⟨.load 1 false (.t 10), (some 11), none, []⟩ :: L80_6
theorem v80_7 : VS L80_7.eq_1 := rfl
def L80_8 : List AStep := [⟨.faddr 3 (.t 3), (some 15), none, []⟩, ⟨.store 1 (.t 15) (.t 14), none, none, []⟩]
theorem v80_8 : VS L80_8.eq_1 := rfl
def L80_9 : List AStep := ⟨.faddr 3 (.t 1), (some 13), none, []⟩ :: ⟨.load 1 false (.t 13), (some 14), none, []⟩ :: L80_8
theorem v80_9 : VS L80_9.eq_1 := rfl
def L80_10 : List AStep := [⟨.load 4 true (.t 3), (some 16), none, []⟩, ⟨.store 4 (.t 2) (.t 16), none, none, []⟩]
theorem v80_10 : VS L80_10.eq_1 := rfl
def C80_0 : ACode := .seq (.reg L80_10) .ret
theorem u80_0 : VC C80_0.eq_1 := rfl
def C80_1 : ACode := .seq (.reg L80_9) C80_0
theorem u80_1 : VC C80_1.eq_1 := rfl
def C80_2 : ACode := .seq (.reg L80_7) C80_1
theorem u80_2 : VC C80_2.eq_1 := rfl
def C80_3 : ACode := .seq (.reg L80_5) C80_2
theorem u80_3 : VC C80_3.eq_1 := rfl
def C80_4 : ACode := .seq (.reg L80_3) C80_3
theorem u80_4 : VC C80_4.eq_1 := rfl
def C80_5 : ACode := .seq (.reg L80_1) C80_4
theorem u80_5 : VC C80_5.eq_1 := rfl
def C80_6 : ACode := .seq (.reg L80_0) C80_5
theorem u80_6 : VC C80_6.eq_1 := rfl
def F80 : AFunc := ⟨17, [.cell 2 4 true], C80_6⟩
theorem cF80 : compB Tryd.prog 80 = some F80 := by kernel_rfl
attribute [local go_sem ↓] u80_0 u80_1 u80_2 u80_3 u80_4 u80_5 u80_6 v80_0 v80_1 v80_2 v80_3 v80_4 v80_5 v80_6 v80_7 v80_8 v80_9 v80_10
theorem c_toParam (p : Param) (h : H) : bm Tryd.prog 80 [.agg (encQ p)] h = some (.agg (encQ p), h) := by
  refine bm_eq cF80 ?_
  simp +contextual (maxSteps := 2000000) only [go_sem, Nat.reduceEqDiff, reduceCtorEq, Nat.reduceAdd, Nat.reduceLeDiff, F80, encQ]
/-! laws.toParamS -/
def L47_0 : List AStep := [⟨.mov (.c (.sl none 0 (some 0))), (some 2), none, []⟩]
theorem v47_0 : VS L47_0.eq_1 := rfl
def L47_1 : List AStep := [⟨.mkslice 83 40 [(.str (strOfNums [])), (.int .i64 0), (.bool false), (.int .i64 0)] (.t 6) (.t 6), (some 7), none, []⟩, ⟨.mov (.t 7), (some 3), none, []⟩]
theorem v47_1 : VS L47_1.eq_1 := rfl
def L47_2 : List AStep := ⟨.mov (.t 0), (some 5), none, []⟩ :: ⟨.len (.t 5), (some 6), none, []⟩ :: L47_1
theorem v47_2 : VS L47_2.eq_1 := rfl
def L47_3 : List AStep := [⟨.mov (.c (.int .i64 0)), (some 4), none, []⟩]
theorem v47_3 : VS L47_3.eq_1 := rfl
def L47_4 : List AStep := [⟨.len (.t 9), (some 10), none, []⟩, ⟨.bin .lss (.t 8) (.t 10), (some 11), none, []⟩]
theorem v47_4 : VS L47_4.eq_1 := rfl
def L47_5 : List AStep := ⟨.mov (.t 4), (some 8), none, []⟩ :: ⟨.mov (.t 0), (some 9), none, []⟩ :: L47_4
theorem v47_5 : VS L47_5.eq_1 := rfl
def L47_6 : List AStep := [⟨.store 4 (.t 21) (.t 20), none, none, []⟩]
theorem v47_6 : VS L47_6.eq_1 := rfl
def L47_7 : List AStep := ⟨.call 80 [(.t 19)], (some 20), none, []⟩ :: ⟨.iaddr 4 (.t 14) (.t 15), (some 21), none, []⟩ :: L47_6
theorem v47_7 : VS L47_7.eq_1 := rfl
def L47_8 : List AStep := ⟨.iaddr 4 (.t 16) (.t 17), (some 18), none, []⟩ :: ⟨.load 4 true (.t 18), (some 19), none, []⟩ :: L47_7
theorem v47_8 : VS L47_8.eq_1 := rfl
def L47_9 : List AStep := ⟨.mov (.t 0), (some 16), none, []⟩ :: ⟨.mov (.t 4), (some 17), none, []⟩ :: L47_8
theorem v47_9 : VS L47_9.eq_1 := rfl
def L47_10 : List AStep := ⟨.mov (.t 3), (some 14), none, []⟩ :: ⟨.mov (.t 4), (some 15), none, []⟩ :: L47_9
theorem v47_10 : VS L47_10.eq_1 := rfl
def L47_11 : List AStep := [⟨.mov (.t 13), (some 4), none, []⟩]
theorem v47_11 : VS L47_11.eq_1 := rfl
def L47_12 : List AStep := ⟨.mov (.t 4), (some 12), none, []⟩ :: ⟨.bin .add (.t 12) (.c (.int .i64 1)), (some 13), none, []⟩ :: L47_11
theorem v47_12 : VS L47_12.eq_1 := rfl
def L47_13 : List AStep := [⟨.mov (.t 3), (some 22), none, []⟩, ⟨.mov (.t 22), (some 2), none, []⟩]
theorem v47_13 : VS L47_13.eq_1 := rfl
def C47_0 : ACode := .cond (.t 11) .skip (.exit 0)
theorem u47_0 : VC C47_0.eq_1 := rfl
def C47_1 : ACode := .seq (.reg L47_5) C47_0
theorem u47_1 : VC C47_1.eq_1 := rfl
def C47_2 : ACode := .block 1 (.reg L47_10)
theorem u47_2 : VC C47_2.eq_1 := rfl
def C47_3 : ACode := .seq C47_2 (.reg L47_12)
theorem u47_3 : VC C47_3.eq_1 := rfl
def C47_4 : ACode := .seq C47_1 C47_3
theorem u47_4 : VC C47_4.eq_1 := rfl
def C47_5 : ACode := .block 0 (.loop C47_4)
theorem u47_5 : VC C47_5.eq_1 := rfl
def C47_6 : ACode := .seq (.reg L47_3) C47_5
theorem u47_6 : VC C47_6.eq_1 := rfl
def C47_7 : ACode := .seq (.reg L47_13) .ret
theorem u47_7 : VC C47_7.eq_1 := rfl
def C47_8 : ACode := .seq C47_6 C47_7
theorem u47_8 : VC C47_8.eq_1 := rfl
def C47_9 : ACode := .seq (.reg L47_2) C47_8
theorem u47_9 : VC C47_9.eq_1 := rfl
def C47_10 : ACode := .seq (.reg L47_0) C47_9
theorem u47_10 : VC C47_10.eq_1 := rfl
def F47 : AFunc := ⟨23, [.tmp 2], C47_10⟩
theorem cF47 : compB Tryd.prog 47 = some F47 := by kernel_rfl
attribute [local go_sem ↓] u47_0 u47_1 u47_2 u47_3 u47_4 u47_5 u47_6 u47_7 u47_8 u47_9 u47_10 v47_0 v47_1 v47_2 v47_3 v47_4 v47_5 v47_6 v47_7 v47_8 v47_9 v47_10 v47_11 v47_12 v47_13
theorem c_toParamS {t1 : Nat} (l : List Param) (v : AV) (h : H) (hl : Sl encQ 4 t1 h v l) (hn : l.length ≤ 1048576) : callK (bm Tryd.prog 47 [v] h) fun r h' => Grow h h' ∧ NwQ h h' r l := by
  refine bm_of cF47 ?_
  simp +contextual (maxSteps := 2000000) only [go_sem, Nat.reduceEqDiff, reduceCtorEq, Nat.reduceAdd, Nat.reduceLeDiff, F47, hl.len]
  refine wp_make (enc := encQ) (k := 4) (⟨(strOfNums []), 0, false, 0⟩ : Param) rfl (by omega) (by omega) ?_
  intro h1 o g1 n1 _
  simp +contextual (maxSteps := 2000000) only [go_sem, Nat.reduceEqDiff, reduceCtorEq, Nat.reduceAdd, Nat.reduceLeDiff]
  refine wpC_loop (fun i T L h' => Grow h h' ∧ T 0 = .v v ∧ T 3 = .v o ∧ T 4 = .v (.one (.int .i64 i)) ∧ NwQ h h' o (fillL l (⟨(strOfNums []), 0, false, 0⟩ : Param) i)) l.length ?_ ?_ (Nat.zero_le _) ?_
  · rintro i T L h' hi ⟨g, t0, t3, t4, no⟩
    have hl := (‹Sl encQ 4 t1 h v l›).grow g
    have hio : i < (fillL l (⟨(strOfNums []), 0, false, 0⟩ : Param) i).length := by rw [fillL_len (by omega)]; exact hi
    simp +contextual (maxSteps := 2000000) only [go_sem, Nat.reduceEqDiff, reduceCtorEq, Nat.reduceAdd, Nat.reduceLeDiff, t0, t3, t4, hl.len, hl.iaddr hi, hl.whole hi, no.iaddr hio, lt_true hi, c_toParam]
    refine wp_setE (x := l[i]) lenQ no hio rfl rfl g ?_
    intro h2 g2 n2 _
    simp +contextual (maxSteps := 2000000) only [go_sem, Nat.reduceEqDiff, reduceCtorEq, Nat.reduceAdd, Nat.reduceLeDiff, t0, t3, t4]
    rw [fillL_set hi] at n2
    exact ⟨g2, by rw [wrap_next hi (by omega)], n2⟩
  · rintro T L h' ⟨g, t0, t3, t4, no⟩
    have hl := (‹Sl encQ 4 t1 h v l›).grow g
    simp +contextual (maxSteps := 2000000) only [go_sem, Nat.reduceEqDiff, reduceCtorEq, Nat.reduceAdd, Nat.reduceLeDiff, t0, t3, t4, hl.len, lt_false]
    rw [fillL_all] at no
    exact gcK_of ⟨g, no⟩ (fun hs _ => ⟨Grow.refl h, no.scalar hs h⟩)
  · simp +contextual (maxSteps := 2000000) only [go_sem, Nat.reduceEqDiff, reduceCtorEq, Nat.reduceAdd, Nat.reduceLeDiff]
    exact ⟨g1, rfl, by rw [fillL_zero]; exact n1⟩
end Go.Proofs.YtoeceafibmafpaaDoor.Am
