/- Contracts of the laws: comparisons. -/
import Derived.Test.YtoeceafibmafpaaDoorDat
namespace Go.Proofs.YtoeceafibmafpaaDoor.Am
open Go
set_option maxRecDepth 100000
set_option maxHeartbeats 4000000
set_option linter.unusedSimpArgs false
set_option linter.unusedVariables false
attribute [local go_sem ↓] bv_t bv_c ev_t ev_c put_same put_ne put_none kill_at pro_at lb_same lb_ne start_zero start_succ wpC_seq wpC_reg wpC_cond wpC_block wpC_skip wpC_exit wpC_ret thenQ_normal thenQ_exit thenQ_ret inBlk_normal inBlk_exit inBlk_ret wpS_nil wpS_step wpS_again wpS_guard wpO_mov wpO_load wpO_faddr wpO_nilCheck wpO_pick wpO_build wpO_bin wpO_eqb wpO_eqst wpO_eqnil wpO_not wpO_conv wpO_bytesStr wpO_iaddr wpO_idxStr wpO_field wpO_extract wpO_len wpO_lenStr wpO_cap wpO_min wpO_slice wpO_sliceStr wpO_alloc wpO_box wpO_store wpO_call wpO_callv wpO_mkfn wpO_buildSlice wpO_mkslice wpO_append wpO_appz proA_nil proA_cons tmpX_nil tmpX_tmp tmpX_cell doneB_normal doneB_ret agK_cons agK_nil agK_guard agG_tt agG_ff agG_tf agG_ft agG_undef pureB_load results_one results_two results_nil resBs_cons resBs_nil resB_tmp resB_cell
attribute [local go_sem] kill_v kill_lp_ne kill_lp_same pro_v pro_lp_same pro_lp_ne av_v av_lp optB_some optX_some valX_eq ldX_lp ldX_v faX_lp faX_v ncX_lp ncX_ptr ncX_fn boxK_one boxK_agg stL_some stK_lp_one stK_lp_agg stK_v_one stK_v_agg proM_v proM_lp callG_mk callVG_mk callvK_fn fnG_mk ptrsA_nil ptrsA_cons callH_some whenA_true whenA_false guardH_tt guardH_ff guardH_tf guardH_ft guardH_undef agV_one agV_agg lenO_sl lenStrO_str notO_bool pickO_bool convO_int eqbO_bool eqnilO_sl extractO_tup capO_sl minO_int loadL_one loadL_all storeL_eq fillA_nil fillA_one fillA_agg nat_ge neg_ge nat_lt neg_lt buildO bin_add bin_sub bin_mul bin_eql bin_neq bin_lss bin_leq bin_gtr bin_geq str_eql str_neq str_lss str_leq str_gtr str_geq retK_some endK_mk gcK_same gcK_int gcK_bool tupO_one tupO_agg rdy_self ib ii Option.map_none Option.map_some Option.some.injEq exists_eq_left' exists_eq_left ne_eq not_false_eq_true if_true if_false List.map_cons List.map_nil List.getElem?_cons_zero List.getElem?_cons_succ List.length_cons List.length_nil List.take_succ_cons List.take_zero List.take_nil List.drop_succ_cons List.drop_zero List.drop_nil List.cons_append List.nil_append List.append_nil List.set_cons_zero List.set_cons_succ Nat.zero_add forall_const true_and and_true and_self Bool.false_eq_true false_implies true_implies implies_true Bool.not_true Bool.not_false Bool.not_eq_true' Bool.not_eq_false' beq_self_eq_true Bool.bne_true Bool.bne_false
attribute [local go_sem] lenI lenS lenP lenQ lenB lenL lenT encI_0 encS_0 encP_0 encP_1 encQ_0 encQ_1 encQ_2 encQ_3 encB_0 encB_1 encL_0 encL_1 encT_0 encT_1
attribute [local go_sem low] whenA_bool guardH_bool
/-! laws.eqStringS -/
def L43_0 : List AStep := [⟨.mov (.c (.bool false)), (some 4), none, []⟩]
theorem v43_0 : VS L43_0.eq_1 := rfl
def L43_1 : List AStep := [⟨.bin .neq (.t 7) (.t 9), (some 10), none, []⟩]
theorem v43_1 : VS L43_1.eq_1 := rfl
def L43_2 : List AStep := ⟨.mov (.t 1), (some 8), none, []⟩ :: ⟨.len (.t 8), (some 9), none, []⟩ :: L43_1
theorem v43_2 : VS L43_2.eq_1 := rfl
def L43_3 : List AStep := ⟨.mov (.t 0), (some 6), none, []⟩ :: ⟨.len (.t 6), (some 7), none, []⟩ :: L43_2
theorem v43_3 : VS L43_3.eq_1 := rfl
def L43_4 : List AStep := [⟨.mov (.c (.bool false)), (some 4), none, []⟩]
theorem v43_4 : VS L43_4.eq_1 := rfl
def L43_5 : List AStep := [⟨.mov (.c (.int .i64 0)), (some 5), none, []⟩]
theorem v43_5 : VS L43_5.eq_1 := rfl
def L43_6 : List AStep := [⟨.len (.t 12), (some 13), none, []⟩, ⟨.bin .lss (.t 11) (.t 13), (some 14), none, []⟩]
theorem v43_6 : VS L43_6.eq_1 := rfl
def L43_7 : List AStep := ⟨.mov (.t 5), (some 11), none, []⟩ :: ⟨.mov (.t 0), (some 12), none, []⟩ :: L43_6
theorem v43_7 : VS L43_7.eq_1 := rfl
def L43_8 : List AStep := [⟨.bin .neq (.t 20) (.t 24), (some 25), none, []⟩]
theorem v43_8 : VS L43_8.eq_1 := rfl
def L43_9 : List AStep := ⟨.iaddr 1 (.t 21) (.t 22), (some 23), none, []⟩ :: ⟨.load 1 false (.t 23), (some 24), none, []⟩ :: L43_8
theorem v43_9 : VS L43_9.eq_1 := rfl
def L43_10 : List AStep := ⟨.mov (.t 1), (some 21), none, []⟩ :: ⟨.mov (.t 5), (some 22), none, []⟩ :: L43_9
theorem v43_10 : VS L43_10.eq_1 := rfl
def L43_11 : List AStep := ⟨.iaddr 1 (.t 17) (.t 18), (some 19), none, []⟩ :: ⟨.load 1 false (.t 19), (some 20), none, []⟩ :: L43_10
theorem v43_11 : VS L43_11.eq_1 := rfl
def L43_12 : List AStep := ⟨.mov (.t 0), (some 17), none, []⟩ :: ⟨.mov (.t 5), (some 18), none, []⟩ :: L43_11
theorem v43_12 : VS L43_12.eq_1 := rfl
def L43_13 : List AStep := [⟨.mov (.c (.bool false)), (some 4), none, []⟩]
theorem v43_13 : VS L43_13.eq_1 := rfl
def L43_14 : List AStep := [⟨.mov (.t 16), (some 5), none, []⟩]
theorem v43_14 : VS L43_14.eq_1 := rfl
def L43_15 : List AStep := ⟨.mov (.t 5), (some 15), none, []⟩ :: ⟨.bin .add (.t 15) (.c (.int .i64 1)), (some 16), none, []⟩ :: L43_14
theorem v43_15 : VS L43_15.eq_1 := rfl
def L43_16 : List AStep := [⟨.mov (.c (.bool true)), (some 4), none, []⟩]
theorem v43_16 : VS L43_16.eq_1 := rfl
def C43_0 : ACode := .seq (.reg L43_4) .ret
theorem u43_0 : VC C43_0.eq_1 := rfl
def C43_1 : ACode := .cond (.t 10) C43_0 .skip
theorem u43_1 : VC C43_1.eq_1 := rfl
def C43_2 : ACode := .seq (.reg L43_3) C43_1
theorem u43_2 : VC C43_2.eq_1 := rfl
def C43_3 : ACode := .cond (.t 14) .skip (.exit 0)
theorem u43_3 : VC C43_3.eq_1 := rfl
def C43_4 : ACode := .seq (.reg L43_7) C43_3
theorem u43_4 : VC C43_4.eq_1 := rfl
def C43_5 : ACode := .seq (.reg L43_13) .ret
theorem u43_5 : VC C43_5.eq_1 := rfl
def C43_6 : ACode := .cond (.t 25) C43_5 .skip
theorem u43_6 : VC C43_6.eq_1 := rfl
def C43_7 : ACode := .seq (.reg L43_12) C43_6
theorem u43_7 : VC C43_7.eq_1 := rfl
def C43_8 : ACode := .block 1 C43_7
theorem u43_8 : VC C43_8.eq_1 := rfl
def C43_9 : ACode := .seq C43_8 (.reg L43_15)
theorem u43_9 : VC C43_9.eq_1 := rfl
def C43_10 : ACode := .seq C43_4 C43_9
theorem u43_10 : VC C43_10.eq_1 := rfl
def C43_11 : ACode := .block 0 (.loop C43_10)
theorem u43_11 : VC C43_11.eq_1 := rfl
def C43_12 : ACode := .seq (.reg L43_5) C43_11
theorem u43_12 : VC C43_12.eq_1 := rfl
def C43_13 : ACode := .seq (.reg L43_16) .ret
theorem u43_13 : VC C43_13.eq_1 := rfl
def C43_14 : ACode := .seq C43_12 C43_13
theorem u43_14 : VC C43_14.eq_1 := rfl
def C43_15 : ACode := .seq C43_2 C43_14
theorem u43_15 : VC C43_15.eq_1 := rfl
def C43_16 : ACode := .seq (.reg L43_0) C43_15
theorem u43_16 : VC C43_16.eq_1 := rfl
def F43 : AFunc := ⟨26, [.tmp 4], C43_16⟩
theorem cF43 : compB Tryd.prog 43 = some F43 := by kernel_rfl
attribute [local go_sem ↓] u43_0 u43_1 u43_2 u43_3 u43_4 u43_5 u43_6 u43_7 u43_8 u43_9 u43_10 u43_11 u43_12 u43_13 u43_14 u43_15 u43_16 v43_0 v43_1 v43_2 v43_3 v43_4 v43_5 v43_6 v43_7 v43_8 v43_9 v43_10 v43_11 v43_12 v43_13 v43_14 v43_15 v43_16
theorem c_eqStringS (l m : List ByteArray) (v w : AV) (h : H) (hl : SlS h v l) (hm : SlS h w m) (hn : l.length ≤ big) : bm Tryd.prog 43 [v, w] h = some (ib (decide (l = m)), h) := by
  refine bm_eq cF43 ?_
  by_cases hlen : l.length = m.length
  case neg =>
    have e1 : decide ((l.length : Int) = (m.length : Int)) = false := decide_eq_false (by omega)
    simp +contextual (maxSteps := 2000000) only [go_sem, Nat.reduceEqDiff, reduceCtorEq, Nat.reduceAdd, Nat.reduceLeDiff, F43, hl.len, hm.len, e1]
    rw [ne_len e1]
  have e1 : decide ((l.length : Int) = (m.length : Int)) = true := decide_eq_true (by omega)
  simp +contextual (maxSteps := 2000000) only [go_sem, Nat.reduceEqDiff, reduceCtorEq, Nat.reduceAdd, Nat.reduceLeDiff, F43, hl.len, hm.len, e1]
  refine wpC_loop (fun i T L h' => h' = h ∧ T 0 = .v v ∧ T 1 = .v w ∧ T 5 = .v (.one (.int .i64 i)) ∧ Upto (eqAt l m) i) l.length ?_ ?_ (Nat.zero_le _) ?_
  · rintro i T L h' hi ⟨rfl, t0, t1, t5, hu⟩
    have him : i < m.length := by omega
    have e2 := eqAt_eq hi him
    simp +contextual (maxSteps := 2000000) only [go_sem, Nat.reduceEqDiff, reduceCtorEq, Nat.reduceAdd, Nat.reduceLeDiff, t0, t1, t5, hl.len, hm.len, hl.iaddr hi, hm.iaddr him, hl.oneO hi, hm.oneO him, lt_true hi]
    (repeat' (first | refine And.intro ?_ ?_ | intro _)) <;> first | rfl | rw [wrap_next hi (big_lt hn)] | (refine hu.next ?_; rw [e2]; (simp_all; done)) | (rw [ne_at (l := l) (m := m) (i := i)]; rw [e2]; (simp_all; done))
  · rintro T L h' ⟨rfl, t0, t1, t5, hu⟩
    simp +contextual (maxSteps := 2000000) only [go_sem, Nat.reduceEqDiff, reduceCtorEq, Nat.reduceAdd, Nat.reduceLeDiff, t0, t1, t5, hl.len, hm.len, lt_false, decide_eq_true (eq_of_upto hlen hu)]
  · simp +contextual (maxSteps := 2000000) only [go_sem, Nat.reduceEqDiff, reduceCtorEq, Nat.reduceAdd, Nat.reduceLeDiff]
    (repeat' (first | refine And.intro ?_ ?_ | intro _)) <;> first | rfl | exact Upto.zero
/-! laws.eqShape -/
def L13_0 : List AStep := [⟨.mov (.c (.bool false)), (some 4), none, []⟩]
theorem v13_0 : VS L13_0.eq_1 := rfl
def L13_1 : List AStep := ⟨.box 27 (.t 0), (some 2), none, []⟩ :: ⟨.box 27 (.t 1), (some 3), none, []⟩ :: L13_0
theorem v13_1 : VS L13_1.eq_1 := rfl
def L13_2 : List AStep := [⟨.bin .neq (.t 6) (.t 8), (some 9), none, []⟩]
theorem v13_2 : VS L13_2.eq_1 := rfl
def L13_3 : List AStep := ⟨.faddr 0 (.t 3), (some 7), none, []⟩ :: ⟨.load 1 false (.t 7), (some 8), none, []⟩ :: L13_2
theorem v13_3 : VS L13_3.eq_1 := rfl
def L13_4 : List AStep := ⟨.faddr 0 (.t 2), (some 5), none, []⟩ :: ⟨.load 1 false (.t 5), (some 6), none, []⟩ :: L13_3
theorem v13_4 : VS L13_4.eq_1 := rfl
def L13_5 : List AStep := [⟨.mov (.c (.bool false)), (some 4), none, []⟩]
theorem v13_5 : VS L13_5.eq_1 := rfl
def L13_6 : List AStep := [⟨.call 43 [(.t 11), (.t 13)], (some 14), none, []⟩, ⟨.not (.t 14), (some 15), none, []⟩]
theorem v13_6 : VS L13_6.eq_1 := rfl
def L13_7 : List AStep := ⟨.faddr 1 (.t 3), (some 12), none, []⟩ :: ⟨.load 1 false (.t 12), (some 13), none, []⟩ :: L13_6
theorem v13_7 : VS L13_7.eq_1 := rfl
def L13_8 : List AStep := ⟨.faddr 1 (.t 2), (some 10), none, []⟩ :: ⟨.load 1 false (.t 10), (some 11), none, []⟩ :: L13_7
theorem v13_8 : VS L13_8.eq_1 := rfl
def L13_9 : List AStep := [⟨.mov (.c (.bool false)), (some 4), none, []⟩]
theorem v13_9 : VS L13_9.eq_1 := rfl
def L13_10 : List AStep := [⟨.mov (.c (.bool true)), (some 4), none, []⟩]
theorem v13_10 : VS L13_10.eq_1 := rfl
def C13_0 : ACode := .seq (.reg L13_5) .ret
theorem u13_0 : VC C13_0.eq_1 := rfl
def C13_1 : ACode := .cond (.t 9) C13_0 .skip
theorem u13_1 : VC C13_1.eq_1 := rfl
def C13_2 : ACode := .seq (.reg L13_4) C13_1
theorem u13_2 : VC C13_2.eq_1 := rfl
def C13_3 : ACode := .seq (.reg L13_9) .ret
theorem u13_3 : VC C13_3.eq_1 := rfl
def C13_4 : ACode := .cond (.t 15) C13_3 .skip
theorem u13_4 : VC C13_4.eq_1 := rfl
def C13_5 : ACode := .seq (.reg L13_8) C13_4
theorem u13_5 : VC C13_5.eq_1 := rfl
def C13_6 : ACode := .seq (.reg L13_10) .ret
theorem u13_6 : VC C13_6.eq_1 := rfl
def C13_7 : ACode := .seq C13_5 C13_6
theorem u13_7 : VC C13_7.eq_1 := rfl
def C13_8 : ACode := .seq C13_2 C13_7
theorem u13_8 : VC C13_8.eq_1 := rfl
def C13_9 : ACode := .seq (.reg L13_1) C13_8
theorem u13_9 : VC C13_9.eq_1 := rfl
def F13 : AFunc := ⟨16, [.tmp 4], C13_9⟩
theorem cF13 : compB Tryd.prog 13 = some F13 := by kernel_rfl
attribute [local go_sem ↓] u13_0 u13_1 u13_2 u13_3 u13_4 u13_5 u13_6 u13_7 u13_8 u13_9 v13_0 v13_1 v13_2 v13_3 v13_4 v13_5 v13_6 v13_7 v13_8 v13_9 v13_10
theorem c_eqShape (x y : Shape) (v w : CV) (h : H) (hp : SlS h (.one v) x.names) (hq : SlS h (.one w) y.names) (h1 : x.names.length ≤ big) :
    bm Tryd.prog 13 [.agg [.int .i64 x.count, v], .agg [.int .i64 y.count, w]] h = some (ib (decide (x = y)), h) := by
  refine bm_eq cF13 ?_
  obtain ⟨xc, xn⟩ := x
  obtain ⟨yc, yn⟩ := y
  simp +contextual (maxSteps := 2000000) only [go_sem, Nat.reduceEqDiff, reduceCtorEq, Nat.reduceAdd, Nat.reduceLeDiff, F13, c_eqStringS _ _ _ _ _ hp hq h1, Shape.mk.injEq]
  try ((repeat' (first | refine And.intro ?_ ?_ | intro _)) <;> first | simp_all)
end Go.Proofs.YtoeceafibmafpaaDoor.Am
