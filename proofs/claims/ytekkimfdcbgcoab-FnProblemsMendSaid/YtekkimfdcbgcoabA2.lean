/- Contracts of the reference: signatures. -/
import Derived.Test.YtekkimfdcbgcoabA1
namespace Go.Proofs.Ytekkimfdcbgcoab.Am
open Go
set_option maxRecDepth 100000
set_option maxHeartbeats 4000000
set_option linter.unusedSimpArgs false
set_option linter.unusedVariables false
attribute [local go_sem ↓] bv_t bv_c ev_t ev_c put_same put_ne put_none kill_at pro_at lb_same lb_ne start_zero start_succ wpC_seq wpC_reg wpC_cond wpC_block wpC_skip wpC_exit wpC_ret thenQ_normal thenQ_exit thenQ_ret inBlk_normal inBlk_exit inBlk_ret wpS_nil wpS_step wpS_again wpS_guard wpO_mov wpO_load wpO_faddr wpO_nilCheck wpO_pick wpO_build wpO_bin wpO_eqb wpO_eqst wpO_eqnil wpO_not wpO_conv wpO_bytesStr wpO_iaddr wpO_idxStr wpO_field wpO_extract wpO_len wpO_lenStr wpO_cap wpO_min wpO_slice wpO_sliceStr wpO_alloc wpO_box wpO_store wpO_call wpO_callv wpO_mkfn wpO_buildSlice wpO_mkslice wpO_append wpO_appz proA_nil proA_cons tmpX_nil tmpX_tmp tmpX_cell doneB_normal doneB_ret agK_cons agK_nil agK_guard agG_tt agG_ff agG_tf agG_ft agG_undef pureB_load results_one results_two results_nil resBs_cons resBs_nil resB_tmp resB_cell
attribute [local go_sem] kill_v kill_lp_ne kill_lp_same pro_v pro_lp_same pro_lp_ne av_v av_lp optB_some optX_some valX_eq ldX_lp ldX_v faX_lp faX_v ncX_lp ncX_ptr ncX_fn boxK_one boxK_agg stL_some stK_lp_one stK_lp_agg stK_v_one stK_v_agg proM_v proM_lp callG_mk callVG_mk callvK_fn fnG_mk ptrsA_nil ptrsA_cons callH_some whenA_true whenA_false guardH_tt guardH_ff guardH_tf guardH_ft guardH_undef agV_one agV_agg lenO_sl lenStrO_str notO_bool pickO_bool convO_int eqbO_bool eqnilO_sl extractO_tup capO_sl minO_int loadL_one loadL_all storeL_eq fillA_nil fillA_one fillA_agg nat_ge neg_ge nat_lt neg_lt buildO bin_add bin_sub bin_mul bin_eql bin_neq bin_lss bin_leq bin_gtr bin_geq str_eql str_neq str_lss str_leq str_gtr str_geq retK_some endK_mk gcK_same gcK_int gcK_bool tupO_one tupO_agg rdy_self ib ii Option.map_none Option.map_some Option.some.injEq exists_eq_left' exists_eq_left ne_eq not_false_eq_true if_true if_false List.map_cons List.map_nil List.getElem?_cons_zero List.getElem?_cons_succ List.length_cons List.length_nil List.take_succ_cons List.take_zero List.take_nil List.drop_succ_cons List.drop_zero List.drop_nil List.cons_append List.nil_append List.append_nil List.set_cons_zero List.set_cons_succ Nat.zero_add forall_const true_and and_true and_self Bool.false_eq_true false_implies true_implies implies_true Bool.not_true Bool.not_false Bool.not_eq_true' Bool.not_eq_false' beq_self_eq_true Bool.bne_true Bool.bne_false
attribute [local go_sem] lenI lenS lenP lenQ lenB lenL lenT encI_0 encS_0 encP_0 encP_1 encQ_0 encQ_1 encQ_2 encQ_3 encB_0 encB_1 encL_0 encL_1 encT_0 encT_1
attribute [local go_sem low] whenA_bool guardH_bool
/-! spec.validParam -/
def L133_0 : List AStep := [⟨.box 39 (.t 0), (some 1), none, []⟩, ⟨.mov (.c (.bool false)), (some 2), none, []⟩]
theorem v133_0 : VS L133_0.eq_1 := rfl
def L133_1 : List AStep := [⟨.pick (.t 25) (.t 32) (.c (.bool false)), (some 33), none, []⟩, ⟨.mov (.t 33), (some 2), none, []⟩]
theorem v133_1 : VS L133_1.eq_1 := rfl
def L133_2 : List AStep := ⟨.not (.t 30), (some 31), (some (28, false)), []⟩ :: ⟨.pick (.t 28) (.c (.bool true)) (.t 31), (some 32), (some (25, true)), []⟩ :: L133_1
theorem v133_2 : VS L133_2.eq_1 := rfl
def L133_3 : List AStep := ⟨.faddr 2 (.t 1), (some 29), (some (28, false)), []⟩ :: ⟨.load 1 false (.t 29), (some 30), (some (28, false)), []⟩ :: L133_2
theorem v133_3 : VS L133_3.eq_1 := rfl
def L133_4 : List AStep := ⟨.call 135 [(.t 26)], (some 27), (some (25, true)), []⟩ :: ⟨.mov (.t 27), (some 28), (some (25, true)), []⟩ :: L133_3
theorem v133_4 : VS L133_4.eq_1 := rfl
def L133_5 : List AStep := ⟨.mov (.t 24), (some 25), none, []⟩ :: ⟨.load 4 true (.t 1), (some 26), (some (25, true)), []⟩ :: L133_4
theorem v133_5 : VS L133_5.eq_1 := rfl
def L133_6 : List AStep := ⟨.pick (.t 19) (.c (.bool true)) (.t 22), (some 23), (some (16, true)), []⟩ :: ⟨.pick (.t 16) (.t 23) (.c (.bool false)), (some 24), none, []⟩ :: L133_5
theorem v133_6 : VS L133_6.eq_1 := rfl
def L133_7 : List AStep := ⟨.load 1 false (.t 20), (some 21), (some (19, false)), []⟩ :: ⟨.bin .eql (.t 21) (.c (.int .i64 0)), (some 22), (some (19, false)), []⟩ :: L133_6
theorem v133_7 : VS L133_7.eq_1 := rfl
def L133_8 : List AStep := ⟨.mov (.t 18), (some 19), (some (16, true)), []⟩ :: ⟨.faddr 3 (.t 1), (some 20), (some (19, false)), []⟩ :: L133_7
theorem v133_8 : VS L133_8.eq_1 := rfl
def L133_9 : List AStep := ⟨.faddr 2 (.t 1), (some 17), (some (16, true)), []⟩ :: ⟨.load 1 false (.t 17), (some 18), (some (16, true)), []⟩ :: L133_8
theorem v133_9 : VS L133_9.eq_1 := rfl
def L133_10 : List AStep := ⟨.pick (.t 11) (.t 14) (.c (.bool false)), (some 15), none, []⟩ :: ⟨.mov (.t 15), (some 16), none, []⟩ :: L133_9
theorem v133_10 : VS L133_10.eq_1 := rfl
def L133_11 : List AStep := ⟨.load 1 false (.t 12), (some 13), (some (11, true)), []⟩ :: ⟨.call 145 [(.t 13)], (some 14), (some (11, true)), []⟩ :: L133_10
theorem v133_11 : VS L133_11.eq_1 := rfl
def L133_12 : List AStep := ⟨.mov (.t 10), (some 11), none, []⟩ :: ⟨.faddr 3 (.t 1), (some 12), (some (11, true)), []⟩ :: L133_11
theorem v133_12 : VS L133_12.eq_1 := rfl
def L133_13 : List AStep := ⟨.call 144 [(.t 8), (.c (.int .i64 0)), (.c (.int .i64 4))], (some 9), (some (6, true)), []⟩ :: ⟨.pick (.t 6) (.t 9) (.c (.bool false)), (some 10), none, []⟩ :: L133_12
theorem v133_13 : VS L133_13.eq_1 := rfl
def L133_14 : List AStep := ⟨.faddr 1 (.t 1), (some 7), (some (6, true)), []⟩ :: ⟨.load 1 false (.t 7), (some 8), (some (6, true)), []⟩ :: L133_13
theorem v133_14 : VS L133_14.eq_1 := rfl
def L133_15 : List AStep := ⟨.call 143 [(.t 4)], (some 5), none, []⟩ :: ⟨.mov (.t 5), (some 6), none, []⟩ :: L133_14
theorem v133_15 : VS L133_15.eq_1 := rfl
def L133_16 : List AStep := ⟨.faddr 0 (.t 1), (some 3), none, []⟩ :: ⟨.load 1 false (.t 3), (some 4), none, []⟩ :: L133_15
theorem v133_16 : VS L133_16.eq_1 := rfl
def C133_0 : ACode := .seq (.reg L133_16) .ret
theorem u133_0 : VC C133_0.eq_1 := rfl
def C133_1 : ACode := .seq (.reg L133_0) C133_0
theorem u133_1 : VC C133_1.eq_1 := rfl
def F133 : AFunc := ⟨34, [.tmp 2], C133_1⟩
theorem cF133 : compB Try.prog 133 = some F133 := by kernel_rfl
attribute [local go_sem ↓] u133_0 u133_1 v133_0 v133_1 v133_2 v133_3 v133_4 v133_5 v133_6 v133_7 v133_8 v133_9 v133_10 v133_11 v133_12 v133_13 v133_14 v133_15 v133_16
theorem c_validParam (p : Param) (h : H) (hn : p.name.size < 2 ^ 62) : bm Try.prog 133 [.agg (encQ p)] h = some (ib (okParam p), h) := by
  refine bm_eq cF133 ?_
  simp +contextual (maxSteps := 2000000) only [go_sem, Nat.reduceEqDiff, reduceCtorEq, Nat.reduceAdd, Nat.reduceLeDiff, F133, c_validName _ _ hn, c_inRange, c_validNumber, c_isSingle, okParam]
  (repeat' (first | refine And.intro ?_ ?_ | intro _)) <;> first | simp_all
/-! spec.findParam -/
def L134_0 : List AStep := [⟨.mov (.c (.int .i64 0)), (some 4), none, []⟩]
theorem v134_0 : VS L134_0.eq_1 := rfl
def L134_1 : List AStep := [⟨.mov (.c (.int .i64 0)), (some 5), none, []⟩]
theorem v134_1 : VS L134_1.eq_1 := rfl
def L134_2 : List AStep := [⟨.len (.t 7), (some 8), none, []⟩, ⟨.bin .lss (.t 6) (.t 8), (some 9), none, []⟩]
theorem v134_2 : VS L134_2.eq_1 := rfl
def L134_3 : List AStep := ⟨.mov (.t 5), (some 6), none, []⟩ :: ⟨.mov (.t 0), (some 7), none, []⟩ :: L134_2
theorem v134_3 : VS L134_3.eq_1 := rfl
def L134_4 : List AStep := [⟨.bin .eql (.t 16) (.t 17), (some 18), none, []⟩]
theorem v134_4 : VS L134_4.eq_1 := rfl
def L134_5 : List AStep := ⟨.load 1 false (.t 15), (some 16), none, []⟩ :: ⟨.mov (.t 1), (some 17), none, []⟩ :: L134_4
theorem v134_5 : VS L134_5.eq_1 := rfl
def L134_6 : List AStep := ⟨.iaddr 4 (.t 12) (.t 13), (some 14), none, []⟩ :: ⟨.faddr 0 (.t 14), (some 15), none, []⟩ :: L134_5
theorem v134_6 : VS L134_6.eq_1 := rfl
def L134_7 : List AStep := ⟨.mov (.t 0), (some 12), none, []⟩ :: ⟨.mov (.t 5), (some 13), none, []⟩ :: L134_6
theorem v134_7 : VS L134_7.eq_1 := rfl
def L134_8 : List AStep := [⟨.mov (.t 5), (some 19), none, []⟩, ⟨.mov (.t 19), (some 4), none, []⟩]
theorem v134_8 : VS L134_8.eq_1 := rfl
def L134_9 : List AStep := [⟨.mov (.t 11), (some 5), none, []⟩]
theorem v134_9 : VS L134_9.eq_1 := rfl
def L134_10 : List AStep := ⟨.mov (.t 5), (some 10), none, []⟩ :: ⟨.bin .add (.t 10) (.c (.int .i64 1)), (some 11), none, []⟩ :: L134_9
theorem v134_10 : VS L134_10.eq_1 := rfl
def L134_11 : List AStep := [⟨.mov (.c (.int .i64 (-1))), (some 4), none, []⟩]
theorem v134_11 : VS L134_11.eq_1 := rfl
def C134_0 : ACode := .cond (.t 9) .skip (.exit 0)
theorem u134_0 : VC C134_0.eq_1 := rfl
def C134_1 : ACode := .seq (.reg L134_3) C134_0
theorem u134_1 : VC C134_1.eq_1 := rfl
def C134_2 : ACode := .seq (.reg L134_8) .ret
theorem u134_2 : VC C134_2.eq_1 := rfl
def C134_3 : ACode := .cond (.t 18) C134_2 .skip
theorem u134_3 : VC C134_3.eq_1 := rfl
def C134_4 : ACode := .seq (.reg L134_7) C134_3
theorem u134_4 : VC C134_4.eq_1 := rfl
def C134_5 : ACode := .block 1 C134_4
theorem u134_5 : VC C134_5.eq_1 := rfl
def C134_6 : ACode := .seq C134_5 (.reg L134_10)
theorem u134_6 : VC C134_6.eq_1 := rfl
def C134_7 : ACode := .seq C134_1 C134_6
theorem u134_7 : VC C134_7.eq_1 := rfl
def C134_8 : ACode := .block 0 (.loop C134_7)
theorem u134_8 : VC C134_8.eq_1 := rfl
def C134_9 : ACode := .seq (.reg L134_1) C134_8
theorem u134_9 : VC C134_9.eq_1 := rfl
def C134_10 : ACode := .seq (.reg L134_11) .ret
theorem u134_10 : VC C134_10.eq_1 := rfl
def C134_11 : ACode := .seq C134_9 C134_10
theorem u134_11 : VC C134_11.eq_1 := rfl
def C134_12 : ACode := .seq (.reg L134_0) C134_11
theorem u134_12 : VC C134_12.eq_1 := rfl
def F134 : AFunc := ⟨20, [.tmp 4], C134_12⟩
theorem cF134 : compB Try.prog 134 = some F134 := by kernel_rfl
attribute [local go_sem ↓] u134_0 u134_1 u134_2 u134_3 u134_4 u134_5 u134_6 u134_7 u134_8 u134_9 u134_10 u134_11 u134_12 v134_0 v134_1 v134_2 v134_3 v134_4 v134_5 v134_6 v134_7 v134_8 v134_9 v134_10 v134_11
theorem c_findParam (l : List Param) (v : AV) (s : ByteArray) (h : H) (hl : SlQ h v l) (hn : smQ l) : bm Try.prog 134 [v, .one (.str s)] h = some (ii (paramAt l s), h) := by
  refine bm_eq cF134 ?_
  simp +contextual (maxSteps := 2000000) only [go_sem, Nat.reduceEqDiff, reduceCtorEq, Nat.reduceAdd, Nat.reduceLeDiff, F134]
  refine wpC_loop (fun i T L h' => h' = h ∧ T 0 = .v v ∧ T 1 = .v (.one (.str s)) ∧ T 5 = .v (.one (.int .i64 i)) ∧ Pre (fun p => decide (p.name = s)) false l i) l.length ?_ ?_ (Nat.zero_le _) ?_
  · rintro i T L h' hi ⟨rfl, h0, h1, h3, hp⟩
    simp +contextual (maxSteps := 2000000) only [go_sem, Nat.reduceEqDiff, reduceCtorEq, Nat.reduceAdd, Nat.reduceLeDiff, h0, h1, h3, hl.len, hl.iaddr hi, hl.fieldO hi, lt_true hi]
    (repeat' (first | refine And.intro ?_ ?_ | intro _)) <;> first | rfl | rw [wrap_next hi hn.len] | exact hp.next hi ‹_› | rw [paramAt, idx_hit hi hp ‹_›]
  · rintro T L h' ⟨rfl, h0, h1, h3, hp⟩
    simp +contextual (maxSteps := 2000000) only [go_sem, Nat.reduceEqDiff, reduceCtorEq, Nat.reduceAdd, Nat.reduceLeDiff, h0, h1, h3, hl.len, lt_false, paramAt, idx_none hp]
  · simp +contextual (maxSteps := 2000000) only [go_sem, Nat.reduceEqDiff, reduceCtorEq, Nat.reduceAdd, Nat.reduceLeDiff]
    (repeat' (first | refine And.intro ?_ ?_ | intro _)) <;> first | rfl | exact Pre.zero
/-! spec.kindAt -/
def L119_0 : List AStep := [⟨.mov (.c (.int .i64 0)), (some 4), none, []⟩]
theorem v119_0 : VS L119_0.eq_1 := rfl
def L119_1 : List AStep := [⟨.mov (.c (.int .i64 0)), (some 5), none, []⟩]
theorem v119_1 : VS L119_1.eq_1 := rfl
def L119_2 : List AStep := [⟨.len (.t 7), (some 8), none, []⟩, ⟨.bin .lss (.t 6) (.t 8), (some 9), none, []⟩]
theorem v119_2 : VS L119_2.eq_1 := rfl
def L119_3 : List AStep := ⟨.mov (.t 5), (some 6), none, []⟩ :: ⟨.mov (.t 0), (some 7), none, []⟩ :: L119_2
theorem v119_3 : VS L119_3.eq_1 := rfl
def L119_4 : List AStep := [⟨.bin .eql (.t 16) (.t 17), (some 18), none, []⟩]
theorem v119_4 : VS L119_4.eq_1 := rfl
def L119_5 : List AStep := ⟨.load 1 false (.t 15), (some 16), none, []⟩ :: ⟨.mov (.t 1), (some 17), none, []⟩ :: L119_4
theorem v119_5 : VS L119_5.eq_1 := rfl
def L119_6 : List AStep := ⟨.iaddr 4 (.t 12) (.t 13), (some 14), none, []⟩ :: ⟨.faddr 1 (.t 14), (some 15), none, []⟩ :: L119_5
theorem v119_6 : VS L119_6.eq_1 := rfl
def L119_7 : List AStep := ⟨.mov (.t 0), (some 12), none, []⟩ :: ⟨.mov (.t 5), (some 13), none, []⟩ :: L119_6
theorem v119_7 : VS L119_7.eq_1 := rfl
def L119_8 : List AStep := [⟨.mov (.t 5), (some 19), none, []⟩, ⟨.mov (.t 19), (some 4), none, []⟩]
theorem v119_8 : VS L119_8.eq_1 := rfl
def L119_9 : List AStep := [⟨.mov (.t 11), (some 5), none, []⟩]
theorem v119_9 : VS L119_9.eq_1 := rfl
def L119_10 : List AStep := ⟨.mov (.t 5), (some 10), none, []⟩ :: ⟨.bin .add (.t 10) (.c (.int .i64 1)), (some 11), none, []⟩ :: L119_9
theorem v119_10 : VS L119_10.eq_1 := rfl
def L119_11 : List AStep := [⟨.mov (.c (.int .i64 (-1))), (some 4), none, []⟩]
theorem v119_11 : VS L119_11.eq_1 := rfl
def C119_0 : ACode := .cond (.t 9) .skip (.exit 0)
theorem u119_0 : VC C119_0.eq_1 := rfl
def C119_1 : ACode := .seq (.reg L119_3) C119_0
theorem u119_1 : VC C119_1.eq_1 := rfl
def C119_2 : ACode := .seq (.reg L119_8) .ret
theorem u119_2 : VC C119_2.eq_1 := rfl
def C119_3 : ACode := .cond (.t 18) C119_2 .skip
theorem u119_3 : VC C119_3.eq_1 := rfl
def C119_4 : ACode := .seq (.reg L119_7) C119_3
theorem u119_4 : VC C119_4.eq_1 := rfl
def C119_5 : ACode := .block 1 C119_4
theorem u119_5 : VC C119_5.eq_1 := rfl
def C119_6 : ACode := .seq C119_5 (.reg L119_10)
theorem u119_6 : VC C119_6.eq_1 := rfl
def C119_7 : ACode := .seq C119_1 C119_6
theorem u119_7 : VC C119_7.eq_1 := rfl
def C119_8 : ACode := .block 0 (.loop C119_7)
theorem u119_8 : VC C119_8.eq_1 := rfl
def C119_9 : ACode := .seq (.reg L119_1) C119_8
theorem u119_9 : VC C119_9.eq_1 := rfl
def C119_10 : ACode := .seq (.reg L119_11) .ret
theorem u119_10 : VC C119_10.eq_1 := rfl
def C119_11 : ACode := .seq C119_9 C119_10
theorem u119_11 : VC C119_11.eq_1 := rfl
def C119_12 : ACode := .seq (.reg L119_0) C119_11
theorem u119_12 : VC C119_12.eq_1 := rfl
def F119 : AFunc := ⟨20, [.tmp 4], C119_12⟩
theorem cF119 : compB Try.prog 119 = some F119 := by kernel_rfl
attribute [local go_sem ↓] u119_0 u119_1 u119_2 u119_3 u119_4 u119_5 u119_6 u119_7 u119_8 u119_9 u119_10 u119_11 u119_12 v119_0 v119_1 v119_2 v119_3 v119_4 v119_5 v119_6 v119_7 v119_8 v119_9 v119_10 v119_11
theorem c_kindAt (l : List Param) (v : AV) (k : Int) (h : H) (hl : SlQ h v l) (hn : smQ l) : bm Try.prog 119 [v, .one (.int .i64 k)] h = some (ii (kindAt l k), h) := by
  refine bm_eq cF119 ?_
  simp +contextual (maxSteps := 2000000) only [go_sem, Nat.reduceEqDiff, reduceCtorEq, Nat.reduceAdd, Nat.reduceLeDiff, F119]
  refine wpC_loop (fun i T L h' => h' = h ∧ T 0 = .v v ∧ T 1 = .v (.one (.int .i64 k)) ∧ T 5 = .v (.one (.int .i64 i)) ∧ Pre (fun p => decide (p.kind = k)) false l i) l.length ?_ ?_ (Nat.zero_le _) ?_
  · rintro i T L h' hi ⟨rfl, h0, h1, h3, hp⟩
    simp +contextual (maxSteps := 2000000) only [go_sem, Nat.reduceEqDiff, reduceCtorEq, Nat.reduceAdd, Nat.reduceLeDiff, h0, h1, h3, hl.len, hl.iaddr hi, hl.fieldO hi, lt_true hi]
    (repeat' (first | refine And.intro ?_ ?_ | intro _)) <;> first | rfl | rw [wrap_next hi hn.len] | exact hp.next hi ‹_› | rw [kindAt, idx_hit hi hp ‹_›]
  · rintro T L h' ⟨rfl, h0, h1, h3, hp⟩
    simp +contextual (maxSteps := 2000000) only [go_sem, Nat.reduceEqDiff, reduceCtorEq, Nat.reduceAdd, Nat.reduceLeDiff, h0, h1, h3, hl.len, lt_false, kindAt, idx_none hp]
  · simp +contextual (maxSteps := 2000000) only [go_sem, Nat.reduceEqDiff, reduceCtorEq, Nat.reduceAdd, Nat.reduceLeDiff]
    (repeat' (first | refine And.intro ?_ ?_ | intro _)) <;> first | rfl | exact Pre.zero
/-! spec.placeCount -/
def L54_0 : List AStep := [⟨.box 25 (.t 0), (some 1), none, []⟩, ⟨.mov (.c (.int .i64 0)), (some 2), none, []⟩]
theorem v54_0 : VS L54_0.eq_1 := rfl
def L54_1 : List AStep := [⟨.mov (.c (.int .i64 0)), (some 3), none, []⟩]
theorem v54_1 : VS L54_1.eq_1 := rfl
def L54_2 : List AStep := [⟨.mov (.c (.int .i64 0)), (some 4), none, []⟩]
theorem v54_2 : VS L54_2.eq_1 := rfl
def L54_3 : List AStep := [⟨.bin .lss (.t 5) (.t 8), (some 9), none, []⟩]
theorem v54_3 : VS L54_3.eq_1 := rfl
def L54_4 : List AStep := ⟨.load 1 false (.t 6), (some 7), none, []⟩ :: ⟨.len (.t 7), (some 8), none, []⟩ :: L54_3
theorem v54_4 : VS L54_4.eq_1 := rfl
def L54_5 : List AStep := ⟨.mov (.t 4), (some 5), none, []⟩ :: ⟨.faddr 0 (.t 1), (some 6), none, []⟩ :: L54_4
theorem v54_5 : VS L54_5.eq_1 := rfl
def L54_6 : List AStep := [⟨.load 4 true (.t 15), (some 16), none, []⟩, ⟨.call 104 [(.t 16)], (some 17), none, []⟩]
theorem v54_6 : VS L54_6.eq_1 := rfl
def L54_7 : List AStep := ⟨.mov (.t 4), (some 14), none, []⟩ :: ⟨.iaddr 4 (.t 13) (.t 14), (some 15), none, []⟩ :: L54_6
theorem v54_7 : VS L54_7.eq_1 := rfl
def L54_8 : List AStep := ⟨.faddr 0 (.t 1), (some 12), none, []⟩ :: ⟨.load 1 false (.t 12), (some 13), none, []⟩ :: L54_7
theorem v54_8 : VS L54_8.eq_1 := rfl
def L54_9 : List AStep := [⟨.mov (.t 19), (some 3), none, []⟩]
theorem v54_9 : VS L54_9.eq_1 := rfl
def L54_10 : List AStep := ⟨.mov (.t 3), (some 18), none, []⟩ :: ⟨.bin .add (.t 18) (.c (.int .i64 1)), (some 19), none, []⟩ :: L54_9
theorem v54_10 : VS L54_10.eq_1 := rfl
def L54_11 : List AStep := [⟨.mov (.t 11), (some 4), none, []⟩]
theorem v54_11 : VS L54_11.eq_1 := rfl
def L54_12 : List AStep := ⟨.mov (.t 4), (some 10), none, []⟩ :: ⟨.bin .add (.t 10) (.c (.int .i64 1)), (some 11), none, []⟩ :: L54_11
theorem v54_12 : VS L54_12.eq_1 := rfl
def L54_13 : List AStep := [⟨.mov (.t 3), (some 20), none, []⟩, ⟨.mov (.t 20), (some 2), none, []⟩]
theorem v54_13 : VS L54_13.eq_1 := rfl
def C54_0 : ACode := .cond (.t 9) .skip (.exit 0)
theorem u54_0 : VC C54_0.eq_1 := rfl
def C54_1 : ACode := .seq (.reg L54_5) C54_0
theorem u54_1 : VC C54_1.eq_1 := rfl
def C54_2 : ACode := .cond (.t 17) (.reg L54_10) .skip
theorem u54_2 : VC C54_2.eq_1 := rfl
def C54_3 : ACode := .seq (.reg L54_8) C54_2
theorem u54_3 : VC C54_3.eq_1 := rfl
def C54_4 : ACode := .block 1 C54_3
theorem u54_4 : VC C54_4.eq_1 := rfl
def C54_5 : ACode := .seq C54_4 (.reg L54_12)
theorem u54_5 : VC C54_5.eq_1 := rfl
def C54_6 : ACode := .seq C54_1 C54_5
theorem u54_6 : VC C54_6.eq_1 := rfl
def C54_7 : ACode := .block 0 (.loop C54_6)
theorem u54_7 : VC C54_7.eq_1 := rfl
def C54_8 : ACode := .seq (.reg L54_2) C54_7
theorem u54_8 : VC C54_8.eq_1 := rfl
def C54_9 : ACode := .seq (.reg L54_13) .ret
theorem u54_9 : VC C54_9.eq_1 := rfl
def C54_10 : ACode := .seq C54_8 C54_9
theorem u54_10 : VC C54_10.eq_1 := rfl
def C54_11 : ACode := .seq (.reg L54_1) C54_10
theorem u54_11 : VC C54_11.eq_1 := rfl
def C54_12 : ACode := .seq (.reg L54_0) C54_11
theorem u54_12 : VC C54_12.eq_1 := rfl
def F54 : AFunc := ⟨21, [.tmp 2], C54_12⟩
theorem cF54 : compB Try.prog 54 = some F54 := by kernel_rfl
attribute [local go_sem ↓] u54_0 u54_1 u54_2 u54_3 u54_4 u54_5 u54_6 u54_7 u54_8 u54_9 u54_10 u54_11 u54_12 v54_0 v54_1 v54_2 v54_3 v54_4 v54_5 v54_6 v54_7 v54_8 v54_9 v54_10 v54_11 v54_12 v54_13
theorem c_placeCount (l : List Param) (pv : CV) (h : H) (hl : SlQ h (.one pv) l) (hn : smQ l) : bm Try.prog 54 [.agg [pv]] h = some (ii (l.countP byPlace), h) := by
  refine bm_eq cF54 ?_
  simp +contextual (maxSteps := 2000000) only [go_sem, Nat.reduceEqDiff, reduceCtorEq, Nat.reduceAdd, Nat.reduceLeDiff, F54]
  refine wpC_loop (fun i T L h' => h' = h ∧ T 1 = .lp 1 0 ∧ (L 1).2 = [pv] ∧ T 3 = .v (.one (.int .i64 (cnt byPlace l i))) ∧ T 4 = .v (.one (.int .i64 i))) l.length ?_ ?_ (Nat.zero_le _) ?_
  · rintro i T L h' hi ⟨rfl, t1, l1, t3, t4⟩
    have b1 := cnt_le (p := byPlace) (l := l) (i := i)
    have b2 := hn.len
    simp +contextual (maxSteps := 2000000) only [go_sem, Nat.reduceEqDiff, reduceCtorEq, Nat.reduceAdd, Nat.reduceLeDiff, t1, l1, t3, t4, hl.len, hl.iaddr hi, hl.whole hi, c_byPlace, lt_true hi, cnt_next hi]
    (repeat' (first | refine And.intro ?_ ?_ | intro _)) <;> first | rfl | rw [wrap_next hi hn.len] | (rw [i64_wrap (by omega) (by omega)]; simp_all) | simp_all
  · rintro T L h' ⟨rfl, t1, l1, t3, t4⟩
    simp +contextual (maxSteps := 2000000) only [go_sem, Nat.reduceEqDiff, reduceCtorEq, Nat.reduceAdd, Nat.reduceLeDiff, t1, l1, t3, t4, hl.len, lt_false, cnt_all]
  · simp +contextual (maxSteps := 2000000) only [go_sem, Nat.reduceEqDiff, reduceCtorEq, Nat.reduceAdd, Nat.reduceLeDiff, cnt_zero]
    (repeat' (first | refine And.intro ?_ ?_ | intro _)) <;> first | rfl
/-! spec.takesName -/
def L120_0 : List AStep := [⟨.box 25 (.t 0), (some 2), none, []⟩, ⟨.mov (.c (.int .i64 0)), (some 4), none, []⟩]
theorem v120_0 : VS L120_0.eq_1 := rfl
def L120_1 : List AStep := [⟨.mov (.t 9), (some 5), none, []⟩]
theorem v120_1 : VS L120_1.eq_1 := rfl
def L120_2 : List AStep := ⟨.mov (.t 1), (some 8), none, []⟩ :: ⟨.call 134 [(.t 7), (.t 8)], (some 9), none, []⟩ :: L120_1
theorem v120_2 : VS L120_2.eq_1 := rfl
def L120_3 : List AStep := ⟨.faddr 0 (.t 2), (some 6), none, []⟩ :: ⟨.load 1 false (.t 6), (some 7), none, []⟩ :: L120_2
theorem v120_3 : VS L120_3.eq_1 := rfl
def L120_4 : List AStep := [⟨.call 130 [(.t 17)], (some 18), (some (12, true)), []⟩, ⟨.pick (.t 12) (.t 18) (.c (.bool false)), (some 19), none, []⟩]
theorem v120_4 : VS L120_4.eq_1 := rfl
def L120_5 : List AStep := ⟨.iaddr 4 (.t 14) (.t 15), (some 16), (some (12, true)), []⟩ :: ⟨.load 4 true (.t 16), (some 17), (some (12, true)), []⟩ :: L120_4
theorem v120_5 : VS L120_5.eq_1 := rfl
def L120_6 : List AStep := ⟨.load 1 false (.t 13), (some 14), (some (12, true)), []⟩ :: ⟨.mov (.t 5), (some 15), (some (12, true)), []⟩ :: L120_5
theorem v120_6 : VS L120_6.eq_1 := rfl
def L120_7 : List AStep := ⟨.mov (.t 11), (some 12), none, []⟩ :: ⟨.faddr 0 (.t 2), (some 13), (some (12, true)), []⟩ :: L120_6
theorem v120_7 : VS L120_7.eq_1 := rfl
def L120_8 : List AStep := ⟨.mov (.t 5), (some 10), none, []⟩ :: ⟨.bin .geq (.t 10) (.c (.int .i64 0)), (some 11), none, []⟩ :: L120_7
theorem v120_8 : VS L120_8.eq_1 := rfl
def L120_9 : List AStep := [⟨.mov (.t 5), (some 20), none, []⟩, ⟨.mov (.t 20), (some 4), none, []⟩]
theorem v120_9 : VS L120_9.eq_1 := rfl
def L120_10 : List AStep := [⟨.call 119 [(.t 22), (.c (.int .i64 4))], (some 23), none, []⟩, ⟨.mov (.t 23), (some 4), none, []⟩]
theorem v120_10 : VS L120_10.eq_1 := rfl
def L120_11 : List AStep := ⟨.faddr 0 (.t 2), (some 21), none, []⟩ :: ⟨.load 1 false (.t 21), (some 22), none, []⟩ :: L120_10
theorem v120_11 : VS L120_11.eq_1 := rfl
def C120_0 : ACode := .seq (.reg L120_9) .ret
theorem u120_0 : VC C120_0.eq_1 := rfl
def C120_1 : ACode := .cond (.t 19) C120_0 .skip
theorem u120_1 : VC C120_1.eq_1 := rfl
def C120_2 : ACode := .seq (.reg L120_8) C120_1
theorem u120_2 : VC C120_2.eq_1 := rfl
def C120_3 : ACode := .seq (.reg L120_11) .ret
theorem u120_3 : VC C120_3.eq_1 := rfl
def C120_4 : ACode := .seq C120_2 C120_3
theorem u120_4 : VC C120_4.eq_1 := rfl
def C120_5 : ACode := .seq (.reg L120_3) C120_4
theorem u120_5 : VC C120_5.eq_1 := rfl
def C120_6 : ACode := .seq (.reg L120_0) C120_5
theorem u120_6 : VC C120_6.eq_1 := rfl
def F120 : AFunc := ⟨24, [.tmp 4], C120_6⟩
theorem cF120 : compB Try.prog 120 = some F120 := by kernel_rfl
attribute [local go_sem ↓] u120_0 u120_1 u120_2 u120_3 u120_4 u120_5 u120_6 v120_0 v120_1 v120_2 v120_3 v120_4 v120_5 v120_6 v120_7 v120_8 v120_9 v120_10 v120_11
theorem c_takesName (l : List Param) (pv : CV) (s : ByteArray) (h : H) (hl : SlQ h (.one pv) l) (hn : smQ l) : bm Try.prog 120 [.agg [pv], .one (.str s)] h = some (ii (takes l s), h) := by
  refine bm_eq cF120 ?_
  rcases idx_cases (fun p : Param => decide (p.name = s)) l with e | ⟨j, hj, e, _⟩ <;> (replace e := (show paramAt l s = _ from e))
  · simp +contextual (maxSteps := 2000000) only [go_sem, Nat.reduceEqDiff, reduceCtorEq, Nat.reduceAdd, Nat.reduceLeDiff, F120, c_findParam _ _ _ _ hl hn, e, c_kindAt _ _ _ _ hl hn, takes_none e]
  · simp +contextual (maxSteps := 2000000) only [go_sem, Nat.reduceEqDiff, reduceCtorEq, Nat.reduceAdd, Nat.reduceLeDiff, F120, c_findParam _ _ _ _ hl hn, e, c_kindAt _ _ _ _ hl hn, takes_some hj e, hl.iaddr hj, hl.whole hj, c_byName]
/-! spec.validParams -/
def L103_0 : List AStep := [⟨.mov (.c (.bool false)), (some 2), none, []⟩]
theorem v103_0 : VS L103_0.eq_1 := rfl
def L103_1 : List AStep := [⟨.mov (.c (.int .i64 0)), (some 3), none, []⟩]
theorem v103_1 : VS L103_1.eq_1 := rfl
def L103_2 : List AStep := [⟨.len (.t 7), (some 8), none, []⟩, ⟨.bin .lss (.t 6) (.t 8), (some 9), none, []⟩]
theorem v103_2 : VS L103_2.eq_1 := rfl
def L103_3 : List AStep := ⟨.mov (.t 3), (some 6), none, []⟩ :: ⟨.mov (.t 0), (some 7), none, []⟩ :: L103_2
theorem v103_3 : VS L103_3.eq_1 := rfl
def L103_4 : List AStep := [⟨.alloc 39 [(.str (strOfNums [])), (.int .i64 0), (.bool false), (.int .i64 0)], (some 4), none, []⟩, ⟨.store 4 (.t 4) (.t 15), none, none, []⟩]
theorem v103_4 : VS L103_4.eq_1 := rfl
def L103_5 : List AStep := ⟨.iaddr 4 (.t 12) (.t 13), (some 14), none, []⟩ :: ⟨.load 4 true (.t 14), (some 15), none, []⟩ :: L103_4
theorem v103_5 : VS L103_5.eq_1 := rfl
def L103_6 : List AStep := ⟨.mov (.t 0), (some 12), none, []⟩ :: ⟨.mov (.t 3), (some 13), none, []⟩ :: L103_5
theorem v103_6 : VS L103_6.eq_1 := rfl
def L103_7 : List AStep := [⟨.bin .geq (.t 25) (.c (.int .i64 0)), (some 26), (some (19, false)), []⟩, ⟨.pick (.t 19) (.c (.bool true)) (.t 26), (some 27), none, []⟩]
theorem v103_7 : VS L103_7.eq_1 := rfl
def L103_8 : List AStep := ⟨.load 1 false (.t 23), (some 24), (some (19, false)), []⟩ :: ⟨.call 134 [(.t 22), (.t 24)], (some 25), (some (19, false)), []⟩ :: L103_7
theorem v103_8 : VS L103_8.eq_1 := rfl
def L103_9 : List AStep := ⟨.slice 39 4 (.t 20) none (some (.t 21)) none, (some 22), (some (19, false)), []⟩ :: ⟨.faddr 0 (.t 4), (some 23), (some (19, false)), []⟩ :: L103_8
theorem v103_9 : VS L103_9.eq_1 := rfl
def L103_10 : List AStep := ⟨.mov (.t 0), (some 20), (some (19, false)), []⟩ :: ⟨.mov (.t 3), (some 21), (some (19, false)), []⟩ :: L103_9
theorem v103_10 : VS L103_10.eq_1 := rfl
def L103_11 : List AStep := ⟨.not (.t 17), (some 18), none, []⟩ :: ⟨.mov (.t 18), (some 19), none, []⟩ :: L103_10
theorem v103_11 : VS L103_11.eq_1 := rfl
def L103_12 : List AStep := ⟨.load 4 true (.t 4), (some 16), none, []⟩ :: ⟨.call 133 [(.t 16)], (some 17), none, []⟩ :: L103_11
theorem v103_12 : VS L103_12.eq_1 := rfl
def L103_13 : List AStep := [⟨.mov (.c (.bool false)), (some 2), none, []⟩]
theorem v103_13 : VS L103_13.eq_1 := rfl
def L103_14 : List AStep := [⟨.mov (.t 3), (some 28), none, []⟩, ⟨.bin .eql (.t 28) (.c (.int .i64 0)), (some 29), none, []⟩]
theorem v103_14 : VS L103_14.eq_1 := rfl
def L103_15 : List AStep := [⟨.store 4 (.t 5) (.t 34), none, none, []⟩]
theorem v103_15 : VS L103_15.eq_1 := rfl
def L103_16 : List AStep := ⟨.load 4 true (.t 33), (some 34), none, []⟩ :: ⟨.alloc 39 [(.str (strOfNums [])), (.int .i64 0), (.bool false), (.int .i64 0)], (some 5), none, []⟩ :: L103_15
theorem v103_16 : VS L103_16.eq_1 := rfl
def L103_17 : List AStep := ⟨.bin .sub (.t 31) (.c (.int .i64 1)), (some 32), none, []⟩ :: ⟨.iaddr 4 (.t 30) (.t 32), (some 33), none, []⟩ :: L103_16
theorem v103_17 : VS L103_17.eq_1 := rfl
def L103_18 : List AStep := ⟨.mov (.t 0), (some 30), none, []⟩ :: ⟨.mov (.t 3), (some 31), none, []⟩ :: L103_17
theorem v103_18 : VS L103_18.eq_1 := rfl
def L103_19 : List AStep := [⟨.pick (.t 59) (.t 62) (.c (.bool false)), (some 63), (some (52, false)), []⟩, ⟨.pick (.t 52) (.c (.bool true)) (.t 63), (some 64), none, []⟩]
theorem v103_19 : VS L103_19.eq_1 := rfl
def L103_20 : List AStep := ⟨.load 1 false (.t 60), (some 61), (some (59, true)), []⟩ :: ⟨.not (.t 61), (some 62), (some (59, true)), []⟩ :: L103_19
theorem v103_20 : VS L103_20.eq_1 := rfl
def L103_21 : List AStep := ⟨.mov (.t 58), (some 59), (some (52, false)), []⟩ :: ⟨.faddr 2 (.t 4), (some 60), (some (59, true)), []⟩ :: L103_20
theorem v103_21 : VS L103_21.eq_1 := rfl
def L103_22 : List AStep := ⟨.load 1 false (.t 56), (some 57), (some (55, true)), []⟩ :: ⟨.pick (.t 55) (.t 57) (.c (.bool false)), (some 58), (some (52, false)), []⟩ :: L103_21
theorem v103_22 : VS L103_22.eq_1 := rfl
def L103_23 : List AStep := ⟨.mov (.t 54), (some 55), (some (52, false)), []⟩ :: ⟨.faddr 2 (.t 5), (some 56), (some (55, true)), []⟩ :: L103_22
theorem v103_23 : VS L103_23.eq_1 := rfl
def L103_24 : List AStep := ⟨.load 4 true (.t 4), (some 53), (some (52, false)), []⟩ :: ⟨.call 104 [(.t 53)], (some 54), (some (52, false)), []⟩ :: L103_23
theorem v103_24 : VS L103_24.eq_1 := rfl
def L103_25 : List AStep := ⟨.pick (.t 40) (.c (.bool true)) (.t 50), (some 51), none, []⟩ :: ⟨.mov (.t 51), (some 52), none, []⟩ :: L103_24
theorem v103_25 : VS L103_25.eq_1 := rfl
def L103_26 : List AStep := ⟨.not (.t 48), (some 49), (some (46, true)), []⟩ :: ⟨.pick (.t 46) (.t 49) (.c (.bool false)), (some 50), (some (40, false)), []⟩ :: L103_25
theorem v103_26 : VS L103_26.eq_1 := rfl
def L103_27 : List AStep := ⟨.load 4 true (.t 4), (some 47), (some (46, true)), []⟩ :: ⟨.call 135 [(.t 47)], (some 48), (some (46, true)), []⟩ :: L103_26
theorem v103_27 : VS L103_27.eq_1 := rfl
def L103_28 : List AStep := ⟨.bin .eql (.t 42) (.t 44), (some 45), (some (40, false)), []⟩ :: ⟨.mov (.t 45), (some 46), (some (40, false)), []⟩ :: L103_27
theorem v103_28 : VS L103_28.eq_1 := rfl
def L103_29 : List AStep := ⟨.faddr 1 (.t 5), (some 43), (some (40, false)), []⟩ :: ⟨.load 1 false (.t 43), (some 44), (some (40, false)), []⟩ :: L103_28
theorem v103_29 : VS L103_29.eq_1 := rfl
def L103_30 : List AStep := ⟨.faddr 1 (.t 4), (some 41), (some (40, false)), []⟩ :: ⟨.load 1 false (.t 41), (some 42), (some (40, false)), []⟩ :: L103_29
theorem v103_30 : VS L103_30.eq_1 := rfl
def L103_31 : List AStep := ⟨.bin .lss (.t 36) (.t 38), (some 39), none, []⟩ :: ⟨.mov (.t 39), (some 40), none, []⟩ :: L103_30
theorem v103_31 : VS L103_31.eq_1 := rfl
def L103_32 : List AStep := ⟨.faddr 1 (.t 5), (some 37), none, []⟩ :: ⟨.load 1 false (.t 37), (some 38), none, []⟩ :: L103_31
theorem v103_32 : VS L103_32.eq_1 := rfl
def L103_33 : List AStep := ⟨.faddr 1 (.t 4), (some 35), none, []⟩ :: ⟨.load 1 false (.t 35), (some 36), none, []⟩ :: L103_32
theorem v103_33 : VS L103_33.eq_1 := rfl
def L103_34 : List AStep := [⟨.mov (.c (.bool false)), (some 2), none, []⟩]
theorem v103_34 : VS L103_34.eq_1 := rfl
def L103_35 : List AStep := [⟨.mov (.t 11), (some 3), none, []⟩]
theorem v103_35 : VS L103_35.eq_1 := rfl
def L103_36 : List AStep := ⟨.mov (.t 3), (some 10), none, []⟩ :: ⟨.bin .add (.t 10) (.c (.int .i64 1)), (some 11), none, []⟩ :: L103_35
theorem v103_36 : VS L103_36.eq_1 := rfl
def L103_37 : List AStep := [⟨.bin .leq (.t 66) (.c (.int .i64 8)), (some 67), none, []⟩, ⟨.mov (.t 67), (some 2), none, []⟩]
theorem v103_37 : VS L103_37.eq_1 := rfl
def L103_38 : List AStep := ⟨.mov (.t 0), (some 65), none, []⟩ :: ⟨.len (.t 65), (some 66), none, []⟩ :: L103_37
theorem v103_38 : VS L103_38.eq_1 := rfl
def C103_0 : ACode := .cond (.t 9) .skip (.exit 0)
theorem u103_0 : VC C103_0.eq_1 := rfl
def C103_1 : ACode := .seq (.reg L103_3) C103_0
theorem u103_1 : VC C103_1.eq_1 := rfl
def C103_2 : ACode := .seq (.reg L103_13) .ret
theorem u103_2 : VC C103_2.eq_1 := rfl
def C103_3 : ACode := .cond (.t 27) C103_2 .skip
theorem u103_3 : VC C103_3.eq_1 := rfl
def C103_4 : ACode := .seq (.reg L103_12) C103_3
theorem u103_4 : VC C103_4.eq_1 := rfl
def C103_5 : ACode := .cond (.t 29) (.exit 1) .skip
theorem u103_5 : VC C103_5.eq_1 := rfl
def C103_6 : ACode := .seq (.reg L103_14) C103_5
theorem u103_6 : VC C103_6.eq_1 := rfl
def C103_7 : ACode := .seq (.reg L103_34) .ret
theorem u103_7 : VC C103_7.eq_1 := rfl
def C103_8 : ACode := .cond (.t 64) C103_7 .skip
theorem u103_8 : VC C103_8.eq_1 := rfl
def C103_9 : ACode := .seq (.reg L103_33) C103_8
theorem u103_9 : VC C103_9.eq_1 := rfl
def C103_10 : ACode := .seq (.reg L103_18) C103_9
theorem u103_10 : VC C103_10.eq_1 := rfl
def C103_11 : ACode := .seq C103_6 C103_10
theorem u103_11 : VC C103_11.eq_1 := rfl
def C103_12 : ACode := .seq C103_4 C103_11
theorem u103_12 : VC C103_12.eq_1 := rfl
def C103_13 : ACode := .seq (.reg L103_6) C103_12
theorem u103_13 : VC C103_13.eq_1 := rfl
def C103_14 : ACode := .block 1 C103_13
theorem u103_14 : VC C103_14.eq_1 := rfl
def C103_15 : ACode := .seq C103_14 (.reg L103_36)
theorem u103_15 : VC C103_15.eq_1 := rfl
def C103_16 : ACode := .seq C103_1 C103_15
theorem u103_16 : VC C103_16.eq_1 := rfl
def C103_17 : ACode := .block 0 (.loop C103_16)
theorem u103_17 : VC C103_17.eq_1 := rfl
def C103_18 : ACode := .seq (.reg L103_1) C103_17
theorem u103_18 : VC C103_18.eq_1 := rfl
def C103_19 : ACode := .seq (.reg L103_38) .ret
theorem u103_19 : VC C103_19.eq_1 := rfl
def C103_20 : ACode := .seq C103_18 C103_19
theorem u103_20 : VC C103_20.eq_1 := rfl
def C103_21 : ACode := .seq (.reg L103_0) C103_20
theorem u103_21 : VC C103_21.eq_1 := rfl
def F103 : AFunc := ⟨68, [.tmp 2], C103_21⟩
theorem cF103 : compB Try.prog 103 = some F103 := by kernel_rfl
attribute [local go_sem ↓] u103_0 u103_1 u103_2 u103_3 u103_4 u103_5 u103_6 u103_7 u103_8 u103_9 u103_10 u103_11 u103_12 u103_13 u103_14 u103_15 u103_16 u103_17 u103_18 u103_19 u103_20 u103_21 v103_0 v103_1 v103_2 v103_3 v103_4 v103_5 v103_6 v103_7 v103_8 v103_9 v103_10 v103_11 v103_12 v103_13 v103_14 v103_15 v103_16 v103_17 v103_18 v103_19 v103_20 v103_21 v103_22 v103_23 v103_24 v103_25 v103_26 v103_27 v103_28 v103_29 v103_30 v103_31 v103_32 v103_33 v103_34 v103_35 v103_36 v103_37 v103_38
theorem c_validParams (l : List Param) (v : AV) (h : H) (hl : SlQ h v l) (hn : smQ l) : bm Try.prog 103 [v] h = some (ib (okSig l), h) := by
  refine bm_eq cF103 ?_
  simp +contextual (maxSteps := 2000000) only [go_sem, Nat.reduceEqDiff, reduceCtorEq, Nat.reduceAdd, Nat.reduceLeDiff, F103]
  refine wpC_loop (fun i T L h' => h' = h ∧ T 0 = .v v ∧ T 3 = .v (.one (.int .i64 i)) ∧ Upto (stepAt l) i) l.length ?_ ?_ (Nat.zero_le _) ?_
  · rintro i T L h' hi ⟨rfl, t0, t3, hu⟩
    obtain ⟨v', e1, s1⟩ := hl.takeO (i := i) (by omega) (kd := .i64)
    have e2 : decide (paramAt (l.take i) l[i].name ≥ 0) = !(newAt Param.name l i) := newAt_ge hi
    cases i with
    | zero =>
      have e3 := stepAt_zero hi
      simp only [List.take_zero] at e1 e2 s1
      have e4 : decide (((0 : Nat) : Int) = 0) = true := rfl
      simp +contextual (maxSteps := 2000000) only [go_sem, Nat.reduceEqDiff, reduceCtorEq, Nat.reduceAdd, Nat.reduceLeDiff, e4, List.take_zero, t0, t3, hl.len, hl.iaddr hi, hl.whole hi, lt_true hi, e1, e2, c_findParam _ _ _ _ s1 (hn.take 0), c_validParam _ _ (hn.at hi)]
      (repeat' (first | refine And.intro ?_ ?_ | intro _)) <;> first | rfl | rw [wrap_next hi hn.len] | exact hu.next (by rw [e3]; simp_all) | (rw [okSig_not hi (by rw [e3]; simp_all)]) | simp_all
    | succ j =>
      have e3 := stepAt_succ hi
      have hj : j < l.length := by omega
      have e4 : decide (((j + 1 : Nat) : Int) = 0) = false := decide_eq_false (by omega)
      simp +contextual (maxSteps := 2000000) only [go_sem, Nat.reduceEqDiff, reduceCtorEq, Nat.reduceAdd, Nat.reduceLeDiff, e4, t0, t3, hl.len, hl.iaddr hi, hl.whole hi, lt_true hi, e1, e2, c_findParam _ _ _ _ s1 (hn.take _), c_validParam _ _ (hn.at hi), wrap_pred (show j < 2 ^ 62 from Nat.lt_trans (Nat.lt_succ_self j) (Nat.lt_trans hi hn.len)), hl.iaddr hj, hl.whole hj, c_isSingle, c_byPlace]
      (repeat' (first | refine And.intro ?_ ?_ | intro _)) <;> first | rfl | rw [wrap_next hi hn.len] | exact hu.next (by rw [e3]; simp_all [follows]) | (rw [okSig_not hi (by rw [e3]; simp_all [follows])]) | simp_all
  · rintro T L h' ⟨rfl, t0, t3, hu⟩
    simp +contextual (maxSteps := 2000000) only [go_sem, Nat.reduceEqDiff, reduceCtorEq, Nat.reduceAdd, Nat.reduceLeDiff, t0, t3, hl.len, lt_false, okSig_of hu]
  · simp +contextual (maxSteps := 2000000) only [go_sem, Nat.reduceEqDiff, reduceCtorEq, Nat.reduceAdd, Nat.reduceLeDiff]
    (repeat' (first | refine And.intro ?_ ?_ | intro _)) <;> first | rfl | exact Upto.zero
/-! spec.validSignature -/
def L53_0 : List AStep := [⟨.box 25 (.t 0), (some 1), none, []⟩, ⟨.mov (.c (.bool false)), (some 2), none, []⟩]
theorem v53_0 : VS L53_0.eq_1 := rfl
def L53_1 : List AStep := [⟨.call 103 [(.t 4)], (some 5), none, []⟩, ⟨.mov (.t 5), (some 2), none, []⟩]
theorem v53_1 : VS L53_1.eq_1 := rfl
def L53_2 : List AStep := ⟨.faddr 0 (.t 1), (some 3), none, []⟩ :: ⟨.load 1 false (.t 3), (some 4), none, []⟩ :: L53_1
theorem v53_2 : VS L53_2.eq_1 := rfl
def C53_0 : ACode := .seq (.reg L53_2) .ret
theorem u53_0 : VC C53_0.eq_1 := rfl
def C53_1 : ACode := .seq (.reg L53_0) C53_0
theorem u53_1 : VC C53_1.eq_1 := rfl
def F53 : AFunc := ⟨6, [.tmp 2], C53_1⟩
theorem cF53 : compB Try.prog 53 = some F53 := by kernel_rfl
attribute [local go_sem ↓] u53_0 u53_1 v53_0 v53_1 v53_2
theorem c_validSignature (l : List Param) (pv : CV) (h : H) (hl : SlQ h (.one pv) l) (hn : smQ l) : bm Try.prog 53 [.agg [pv]] h = some (ib (okSig l), h) := by
  refine bm_eq cF53 ?_
  simp +contextual (maxSteps := 2000000) only [go_sem, Nat.reduceEqDiff, reduceCtorEq, Nat.reduceAdd, Nat.reduceLeDiff, F53, c_validParams _ _ _ hl hn]
/-! spec.goodCall -/
def L66_0 : List AStep := [⟨.mov (.c (.bool false)), (some 4), none, []⟩]
theorem v66_0 : VS L66_0.eq_1 := rfl
def L66_1 : List AStep := ⟨.box 25 (.t 0), (some 2), none, []⟩ :: ⟨.box 29 (.t 1), (some 3), none, []⟩ :: L66_0
theorem v66_1 : VS L66_1.eq_1 := rfl
def L66_2 : List AStep := [⟨.mov (.t 10), (some 4), none, []⟩]
theorem v66_2 : VS L66_2.eq_1 := rfl
def L66_3 : List AStep := ⟨.call 115 [(.t 8)], (some 9), (some (7, true)), []⟩ :: ⟨.pick (.t 7) (.t 9) (.c (.bool false)), (some 10), none, []⟩ :: L66_2
theorem v66_3 : VS L66_3.eq_1 := rfl
def L66_4 : List AStep := ⟨.mov (.t 6), (some 7), none, []⟩ :: ⟨.load 2 true (.t 3), (some 8), (some (7, true)), []⟩ :: L66_3
theorem v66_4 : VS L66_4.eq_1 := rfl
def L66_5 : List AStep := ⟨.load 1 true (.t 2), (some 5), none, []⟩ :: ⟨.call 53 [(.t 5)], (some 6), none, []⟩ :: L66_4
theorem v66_5 : VS L66_5.eq_1 := rfl
def C66_0 : ACode := .seq (.reg L66_5) .ret
theorem u66_0 : VC C66_0.eq_1 := rfl
def C66_1 : ACode := .seq (.reg L66_1) C66_0
theorem u66_1 : VC C66_1.eq_1 := rfl
def F66 : AFunc := ⟨11, [.tmp 4], C66_1⟩
theorem cF66 : compB Try.prog 66 = some F66 := by kernel_rfl
attribute [local go_sem ↓] u66_0 u66_1 v66_0 v66_1 v66_2 v66_3 v66_4 v66_5
theorem c_goodCall (l : List Param) (f : Flat) (qv pv nv : CV) (h : H) (hl : SlQ h (.one qv) l) (hn : smQ l) (hp : SlI h (.one pv) f.pl) (hq : SlP h (.one nv) f.nl) (hf : smF f) : bm Try.prog 66 [.agg [qv], .agg [pv, nv]] h = some (ib (okSig l && okFlat f), h) := by
  refine bm_eq cF66 ?_
  simp +contextual (maxSteps := 2000000) only [go_sem, Nat.reduceEqDiff, reduceCtorEq, Nat.reduceAdd, Nat.reduceLeDiff, F66, c_validSignature _ _ _ hl hn, c_validFlat _ _ _ _ hp hq hf]
  (repeat' (first | refine And.intro ?_ ?_ | intro _)) <;> first | simp_all
end Go.Proofs.Ytekkimfdcbgcoab.Am
