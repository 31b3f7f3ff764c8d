/- Contracts of the reference: signatures. -/
import Derived.Test.YtoeceafibmafpaaDoorA1
namespace Go.Proofs.YtoeceafibmafpaaDoor.Am
open Go
set_option maxRecDepth 100000
set_option maxHeartbeats 4000000
set_option linter.unusedSimpArgs false
set_option linter.unusedVariables false
attribute [local go_sem ↓] bv_t bv_c ev_t ev_c put_same put_ne put_none kill_at pro_at lb_same lb_ne start_zero start_succ wpC_seq wpC_reg wpC_cond wpC_block wpC_skip wpC_exit wpC_ret thenQ_normal thenQ_exit thenQ_ret inBlk_normal inBlk_exit inBlk_ret wpS_nil wpS_step wpS_again wpS_guard wpO_mov wpO_load wpO_faddr wpO_nilCheck wpO_pick wpO_build wpO_bin wpO_eqb wpO_eqst wpO_eqnil wpO_not wpO_conv wpO_bytesStr wpO_iaddr wpO_idxStr wpO_field wpO_extract wpO_len wpO_lenStr wpO_cap wpO_min wpO_slice wpO_sliceStr wpO_alloc wpO_box wpO_store wpO_call wpO_callv wpO_mkfn wpO_buildSlice wpO_mkslice wpO_append wpO_appz proA_nil proA_cons tmpX_nil tmpX_tmp tmpX_cell doneB_normal doneB_ret agK_cons agK_nil agK_guard agG_tt agG_ff agG_tf agG_ft agG_undef pureB_load results_one results_two results_nil resBs_cons resBs_nil resB_tmp resB_cell
attribute [local go_sem] kill_v kill_lp_ne kill_lp_same pro_v pro_lp_same pro_lp_ne av_v av_lp optB_some optX_some valX_eq ldX_lp ldX_v faX_lp faX_v ncX_lp ncX_ptr ncX_fn boxK_one boxK_agg stL_some stK_lp_one stK_lp_agg stK_v_one stK_v_agg proM_v proM_lp callG_mk callVG_mk callvK_fn fnG_mk ptrsA_nil ptrsA_cons callH_some whenA_true whenA_false guardH_tt guardH_ff guardH_tf guardH_ft guardH_undef agV_one agV_agg lenO_sl lenStrO_str notO_bool pickO_bool convO_int eqbO_bool eqnilO_sl extractO_tup capO_sl minO_int loadL_one loadL_all storeL_eq fillA_nil fillA_one fillA_agg nat_ge neg_ge nat_lt neg_lt buildO bin_add bin_sub bin_mul bin_eql bin_neq bin_lss bin_leq bin_gtr bin_geq str_eql str_neq str_lss str_leq str_gtr str_geq retK_some endK_mk gcK_same gcK_int gcK_bool tupO_one tupO_agg rdy_self ib ii Option.map_none Option.map_some Option.some.injEq exists_eq_left' exists_eq_left ne_eq not_false_eq_true if_true if_false List.map_cons List.map_nil List.getElem?_cons_zero List.getElem?_cons_succ List.length_cons List.length_nil List.take_succ_cons List.take_zero List.take_nil List.drop_succ_cons List.drop_zero List.drop_nil List.cons_append List.nil_append List.append_nil List.set_cons_zero List.set_cons_succ Nat.zero_add forall_const true_and and_true and_self Bool.false_eq_true false_implies true_implies implies_true Bool.not_true Bool.not_false Bool.not_eq_true' Bool.not_eq_false' beq_self_eq_true Bool.bne_true Bool.bne_false
attribute [local go_sem] lenI lenS lenP lenQ lenB lenL lenT encI_0 encS_0 encP_0 encP_1 encQ_0 encQ_1 encQ_2 encQ_3 encB_0 encB_1 encL_0 encL_1 encT_0 encT_1
attribute [local go_sem low] whenA_bool guardH_bool
/-! spec.validParam -/
def L105_0 : List AStep := [⟨.box 83 (.t 0), (some 1), none, []⟩, ⟨.mov (.c (.bool false)), (some 2), none, []⟩]
theorem v105_0 : VS L105_0.eq_1 := rfl
def L105_1 : List AStep := [⟨.pick (.t 25) (.t 32) (.c (.bool false)), (some 33), none, []⟩, ⟨.mov (.t 33), (some 2), none, []⟩]
theorem v105_1 : VS L105_1.eq_1 := rfl
def L105_2 : List AStep := ⟨.not (.t 30), (some 31), (some (28, false)), []⟩ :: ⟨.pick (.t 28) (.c (.bool true)) (.t 31), (some 32), (some (25, true)), []⟩ :: L105_1
theorem v105_2 : VS L105_2.eq_1 := rfl
def L105_3 : List AStep := ⟨.faddr 2 (.t 1), (some 29), (some (28, false)), []⟩ :: ⟨.load 1 false (.t 29), (some 30), (some (28, false)), []⟩ :: L105_2
theorem v105_3 : VS L105_3.eq_1 := rfl
def L105_4 : List AStep := ⟨.call 107 [(.t 26)], (some 27), (some (25, true)), []⟩ :: ⟨.mov (.t 27), (some 28), (some (25, true)), []⟩ :: L105_3
theorem v105_4 : VS L105_4.eq_1 := rfl
def L105_5 : List AStep := ⟨.mov (.t 24), (some 25), none, []⟩ :: ⟨.load 4 true (.t 1), (some 26), (some (25, true)), []⟩ :: L105_4
theorem v105_5 : VS L105_5.eq_1 := rfl
def L105_6 : List AStep := ⟨.pick (.t 19) (.c (.bool true)) (.t 22), (some 23), (some (16, true)), []⟩ :: ⟨.pick (.t 16) (.t 23) (.c (.bool false)), (some 24), none, []⟩ :: L105_5
theorem v105_6 : VS L105_6.eq_1 := rfl
def L105_7 : List AStep := ⟨.load 1 false (.t 20), (some 21), (some (19, false)), []⟩ :: ⟨.bin .eql (.t 21) (.c (.int .i64 0)), (some 22), (some (19, false)), []⟩ :: L105_6
theorem v105_7 : VS L105_7.eq_1 := rfl
def L105_8 : List AStep := ⟨.mov (.t 18), (some 19), (some (16, true)), []⟩ :: ⟨.faddr 3 (.t 1), (some 20), (some (19, false)), []⟩ :: L105_7
theorem v105_8 : VS L105_8.eq_1 := rfl
def L105_9 : List AStep := ⟨.faddr 2 (.t 1), (some 17), (some (16, true)), []⟩ :: ⟨.load 1 false (.t 17), (some 18), (some (16, true)), []⟩ :: L105_8
theorem v105_9 : VS L105_9.eq_1 := rfl
def L105_10 : List AStep := ⟨.pick (.t 11) (.t 14) (.c (.bool false)), (some 15), none, []⟩ :: ⟨.mov (.t 15), (some 16), none, []⟩ :: L105_9
theorem v105_10 : VS L105_10.eq_1 := rfl
def L105_11 : List AStep := ⟨.load 1 false (.t 12), (some 13), (some (11, true)), []⟩ :: ⟨.call 135 [(.t 13)], (some 14), (some (11, true)), []⟩ :: L105_10
theorem v105_11 : VS L105_11.eq_1 := rfl
def L105_12 : List AStep := ⟨.mov (.t 10), (some 11), none, []⟩ :: ⟨.faddr 3 (.t 1), (some 12), (some (11, true)), []⟩ :: L105_11
theorem v105_12 : VS L105_12.eq_1 := rfl
def L105_13 : List AStep := ⟨.call 67 [(.t 8), (.c (.int .i64 0)), (.c (.int .i64 4))], (some 9), (some (6, true)), []⟩ :: ⟨.pick (.t 6) (.t 9) (.c (.bool false)), (some 10), none, []⟩ :: L105_12
theorem v105_13 : VS L105_13.eq_1 := rfl
def L105_14 : List AStep := ⟨.faddr 1 (.t 1), (some 7), (some (6, true)), []⟩ :: ⟨.load 1 false (.t 7), (some 8), (some (6, true)), []⟩ :: L105_13
theorem v105_14 : VS L105_14.eq_1 := rfl
def L105_15 : List AStep := ⟨.call 66 [(.t 4)], (some 5), none, []⟩ :: ⟨.mov (.t 5), (some 6), none, []⟩ :: L105_14
theorem v105_15 : VS L105_15.eq_1 := rfl
def L105_16 : List AStep := ⟨.faddr 0 (.t 1), (some 3), none, []⟩ :: ⟨.load 1 false (.t 3), (some 4), none, []⟩ :: L105_15
theorem v105_16 : VS L105_16.eq_1 := rfl
def C105_0 : ACode := .seq (.reg L105_16) .ret
theorem u105_0 : VC C105_0.eq_1 := rfl
def C105_1 : ACode := .seq (.reg L105_0) C105_0
theorem u105_1 : VC C105_1.eq_1 := rfl
def F105 : AFunc := ⟨34, [.tmp 2], C105_1⟩
theorem cF105 : compB Tryd.prog 105 = some F105 := by kernel_rfl
attribute [local go_sem ↓] u105_0 u105_1 v105_0 v105_1 v105_2 v105_3 v105_4 v105_5 v105_6 v105_7 v105_8 v105_9 v105_10 v105_11 v105_12 v105_13 v105_14 v105_15 v105_16
theorem c_validParam (p : Param) (h : H) (hn : p.name.size < 2 ^ 62) : bm Tryd.prog 105 [.agg (encQ p)] h = some (ib (okParam p), h) := by
  refine bm_eq cF105 ?_
  simp +contextual (maxSteps := 2000000) only [go_sem, Nat.reduceEqDiff, reduceCtorEq, Nat.reduceAdd, Nat.reduceLeDiff, F105, c_validName _ _ hn, c_inRange, c_validNumber, c_isSingle, okParam]
  (repeat' (first | refine And.intro ?_ ?_ | intro _)) <;> first | simp_all
/-! spec.findParam -/
def L106_0 : List AStep := [⟨.mov (.c (.int .i64 0)), (some 4), none, []⟩]
theorem v106_0 : VS L106_0.eq_1 := rfl
def L106_1 : List AStep := [⟨.mov (.c (.int .i64 0)), (some 5), none, []⟩]
theorem v106_1 : VS L106_1.eq_1 := rfl
def L106_2 : List AStep := [⟨.len (.t 7), (some 8), none, []⟩, ⟨.bin .lss (.t 6) (.t 8), (some 9), none, []⟩]
theorem v106_2 : VS L106_2.eq_1 := rfl
def L106_3 : List AStep := ⟨.mov (.t 5), (some 6), none, []⟩ :: ⟨.mov (.t 0), (some 7), none, []⟩ :: L106_2
theorem v106_3 : VS L106_3.eq_1 := rfl
def L106_4 : List AStep := [⟨.bin .eql (.t 16) (.t 17), (some 18), none, []⟩]
theorem v106_4 : VS L106_4.eq_1 := rfl
def L106_5 : List AStep := ⟨.load 1 false (.t 15), (some 16), none, []⟩ :: ⟨.mov (.t 1), (some 17), none, []⟩ :: L106_4
theorem v106_5 : VS L106_5.eq_1 := rfl
def L106_6 : List AStep := ⟨.iaddr 4 (.t 12) (.t 13), (some 14), none, []⟩ :: ⟨.faddr 0 (.t 14), (some 15), none, []⟩ :: L106_5
theorem v106_6 : VS L106_6.eq_1 := rfl
def L106_7 : List AStep := ⟨.mov (.t 0), (some 12), none, []⟩ :: ⟨.mov (.t 5), (some 13), none, []⟩ :: L106_6
theorem v106_7 : VS L106_7.eq_1 := rfl
def L106_8 : List AStep := [⟨.mov (.t 5), (some 19), none, []⟩, ⟨.mov (.t 19), (some 4), none, []⟩]
theorem v106_8 : VS L106_8.eq_1 := rfl
def L106_9 : List AStep := [⟨.mov (.t 11), (some 5), none, []⟩]
theorem v106_9 : VS L106_9.eq_1 := rfl
def L106_10 : List AStep := ⟨.mov (.t 5), (some 10), none, []⟩ :: ⟨.bin .add (.t 10) (.c (.int .i64 1)), (some 11), none, []⟩ :: L106_9
theorem v106_10 : VS L106_10.eq_1 := rfl
def L106_11 : List AStep := [⟨.mov (.c (.int .i64 (-1))), (some 4), none, []⟩]
theorem v106_11 : VS L106_11.eq_1 := rfl
def C106_0 : ACode := .cond (.t 9) .skip (.exit 0)
theorem u106_0 : VC C106_0.eq_1 := rfl
def C106_1 : ACode := .seq (.reg L106_3) C106_0
theorem u106_1 : VC C106_1.eq_1 := rfl
def C106_2 : ACode := .seq (.reg L106_8) .ret
theorem u106_2 : VC C106_2.eq_1 := rfl
def C106_3 : ACode := .cond (.t 18) C106_2 .skip
theorem u106_3 : VC C106_3.eq_1 := rfl
def C106_4 : ACode := .seq (.reg L106_7) C106_3
theorem u106_4 : VC C106_4.eq_1 := rfl
def C106_5 : ACode := .block 1 C106_4
theorem u106_5 : VC C106_5.eq_1 := rfl
def C106_6 : ACode := .seq C106_5 (.reg L106_10)
theorem u106_6 : VC C106_6.eq_1 := rfl
def C106_7 : ACode := .seq C106_1 C106_6
theorem u106_7 : VC C106_7.eq_1 := rfl
def C106_8 : ACode := .block 0 (.loop C106_7)
theorem u106_8 : VC C106_8.eq_1 := rfl
def C106_9 : ACode := .seq (.reg L106_1) C106_8
theorem u106_9 : VC C106_9.eq_1 := rfl
def C106_10 : ACode := .seq (.reg L106_11) .ret
theorem u106_10 : VC C106_10.eq_1 := rfl
def C106_11 : ACode := .seq C106_9 C106_10
theorem u106_11 : VC C106_11.eq_1 := rfl
def C106_12 : ACode := .seq (.reg L106_0) C106_11
theorem u106_12 : VC C106_12.eq_1 := rfl
def F106 : AFunc := ⟨20, [.tmp 4], C106_12⟩
theorem cF106 : compB Tryd.prog 106 = some F106 := by kernel_rfl
attribute [local go_sem ↓] u106_0 u106_1 u106_2 u106_3 u106_4 u106_5 u106_6 u106_7 u106_8 u106_9 u106_10 u106_11 u106_12 v106_0 v106_1 v106_2 v106_3 v106_4 v106_5 v106_6 v106_7 v106_8 v106_9 v106_10 v106_11
theorem c_findParam (l : List Param) (v : AV) (s : ByteArray) (h : H) (hl : SlQ h v l) (hn : smQ l) : bm Tryd.prog 106 [v, .one (.str s)] h = some (ii (paramAt l s), h) := by
  refine bm_eq cF106 ?_
  simp +contextual (maxSteps := 2000000) only [go_sem, Nat.reduceEqDiff, reduceCtorEq, Nat.reduceAdd, Nat.reduceLeDiff, F106]
  refine wpC_loop (fun i T L h' => h' = h ∧ T 0 = .v v ∧ T 1 = .v (.one (.str s)) ∧ T 5 = .v (.one (.int .i64 i)) ∧ Pre (fun p => decide (p.name = s)) false l i) l.length ?_ ?_ (Nat.zero_le _) ?_
  · rintro i T L h' hi ⟨rfl, h0, h1, h3, hp⟩
    simp +contextual (maxSteps := 2000000) only [go_sem, Nat.reduceEqDiff, reduceCtorEq, Nat.reduceAdd, Nat.reduceLeDiff, h0, h1, h3, hl.len, hl.iaddr hi, hl.fieldO hi, lt_true hi]
    (repeat' (first | refine And.intro ?_ ?_ | intro _)) <;> first | rfl | rw [wrap_next hi hn.len] | exact hp.next hi ‹_› | rw [paramAt, idx_hit hi hp ‹_›]
  · rintro T L h' ⟨rfl, h0, h1, h3, hp⟩
    simp +contextual (maxSteps := 2000000) only [go_sem, Nat.reduceEqDiff, reduceCtorEq, Nat.reduceAdd, Nat.reduceLeDiff, h0, h1, h3, hl.len, lt_false, paramAt, idx_none hp]
  · simp +contextual (maxSteps := 2000000) only [go_sem, Nat.reduceEqDiff, reduceCtorEq, Nat.reduceAdd, Nat.reduceLeDiff]
    (repeat' (first | refine And.intro ?_ ?_ | intro _)) <;> first | rfl | exact Pre.zero
/-! spec.validParams -/
def L76_0 : List AStep := [⟨.mov (.c (.bool false)), (some 2), none, []⟩]
theorem v76_0 : VS L76_0.eq_1 := rfl
def L76_1 : List AStep := [⟨.mov (.c (.int .i64 0)), (some 3), none, []⟩]
theorem v76_1 : VS L76_1.eq_1 := rfl
def L76_2 : List AStep := [⟨.len (.t 7), (some 8), none, []⟩, ⟨.bin .lss (.t 6) (.t 8), (some 9), none, []⟩]
theorem v76_2 : VS L76_2.eq_1 := rfl
def L76_3 : List AStep := ⟨.mov (.t 3), (some 6), none, []⟩ :: ⟨.mov (.t 0), (some 7), none, []⟩ :: L76_2
theorem v76_3 : VS L76_3.eq_1 := rfl
def L76_4 : List AStep := [⟨.alloc 83 [(.str (strOfNums [])), (.int .i64 0), (.bool false), (.int .i64 0)], (some 4), none, []⟩, ⟨.store 4 (.t 4) (.t 15), none, none, []⟩]
theorem v76_4 : VS L76_4.eq_1 := rfl
def L76_5 : List AStep := ⟨.iaddr 4 (.t 12) (.t 13), (some 14), none, []⟩ :: ⟨.load 4 true (.t 14), (some 15), none, []⟩ :: L76_4
theorem v76_5 : VS L76_5.eq_1 := rfl
def L76_6 : List AStep := ⟨.mov (.t 0), (some 12), none, []⟩ :: ⟨.mov (.t 3), (some 13), none, []⟩ :: L76_5
theorem v76_6 : VS L76_6.eq_1 := rfl
def L76_7 : List AStep := [⟨.bin .geq (.t 25) (.c (.int .i64 0)), (some 26), (some (19, false)), []⟩, ⟨.pick (.t 19) (.c (.bool true)) (.t 26), (some 27), none, []⟩]
theorem v76_7 : VS L76_7.eq_1 := rfl
def L76_8 : List AStep := ⟨.load 1 false (.t 23), (some 24), (some (19, false)), []⟩ :: ⟨.call 106 [(.t 22), (.t 24)], (some 25), (some (19, false)), []⟩ :: L76_7
theorem v76_8 : VS L76_8.eq_1 := rfl
def L76_9 : List AStep := ⟨.slice 83 4 (.t 20) none (some (.t 21)) none, (some 22), (some (19, false)), []⟩ :: ⟨.faddr 0 (.t 4), (some 23), (some (19, false)), []⟩ :: L76_8
theorem v76_9 : VS L76_9.eq_1 := rfl
def L76_10 : List AStep := ⟨.mov (.t 0), (some 20), (some (19, false)), []⟩ :: ⟨.mov (.t 3), (some 21), (some (19, false)), []⟩ :: L76_9
theorem v76_10 : VS L76_10.eq_1 := rfl
def L76_11 : List AStep := ⟨.not (.t 17), (some 18), none, []⟩ :: ⟨.mov (.t 18), (some 19), none, []⟩ :: L76_10
theorem v76_11 : VS L76_11.eq_1 := rfl
def L76_12 : List AStep := ⟨.load 4 true (.t 4), (some 16), none, []⟩ :: ⟨.call 105 [(.t 16)], (some 17), none, []⟩ :: L76_11
theorem v76_12 : VS L76_12.eq_1 := rfl
def L76_13 : List AStep := [⟨.mov (.c (.bool false)), (some 2), none, []⟩]
theorem v76_13 : VS L76_13.eq_1 := rfl
def L76_14 : List AStep := [⟨.mov (.t 3), (some 28), none, []⟩, ⟨.bin .eql (.t 28) (.c (.int .i64 0)), (some 29), none, []⟩]
theorem v76_14 : VS L76_14.eq_1 := rfl
def L76_15 : List AStep := [⟨.store 4 (.t 5) (.t 34), none, none, []⟩]
theorem v76_15 : VS L76_15.eq_1 := rfl
def L76_16 : List AStep := ⟨.load 4 true (.t 33), (some 34), none, []⟩ :: ⟨.alloc 83 [(.str (strOfNums [])), (.int .i64 0), (.bool false), (.int .i64 0)], (some 5), none, []⟩ :: L76_15
theorem v76_16 : VS L76_16.eq_1 := rfl
def L76_17 : List AStep := ⟨.bin .sub (.t 31) (.c (.int .i64 1)), (some 32), none, []⟩ :: ⟨.iaddr 4 (.t 30) (.t 32), (some 33), none, []⟩ :: L76_16
theorem v76_17 : VS L76_17.eq_1 := rfl
def L76_18 : List AStep := ⟨.mov (.t 0), (some 30), none, []⟩ :: ⟨.mov (.t 3), (some 31), none, []⟩ :: L76_17
theorem v76_18 : VS L76_18.eq_1 := rfl
def L76_19 : List AStep := [⟨.pick (.t 59) (.t 62) (.c (.bool false)), (some 63), (some (52, false)), []⟩, ⟨.pick (.t 52) (.c (.bool true)) (.t 63), (some 64), none, []⟩]
theorem v76_19 : VS L76_19.eq_1 := rfl
def L76_20 : List AStep := ⟨.load 1 false (.t 60), (some 61), (some (59, true)), []⟩ :: ⟨.not (.t 61), (some 62), (some (59, true)), []⟩ :: L76_19
theorem v76_20 : VS L76_20.eq_1 := rfl
def L76_21 : List AStep := ⟨.mov (.t 58), (some 59), (some (52, false)), []⟩ :: ⟨.faddr 2 (.t 4), (some 60), (some (59, true)), []⟩ :: L76_20
theorem v76_21 : VS L76_21.eq_1 := rfl
def L76_22 : List AStep := ⟨.load 1 false (.t 56), (some 57), (some (55, true)), []⟩ :: ⟨.pick (.t 55) (.t 57) (.c (.bool false)), (some 58), (some (52, false)), []⟩ :: L76_21
theorem v76_22 : VS L76_22.eq_1 := rfl
def L76_23 : List AStep := ⟨.mov (.t 54), (some 55), (some (52, false)), []⟩ :: ⟨.faddr 2 (.t 5), (some 56), (some (55, true)), []⟩ :: L76_22
theorem v76_23 : VS L76_23.eq_1 := rfl
def L76_24 : List AStep := ⟨.load 4 true (.t 4), (some 53), (some (52, false)), []⟩ :: ⟨.call 108 [(.t 53)], (some 54), (some (52, false)), []⟩ :: L76_23
theorem v76_24 : VS L76_24.eq_1 := rfl
def L76_25 : List AStep := ⟨.pick (.t 40) (.c (.bool true)) (.t 50), (some 51), none, []⟩ :: ⟨.mov (.t 51), (some 52), none, []⟩ :: L76_24
theorem v76_25 : VS L76_25.eq_1 := rfl
def L76_26 : List AStep := ⟨.not (.t 48), (some 49), (some (46, true)), []⟩ :: ⟨.pick (.t 46) (.t 49) (.c (.bool false)), (some 50), (some (40, false)), []⟩ :: L76_25
theorem v76_26 : VS L76_26.eq_1 := rfl
def L76_27 : List AStep := ⟨.load 4 true (.t 4), (some 47), (some (46, true)), []⟩ :: ⟨.call 107 [(.t 47)], (some 48), (some (46, true)), []⟩ :: L76_26
theorem v76_27 : VS L76_27.eq_1 := rfl
def L76_28 : List AStep := ⟨.bin .eql (.t 42) (.t 44), (some 45), (some (40, false)), []⟩ :: ⟨.mov (.t 45), (some 46), (some (40, false)), []⟩ :: L76_27
theorem v76_28 : VS L76_28.eq_1 := rfl
def L76_29 : List AStep := ⟨.faddr 1 (.t 5), (some 43), (some (40, false)), []⟩ :: ⟨.load 1 false (.t 43), (some 44), (some (40, false)), []⟩ :: L76_28
theorem v76_29 : VS L76_29.eq_1 := rfl
def L76_30 : List AStep := ⟨.faddr 1 (.t 4), (some 41), (some (40, false)), []⟩ :: ⟨.load 1 false (.t 41), (some 42), (some (40, false)), []⟩ :: L76_29
theorem v76_30 : VS L76_30.eq_1 := rfl
def L76_31 : List AStep := ⟨.bin .lss (.t 36) (.t 38), (some 39), none, []⟩ :: ⟨.mov (.t 39), (some 40), none, []⟩ :: L76_30
theorem v76_31 : VS L76_31.eq_1 := rfl
def L76_32 : List AStep := ⟨.faddr 1 (.t 5), (some 37), none, []⟩ :: ⟨.load 1 false (.t 37), (some 38), none, []⟩ :: L76_31
theorem v76_32 : VS L76_32.eq_1 := rfl
def L76_33 : List AStep := ⟨.faddr 1 (.t 4), (some 35), none, []⟩ :: ⟨.load 1 false (.t 35), (some 36), none, []⟩ :: L76_32
theorem v76_33 : VS L76_33.eq_1 := rfl
def L76_34 : List AStep := [⟨.mov (.c (.bool false)), (some 2), none, []⟩]
theorem v76_34 : VS L76_34.eq_1 := rfl
def L76_35 : List AStep := [⟨.mov (.t 11), (some 3), none, []⟩]
theorem v76_35 : VS L76_35.eq_1 := rfl
def L76_36 : List AStep := ⟨.mov (.t 3), (some 10), none, []⟩ :: ⟨.bin .add (.t 10) (.c (.int .i64 1)), (some 11), none, []⟩ :: L76_35
theorem v76_36 : VS L76_36.eq_1 := rfl
def L76_37 : List AStep := [⟨.bin .leq (.t 66) (.c (.int .i64 8)), (some 67), none, []⟩, ⟨.mov (.t 67), (some 2), none, []⟩]
theorem v76_37 : VS L76_37.eq_1 := rfl
def L76_38 : List AStep := ⟨.mov (.t 0), (some 65), none, []⟩ :: ⟨.len (.t 65), (some 66), none, []⟩ :: L76_37
theorem v76_38 : VS L76_38.eq_1 := rfl
def C76_0 : ACode := .cond (.t 9) .skip (.exit 0)
theorem u76_0 : VC C76_0.eq_1 := rfl
def C76_1 : ACode := .seq (.reg L76_3) C76_0
theorem u76_1 : VC C76_1.eq_1 := rfl
def C76_2 : ACode := .seq (.reg L76_13) .ret
theorem u76_2 : VC C76_2.eq_1 := rfl
def C76_3 : ACode := .cond (.t 27) C76_2 .skip
theorem u76_3 : VC C76_3.eq_1 := rfl
def C76_4 : ACode := .seq (.reg L76_12) C76_3
theorem u76_4 : VC C76_4.eq_1 := rfl
def C76_5 : ACode := .cond (.t 29) (.exit 1) .skip
theorem u76_5 : VC C76_5.eq_1 := rfl
def C76_6 : ACode := .seq (.reg L76_14) C76_5
theorem u76_6 : VC C76_6.eq_1 := rfl
def C76_7 : ACode := .seq (.reg L76_34) .ret
theorem u76_7 : VC C76_7.eq_1 := rfl
def C76_8 : ACode := .cond (.t 64) C76_7 .skip
theorem u76_8 : VC C76_8.eq_1 := rfl
def C76_9 : ACode := .seq (.reg L76_33) C76_8
theorem u76_9 : VC C76_9.eq_1 := rfl
def C76_10 : ACode := .seq (.reg L76_18) C76_9
theorem u76_10 : VC C76_10.eq_1 := rfl
def C76_11 : ACode := .seq C76_6 C76_10
theorem u76_11 : VC C76_11.eq_1 := rfl
def C76_12 : ACode := .seq C76_4 C76_11
theorem u76_12 : VC C76_12.eq_1 := rfl
def C76_13 : ACode := .seq (.reg L76_6) C76_12
theorem u76_13 : VC C76_13.eq_1 := rfl
def C76_14 : ACode := .block 1 C76_13
theorem u76_14 : VC C76_14.eq_1 := rfl
def C76_15 : ACode := .seq C76_14 (.reg L76_36)
theorem u76_15 : VC C76_15.eq_1 := rfl
def C76_16 : ACode := .seq C76_1 C76_15
theorem u76_16 : VC C76_16.eq_1 := rfl
def C76_17 : ACode := .block 0 (.loop C76_16)
theorem u76_17 : VC C76_17.eq_1 := rfl
def C76_18 : ACode := .seq (.reg L76_1) C76_17
theorem u76_18 : VC C76_18.eq_1 := rfl
def C76_19 : ACode := .seq (.reg L76_38) .ret
theorem u76_19 : VC C76_19.eq_1 := rfl
def C76_20 : ACode := .seq C76_18 C76_19
theorem u76_20 : VC C76_20.eq_1 := rfl
def C76_21 : ACode := .seq (.reg L76_0) C76_20
theorem u76_21 : VC C76_21.eq_1 := rfl
def F76 : AFunc := ⟨68, [.tmp 2], C76_21⟩
theorem cF76 : compB Tryd.prog 76 = some F76 := by kernel_rfl
attribute [local go_sem ↓] u76_0 u76_1 u76_2 u76_3 u76_4 u76_5 u76_6 u76_7 u76_8 u76_9 u76_10 u76_11 u76_12 u76_13 u76_14 u76_15 u76_16 u76_17 u76_18 u76_19 u76_20 u76_21 v76_0 v76_1 v76_2 v76_3 v76_4 v76_5 v76_6 v76_7 v76_8 v76_9 v76_10 v76_11 v76_12 v76_13 v76_14 v76_15 v76_16 v76_17 v76_18 v76_19 v76_20 v76_21 v76_22 v76_23 v76_24 v76_25 v76_26 v76_27 v76_28 v76_29 v76_30 v76_31 v76_32 v76_33 v76_34 v76_35 v76_36 v76_37 v76_38
theorem c_validParams (l : List Param) (v : AV) (h : H) (hl : SlQ h v l) (hn : smQ l) : bm Tryd.prog 76 [v] h = some (ib (okSig l), h) := by
  refine bm_eq cF76 ?_
  simp +contextual (maxSteps := 2000000) only [go_sem, Nat.reduceEqDiff, reduceCtorEq, Nat.reduceAdd, Nat.reduceLeDiff, F76]
  refine wpC_loop (fun i T L h' => h' = h ∧ T 0 = .v v ∧ T 3 = .v (.one (.int .i64 i)) ∧ Upto (stepAt l) i) l.length ?_ ?_ (Nat.zero_le _) ?_
  · rintro i T L h' hi ⟨rfl, t0, t3, hu⟩
    obtain ⟨v', e1, s1⟩ := hl.takeO (i := i) (by omega) (kd := .i64)
    have e2 : decide (paramAt (l.take i) l[i].name ≥ 0) = !(newAt Param.name l i) := newAt_ge hi
    cases i with
    | zero =>
      have e3 := stepAt_zero hi
      simp only [List.take_zero] at e1 e2 s1
      have e4 : decide (((0 : Nat) : Int) = 0) = true := rfl
      simp +contextual (maxSteps := 2000000) only [go_sem, Nat.reduceEqDiff, reduceCtorEq, Nat.reduceAdd, Nat.reduceLeDiff, e4, List.take_zero, t0, t3, hl.len, hl.iaddr hi, hl.whole hi, lt_true hi, e1, e2, c_findParam _ _ _ _ s1 (hn.take 0), c_validParam _ _ (hn.at hi)]
      (repeat' (first | refine And.intro ?_ ?_ | intro _)) <;> first | rfl | rw [wrap_next hi hn.len] | exact hu.next (by rw [e3]; simp_all) | (rw [okSig_not hi (by rw [e3]; simp_all)]) | simp_all
    | succ j =>
      have e3 := stepAt_succ hi
      have hj : j < l.length := by omega
      have e4 : decide (((j + 1 : Nat) : Int) = 0) = false := decide_eq_false (by omega)
      simp +contextual (maxSteps := 2000000) only [go_sem, Nat.reduceEqDiff, reduceCtorEq, Nat.reduceAdd, Nat.reduceLeDiff, e4, t0, t3, hl.len, hl.iaddr hi, hl.whole hi, lt_true hi, e1, e2, c_findParam _ _ _ _ s1 (hn.take _), c_validParam _ _ (hn.at hi), wrap_pred (show j < 2 ^ 62 from Nat.lt_trans (Nat.lt_succ_self j) (Nat.lt_trans hi hn.len)), hl.iaddr hj, hl.whole hj, c_isSingle, c_byPlace]
      (repeat' (first | refine And.intro ?_ ?_ | intro _)) <;> first | rfl | rw [wrap_next hi hn.len] | exact hu.next (by rw [e3]; simp_all [follows]) | (rw [okSig_not hi (by rw [e3]; simp_all [follows])]) | simp_all
  · rintro T L h' ⟨rfl, t0, t3, hu⟩
    simp +contextual (maxSteps := 2000000) only [go_sem, Nat.reduceEqDiff, reduceCtorEq, Nat.reduceAdd, Nat.reduceLeDiff, t0, t3, hl.len, lt_false, okSig_of hu]
  · simp +contextual (maxSteps := 2000000) only [go_sem, Nat.reduceEqDiff, reduceCtorEq, Nat.reduceAdd, Nat.reduceLeDiff]
    (repeat' (first | refine And.intro ?_ ?_ | intro _)) <;> first | rfl | exact Upto.zero
/-! spec.validSignature -/
def L45_0 : List AStep := [⟨.box 38 (.t 0), (some 1), none, []⟩, ⟨.mov (.c (.bool false)), (some 2), none, []⟩]
theorem v45_0 : VS L45_0.eq_1 := rfl
def L45_1 : List AStep := [⟨.call 76 [(.t 4)], (some 5), none, []⟩, ⟨.mov (.t 5), (some 2), none, []⟩]
theorem v45_1 : VS L45_1.eq_1 := rfl
def L45_2 : List AStep := ⟨.faddr 0 (.t 1), (some 3), none, []⟩ :: ⟨.load 1 false (.t 3), (some 4), none, []⟩ :: L45_1
theorem v45_2 : VS L45_2.eq_1 := rfl
def C45_0 : ACode := .seq (.reg L45_2) .ret
theorem u45_0 : VC C45_0.eq_1 := rfl
def C45_1 : ACode := .seq (.reg L45_0) C45_0
theorem u45_1 : VC C45_1.eq_1 := rfl
def F45 : AFunc := ⟨6, [.tmp 2], C45_1⟩
theorem cF45 : compB Tryd.prog 45 = some F45 := by kernel_rfl
attribute [local go_sem ↓] u45_0 u45_1 v45_0 v45_1 v45_2
theorem c_validSignature (l : List Param) (pv : CV) (h : H) (hl : SlQ h (.one pv) l) (hn : smQ l) : bm Tryd.prog 45 [.agg [pv]] h = some (ib (okSig l), h) := by
  refine bm_eq cF45 ?_
  simp +contextual (maxSteps := 2000000) only [go_sem, Nat.reduceEqDiff, reduceCtorEq, Nat.reduceAdd, Nat.reduceLeDiff, F45, c_validParams _ _ _ hl hn]
end Go.Proofs.YtoeceafibmafpaaDoor.Am
