/- Contracts of the reference: signatures. -/
import Derived.Test.YtnphlonhogcedaaA1
namespace Go.Proofs.Ytnphlonhogcedaa.Am
open Go
set_option maxRecDepth 100000
set_option maxHeartbeats 4000000
set_option linter.unusedSimpArgs false
set_option linter.unusedVariables false
attribute [local go_sem ↓] bv_t bv_c ev_t ev_c put_same put_ne put_none kill_at pro_at lb_same lb_ne start_zero start_succ wpC_seq wpC_reg wpC_cond wpC_block wpC_skip wpC_exit wpC_ret thenQ_normal thenQ_exit thenQ_ret inBlk_normal inBlk_exit inBlk_ret wpS_nil wpS_step wpS_again wpS_guard wpO_mov wpO_load wpO_faddr wpO_nilCheck wpO_pick wpO_build wpO_bin wpO_eqb wpO_eqst wpO_eqnil wpO_not wpO_conv wpO_bytesStr wpO_iaddr wpO_idxStr wpO_field wpO_extract wpO_len wpO_lenStr wpO_cap wpO_min wpO_slice wpO_sliceStr wpO_alloc wpO_box wpO_store wpO_call wpO_callv wpO_mkfn wpO_buildSlice wpO_mkslice wpO_append wpO_appz proA_nil proA_cons tmpX_nil tmpX_tmp tmpX_cell doneB_normal doneB_ret agK_cons agK_nil pureB_load results_one results_two results_nil resBs_cons resBs_nil resB_tmp resB_cell
attribute [local go_sem] kill_v kill_lp_ne kill_lp_same pro_v pro_lp_same pro_lp_ne av_v av_lp optB_some optX_some valX_eq ldX_lp ldX_v faX_lp faX_v ncX_lp ncX_ptr ncX_fn boxK_one boxK_agg stL_some stK_lp_one stK_lp_agg stK_v_one stK_v_agg proM_v proM_lp callG_mk callVG_mk callvK_fn fnG_mk ptrsA_nil ptrsA_cons callH_some whenA_true whenA_false guardH_tt guardH_ff guardH_tf guardH_ft guardH_undef agV_one agV_agg lenO_sl lenStrO_str notO_bool pickO_bool convO_int eqbO_bool eqnilO_sl extractO_tup capO_sl minO_int loadL_one loadL_all storeL_eq fillA_nil fillA_one fillA_agg nat_ge neg_ge nat_lt neg_lt buildO bin_add bin_sub bin_mul bin_eql bin_neq bin_lss bin_leq bin_gtr bin_geq str_eql str_neq str_lss str_leq str_gtr str_geq retK_some endK_mk gcK_same gcK_int gcK_bool tupO_one tupO_agg rdy_self ib ii Option.map_none Option.map_some Option.some.injEq exists_eq_left' exists_eq_left ne_eq not_false_eq_true if_true if_false List.map_cons List.map_nil List.getElem?_cons_zero List.getElem?_cons_succ List.length_cons List.length_nil List.take_succ_cons List.take_zero List.take_nil List.drop_succ_cons List.drop_zero List.drop_nil List.cons_append List.nil_append List.append_nil List.set_cons_zero List.set_cons_succ Nat.zero_add forall_const true_and and_true and_self Bool.false_eq_true false_implies true_implies implies_true Bool.not_true Bool.not_false Bool.not_eq_true' Bool.not_eq_false' beq_self_eq_true Bool.bne_true Bool.bne_false
attribute [local go_sem] lenI lenS lenP lenQ lenB lenL lenT encI_0 encS_0 encP_0 encP_1 encQ_0 encQ_1 encQ_2 encQ_3 encB_0 encB_1 encL_0 encL_1 encT_0 encT_1
attribute [local go_sem low] whenA_bool guardH_bool
section
variable {P : Program} {T : Tb} {L : Lb} {h : H} {Q : PostC} {K : Post}
/-! spec.validParam -/
def L217_0 : List AStep := [⟨.box 108 (.t 0), (some 1), none, []⟩, ⟨.mov (.c (.bool false)), (some 2), none, []⟩]
theorem v217_0 : wpS P L217_0 T L (rdy h) K = wpS P ([⟨.box 108 (.t 0), (some 1), none, []⟩, ⟨.mov (.c (.bool false)), (some 2), none, []⟩]) T L (rdy h) K := rfl
def L217_1 : List AStep := [⟨.pick (.t 25) (.t 32) (.c (.bool false)), (some 33), none, []⟩, ⟨.mov (.t 33), (some 2), none, []⟩]
theorem v217_1 : wpS P L217_1 T L (rdy h) K = wpS P ([⟨.pick (.t 25) (.t 32) (.c (.bool false)), (some 33), none, []⟩, ⟨.mov (.t 33), (some 2), none, []⟩]) T L (rdy h) K := rfl
def L217_2 : List AStep := ⟨.not (.t 30), (some 31), (some (28, false)), []⟩ :: ⟨.pick (.t 28) (.c (.bool true)) (.t 31), (some 32), (some (25, true)), []⟩ :: L217_1
theorem v217_2 : wpS P L217_2 T L (rdy h) K = wpS P (⟨.not (.t 30), (some 31), (some (28, false)), []⟩ :: ⟨.pick (.t 28) (.c (.bool true)) (.t 31), (some 32), (some (25, true)), []⟩ :: L217_1) T L (rdy h) K := rfl
def L217_3 : List AStep := ⟨.faddr 2 (.t 1), (some 29), (some (28, false)), []⟩ :: ⟨.load 1 false (.t 29), (some 30), (some (28, false)), []⟩ :: L217_2
theorem v217_3 : wpS P L217_3 T L (rdy h) K = wpS P (⟨.faddr 2 (.t 1), (some 29), (some (28, false)), []⟩ :: ⟨.load 1 false (.t 29), (some 30), (some (28, false)), []⟩ :: L217_2) T L (rdy h) K := rfl
def L217_4 : List AStep := ⟨.call 214 [(.t 26)], (some 27), (some (25, true)), []⟩ :: ⟨.mov (.t 27), (some 28), (some (25, true)), []⟩ :: L217_3
theorem v217_4 : wpS P L217_4 T L (rdy h) K = wpS P (⟨.call 214 [(.t 26)], (some 27), (some (25, true)), []⟩ :: ⟨.mov (.t 27), (some 28), (some (25, true)), []⟩ :: L217_3) T L (rdy h) K := rfl
def L217_5 : List AStep := ⟨.mov (.t 24), (some 25), none, []⟩ :: ⟨.load 4 true (.t 1), (some 26), (some (25, true)), []⟩ :: L217_4
theorem v217_5 : wpS P L217_5 T L (rdy h) K = wpS P (⟨.mov (.t 24), (some 25), none, []⟩ :: ⟨.load 4 true (.t 1), (some 26), (some (25, true)), []⟩ :: L217_4) T L (rdy h) K := rfl
def L217_6 : List AStep := ⟨.pick (.t 19) (.c (.bool true)) (.t 22), (some 23), (some (16, true)), []⟩ :: ⟨.pick (.t 16) (.t 23) (.c (.bool false)), (some 24), none, []⟩ :: L217_5
theorem v217_6 : wpS P L217_6 T L (rdy h) K = wpS P (⟨.pick (.t 19) (.c (.bool true)) (.t 22), (some 23), (some (16, true)), []⟩ :: ⟨.pick (.t 16) (.t 23) (.c (.bool false)), (some 24), none, []⟩ :: L217_5) T L (rdy h) K := rfl
def L217_7 : List AStep := ⟨.load 1 false (.t 20), (some 21), (some (19, false)), []⟩ :: ⟨.bin .eql (.t 21) (.c (.int .i64 0)), (some 22), (some (19, false)), []⟩ :: L217_6
theorem v217_7 : wpS P L217_7 T L (rdy h) K = wpS P (⟨.load 1 false (.t 20), (some 21), (some (19, false)), []⟩ :: ⟨.bin .eql (.t 21) (.c (.int .i64 0)), (some 22), (some (19, false)), []⟩ :: L217_6) T L (rdy h) K := rfl
def L217_8 : List AStep := ⟨.mov (.t 18), (some 19), (some (16, true)), []⟩ :: ⟨.faddr 3 (.t 1), (some 20), (some (19, false)), []⟩ :: L217_7
theorem v217_8 : wpS P L217_8 T L (rdy h) K = wpS P (⟨.mov (.t 18), (some 19), (some (16, true)), []⟩ :: ⟨.faddr 3 (.t 1), (some 20), (some (19, false)), []⟩ :: L217_7) T L (rdy h) K := rfl
def L217_9 : List AStep := ⟨.faddr 2 (.t 1), (some 17), (some (16, true)), []⟩ :: ⟨.load 1 false (.t 17), (some 18), (some (16, true)), []⟩ :: L217_8
theorem v217_9 : wpS P L217_9 T L (rdy h) K = wpS P (⟨.faddr 2 (.t 1), (some 17), (some (16, true)), []⟩ :: ⟨.load 1 false (.t 17), (some 18), (some (16, true)), []⟩ :: L217_8) T L (rdy h) K := rfl
def L217_10 : List AStep := ⟨.pick (.t 11) (.t 14) (.c (.bool false)), (some 15), none, []⟩ :: ⟨.mov (.t 15), (some 16), none, []⟩ :: L217_9
theorem v217_10 : wpS P L217_10 T L (rdy h) K = wpS P (⟨.pick (.t 11) (.t 14) (.c (.bool false)), (some 15), none, []⟩ :: ⟨.mov (.t 15), (some 16), none, []⟩ :: L217_9) T L (rdy h) K := rfl
def L217_11 : List AStep := ⟨.load 1 false (.t 12), (some 13), (some (11, true)), []⟩ :: ⟨.call 168 [(.t 13)], (some 14), (some (11, true)), []⟩ :: L217_10
theorem v217_11 : wpS P L217_11 T L (rdy h) K = wpS P (⟨.load 1 false (.t 12), (some 13), (some (11, true)), []⟩ :: ⟨.call 168 [(.t 13)], (some 14), (some (11, true)), []⟩ :: L217_10) T L (rdy h) K := rfl
def L217_12 : List AStep := ⟨.mov (.t 10), (some 11), none, []⟩ :: ⟨.faddr 3 (.t 1), (some 12), (some (11, true)), []⟩ :: L217_11
theorem v217_12 : wpS P L217_12 T L (rdy h) K = wpS P (⟨.mov (.t 10), (some 11), none, []⟩ :: ⟨.faddr 3 (.t 1), (some 12), (some (11, true)), []⟩ :: L217_11) T L (rdy h) K := rfl
def L217_13 : List AStep := ⟨.call 213 [(.t 8), (.c (.int .i64 0)), (.c (.int .i64 4))], (some 9), (some (6, true)), []⟩ :: ⟨.pick (.t 6) (.t 9) (.c (.bool false)), (some 10), none, []⟩ :: L217_12
theorem v217_13 : wpS P L217_13 T L (rdy h) K = wpS P (⟨.call 213 [(.t 8), (.c (.int .i64 0)), (.c (.int .i64 4))], (some 9), (some (6, true)), []⟩ :: ⟨.pick (.t 6) (.t 9) (.c (.bool false)), (some 10), none, []⟩ :: L217_12) T L (rdy h) K := rfl
def L217_14 : List AStep := ⟨.faddr 1 (.t 1), (some 7), (some (6, true)), []⟩ :: ⟨.load 1 false (.t 7), (some 8), (some (6, true)), []⟩ :: L217_13
theorem v217_14 : wpS P L217_14 T L (rdy h) K = wpS P (⟨.faddr 1 (.t 1), (some 7), (some (6, true)), []⟩ :: ⟨.load 1 false (.t 7), (some 8), (some (6, true)), []⟩ :: L217_13) T L (rdy h) K := rfl
def L217_15 : List AStep := ⟨.call 201 [(.t 4)], (some 5), none, []⟩ :: ⟨.mov (.t 5), (some 6), none, []⟩ :: L217_14
theorem v217_15 : wpS P L217_15 T L (rdy h) K = wpS P (⟨.call 201 [(.t 4)], (some 5), none, []⟩ :: ⟨.mov (.t 5), (some 6), none, []⟩ :: L217_14) T L (rdy h) K := rfl
def L217_16 : List AStep := ⟨.faddr 0 (.t 1), (some 3), none, []⟩ :: ⟨.load 1 false (.t 3), (some 4), none, []⟩ :: L217_15
theorem v217_16 : wpS P L217_16 T L (rdy h) K = wpS P (⟨.faddr 0 (.t 1), (some 3), none, []⟩ :: ⟨.load 1 false (.t 3), (some 4), none, []⟩ :: L217_15) T L (rdy h) K := rfl
def C217_0 : ACode := .seq (.reg L217_16) .ret
theorem u217_0 : wpC P C217_0 T L (rdy h) Q = wpC P (.seq (.reg L217_16) .ret) T L (rdy h) Q := rfl
def C217_1 : ACode := .seq (.reg L217_0) C217_0
theorem u217_1 : wpC P C217_1 T L (rdy h) Q = wpC P (.seq (.reg L217_0) C217_0) T L (rdy h) Q := rfl
def F217 : AFunc := ⟨34, [.tmp 2], C217_1⟩
theorem cF217 : compB Try.prog 217 = some F217 := by kernel_rfl
end
attribute [local go_sem ↓] u217_0 u217_1 v217_0 v217_1 v217_2 v217_3 v217_4 v217_5 v217_6 v217_7 v217_8 v217_9 v217_10 v217_11 v217_12 v217_13 v217_14 v217_15 v217_16
theorem c_validParam (p : Param) (h : H) (hn : p.name.size < 2 ^ 62) : bm Try.prog 217 [.agg (encQ p)] h = some (ib (okParam p), h) := by
  refine bm_eq cF217 ?_
  simp +contextual (maxSteps := 2000000) only [go_sem, Nat.reduceEqDiff, reduceCtorEq, Nat.reduceAdd, Nat.reduceLeDiff, F217, c_validName _ _ hn, c_inRange, c_validNumber, c_isSingle, okParam]
  (repeat' (first | refine And.intro ?_ ?_ | intro _)) <;> first | simp_all
section
variable {P : Program} {T : Tb} {L : Lb} {h : H} {Q : PostC} {K : Post}
/-! spec.findParam -/
def L218_0 : List AStep := [⟨.mov (.c (.int .i64 0)), (some 4), none, []⟩]
theorem v218_0 : wpS P L218_0 T L (rdy h) K = wpS P ([⟨.mov (.c (.int .i64 0)), (some 4), none, []⟩]) T L (rdy h) K := rfl
def L218_1 : List AStep := [⟨.mov (.c (.int .i64 0)), (some 5), none, []⟩]
theorem v218_1 : wpS P L218_1 T L (rdy h) K = wpS P ([⟨.mov (.c (.int .i64 0)), (some 5), none, []⟩]) T L (rdy h) K := rfl
def L218_2 : List AStep := [⟨.len (.t 7), (some 8), none, []⟩, ⟨.bin .lss (.t 6) (.t 8), (some 9), none, []⟩]
theorem v218_2 : wpS P L218_2 T L (rdy h) K = wpS P ([⟨.len (.t 7), (some 8), none, []⟩, ⟨.bin .lss (.t 6) (.t 8), (some 9), none, []⟩]) T L (rdy h) K := rfl
def L218_3 : List AStep := ⟨.mov (.t 5), (some 6), none, []⟩ :: ⟨.mov (.t 0), (some 7), none, []⟩ :: L218_2
theorem v218_3 : wpS P L218_3 T L (rdy h) K = wpS P (⟨.mov (.t 5), (some 6), none, []⟩ :: ⟨.mov (.t 0), (some 7), none, []⟩ :: L218_2) T L (rdy h) K := rfl
def L218_4 : List AStep := [⟨.bin .eql (.t 16) (.t 17), (some 18), none, []⟩]
theorem v218_4 : wpS P L218_4 T L (rdy h) K = wpS P ([⟨.bin .eql (.t 16) (.t 17), (some 18), none, []⟩]) T L (rdy h) K := rfl
def L218_5 : List AStep := ⟨.load 1 false (.t 15), (some 16), none, []⟩ :: ⟨.mov (.t 1), (some 17), none, []⟩ :: L218_4
theorem v218_5 : wpS P L218_5 T L (rdy h) K = wpS P (⟨.load 1 false (.t 15), (some 16), none, []⟩ :: ⟨.mov (.t 1), (some 17), none, []⟩ :: L218_4) T L (rdy h) K := rfl
def L218_6 : List AStep := ⟨.iaddr 4 (.t 12) (.t 13), (some 14), none, []⟩ :: ⟨.faddr 0 (.t 14), (some 15), none, []⟩ :: L218_5
theorem v218_6 : wpS P L218_6 T L (rdy h) K = wpS P (⟨.iaddr 4 (.t 12) (.t 13), (some 14), none, []⟩ :: ⟨.faddr 0 (.t 14), (some 15), none, []⟩ :: L218_5) T L (rdy h) K := rfl
def L218_7 : List AStep := ⟨.mov (.t 0), (some 12), none, []⟩ :: ⟨.mov (.t 5), (some 13), none, []⟩ :: L218_6
theorem v218_7 : wpS P L218_7 T L (rdy h) K = wpS P (⟨.mov (.t 0), (some 12), none, []⟩ :: ⟨.mov (.t 5), (some 13), none, []⟩ :: L218_6) T L (rdy h) K := rfl
def L218_8 : List AStep := [⟨.mov (.t 5), (some 19), none, []⟩, ⟨.mov (.t 19), (some 4), none, []⟩]
theorem v218_8 : wpS P L218_8 T L (rdy h) K = wpS P ([⟨.mov (.t 5), (some 19), none, []⟩, ⟨.mov (.t 19), (some 4), none, []⟩]) T L (rdy h) K := rfl
def L218_9 : List AStep := [⟨.mov (.t 11), (some 5), none, []⟩]
theorem v218_9 : wpS P L218_9 T L (rdy h) K = wpS P ([⟨.mov (.t 11), (some 5), none, []⟩]) T L (rdy h) K := rfl
def L218_10 : List AStep := ⟨.mov (.t 5), (some 10), none, []⟩ :: ⟨.bin .add (.t 10) (.c (.int .i64 1)), (some 11), none, []⟩ :: L218_9
theorem v218_10 : wpS P L218_10 T L (rdy h) K = wpS P (⟨.mov (.t 5), (some 10), none, []⟩ :: ⟨.bin .add (.t 10) (.c (.int .i64 1)), (some 11), none, []⟩ :: L218_9) T L (rdy h) K := rfl
def L218_11 : List AStep := [⟨.mov (.c (.int .i64 (-1))), (some 4), none, []⟩]
theorem v218_11 : wpS P L218_11 T L (rdy h) K = wpS P ([⟨.mov (.c (.int .i64 (-1))), (some 4), none, []⟩]) T L (rdy h) K := rfl
def C218_0 : ACode := .cond (.t 9) .skip (.exit 0)
theorem u218_0 : wpC P C218_0 T L (rdy h) Q = wpC P (.cond (.t 9) .skip (.exit 0)) T L (rdy h) Q := rfl
def C218_1 : ACode := .seq (.reg L218_3) C218_0
theorem u218_1 : wpC P C218_1 T L (rdy h) Q = wpC P (.seq (.reg L218_3) C218_0) T L (rdy h) Q := rfl
def C218_2 : ACode := .seq (.reg L218_8) .ret
theorem u218_2 : wpC P C218_2 T L (rdy h) Q = wpC P (.seq (.reg L218_8) .ret) T L (rdy h) Q := rfl
def C218_3 : ACode := .cond (.t 18) C218_2 .skip
theorem u218_3 : wpC P C218_3 T L (rdy h) Q = wpC P (.cond (.t 18) C218_2 .skip) T L (rdy h) Q := rfl
def C218_4 : ACode := .seq (.reg L218_7) C218_3
theorem u218_4 : wpC P C218_4 T L (rdy h) Q = wpC P (.seq (.reg L218_7) C218_3) T L (rdy h) Q := rfl
def C218_5 : ACode := .block 1 C218_4
theorem u218_5 : wpC P C218_5 T L (rdy h) Q = wpC P (.block 1 C218_4) T L (rdy h) Q := rfl
def C218_6 : ACode := .seq C218_5 (.reg L218_10)
theorem u218_6 : wpC P C218_6 T L (rdy h) Q = wpC P (.seq C218_5 (.reg L218_10)) T L (rdy h) Q := rfl
def C218_7 : ACode := .seq C218_1 C218_6
theorem u218_7 : wpC P C218_7 T L (rdy h) Q = wpC P (.seq C218_1 C218_6) T L (rdy h) Q := rfl
def C218_8 : ACode := .block 0 (.loop C218_7)
theorem u218_8 : wpC P C218_8 T L (rdy h) Q = wpC P (.block 0 (.loop C218_7)) T L (rdy h) Q := rfl
def C218_9 : ACode := .seq (.reg L218_1) C218_8
theorem u218_9 : wpC P C218_9 T L (rdy h) Q = wpC P (.seq (.reg L218_1) C218_8) T L (rdy h) Q := rfl
def C218_10 : ACode := .seq (.reg L218_11) .ret
theorem u218_10 : wpC P C218_10 T L (rdy h) Q = wpC P (.seq (.reg L218_11) .ret) T L (rdy h) Q := rfl
def C218_11 : ACode := .seq C218_9 C218_10
theorem u218_11 : wpC P C218_11 T L (rdy h) Q = wpC P (.seq C218_9 C218_10) T L (rdy h) Q := rfl
def C218_12 : ACode := .seq (.reg L218_0) C218_11
theorem u218_12 : wpC P C218_12 T L (rdy h) Q = wpC P (.seq (.reg L218_0) C218_11) T L (rdy h) Q := rfl
def F218 : AFunc := ⟨20, [.tmp 4], C218_12⟩
theorem cF218 : compB Try.prog 218 = some F218 := by kernel_rfl
end
attribute [local go_sem ↓] u218_0 u218_1 u218_2 u218_3 u218_4 u218_5 u218_6 u218_7 u218_8 u218_9 u218_10 u218_11 u218_12 v218_0 v218_1 v218_2 v218_3 v218_4 v218_5 v218_6 v218_7 v218_8 v218_9 v218_10 v218_11
theorem c_findParam (l : List Param) (v : AV) (s : ByteArray) (h : H) (hl : SlQ h v l) (hn : smQ l) : bm Try.prog 218 [v, .one (.str s)] h = some (ii (paramAt l s), h) := by
  refine bm_eq cF218 ?_
  simp +contextual (maxSteps := 2000000) only [go_sem, Nat.reduceEqDiff, reduceCtorEq, Nat.reduceAdd, Nat.reduceLeDiff, F218]
  refine wpC_loop (fun i T L h' => h' = h ∧ T 0 = .v v ∧ T 1 = .v (.one (.str s)) ∧ T 5 = .v (.one (.int .i64 i)) ∧ Pre (fun p => decide (p.name = s)) false l i) l.length ?_ ?_ (Nat.zero_le _) ?_
  · rintro i T L h' hi ⟨rfl, h0, h1, h3, hp⟩
    simp +contextual (maxSteps := 2000000) only [go_sem, Nat.reduceEqDiff, reduceCtorEq, Nat.reduceAdd, Nat.reduceLeDiff, h0, h1, h3, hl.len, hl.iaddr hi, hl.fieldO hi, lt_true hi]
    (repeat' (first | refine And.intro ?_ ?_ | intro _)) <;> first | rfl | rw [wrap_next hi hn.len] | exact hp.next hi ‹_› | rw [paramAt, idx_hit hi hp ‹_›]
  · rintro T L h' ⟨rfl, h0, h1, h3, hp⟩
    simp +contextual (maxSteps := 2000000) only [go_sem, Nat.reduceEqDiff, reduceCtorEq, Nat.reduceAdd, Nat.reduceLeDiff, h0, h1, h3, hl.len, lt_false, paramAt, idx_none hp]
  · simp +contextual (maxSteps := 2000000) only [go_sem, Nat.reduceEqDiff, reduceCtorEq, Nat.reduceAdd, Nat.reduceLeDiff]
    (repeat' (first | refine And.intro ?_ ?_ | intro _)) <;> first | rfl | exact Pre.zero
section
variable {P : Program} {T : Tb} {L : Lb} {h : H} {Q : PostC} {K : Post}
/-! spec.kindAt -/
def L223_0 : List AStep := [⟨.mov (.c (.int .i64 0)), (some 4), none, []⟩]
theorem v223_0 : wpS P L223_0 T L (rdy h) K = wpS P ([⟨.mov (.c (.int .i64 0)), (some 4), none, []⟩]) T L (rdy h) K := rfl
def L223_1 : List AStep := [⟨.mov (.c (.int .i64 0)), (some 5), none, []⟩]
theorem v223_1 : wpS P L223_1 T L (rdy h) K = wpS P ([⟨.mov (.c (.int .i64 0)), (some 5), none, []⟩]) T L (rdy h) K := rfl
def L223_2 : List AStep := [⟨.len (.t 7), (some 8), none, []⟩, ⟨.bin .lss (.t 6) (.t 8), (some 9), none, []⟩]
theorem v223_2 : wpS P L223_2 T L (rdy h) K = wpS P ([⟨.len (.t 7), (some 8), none, []⟩, ⟨.bin .lss (.t 6) (.t 8), (some 9), none, []⟩]) T L (rdy h) K := rfl
def L223_3 : List AStep := ⟨.mov (.t 5), (some 6), none, []⟩ :: ⟨.mov (.t 0), (some 7), none, []⟩ :: L223_2
theorem v223_3 : wpS P L223_3 T L (rdy h) K = wpS P (⟨.mov (.t 5), (some 6), none, []⟩ :: ⟨.mov (.t 0), (some 7), none, []⟩ :: L223_2) T L (rdy h) K := rfl
def L223_4 : List AStep := [⟨.bin .eql (.t 16) (.t 17), (some 18), none, []⟩]
theorem v223_4 : wpS P L223_4 T L (rdy h) K = wpS P ([⟨.bin .eql (.t 16) (.t 17), (some 18), none, []⟩]) T L (rdy h) K := rfl
def L223_5 : List AStep := ⟨.load 1 false (.t 15), (some 16), none, []⟩ :: ⟨.mov (.t 1), (some 17), none, []⟩ :: L223_4
theorem v223_5 : wpS P L223_5 T L (rdy h) K = wpS P (⟨.load 1 false (.t 15), (some 16), none, []⟩ :: ⟨.mov (.t 1), (some 17), none, []⟩ :: L223_4) T L (rdy h) K := rfl
def L223_6 : List AStep := ⟨.iaddr 4 (.t 12) (.t 13), (some 14), none, []⟩ :: ⟨.faddr 1 (.t 14), (some 15), none, []⟩ :: L223_5
theorem v223_6 : wpS P L223_6 T L (rdy h) K = wpS P (⟨.iaddr 4 (.t 12) (.t 13), (some 14), none, []⟩ :: ⟨.faddr 1 (.t 14), (some 15), none, []⟩ :: L223_5) T L (rdy h) K := rfl
def L223_7 : List AStep := ⟨.mov (.t 0), (some 12), none, []⟩ :: ⟨.mov (.t 5), (some 13), none, []⟩ :: L223_6
theorem v223_7 : wpS P L223_7 T L (rdy h) K = wpS P (⟨.mov (.t 0), (some 12), none, []⟩ :: ⟨.mov (.t 5), (some 13), none, []⟩ :: L223_6) T L (rdy h) K := rfl
def L223_8 : List AStep := [⟨.mov (.t 5), (some 19), none, []⟩, ⟨.mov (.t 19), (some 4), none, []⟩]
theorem v223_8 : wpS P L223_8 T L (rdy h) K = wpS P ([⟨.mov (.t 5), (some 19), none, []⟩, ⟨.mov (.t 19), (some 4), none, []⟩]) T L (rdy h) K := rfl
def L223_9 : List AStep := [⟨.mov (.t 11), (some 5), none, []⟩]
theorem v223_9 : wpS P L223_9 T L (rdy h) K = wpS P ([⟨.mov (.t 11), (some 5), none, []⟩]) T L (rdy h) K := rfl
def L223_10 : List AStep := ⟨.mov (.t 5), (some 10), none, []⟩ :: ⟨.bin .add (.t 10) (.c (.int .i64 1)), (some 11), none, []⟩ :: L223_9
theorem v223_10 : wpS P L223_10 T L (rdy h) K = wpS P (⟨.mov (.t 5), (some 10), none, []⟩ :: ⟨.bin .add (.t 10) (.c (.int .i64 1)), (some 11), none, []⟩ :: L223_9) T L (rdy h) K := rfl
def L223_11 : List AStep := [⟨.mov (.c (.int .i64 (-1))), (some 4), none, []⟩]
theorem v223_11 : wpS P L223_11 T L (rdy h) K = wpS P ([⟨.mov (.c (.int .i64 (-1))), (some 4), none, []⟩]) T L (rdy h) K := rfl
def C223_0 : ACode := .cond (.t 9) .skip (.exit 0)
theorem u223_0 : wpC P C223_0 T L (rdy h) Q = wpC P (.cond (.t 9) .skip (.exit 0)) T L (rdy h) Q := rfl
def C223_1 : ACode := .seq (.reg L223_3) C223_0
theorem u223_1 : wpC P C223_1 T L (rdy h) Q = wpC P (.seq (.reg L223_3) C223_0) T L (rdy h) Q := rfl
def C223_2 : ACode := .seq (.reg L223_8) .ret
theorem u223_2 : wpC P C223_2 T L (rdy h) Q = wpC P (.seq (.reg L223_8) .ret) T L (rdy h) Q := rfl
def C223_3 : ACode := .cond (.t 18) C223_2 .skip
theorem u223_3 : wpC P C223_3 T L (rdy h) Q = wpC P (.cond (.t 18) C223_2 .skip) T L (rdy h) Q := rfl
def C223_4 : ACode := .seq (.reg L223_7) C223_3
theorem u223_4 : wpC P C223_4 T L (rdy h) Q = wpC P (.seq (.reg L223_7) C223_3) T L (rdy h) Q := rfl
def C223_5 : ACode := .block 1 C223_4
theorem u223_5 : wpC P C223_5 T L (rdy h) Q = wpC P (.block 1 C223_4) T L (rdy h) Q := rfl
def C223_6 : ACode := .seq C223_5 (.reg L223_10)
theorem u223_6 : wpC P C223_6 T L (rdy h) Q = wpC P (.seq C223_5 (.reg L223_10)) T L (rdy h) Q := rfl
def C223_7 : ACode := .seq C223_1 C223_6
theorem u223_7 : wpC P C223_7 T L (rdy h) Q = wpC P (.seq C223_1 C223_6) T L (rdy h) Q := rfl
def C223_8 : ACode := .block 0 (.loop C223_7)
theorem u223_8 : wpC P C223_8 T L (rdy h) Q = wpC P (.block 0 (.loop C223_7)) T L (rdy h) Q := rfl
def C223_9 : ACode := .seq (.reg L223_1) C223_8
theorem u223_9 : wpC P C223_9 T L (rdy h) Q = wpC P (.seq (.reg L223_1) C223_8) T L (rdy h) Q := rfl
def C223_10 : ACode := .seq (.reg L223_11) .ret
theorem u223_10 : wpC P C223_10 T L (rdy h) Q = wpC P (.seq (.reg L223_11) .ret) T L (rdy h) Q := rfl
def C223_11 : ACode := .seq C223_9 C223_10
theorem u223_11 : wpC P C223_11 T L (rdy h) Q = wpC P (.seq C223_9 C223_10) T L (rdy h) Q := rfl
def C223_12 : ACode := .seq (.reg L223_0) C223_11
theorem u223_12 : wpC P C223_12 T L (rdy h) Q = wpC P (.seq (.reg L223_0) C223_11) T L (rdy h) Q := rfl
def F223 : AFunc := ⟨20, [.tmp 4], C223_12⟩
theorem cF223 : compB Try.prog 223 = some F223 := by kernel_rfl
end
attribute [local go_sem ↓] u223_0 u223_1 u223_2 u223_3 u223_4 u223_5 u223_6 u223_7 u223_8 u223_9 u223_10 u223_11 u223_12 v223_0 v223_1 v223_2 v223_3 v223_4 v223_5 v223_6 v223_7 v223_8 v223_9 v223_10 v223_11
theorem c_kindAt (l : List Param) (v : AV) (k : Int) (h : H) (hl : SlQ h v l) (hn : smQ l) : bm Try.prog 223 [v, .one (.int .i64 k)] h = some (ii (kindAt l k), h) := by
  refine bm_eq cF223 ?_
  simp +contextual (maxSteps := 2000000) only [go_sem, Nat.reduceEqDiff, reduceCtorEq, Nat.reduceAdd, Nat.reduceLeDiff, F223]
  refine wpC_loop (fun i T L h' => h' = h ∧ T 0 = .v v ∧ T 1 = .v (.one (.int .i64 k)) ∧ T 5 = .v (.one (.int .i64 i)) ∧ Pre (fun p => decide (p.kind = k)) false l i) l.length ?_ ?_ (Nat.zero_le _) ?_
  · rintro i T L h' hi ⟨rfl, h0, h1, h3, hp⟩
    simp +contextual (maxSteps := 2000000) only [go_sem, Nat.reduceEqDiff, reduceCtorEq, Nat.reduceAdd, Nat.reduceLeDiff, h0, h1, h3, hl.len, hl.iaddr hi, hl.fieldO hi, lt_true hi]
    (repeat' (first | refine And.intro ?_ ?_ | intro _)) <;> first | rfl | rw [wrap_next hi hn.len] | exact hp.next hi ‹_› | rw [kindAt, idx_hit hi hp ‹_›]
  · rintro T L h' ⟨rfl, h0, h1, h3, hp⟩
    simp +contextual (maxSteps := 2000000) only [go_sem, Nat.reduceEqDiff, reduceCtorEq, Nat.reduceAdd, Nat.reduceLeDiff, h0, h1, h3, hl.len, lt_false, kindAt, idx_none hp]
  · simp +contextual (maxSteps := 2000000) only [go_sem, Nat.reduceEqDiff, reduceCtorEq, Nat.reduceAdd, Nat.reduceLeDiff]
    (repeat' (first | refine And.intro ?_ ?_ | intro _)) <;> first | rfl | exact Pre.zero
section
variable {P : Program} {T : Tb} {L : Lb} {h : H} {Q : PostC} {K : Post}
/-! spec.placeCount -/
def L97_0 : List AStep := [⟨.box 51 (.t 0), (some 1), none, []⟩, ⟨.mov (.c (.int .i64 0)), (some 2), none, []⟩]
theorem v97_0 : wpS P L97_0 T L (rdy h) K = wpS P ([⟨.box 51 (.t 0), (some 1), none, []⟩, ⟨.mov (.c (.int .i64 0)), (some 2), none, []⟩]) T L (rdy h) K := rfl
def L97_1 : List AStep := [⟨.mov (.c (.int .i64 0)), (some 3), none, []⟩]
theorem v97_1 : wpS P L97_1 T L (rdy h) K = wpS P ([⟨.mov (.c (.int .i64 0)), (some 3), none, []⟩]) T L (rdy h) K := rfl
def L97_2 : List AStep := [⟨.mov (.c (.int .i64 0)), (some 4), none, []⟩]
theorem v97_2 : wpS P L97_2 T L (rdy h) K = wpS P ([⟨.mov (.c (.int .i64 0)), (some 4), none, []⟩]) T L (rdy h) K := rfl
def L97_3 : List AStep := [⟨.bin .lss (.t 5) (.t 8), (some 9), none, []⟩]
theorem v97_3 : wpS P L97_3 T L (rdy h) K = wpS P ([⟨.bin .lss (.t 5) (.t 8), (some 9), none, []⟩]) T L (rdy h) K := rfl
def L97_4 : List AStep := ⟨.load 1 false (.t 6), (some 7), none, []⟩ :: ⟨.len (.t 7), (some 8), none, []⟩ :: L97_3
theorem v97_4 : wpS P L97_4 T L (rdy h) K = wpS P (⟨.load 1 false (.t 6), (some 7), none, []⟩ :: ⟨.len (.t 7), (some 8), none, []⟩ :: L97_3) T L (rdy h) K := rfl
def L97_5 : List AStep := ⟨.mov (.t 4), (some 5), none, []⟩ :: ⟨.faddr 0 (.t 1), (some 6), none, []⟩ :: L97_4
theorem v97_5 : wpS P L97_5 T L (rdy h) K = wpS P (⟨.mov (.t 4), (some 5), none, []⟩ :: ⟨.faddr 0 (.t 1), (some 6), none, []⟩ :: L97_4) T L (rdy h) K := rfl
def L97_6 : List AStep := [⟨.load 4 true (.t 15), (some 16), none, []⟩, ⟨.call 177 [(.t 16)], (some 17), none, []⟩]
theorem v97_6 : wpS P L97_6 T L (rdy h) K = wpS P ([⟨.load 4 true (.t 15), (some 16), none, []⟩, ⟨.call 177 [(.t 16)], (some 17), none, []⟩]) T L (rdy h) K := rfl
def L97_7 : List AStep := ⟨.mov (.t 4), (some 14), none, []⟩ :: ⟨.iaddr 4 (.t 13) (.t 14), (some 15), none, []⟩ :: L97_6
theorem v97_7 : wpS P L97_7 T L (rdy h) K = wpS P (⟨.mov (.t 4), (some 14), none, []⟩ :: ⟨.iaddr 4 (.t 13) (.t 14), (some 15), none, []⟩ :: L97_6) T L (rdy h) K := rfl
def L97_8 : List AStep := ⟨.faddr 0 (.t 1), (some 12), none, []⟩ :: ⟨.load 1 false (.t 12), (some 13), none, []⟩ :: L97_7
theorem v97_8 : wpS P L97_8 T L (rdy h) K = wpS P (⟨.faddr 0 (.t 1), (some 12), none, []⟩ :: ⟨.load 1 false (.t 12), (some 13), none, []⟩ :: L97_7) T L (rdy h) K := rfl
def L97_9 : List AStep := [⟨.mov (.t 19), (some 3), none, []⟩]
theorem v97_9 : wpS P L97_9 T L (rdy h) K = wpS P ([⟨.mov (.t 19), (some 3), none, []⟩]) T L (rdy h) K := rfl
def L97_10 : List AStep := ⟨.mov (.t 3), (some 18), none, []⟩ :: ⟨.bin .add (.t 18) (.c (.int .i64 1)), (some 19), none, []⟩ :: L97_9
theorem v97_10 : wpS P L97_10 T L (rdy h) K = wpS P (⟨.mov (.t 3), (some 18), none, []⟩ :: ⟨.bin .add (.t 18) (.c (.int .i64 1)), (some 19), none, []⟩ :: L97_9) T L (rdy h) K := rfl
def L97_11 : List AStep := [⟨.mov (.t 11), (some 4), none, []⟩]
theorem v97_11 : wpS P L97_11 T L (rdy h) K = wpS P ([⟨.mov (.t 11), (some 4), none, []⟩]) T L (rdy h) K := rfl
def L97_12 : List AStep := ⟨.mov (.t 4), (some 10), none, []⟩ :: ⟨.bin .add (.t 10) (.c (.int .i64 1)), (some 11), none, []⟩ :: L97_11
theorem v97_12 : wpS P L97_12 T L (rdy h) K = wpS P (⟨.mov (.t 4), (some 10), none, []⟩ :: ⟨.bin .add (.t 10) (.c (.int .i64 1)), (some 11), none, []⟩ :: L97_11) T L (rdy h) K := rfl
def L97_13 : List AStep := [⟨.mov (.t 3), (some 20), none, []⟩, ⟨.mov (.t 20), (some 2), none, []⟩]
theorem v97_13 : wpS P L97_13 T L (rdy h) K = wpS P ([⟨.mov (.t 3), (some 20), none, []⟩, ⟨.mov (.t 20), (some 2), none, []⟩]) T L (rdy h) K := rfl
def C97_0 : ACode := .cond (.t 9) .skip (.exit 0)
theorem u97_0 : wpC P C97_0 T L (rdy h) Q = wpC P (.cond (.t 9) .skip (.exit 0)) T L (rdy h) Q := rfl
def C97_1 : ACode := .seq (.reg L97_5) C97_0
theorem u97_1 : wpC P C97_1 T L (rdy h) Q = wpC P (.seq (.reg L97_5) C97_0) T L (rdy h) Q := rfl
def C97_2 : ACode := .cond (.t 17) (.reg L97_10) .skip
theorem u97_2 : wpC P C97_2 T L (rdy h) Q = wpC P (.cond (.t 17) (.reg L97_10) .skip) T L (rdy h) Q := rfl
def C97_3 : ACode := .seq (.reg L97_8) C97_2
theorem u97_3 : wpC P C97_3 T L (rdy h) Q = wpC P (.seq (.reg L97_8) C97_2) T L (rdy h) Q := rfl
def C97_4 : ACode := .block 1 C97_3
theorem u97_4 : wpC P C97_4 T L (rdy h) Q = wpC P (.block 1 C97_3) T L (rdy h) Q := rfl
def C97_5 : ACode := .seq C97_4 (.reg L97_12)
theorem u97_5 : wpC P C97_5 T L (rdy h) Q = wpC P (.seq C97_4 (.reg L97_12)) T L (rdy h) Q := rfl
def C97_6 : ACode := .seq C97_1 C97_5
theorem u97_6 : wpC P C97_6 T L (rdy h) Q = wpC P (.seq C97_1 C97_5) T L (rdy h) Q := rfl
def C97_7 : ACode := .block 0 (.loop C97_6)
theorem u97_7 : wpC P C97_7 T L (rdy h) Q = wpC P (.block 0 (.loop C97_6)) T L (rdy h) Q := rfl
def C97_8 : ACode := .seq (.reg L97_2) C97_7
theorem u97_8 : wpC P C97_8 T L (rdy h) Q = wpC P (.seq (.reg L97_2) C97_7) T L (rdy h) Q := rfl
def C97_9 : ACode := .seq (.reg L97_13) .ret
theorem u97_9 : wpC P C97_9 T L (rdy h) Q = wpC P (.seq (.reg L97_13) .ret) T L (rdy h) Q := rfl
def C97_10 : ACode := .seq C97_8 C97_9
theorem u97_10 : wpC P C97_10 T L (rdy h) Q = wpC P (.seq C97_8 C97_9) T L (rdy h) Q := rfl
def C97_11 : ACode := .seq (.reg L97_1) C97_10
theorem u97_11 : wpC P C97_11 T L (rdy h) Q = wpC P (.seq (.reg L97_1) C97_10) T L (rdy h) Q := rfl
def C97_12 : ACode := .seq (.reg L97_0) C97_11
theorem u97_12 : wpC P C97_12 T L (rdy h) Q = wpC P (.seq (.reg L97_0) C97_11) T L (rdy h) Q := rfl
def F97 : AFunc := ⟨21, [.tmp 2], C97_12⟩
theorem cF97 : compB Try.prog 97 = some F97 := by kernel_rfl
end
attribute [local go_sem ↓] u97_0 u97_1 u97_2 u97_3 u97_4 u97_5 u97_6 u97_7 u97_8 u97_9 u97_10 u97_11 u97_12 v97_0 v97_1 v97_2 v97_3 v97_4 v97_5 v97_6 v97_7 v97_8 v97_9 v97_10 v97_11 v97_12 v97_13
theorem c_placeCount (l : List Param) (pv : CV) (h : H) (hl : SlQ h (.one pv) l) (hn : smQ l) : bm Try.prog 97 [.agg [pv]] h = some (ii (l.countP byPlace), h) := by
  refine bm_eq cF97 ?_
  simp +contextual (maxSteps := 2000000) only [go_sem, Nat.reduceEqDiff, reduceCtorEq, Nat.reduceAdd, Nat.reduceLeDiff, F97]
  refine wpC_loop (fun i T L h' => h' = h ∧ T 1 = .lp 1 0 ∧ (L 1).2 = [pv] ∧ T 3 = .v (.one (.int .i64 (cnt byPlace l i))) ∧ T 4 = .v (.one (.int .i64 i))) l.length ?_ ?_ (Nat.zero_le _) ?_
  · rintro i T L h' hi ⟨rfl, t1, l1, t3, t4⟩
    have b1 := cnt_le (p := byPlace) (l := l) (i := i)
    have b2 := hn.len
    simp +contextual (maxSteps := 2000000) only [go_sem, Nat.reduceEqDiff, reduceCtorEq, Nat.reduceAdd, Nat.reduceLeDiff, t1, l1, t3, t4, hl.len, hl.iaddr hi, hl.whole hi, c_byPlace, lt_true hi, cnt_next hi]
    (repeat' (first | refine And.intro ?_ ?_ | intro _)) <;> first | rfl | rw [wrap_next hi hn.len] | (rw [i64_wrap (by omega) (by omega)]; simp_all) | simp_all
  · rintro T L h' ⟨rfl, t1, l1, t3, t4⟩
    simp +contextual (maxSteps := 2000000) only [go_sem, Nat.reduceEqDiff, reduceCtorEq, Nat.reduceAdd, Nat.reduceLeDiff, t1, l1, t3, t4, hl.len, lt_false, cnt_all]
  · simp +contextual (maxSteps := 2000000) only [go_sem, Nat.reduceEqDiff, reduceCtorEq, Nat.reduceAdd, Nat.reduceLeDiff, cnt_zero]
    (repeat' (first | refine And.intro ?_ ?_ | intro _)) <;> first | rfl
section
variable {P : Program} {T : Tb} {L : Lb} {h : H} {Q : PostC} {K : Post}
/-! spec.takesName -/
def L224_0 : List AStep := [⟨.box 51 (.t 0), (some 2), none, []⟩, ⟨.mov (.c (.int .i64 0)), (some 4), none, []⟩]
theorem v224_0 : wpS P L224_0 T L (rdy h) K = wpS P ([⟨.box 51 (.t 0), (some 2), none, []⟩, ⟨.mov (.c (.int .i64 0)), (some 4), none, []⟩]) T L (rdy h) K := rfl
def L224_1 : List AStep := [⟨.mov (.t 9), (some 5), none, []⟩]
theorem v224_1 : wpS P L224_1 T L (rdy h) K = wpS P ([⟨.mov (.t 9), (some 5), none, []⟩]) T L (rdy h) K := rfl
def L224_2 : List AStep := ⟨.mov (.t 1), (some 8), none, []⟩ :: ⟨.call 218 [(.t 7), (.t 8)], (some 9), none, []⟩ :: L224_1
theorem v224_2 : wpS P L224_2 T L (rdy h) K = wpS P (⟨.mov (.t 1), (some 8), none, []⟩ :: ⟨.call 218 [(.t 7), (.t 8)], (some 9), none, []⟩ :: L224_1) T L (rdy h) K := rfl
def L224_3 : List AStep := ⟨.faddr 0 (.t 2), (some 6), none, []⟩ :: ⟨.load 1 false (.t 6), (some 7), none, []⟩ :: L224_2
theorem v224_3 : wpS P L224_3 T L (rdy h) K = wpS P (⟨.faddr 0 (.t 2), (some 6), none, []⟩ :: ⟨.load 1 false (.t 6), (some 7), none, []⟩ :: L224_2) T L (rdy h) K := rfl
def L224_4 : List AStep := [⟨.call 227 [(.t 17)], (some 18), (some (12, true)), []⟩, ⟨.pick (.t 12) (.t 18) (.c (.bool false)), (some 19), none, []⟩]
theorem v224_4 : wpS P L224_4 T L (rdy h) K = wpS P ([⟨.call 227 [(.t 17)], (some 18), (some (12, true)), []⟩, ⟨.pick (.t 12) (.t 18) (.c (.bool false)), (some 19), none, []⟩]) T L (rdy h) K := rfl
def L224_5 : List AStep := ⟨.iaddr 4 (.t 14) (.t 15), (some 16), (some (12, true)), []⟩ :: ⟨.load 4 true (.t 16), (some 17), (some (12, true)), []⟩ :: L224_4
theorem v224_5 : wpS P L224_5 T L (rdy h) K = wpS P (⟨.iaddr 4 (.t 14) (.t 15), (some 16), (some (12, true)), []⟩ :: ⟨.load 4 true (.t 16), (some 17), (some (12, true)), []⟩ :: L224_4) T L (rdy h) K := rfl
def L224_6 : List AStep := ⟨.load 1 false (.t 13), (some 14), (some (12, true)), []⟩ :: ⟨.mov (.t 5), (some 15), (some (12, true)), []⟩ :: L224_5
theorem v224_6 : wpS P L224_6 T L (rdy h) K = wpS P (⟨.load 1 false (.t 13), (some 14), (some (12, true)), []⟩ :: ⟨.mov (.t 5), (some 15), (some (12, true)), []⟩ :: L224_5) T L (rdy h) K := rfl
def L224_7 : List AStep := ⟨.mov (.t 11), (some 12), none, []⟩ :: ⟨.faddr 0 (.t 2), (some 13), (some (12, true)), []⟩ :: L224_6
theorem v224_7 : wpS P L224_7 T L (rdy h) K = wpS P (⟨.mov (.t 11), (some 12), none, []⟩ :: ⟨.faddr 0 (.t 2), (some 13), (some (12, true)), []⟩ :: L224_6) T L (rdy h) K := rfl
def L224_8 : List AStep := ⟨.mov (.t 5), (some 10), none, []⟩ :: ⟨.bin .geq (.t 10) (.c (.int .i64 0)), (some 11), none, []⟩ :: L224_7
theorem v224_8 : wpS P L224_8 T L (rdy h) K = wpS P (⟨.mov (.t 5), (some 10), none, []⟩ :: ⟨.bin .geq (.t 10) (.c (.int .i64 0)), (some 11), none, []⟩ :: L224_7) T L (rdy h) K := rfl
def L224_9 : List AStep := [⟨.mov (.t 5), (some 20), none, []⟩, ⟨.mov (.t 20), (some 4), none, []⟩]
theorem v224_9 : wpS P L224_9 T L (rdy h) K = wpS P ([⟨.mov (.t 5), (some 20), none, []⟩, ⟨.mov (.t 20), (some 4), none, []⟩]) T L (rdy h) K := rfl
def L224_10 : List AStep := [⟨.call 223 [(.t 22), (.c (.int .i64 4))], (some 23), none, []⟩, ⟨.mov (.t 23), (some 4), none, []⟩]
theorem v224_10 : wpS P L224_10 T L (rdy h) K = wpS P ([⟨.call 223 [(.t 22), (.c (.int .i64 4))], (some 23), none, []⟩, ⟨.mov (.t 23), (some 4), none, []⟩]) T L (rdy h) K := rfl
def L224_11 : List AStep := ⟨.faddr 0 (.t 2), (some 21), none, []⟩ :: ⟨.load 1 false (.t 21), (some 22), none, []⟩ :: L224_10
theorem v224_11 : wpS P L224_11 T L (rdy h) K = wpS P (⟨.faddr 0 (.t 2), (some 21), none, []⟩ :: ⟨.load 1 false (.t 21), (some 22), none, []⟩ :: L224_10) T L (rdy h) K := rfl
def C224_0 : ACode := .seq (.reg L224_9) .ret
theorem u224_0 : wpC P C224_0 T L (rdy h) Q = wpC P (.seq (.reg L224_9) .ret) T L (rdy h) Q := rfl
def C224_1 : ACode := .cond (.t 19) C224_0 .skip
theorem u224_1 : wpC P C224_1 T L (rdy h) Q = wpC P (.cond (.t 19) C224_0 .skip) T L (rdy h) Q := rfl
def C224_2 : ACode := .seq (.reg L224_8) C224_1
theorem u224_2 : wpC P C224_2 T L (rdy h) Q = wpC P (.seq (.reg L224_8) C224_1) T L (rdy h) Q := rfl
def C224_3 : ACode := .seq (.reg L224_11) .ret
theorem u224_3 : wpC P C224_3 T L (rdy h) Q = wpC P (.seq (.reg L224_11) .ret) T L (rdy h) Q := rfl
def C224_4 : ACode := .seq C224_2 C224_3
theorem u224_4 : wpC P C224_4 T L (rdy h) Q = wpC P (.seq C224_2 C224_3) T L (rdy h) Q := rfl
def C224_5 : ACode := .seq (.reg L224_3) C224_4
theorem u224_5 : wpC P C224_5 T L (rdy h) Q = wpC P (.seq (.reg L224_3) C224_4) T L (rdy h) Q := rfl
def C224_6 : ACode := .seq (.reg L224_0) C224_5
theorem u224_6 : wpC P C224_6 T L (rdy h) Q = wpC P (.seq (.reg L224_0) C224_5) T L (rdy h) Q := rfl
def F224 : AFunc := ⟨24, [.tmp 4], C224_6⟩
theorem cF224 : compB Try.prog 224 = some F224 := by kernel_rfl
end
attribute [local go_sem ↓] u224_0 u224_1 u224_2 u224_3 u224_4 u224_5 u224_6 v224_0 v224_1 v224_2 v224_3 v224_4 v224_5 v224_6 v224_7 v224_8 v224_9 v224_10 v224_11
theorem c_takesName (l : List Param) (pv : CV) (s : ByteArray) (h : H) (hl : SlQ h (.one pv) l) (hn : smQ l) : bm Try.prog 224 [.agg [pv], .one (.str s)] h = some (ii (takes l s), h) := by
  refine bm_eq cF224 ?_
  rcases idx_cases (fun p : Param => decide (p.name = s)) l with e | ⟨j, hj, e, _⟩ <;> (replace e := (show paramAt l s = _ from e))
  · simp +contextual (maxSteps := 2000000) only [go_sem, Nat.reduceEqDiff, reduceCtorEq, Nat.reduceAdd, Nat.reduceLeDiff, F224, c_findParam _ _ _ _ hl hn, e, c_kindAt _ _ _ _ hl hn, takes_none e]
  · simp +contextual (maxSteps := 2000000) only [go_sem, Nat.reduceEqDiff, reduceCtorEq, Nat.reduceAdd, Nat.reduceLeDiff, F224, c_findParam _ _ _ _ hl hn, e, c_kindAt _ _ _ _ hl hn, takes_some hj e, hl.iaddr hj, hl.whole hj, c_byName]
section
variable {P : Program} {T : Tb} {L : Lb} {h : H} {Q : PostC} {K : Post}
/-! spec.validParams -/
def L176_0 : List AStep := [⟨.mov (.c (.bool false)), (some 2), none, []⟩]
theorem v176_0 : wpS P L176_0 T L (rdy h) K = wpS P ([⟨.mov (.c (.bool false)), (some 2), none, []⟩]) T L (rdy h) K := rfl
def L176_1 : List AStep := [⟨.mov (.c (.int .i64 0)), (some 3), none, []⟩]
theorem v176_1 : wpS P L176_1 T L (rdy h) K = wpS P ([⟨.mov (.c (.int .i64 0)), (some 3), none, []⟩]) T L (rdy h) K := rfl
def L176_2 : List AStep := [⟨.len (.t 7), (some 8), none, []⟩, ⟨.bin .lss (.t 6) (.t 8), (some 9), none, []⟩]
theorem v176_2 : wpS P L176_2 T L (rdy h) K = wpS P ([⟨.len (.t 7), (some 8), none, []⟩, ⟨.bin .lss (.t 6) (.t 8), (some 9), none, []⟩]) T L (rdy h) K := rfl
def L176_3 : List AStep := ⟨.mov (.t 3), (some 6), none, []⟩ :: ⟨.mov (.t 0), (some 7), none, []⟩ :: L176_2
theorem v176_3 : wpS P L176_3 T L (rdy h) K = wpS P (⟨.mov (.t 3), (some 6), none, []⟩ :: ⟨.mov (.t 0), (some 7), none, []⟩ :: L176_2) T L (rdy h) K := rfl
def L176_4 : List AStep := [⟨.alloc 108 [(.str (strOfNums [])), (.int .i64 0), (.bool false), (.int .i64 0)], (some 4), none, []⟩, ⟨.store 4 (.t 4) (.t 15), none, none, []⟩]
theorem v176_4 : wpS P L176_4 T L (rdy h) K = wpS P ([⟨.alloc 108 [(.str (strOfNums [])), (.int .i64 0), (.bool false), (.int .i64 0)], (some 4), none, []⟩, ⟨.store 4 (.t 4) (.t 15), none, none, []⟩]) T L (rdy h) K := rfl
def L176_5 : List AStep := ⟨.iaddr 4 (.t 12) (.t 13), (some 14), none, []⟩ :: ⟨.load 4 true (.t 14), (some 15), none, []⟩ :: L176_4
theorem v176_5 : wpS P L176_5 T L (rdy h) K = wpS P (⟨.iaddr 4 (.t 12) (.t 13), (some 14), none, []⟩ :: ⟨.load 4 true (.t 14), (some 15), none, []⟩ :: L176_4) T L (rdy h) K := rfl
def L176_6 : List AStep := ⟨.mov (.t 0), (some 12), none, []⟩ :: ⟨.mov (.t 3), (some 13), none, []⟩ :: L176_5
theorem v176_6 : wpS P L176_6 T L (rdy h) K = wpS P (⟨.mov (.t 0), (some 12), none, []⟩ :: ⟨.mov (.t 3), (some 13), none, []⟩ :: L176_5) T L (rdy h) K := rfl
def L176_7 : List AStep := [⟨.bin .geq (.t 25) (.c (.int .i64 0)), (some 26), (some (19, false)), []⟩, ⟨.pick (.t 19) (.c (.bool true)) (.t 26), (some 27), none, []⟩]
theorem v176_7 : wpS P L176_7 T L (rdy h) K = wpS P ([⟨.bin .geq (.t 25) (.c (.int .i64 0)), (some 26), (some (19, false)), []⟩, ⟨.pick (.t 19) (.c (.bool true)) (.t 26), (some 27), none, []⟩]) T L (rdy h) K := rfl
def L176_8 : List AStep := ⟨.load 1 false (.t 23), (some 24), (some (19, false)), []⟩ :: ⟨.call 218 [(.t 22), (.t 24)], (some 25), (some (19, false)), []⟩ :: L176_7
theorem v176_8 : wpS P L176_8 T L (rdy h) K = wpS P (⟨.load 1 false (.t 23), (some 24), (some (19, false)), []⟩ :: ⟨.call 218 [(.t 22), (.t 24)], (some 25), (some (19, false)), []⟩ :: L176_7) T L (rdy h) K := rfl
def L176_9 : List AStep := ⟨.slice 108 4 (.t 20) none (some (.t 21)) none, (some 22), (some (19, false)), []⟩ :: ⟨.faddr 0 (.t 4), (some 23), (some (19, false)), []⟩ :: L176_8
theorem v176_9 : wpS P L176_9 T L (rdy h) K = wpS P (⟨.slice 108 4 (.t 20) none (some (.t 21)) none, (some 22), (some (19, false)), []⟩ :: ⟨.faddr 0 (.t 4), (some 23), (some (19, false)), []⟩ :: L176_8) T L (rdy h) K := rfl
def L176_10 : List AStep := ⟨.mov (.t 0), (some 20), (some (19, false)), []⟩ :: ⟨.mov (.t 3), (some 21), (some (19, false)), []⟩ :: L176_9
theorem v176_10 : wpS P L176_10 T L (rdy h) K = wpS P (⟨.mov (.t 0), (some 20), (some (19, false)), []⟩ :: ⟨.mov (.t 3), (some 21), (some (19, false)), []⟩ :: L176_9) T L (rdy h) K := rfl
def L176_11 : List AStep := ⟨.not (.t 17), (some 18), none, []⟩ :: ⟨.mov (.t 18), (some 19), none, []⟩ :: L176_10
theorem v176_11 : wpS P L176_11 T L (rdy h) K = wpS P (⟨.not (.t 17), (some 18), none, []⟩ :: ⟨.mov (.t 18), (some 19), none, []⟩ :: L176_10) T L (rdy h) K := rfl
def L176_12 : List AStep := ⟨.load 4 true (.t 4), (some 16), none, []⟩ :: ⟨.call 217 [(.t 16)], (some 17), none, []⟩ :: L176_11
theorem v176_12 : wpS P L176_12 T L (rdy h) K = wpS P (⟨.load 4 true (.t 4), (some 16), none, []⟩ :: ⟨.call 217 [(.t 16)], (some 17), none, []⟩ :: L176_11) T L (rdy h) K := rfl
def L176_13 : List AStep := [⟨.mov (.c (.bool false)), (some 2), none, []⟩]
theorem v176_13 : wpS P L176_13 T L (rdy h) K = wpS P ([⟨.mov (.c (.bool false)), (some 2), none, []⟩]) T L (rdy h) K := rfl
def L176_14 : List AStep := [⟨.mov (.t 3), (some 28), none, []⟩, ⟨.bin .eql (.t 28) (.c (.int .i64 0)), (some 29), none, []⟩]
theorem v176_14 : wpS P L176_14 T L (rdy h) K = wpS P ([⟨.mov (.t 3), (some 28), none, []⟩, ⟨.bin .eql (.t 28) (.c (.int .i64 0)), (some 29), none, []⟩]) T L (rdy h) K := rfl
def L176_15 : List AStep := [⟨.store 4 (.t 5) (.t 34), none, none, []⟩]
theorem v176_15 : wpS P L176_15 T L (rdy h) K = wpS P ([⟨.store 4 (.t 5) (.t 34), none, none, []⟩]) T L (rdy h) K := rfl
def L176_16 : List AStep := ⟨.load 4 true (.t 33), (some 34), none, []⟩ :: ⟨.alloc 108 [(.str (strOfNums [])), (.int .i64 0), (.bool false), (.int .i64 0)], (some 5), none, []⟩ :: L176_15
theorem v176_16 : wpS P L176_16 T L (rdy h) K = wpS P (⟨.load 4 true (.t 33), (some 34), none, []⟩ :: ⟨.alloc 108 [(.str (strOfNums [])), (.int .i64 0), (.bool false), (.int .i64 0)], (some 5), none, []⟩ :: L176_15) T L (rdy h) K := rfl
def L176_17 : List AStep := ⟨.bin .sub (.t 31) (.c (.int .i64 1)), (some 32), none, []⟩ :: ⟨.iaddr 4 (.t 30) (.t 32), (some 33), none, []⟩ :: L176_16
theorem v176_17 : wpS P L176_17 T L (rdy h) K = wpS P (⟨.bin .sub (.t 31) (.c (.int .i64 1)), (some 32), none, []⟩ :: ⟨.iaddr 4 (.t 30) (.t 32), (some 33), none, []⟩ :: L176_16) T L (rdy h) K := rfl
def L176_18 : List AStep := ⟨.mov (.t 0), (some 30), none, []⟩ :: ⟨.mov (.t 3), (some 31), none, []⟩ :: L176_17
theorem v176_18 : wpS P L176_18 T L (rdy h) K = wpS P (⟨.mov (.t 0), (some 30), none, []⟩ :: ⟨.mov (.t 3), (some 31), none, []⟩ :: L176_17) T L (rdy h) K := rfl
def L176_19 : List AStep := [⟨.pick (.t 59) (.t 62) (.c (.bool false)), (some 63), (some (52, false)), []⟩, ⟨.pick (.t 52) (.c (.bool true)) (.t 63), (some 64), none, []⟩]
theorem v176_19 : wpS P L176_19 T L (rdy h) K = wpS P ([⟨.pick (.t 59) (.t 62) (.c (.bool false)), (some 63), (some (52, false)), []⟩, ⟨.pick (.t 52) (.c (.bool true)) (.t 63), (some 64), none, []⟩]) T L (rdy h) K := rfl
def L176_20 : List AStep := ⟨.load 1 false (.t 60), (some 61), (some (59, true)), []⟩ :: ⟨.not (.t 61), (some 62), (some (59, true)), []⟩ :: L176_19
theorem v176_20 : wpS P L176_20 T L (rdy h) K = wpS P (⟨.load 1 false (.t 60), (some 61), (some (59, true)), []⟩ :: ⟨.not (.t 61), (some 62), (some (59, true)), []⟩ :: L176_19) T L (rdy h) K := rfl
def L176_21 : List AStep := ⟨.mov (.t 58), (some 59), (some (52, false)), []⟩ :: ⟨.faddr 2 (.t 4), (some 60), (some (59, true)), []⟩ :: L176_20
theorem v176_21 : wpS P L176_21 T L (rdy h) K = wpS P (⟨.mov (.t 58), (some 59), (some (52, false)), []⟩ :: ⟨.faddr 2 (.t 4), (some 60), (some (59, true)), []⟩ :: L176_20) T L (rdy h) K := rfl
def L176_22 : List AStep := ⟨.load 1 false (.t 56), (some 57), (some (55, true)), []⟩ :: ⟨.pick (.t 55) (.t 57) (.c (.bool false)), (some 58), (some (52, false)), []⟩ :: L176_21
theorem v176_22 : wpS P L176_22 T L (rdy h) K = wpS P (⟨.load 1 false (.t 56), (some 57), (some (55, true)), []⟩ :: ⟨.pick (.t 55) (.t 57) (.c (.bool false)), (some 58), (some (52, false)), []⟩ :: L176_21) T L (rdy h) K := rfl
def L176_23 : List AStep := ⟨.mov (.t 54), (some 55), (some (52, false)), []⟩ :: ⟨.faddr 2 (.t 5), (some 56), (some (55, true)), []⟩ :: L176_22
theorem v176_23 : wpS P L176_23 T L (rdy h) K = wpS P (⟨.mov (.t 54), (some 55), (some (52, false)), []⟩ :: ⟨.faddr 2 (.t 5), (some 56), (some (55, true)), []⟩ :: L176_22) T L (rdy h) K := rfl
def L176_24 : List AStep := ⟨.load 4 true (.t 4), (some 53), (some (52, false)), []⟩ :: ⟨.call 177 [(.t 53)], (some 54), (some (52, false)), []⟩ :: L176_23
theorem v176_24 : wpS P L176_24 T L (rdy h) K = wpS P (⟨.load 4 true (.t 4), (some 53), (some (52, false)), []⟩ :: ⟨.call 177 [(.t 53)], (some 54), (some (52, false)), []⟩ :: L176_23) T L (rdy h) K := rfl
def L176_25 : List AStep := ⟨.pick (.t 40) (.c (.bool true)) (.t 50), (some 51), none, []⟩ :: ⟨.mov (.t 51), (some 52), none, []⟩ :: L176_24
theorem v176_25 : wpS P L176_25 T L (rdy h) K = wpS P (⟨.pick (.t 40) (.c (.bool true)) (.t 50), (some 51), none, []⟩ :: ⟨.mov (.t 51), (some 52), none, []⟩ :: L176_24) T L (rdy h) K := rfl
def L176_26 : List AStep := ⟨.not (.t 48), (some 49), (some (46, true)), []⟩ :: ⟨.pick (.t 46) (.t 49) (.c (.bool false)), (some 50), (some (40, false)), []⟩ :: L176_25
theorem v176_26 : wpS P L176_26 T L (rdy h) K = wpS P (⟨.not (.t 48), (some 49), (some (46, true)), []⟩ :: ⟨.pick (.t 46) (.t 49) (.c (.bool false)), (some 50), (some (40, false)), []⟩ :: L176_25) T L (rdy h) K := rfl
def L176_27 : List AStep := ⟨.load 4 true (.t 4), (some 47), (some (46, true)), []⟩ :: ⟨.call 214 [(.t 47)], (some 48), (some (46, true)), []⟩ :: L176_26
theorem v176_27 : wpS P L176_27 T L (rdy h) K = wpS P (⟨.load 4 true (.t 4), (some 47), (some (46, true)), []⟩ :: ⟨.call 214 [(.t 47)], (some 48), (some (46, true)), []⟩ :: L176_26) T L (rdy h) K := rfl
def L176_28 : List AStep := ⟨.bin .eql (.t 42) (.t 44), (some 45), (some (40, false)), []⟩ :: ⟨.mov (.t 45), (some 46), (some (40, false)), []⟩ :: L176_27
theorem v176_28 : wpS P L176_28 T L (rdy h) K = wpS P (⟨.bin .eql (.t 42) (.t 44), (some 45), (some (40, false)), []⟩ :: ⟨.mov (.t 45), (some 46), (some (40, false)), []⟩ :: L176_27) T L (rdy h) K := rfl
def L176_29 : List AStep := ⟨.faddr 1 (.t 5), (some 43), (some (40, false)), []⟩ :: ⟨.load 1 false (.t 43), (some 44), (some (40, false)), []⟩ :: L176_28
theorem v176_29 : wpS P L176_29 T L (rdy h) K = wpS P (⟨.faddr 1 (.t 5), (some 43), (some (40, false)), []⟩ :: ⟨.load 1 false (.t 43), (some 44), (some (40, false)), []⟩ :: L176_28) T L (rdy h) K := rfl
def L176_30 : List AStep := ⟨.faddr 1 (.t 4), (some 41), (some (40, false)), []⟩ :: ⟨.load 1 false (.t 41), (some 42), (some (40, false)), []⟩ :: L176_29
theorem v176_30 : wpS P L176_30 T L (rdy h) K = wpS P (⟨.faddr 1 (.t 4), (some 41), (some (40, false)), []⟩ :: ⟨.load 1 false (.t 41), (some 42), (some (40, false)), []⟩ :: L176_29) T L (rdy h) K := rfl
def L176_31 : List AStep := ⟨.bin .lss (.t 36) (.t 38), (some 39), none, []⟩ :: ⟨.mov (.t 39), (some 40), none, []⟩ :: L176_30
theorem v176_31 : wpS P L176_31 T L (rdy h) K = wpS P (⟨.bin .lss (.t 36) (.t 38), (some 39), none, []⟩ :: ⟨.mov (.t 39), (some 40), none, []⟩ :: L176_30) T L (rdy h) K := rfl
def L176_32 : List AStep := ⟨.faddr 1 (.t 5), (some 37), none, []⟩ :: ⟨.load 1 false (.t 37), (some 38), none, []⟩ :: L176_31
theorem v176_32 : wpS P L176_32 T L (rdy h) K = wpS P (⟨.faddr 1 (.t 5), (some 37), none, []⟩ :: ⟨.load 1 false (.t 37), (some 38), none, []⟩ :: L176_31) T L (rdy h) K := rfl
def L176_33 : List AStep := ⟨.faddr 1 (.t 4), (some 35), none, []⟩ :: ⟨.load 1 false (.t 35), (some 36), none, []⟩ :: L176_32
theorem v176_33 : wpS P L176_33 T L (rdy h) K = wpS P (⟨.faddr 1 (.t 4), (some 35), none, []⟩ :: ⟨.load 1 false (.t 35), (some 36), none, []⟩ :: L176_32) T L (rdy h) K := rfl
def L176_34 : List AStep := [⟨.mov (.c (.bool false)), (some 2), none, []⟩]
theorem v176_34 : wpS P L176_34 T L (rdy h) K = wpS P ([⟨.mov (.c (.bool false)), (some 2), none, []⟩]) T L (rdy h) K := rfl
def L176_35 : List AStep := [⟨.mov (.t 11), (some 3), none, []⟩]
theorem v176_35 : wpS P L176_35 T L (rdy h) K = wpS P ([⟨.mov (.t 11), (some 3), none, []⟩]) T L (rdy h) K := rfl
def L176_36 : List AStep := ⟨.mov (.t 3), (some 10), none, []⟩ :: ⟨.bin .add (.t 10) (.c (.int .i64 1)), (some 11), none, []⟩ :: L176_35
theorem v176_36 : wpS P L176_36 T L (rdy h) K = wpS P (⟨.mov (.t 3), (some 10), none, []⟩ :: ⟨.bin .add (.t 10) (.c (.int .i64 1)), (some 11), none, []⟩ :: L176_35) T L (rdy h) K := rfl
def L176_37 : List AStep := [⟨.bin .leq (.t 66) (.c (.int .i64 8)), (some 67), none, []⟩, ⟨.mov (.t 67), (some 2), none, []⟩]
theorem v176_37 : wpS P L176_37 T L (rdy h) K = wpS P ([⟨.bin .leq (.t 66) (.c (.int .i64 8)), (some 67), none, []⟩, ⟨.mov (.t 67), (some 2), none, []⟩]) T L (rdy h) K := rfl
def L176_38 : List AStep := ⟨.mov (.t 0), (some 65), none, []⟩ :: ⟨.len (.t 65), (some 66), none, []⟩ :: L176_37
theorem v176_38 : wpS P L176_38 T L (rdy h) K = wpS P (⟨.mov (.t 0), (some 65), none, []⟩ :: ⟨.len (.t 65), (some 66), none, []⟩ :: L176_37) T L (rdy h) K := rfl
def C176_0 : ACode := .cond (.t 9) .skip (.exit 0)
theorem u176_0 : wpC P C176_0 T L (rdy h) Q = wpC P (.cond (.t 9) .skip (.exit 0)) T L (rdy h) Q := rfl
def C176_1 : ACode := .seq (.reg L176_3) C176_0
theorem u176_1 : wpC P C176_1 T L (rdy h) Q = wpC P (.seq (.reg L176_3) C176_0) T L (rdy h) Q := rfl
def C176_2 : ACode := .seq (.reg L176_13) .ret
theorem u176_2 : wpC P C176_2 T L (rdy h) Q = wpC P (.seq (.reg L176_13) .ret) T L (rdy h) Q := rfl
def C176_3 : ACode := .cond (.t 27) C176_2 .skip
theorem u176_3 : wpC P C176_3 T L (rdy h) Q = wpC P (.cond (.t 27) C176_2 .skip) T L (rdy h) Q := rfl
def C176_4 : ACode := .seq (.reg L176_12) C176_3
theorem u176_4 : wpC P C176_4 T L (rdy h) Q = wpC P (.seq (.reg L176_12) C176_3) T L (rdy h) Q := rfl
def C176_5 : ACode := .cond (.t 29) (.exit 1) .skip
theorem u176_5 : wpC P C176_5 T L (rdy h) Q = wpC P (.cond (.t 29) (.exit 1) .skip) T L (rdy h) Q := rfl
def C176_6 : ACode := .seq (.reg L176_14) C176_5
theorem u176_6 : wpC P C176_6 T L (rdy h) Q = wpC P (.seq (.reg L176_14) C176_5) T L (rdy h) Q := rfl
def C176_7 : ACode := .seq (.reg L176_34) .ret
theorem u176_7 : wpC P C176_7 T L (rdy h) Q = wpC P (.seq (.reg L176_34) .ret) T L (rdy h) Q := rfl
def C176_8 : ACode := .cond (.t 64) C176_7 .skip
theorem u176_8 : wpC P C176_8 T L (rdy h) Q = wpC P (.cond (.t 64) C176_7 .skip) T L (rdy h) Q := rfl
def C176_9 : ACode := .seq (.reg L176_33) C176_8
theorem u176_9 : wpC P C176_9 T L (rdy h) Q = wpC P (.seq (.reg L176_33) C176_8) T L (rdy h) Q := rfl
def C176_10 : ACode := .seq (.reg L176_18) C176_9
theorem u176_10 : wpC P C176_10 T L (rdy h) Q = wpC P (.seq (.reg L176_18) C176_9) T L (rdy h) Q := rfl
def C176_11 : ACode := .seq C176_6 C176_10
theorem u176_11 : wpC P C176_11 T L (rdy h) Q = wpC P (.seq C176_6 C176_10) T L (rdy h) Q := rfl
def C176_12 : ACode := .seq C176_4 C176_11
theorem u176_12 : wpC P C176_12 T L (rdy h) Q = wpC P (.seq C176_4 C176_11) T L (rdy h) Q := rfl
def C176_13 : ACode := .seq (.reg L176_6) C176_12
theorem u176_13 : wpC P C176_13 T L (rdy h) Q = wpC P (.seq (.reg L176_6) C176_12) T L (rdy h) Q := rfl
def C176_14 : ACode := .block 1 C176_13
theorem u176_14 : wpC P C176_14 T L (rdy h) Q = wpC P (.block 1 C176_13) T L (rdy h) Q := rfl
def C176_15 : ACode := .seq C176_14 (.reg L176_36)
theorem u176_15 : wpC P C176_15 T L (rdy h) Q = wpC P (.seq C176_14 (.reg L176_36)) T L (rdy h) Q := rfl
def C176_16 : ACode := .seq C176_1 C176_15
theorem u176_16 : wpC P C176_16 T L (rdy h) Q = wpC P (.seq C176_1 C176_15) T L (rdy h) Q := rfl
def C176_17 : ACode := .block 0 (.loop C176_16)
theorem u176_17 : wpC P C176_17 T L (rdy h) Q = wpC P (.block 0 (.loop C176_16)) T L (rdy h) Q := rfl
def C176_18 : ACode := .seq (.reg L176_1) C176_17
theorem u176_18 : wpC P C176_18 T L (rdy h) Q = wpC P (.seq (.reg L176_1) C176_17) T L (rdy h) Q := rfl
def C176_19 : ACode := .seq (.reg L176_38) .ret
theorem u176_19 : wpC P C176_19 T L (rdy h) Q = wpC P (.seq (.reg L176_38) .ret) T L (rdy h) Q := rfl
def C176_20 : ACode := .seq C176_18 C176_19
theorem u176_20 : wpC P C176_20 T L (rdy h) Q = wpC P (.seq C176_18 C176_19) T L (rdy h) Q := rfl
def C176_21 : ACode := .seq (.reg L176_0) C176_20
theorem u176_21 : wpC P C176_21 T L (rdy h) Q = wpC P (.seq (.reg L176_0) C176_20) T L (rdy h) Q := rfl
def F176 : AFunc := ⟨68, [.tmp 2], C176_21⟩
theorem cF176 : compB Try.prog 176 = some F176 := by kernel_rfl
end
attribute [local go_sem ↓] u176_0 u176_1 u176_2 u176_3 u176_4 u176_5 u176_6 u176_7 u176_8 u176_9 u176_10 u176_11 u176_12 u176_13 u176_14 u176_15 u176_16 u176_17 u176_18 u176_19 u176_20 u176_21 v176_0 v176_1 v176_2 v176_3 v176_4 v176_5 v176_6 v176_7 v176_8 v176_9 v176_10 v176_11 v176_12 v176_13 v176_14 v176_15 v176_16 v176_17 v176_18 v176_19 v176_20 v176_21 v176_22 v176_23 v176_24 v176_25 v176_26 v176_27 v176_28 v176_29 v176_30 v176_31 v176_32 v176_33 v176_34 v176_35 v176_36 v176_37 v176_38
theorem c_validParams (l : List Param) (v : AV) (h : H) (hl : SlQ h v l) (hn : smQ l) : bm Try.prog 176 [v] h = some (ib (okSig l), h) := by
  refine bm_eq cF176 ?_
  simp +contextual (maxSteps := 2000000) only [go_sem, Nat.reduceEqDiff, reduceCtorEq, Nat.reduceAdd, Nat.reduceLeDiff, F176]
  refine wpC_loop (fun i T L h' => h' = h ∧ T 0 = .v v ∧ T 3 = .v (.one (.int .i64 i)) ∧ Upto (stepAt l) i) l.length ?_ ?_ (Nat.zero_le _) ?_
  · rintro i T L h' hi ⟨rfl, t0, t3, hu⟩
    obtain ⟨v', e1, s1⟩ := hl.takeO (i := i) (by omega) (kd := .i64)
    have e2 : decide (paramAt (l.take i) l[i].name ≥ 0) = !(newAt Param.name l i) := newAt_ge hi
    cases i with
    | zero =>
      have e3 := stepAt_zero hi
      simp only [List.take_zero] at e1 e2 s1
      have e4 : decide (((0 : Nat) : Int) = 0) = true := rfl
      simp +contextual (maxSteps := 2000000) only [go_sem, Nat.reduceEqDiff, reduceCtorEq, Nat.reduceAdd, Nat.reduceLeDiff, e4, List.take_zero, t0, t3, hl.len, hl.iaddr hi, hl.whole hi, lt_true hi, e1, e2, c_findParam _ _ _ _ s1 (hn.take 0), c_validParam _ _ (hn.at hi)]
      (repeat' (first | refine And.intro ?_ ?_ | intro _)) <;> first | rfl | rw [wrap_next hi hn.len] | exact hu.next (by rw [e3]; simp_all) | (rw [okSig_not hi (by rw [e3]; simp_all)]) | simp_all
    | succ j =>
      have e3 := stepAt_succ hi
      have hj : j < l.length := by omega
      have e4 : decide (((j + 1 : Nat) : Int) = 0) = false := decide_eq_false (by omega)
      simp +contextual (maxSteps := 2000000) only [go_sem, Nat.reduceEqDiff, reduceCtorEq, Nat.reduceAdd, Nat.reduceLeDiff, e4, t0, t3, hl.len, hl.iaddr hi, hl.whole hi, lt_true hi, e1, e2, c_findParam _ _ _ _ s1 (hn.take _), c_validParam _ _ (hn.at hi), wrap_pred (show j < 2 ^ 62 from Nat.lt_trans (Nat.lt_succ_self j) (Nat.lt_trans hi hn.len)), hl.iaddr hj, hl.whole hj, c_isSingle, c_byPlace]
      (repeat' (first | refine And.intro ?_ ?_ | intro _)) <;> first | rfl | rw [wrap_next hi hn.len] | exact hu.next (by rw [e3]; simp_all [follows]) | (rw [okSig_not hi (by rw [e3]; simp_all [follows])]) | simp_all
  · rintro T L h' ⟨rfl, t0, t3, hu⟩
    simp +contextual (maxSteps := 2000000) only [go_sem, Nat.reduceEqDiff, reduceCtorEq, Nat.reduceAdd, Nat.reduceLeDiff, t0, t3, hl.len, lt_false, okSig_of hu]
  · simp +contextual (maxSteps := 2000000) only [go_sem, Nat.reduceEqDiff, reduceCtorEq, Nat.reduceAdd, Nat.reduceLeDiff]
    (repeat' (first | refine And.intro ?_ ?_ | intro _)) <;> first | rfl | exact Upto.zero
section
variable {P : Program} {T : Tb} {L : Lb} {h : H} {Q : PostC} {K : Post}
/-! spec.validSignature -/
def L96_0 : List AStep := [⟨.box 51 (.t 0), (some 1), none, []⟩, ⟨.mov (.c (.bool false)), (some 2), none, []⟩]
theorem v96_0 : wpS P L96_0 T L (rdy h) K = wpS P ([⟨.box 51 (.t 0), (some 1), none, []⟩, ⟨.mov (.c (.bool false)), (some 2), none, []⟩]) T L (rdy h) K := rfl
def L96_1 : List AStep := [⟨.call 176 [(.t 4)], (some 5), none, []⟩, ⟨.mov (.t 5), (some 2), none, []⟩]
theorem v96_1 : wpS P L96_1 T L (rdy h) K = wpS P ([⟨.call 176 [(.t 4)], (some 5), none, []⟩, ⟨.mov (.t 5), (some 2), none, []⟩]) T L (rdy h) K := rfl
def L96_2 : List AStep := ⟨.faddr 0 (.t 1), (some 3), none, []⟩ :: ⟨.load 1 false (.t 3), (some 4), none, []⟩ :: L96_1
theorem v96_2 : wpS P L96_2 T L (rdy h) K = wpS P (⟨.faddr 0 (.t 1), (some 3), none, []⟩ :: ⟨.load 1 false (.t 3), (some 4), none, []⟩ :: L96_1) T L (rdy h) K := rfl
def C96_0 : ACode := .seq (.reg L96_2) .ret
theorem u96_0 : wpC P C96_0 T L (rdy h) Q = wpC P (.seq (.reg L96_2) .ret) T L (rdy h) Q := rfl
def C96_1 : ACode := .seq (.reg L96_0) C96_0
theorem u96_1 : wpC P C96_1 T L (rdy h) Q = wpC P (.seq (.reg L96_0) C96_0) T L (rdy h) Q := rfl
def F96 : AFunc := ⟨6, [.tmp 2], C96_1⟩
theorem cF96 : compB Try.prog 96 = some F96 := by kernel_rfl
end
attribute [local go_sem ↓] u96_0 u96_1 v96_0 v96_1 v96_2
theorem c_validSignature (l : List Param) (pv : CV) (h : H) (hl : SlQ h (.one pv) l) (hn : smQ l) : bm Try.prog 96 [.agg [pv]] h = some (ib (okSig l), h) := by
  refine bm_eq cF96 ?_
  simp +contextual (maxSteps := 2000000) only [go_sem, Nat.reduceEqDiff, reduceCtorEq, Nat.reduceAdd, Nat.reduceLeDiff, F96, c_validParams _ _ _ hl hn]
section
variable {P : Program} {T : Tb} {L : Lb} {h : H} {Q : PostC} {K : Post}
/-! spec.goodCall -/
def L191_0 : List AStep := [⟨.mov (.c (.bool false)), (some 4), none, []⟩]
theorem v191_0 : wpS P L191_0 T L (rdy h) K = wpS P ([⟨.mov (.c (.bool false)), (some 4), none, []⟩]) T L (rdy h) K := rfl
def L191_1 : List AStep := ⟨.box 51 (.t 0), (some 2), none, []⟩ :: ⟨.box 30 (.t 1), (some 3), none, []⟩ :: L191_0
theorem v191_1 : wpS P L191_1 T L (rdy h) K = wpS P (⟨.box 51 (.t 0), (some 2), none, []⟩ :: ⟨.box 30 (.t 1), (some 3), none, []⟩ :: L191_0) T L (rdy h) K := rfl
def L191_2 : List AStep := [⟨.mov (.t 10), (some 4), none, []⟩]
theorem v191_2 : wpS P L191_2 T L (rdy h) K = wpS P ([⟨.mov (.t 10), (some 4), none, []⟩]) T L (rdy h) K := rfl
def L191_3 : List AStep := ⟨.call 105 [(.t 8)], (some 9), (some (7, true)), []⟩ :: ⟨.pick (.t 7) (.t 9) (.c (.bool false)), (some 10), none, []⟩ :: L191_2
theorem v191_3 : wpS P L191_3 T L (rdy h) K = wpS P (⟨.call 105 [(.t 8)], (some 9), (some (7, true)), []⟩ :: ⟨.pick (.t 7) (.t 9) (.c (.bool false)), (some 10), none, []⟩ :: L191_2) T L (rdy h) K := rfl
def L191_4 : List AStep := ⟨.mov (.t 6), (some 7), none, []⟩ :: ⟨.load 2 true (.t 3), (some 8), (some (7, true)), []⟩ :: L191_3
theorem v191_4 : wpS P L191_4 T L (rdy h) K = wpS P (⟨.mov (.t 6), (some 7), none, []⟩ :: ⟨.load 2 true (.t 3), (some 8), (some (7, true)), []⟩ :: L191_3) T L (rdy h) K := rfl
def L191_5 : List AStep := ⟨.load 1 true (.t 2), (some 5), none, []⟩ :: ⟨.call 96 [(.t 5)], (some 6), none, []⟩ :: L191_4
theorem v191_5 : wpS P L191_5 T L (rdy h) K = wpS P (⟨.load 1 true (.t 2), (some 5), none, []⟩ :: ⟨.call 96 [(.t 5)], (some 6), none, []⟩ :: L191_4) T L (rdy h) K := rfl
def C191_0 : ACode := .seq (.reg L191_5) .ret
theorem u191_0 : wpC P C191_0 T L (rdy h) Q = wpC P (.seq (.reg L191_5) .ret) T L (rdy h) Q := rfl
def C191_1 : ACode := .seq (.reg L191_1) C191_0
theorem u191_1 : wpC P C191_1 T L (rdy h) Q = wpC P (.seq (.reg L191_1) C191_0) T L (rdy h) Q := rfl
def F191 : AFunc := ⟨11, [.tmp 4], C191_1⟩
theorem cF191 : compB Try.prog 191 = some F191 := by kernel_rfl
end
attribute [local go_sem ↓] u191_0 u191_1 v191_0 v191_1 v191_2 v191_3 v191_4 v191_5
theorem c_goodCall (l : List Param) (f : Flat) (qv pv nv : CV) (h : H) (hl : SlQ h (.one qv) l) (hn : smQ l) (hp : SlI h (.one pv) f.pl) (hq : SlP h (.one nv) f.nl) (hf : smF f) : bm Try.prog 191 [.agg [qv], .agg [pv, nv]] h = some (ib (okSig l && okFlat f), h) := by
  refine bm_eq cF191 ?_
  simp +contextual (maxSteps := 2000000) only [go_sem, Nat.reduceEqDiff, reduceCtorEq, Nat.reduceAdd, Nat.reduceLeDiff, F191, c_validSignature _ _ _ hl hn, c_validFlat _ _ _ _ hp hq hf]
  (repeat' (first | refine And.intro ?_ ?_ | intro _)) <;> first | simp_all
end Go.Proofs.Ytnphlonhogcedaa.Am
