/- Contracts of the reference: signatures. -/
import Derived.Test.YtnphlonhogcedaaA1
namespace Go.Proofs.Ytnphlonhogcedaa.Am
open Go
set_option maxRecDepth 100000
set_option maxHeartbeats 4000000
set_option linter.unusedSimpArgs false
set_option linter.unusedVariables false
attribute [local go_sem ↓] bv_t bv_c ev_t ev_c put_same put_ne put_none kill_at pro_at lb_same lb_ne start_zero start_succ wpC_seq wpC_reg wpC_cond wpC_block wpC_skip wpC_exit wpC_ret thenQ_normal thenQ_exit thenQ_ret inBlk_normal inBlk_exit inBlk_ret wpS_nil wpS_step wpS_again wpS_guard wpO_mov wpO_load wpO_faddr wpO_nilCheck wpO_pick wpO_build wpO_bin wpO_eqb wpO_eqst wpO_eqnil wpO_not wpO_conv wpO_bytesStr wpO_iaddr wpO_idxStr wpO_field wpO_extract wpO_len wpO_lenStr wpO_cap wpO_min wpO_slice wpO_sliceStr wpO_alloc wpO_box wpO_store wpO_call wpO_callv wpO_mkfn wpO_buildSlice wpO_mkslice wpO_append wpO_appz proA_nil proA_cons tmpX_nil tmpX_tmp tmpX_cell doneB_normal doneB_ret agK_cons agK_nil pureB_load results_one results_two results_nil resBs_cons resBs_nil resB_tmp resB_cell
attribute [local go_sem] kill_v kill_lp_ne kill_lp_same pro_v pro_lp_same pro_lp_ne av_v av_lp optB_some optX_some valX_eq ldX_lp ldX_v faX_lp faX_v ncX_lp ncX_ptr ncX_fn boxK_one boxK_agg stL_some stK_lp_one stK_lp_agg stK_v_one stK_v_agg proM_v proM_lp callG_mk callVG_mk callvK_fn fnG_mk ptrsA_nil ptrsA_cons callH_some whenA_true whenA_false guardH_tt guardH_ff guardH_tf guardH_ft guardH_undef agV_one agV_agg lenO_sl lenStrO_str notO_bool pickO_bool convO_int eqbO_bool eqnilO_sl extractO_tup capO_sl minO_int loadL_one loadL_all storeL_eq fillA_nil fillA_one fillA_agg nat_ge neg_ge nat_lt neg_lt buildO bin_add bin_sub bin_mul bin_eql bin_neq bin_lss bin_leq bin_gtr bin_geq str_eql str_neq str_lss str_leq str_gtr str_geq retK_some endK_mk gcK_same gcK_int gcK_bool tupO_one tupO_agg rdy_self ib ii Option.map_none Option.map_some Option.some.injEq exists_eq_left' exists_eq_left ne_eq not_false_eq_true if_true if_false List.map_cons List.map_nil List.getElem?_cons_zero List.getElem?_cons_succ List.length_cons List.length_nil List.take_succ_cons List.take_zero List.take_nil List.drop_succ_cons List.drop_zero List.drop_nil List.cons_append List.nil_append List.append_nil List.set_cons_zero List.set_cons_succ Nat.zero_add forall_const true_and and_true and_self Bool.false_eq_true false_implies true_implies implies_true Bool.not_true Bool.not_false Bool.not_eq_true' Bool.not_eq_false' beq_self_eq_true Bool.bne_true Bool.bne_false
attribute [local go_sem] lenI lenS lenP lenQ lenB lenL lenT encI_0 encS_0 encP_0 encP_1 encQ_0 encQ_1 encQ_2 encQ_3 encB_0 encB_1 encL_0 encL_1 encT_0 encT_1
attribute [local go_sem low] whenA_bool guardH_bool
section
variable {P : Program} {T : Tb} {L : Lb} {h : H} {Q : PostC} {K : Post}
/-! spec.validParam -/
def L217_0 : List AStep := [⟨.box 108 (.t 0), (some 1), none, []⟩, ⟨.mov (.c (.bool false)), (some 2), none, []⟩]
theorem v217_0 : wpS P L217_0 T L (rdy h) K = wpS P ([⟨.box 108 (.t 0), (some 1), none, []⟩, ⟨.mov (.c (.bool false)), (some 2), none, []⟩]) T L (rdy h) K := rfl
def L217_1 : List AStep := [⟨.pick (.t 25) (.t 32) (.c (.bool false)), (some 33), none, []⟩, ⟨.mov (.t 33), (some 2), none, []⟩]
theorem v217_1 : wpS P L217_1 T L (rdy h) K = wpS P ([⟨.pick (.t 25) (.t 32) (.c (.bool false)), (some 33), none, []⟩, ⟨.mov (.t 33), (some 2), none, []⟩]) T L (rdy h) K := rfl
def L217_2 : List AStep := ⟨.not (.t 30), (some 31), (some (28, false)), []⟩ :: ⟨.pick (.t 28) (.c (.bool true)) (.t 31), (some 32), (some (25, true)), []⟩ :: L217_1
theorem v217_2 : wpS P L217_2 T L (rdy h) K = wpS P (⟨.not (.t 30), (some 31), (some (28, false)), []⟩ :: ⟨.pick (.t 28) (.c (.bool true)) (.t 31), (some 32), (some (25, true)), []⟩ :: L217_1) T L (rdy h) K := rfl
def L217_3 : List AStep := ⟨.faddr 2 (.t 1), (some 29), (some (28, false)), []⟩ :: ⟨.load 1 false (.t 29), (some 30), (some (28, false)), []⟩ :: L217_2
theorem v217_3 : wpS P L217_3 T L (rdy h) K = wpS P (⟨.faddr 2 (.t 1), (some 29), (some (28, false)), []⟩ :: ⟨.load 1 false (.t 29), (some 30), (some (28, false)), []⟩ :: L217_2) T L (rdy h) K := rfl
def L217_4 : List AStep := ⟨.call 214 [(.t 26)], (some 27), (some (25, true)), []⟩ :: ⟨.mov (.t 27), (some 28), (some (25, true)), []⟩ :: L217_3
theorem v217_4 : wpS P L217_4 T L (rdy h) K = wpS P (⟨.call 214 [(.t 26)], (some 27), (some (25, true)), []⟩ :: ⟨.mov (.t 27), (some 28), (some (25, true)), []⟩ :: L217_3) T L (rdy h) K := rfl
def L217_5 : List AStep := ⟨.mov (.t 24), (some 25), none, []⟩ :: ⟨.load 4 true (.t 1), (some 26), (some (25, true)), []⟩ :: L217_4
theorem v217_5 : wpS P L217_5 T L (rdy h) K = wpS P (⟨.mov (.t 24), (some 25), none, []⟩ :: ⟨.load 4 true (.t 1), (some 26), (some (25, true)), []⟩ :: L217_4) T L (rdy h) K := rfl
def L217_6 : List AStep := ⟨.pick (.t 19) (.c (.bool true)) (.t 22), (some 23), (some (16, true)), []⟩ :: ⟨.pick (.t 16) (.t 23) (.c (.bool false)), (some 24), none, []⟩ :: L217_5
theorem v217_6 : wpS P L217_6 T L (rdy h) K = wpS P (⟨.pick (.t 19) (.c (.bool true)) (.t 22), (some 23), (some (16, true)), []⟩ :: ⟨.pick (.t 16) (.t 23) (.c (.bool false)), (some 24), none, []⟩ :: L217_5) T L (rdy h) K := rfl
def L217_7 : List AStep := ⟨.load 1 false (.t 20), (some 21), (some (19, false)), []⟩ :: ⟨.bin .eql (.t 21) (.c (.int .i64 0)), (some 22), (some (19, false)), []⟩ :: L217_6
theorem v217_7 : wpS P L217_7 T L (rdy h) K = wpS P (⟨.load 1 false (.t 20), (some 21), (some (19, false)), []⟩ :: ⟨.bin .eql (.t 21) (.c (.int .i64 0)), (some 22), (some (19, false)), []⟩ :: L217_6) T L (rdy h) K := rfl
def L217_8 : List AStep := ⟨.mov (.t 18), (some 19), (some (16, true)), []⟩ :: ⟨.faddr 3 (.t 1), (some 20), (some (19, false)), []⟩ :: L217_7
theorem v217_8 : wpS P L217_8 T L (rdy h) K = wpS P (⟨.mov (.t 18), (some 19), (some (16, true)), []⟩ :: ⟨.faddr 3 (.t 1), (some 20), (some (19, false)), []⟩ :: L217_7) T L (rdy h) K := rfl
def L217_9 : List AStep := ⟨.faddr 2 (.t 1), (some 17), (some (16, true)), []⟩ :: ⟨.load 1 false (.t 17), (some 18), (some (16, true)), []⟩ :: L217_8
theorem v217_9 : wpS P L217_9 T L (rdy h) K = wpS P (⟨.faddr 2 (.t 1), (some 17), (some (16, true)), []⟩ :: ⟨.load 1 false (.t 17), (some 18), (some (16, true)), []⟩ :: L217_8) T L (rdy h) K := rfl
def L217_10 : List AStep := ⟨.pick (.t 11) (.t 14) (.c (.bool false)), (some 15), none, []⟩ :: ⟨.mov (.t 15), (some 16), none, []⟩ :: L217_9
theorem v217_10 : wpS P L217_10 T L (rdy h) K = wpS P (⟨.pick (.t 11) (.t 14) (.c (.bool false)), (some 15), none, []⟩ :: ⟨.mov (.t 15), (some 16), none, []⟩ :: L217_9) T L (rdy h) K := rfl
def L217_11 : List AStep := ⟨.load 1 false (.t 12), (some 13), (some (11, true)), []⟩ :: ⟨.call 168 [(.t 13)], (some 14), (some (11, true)), []⟩ :: L217_10
theorem v217_11 : wpS P L217_11 T L (rdy h) K = wpS P (⟨.load 1 false (.t 12), (some 13), (some (11, true)), []⟩ :: ⟨.call 168 [(.t 13)], (some 14), (some (11, true)), []⟩ :: L217_10) T L (rdy h) K := rfl
def L217_12 : List AStep := ⟨.mov (.t 10), (some 11), none, []⟩ :: ⟨.faddr 3 (.t 1), (some 12), (some (11, true)), []⟩ :: L217_11
theorem v217_12 : wpS P L217_12 T L (rdy h) K = wpS P (⟨.mov (.t 10), (some 11), none, []⟩ :: ⟨.faddr 3 (.t 1), (some 12), (some (11, true)), []⟩ :: L217_11) T L (rdy h) K := rfl
def L217_13 : List AStep := ⟨.call 213 [(.t 8), (.c (.int .i64 0)), (.c (.int .i64 4))], (some 9), (some (6, true)), []⟩ :: ⟨.pick (.t 6) (.t 9) (.c (.bool false)), (some 10), none, []⟩ :: L217_12
theorem v217_13 : wpS P L217_13 T L (rdy h) K = wpS P (⟨.call 213 [(.t 8), (.c (.int .i64 0)), (.c (.int .i64 4))], (some 9), (some (6, true)), []⟩ :: ⟨.pick (.t 6) (.t 9) (.c (.bool false)), (some 10), none, []⟩ :: L217_12) T L (rdy h) K := rfl
def L217_14 : List AStep := ⟨.faddr 1 (.t 1), (some 7), (some (6, true)), []⟩ :: ⟨.load 1 false (.t 7), (some 8), (some (6, true)), []⟩ :: L217_13
theorem v217_14 : wpS P L217_14 T L (rdy h) K = wpS P (⟨.faddr 1 (.t 1), (some 7), (some (6, true)), []⟩ :: ⟨.load 1 false (.t 7), (some 8), (some (6, true)), []⟩ :: L217_13) T L (rdy h) K := rfl
def L217_15 : List AStep := ⟨.call 201 [(.t 4)], (some 5), none, []⟩ :: ⟨.mov (.t 5), (some 6), none, []⟩ :: L217_14
theorem v217_15 : wpS P L217_15 T L (rdy h) K = wpS P (⟨.call 201 [(.t 4)], (some 5), none, []⟩ :: ⟨.mov (.t 5), (some 6), none, []⟩ :: L217_14) T L (rdy h) K := rfl
def L217_16 : List AStep := ⟨.faddr 0 (.t 1), (some 3), none, []⟩ :: ⟨.load 1 false (.t 3), (some 4), none, []⟩ :: L217_15
theorem v217_16 : wpS P L217_16 T L (rdy h) K = wpS P (⟨.faddr 0 (.t 1), (some 3), none, []⟩ :: ⟨.load 1 false (.t 3), (some 4), none, []⟩ :: L217_15) T L (rdy h) K := rfl
def C217_0 : ACode := .seq (.reg L217_16) .ret
theorem u217_0 : wpC P C217_0 T L (rdy h) Q = wpC P (.seq (.reg L217_16) .ret) T L (rdy h) Q := rfl
def C217_1 : ACode := .seq (.reg L217_0) C217_0
theorem u217_1 : wpC P C217_1 T L (rdy h) Q = wpC P (.seq (.reg L217_0) C217_0) T L (rdy h) Q := rfl
def F217 : AFunc := ⟨34, [.tmp 2], C217_1⟩
theorem cF217 : compB Try.prog 217 = some F217 := by kernel_rfl
end
attribute [local go_sem ↓] u217_0 u217_1 v217_0 v217_1 v217_2 v217_3 v217_4 v217_5 v217_6 v217_7 v217_8 v217_9 v217_10 v217_11 v217_12 v217_13 v217_14 v217_15 v217_16
theorem c_validParam (p : Param) (h : H) (hn : p.name.size < 2 ^ 62) : bm Try.prog 217 [.agg (encQ p)] h = some (ib (okParam p), h) := by
  refine bm_eq cF217 ?_
  simp +contextual (maxSteps := 2000000) only [go_sem, Nat.reduceEqDiff, reduceCtorEq, Nat.reduceAdd, Nat.reduceLeDiff, F217, c_validName _ _ hn, c_inRange, c_validNumber, c_isSingle, okParam]
  (repeat' (first | refine And.intro ?_ ?_ | intro _)) <;> first | simp_all
section
variable {P : Program} {T : Tb} {L : Lb} {h : H} {Q : PostC} {K : Post}
/-! spec.findParam -/
def L218_0 : List AStep := [⟨.mov (.c (.int .i64 0)), (some 4), none, []⟩]
theorem v218_0 : wpS P L218_0 T L (rdy h) K = wpS P ([⟨.mov (.c (.int .i64 0)), (some 4), none, []⟩]) T L (rdy h) K := rfl
def L218_1 : List AStep := [⟨.mov (.c (.int .i64 0)), (some 5), none, []⟩]
theorem v218_1 : wpS P L218_1 T L (rdy h) K = wpS P ([⟨.mov (.c (.int .i64 0)), (some 5), none, []⟩]) T L (rdy h) K := rfl
def L218_2 : List AStep := [⟨.len (.t 7), (some 8), none, []⟩, ⟨.bin .lss (.t 6) (.t 8), (some 9), none, []⟩]
theorem v218_2 : wpS P L218_2 T L (rdy h) K = wpS P ([⟨.len (.t 7), (some 8), none, []⟩, ⟨.bin .lss (.t 6) (.t 8), (some 9), none, []⟩]) T L (rdy h) K := rfl
def L218_3 : List AStep := ⟨.mov (.t 5), (some 6), none, []⟩ :: ⟨.mov (.t 0), (some 7), none, []⟩ :: L218_2
theorem v218_3 : wpS P L218_3 T L (rdy h) K = wpS P (⟨.mov (.t 5), (some 6), none, []⟩ :: ⟨.mov (.t 0), (some 7), none, []⟩ :: L218_2) T L (rdy h) K := rfl
def L218_4 : List AStep := [⟨.bin .eql (.t 16) (.t 17), (some 18), none, []⟩]
theorem v218_4 : wpS P L218_4 T L (rdy h) K = wpS P ([⟨.bin .eql (.t 16) (.t 17), (some 18), none, []⟩]) T L (rdy h) K := rfl
def L218_5 : List AStep := ⟨.load 1 false (.t 15), (some 16), none, []⟩ :: ⟨.mov (.t 1), (some 17), none, []⟩ :: L218_4
theorem v218_5 : wpS P L218_5 T L (rdy h) K = wpS P (⟨.load 1 false (.t 15), (some 16), none, []⟩ :: ⟨.mov (.t 1), (some 17), none, []⟩ :: L218_4) T L (rdy h) K := rfl
def L218_6 : List AStep := ⟨.iaddr 4 (.t 12) (.t 13), (some 14), none, []⟩ :: ⟨.faddr 0 (.t 14), (some 15), none, []⟩ :: L218_5
theorem v218_6 : wpS P L218_6 T L (rdy h) K = wpS P (⟨.iaddr 4 (.t 12) (.t 13), (some 14), none, []⟩ :: ⟨.faddr 0 (.t 14), (some 15), none, []⟩ :: L218_5) T L (rdy h) K := rfl
def L218_7 : List AStep := ⟨.mov (.t 0), (some 12), none, []⟩ :: ⟨.mov (.t 5), (some 13), none, []⟩ :: L218_6
theorem v218_7 : wpS P L218_7 T L (rdy h) K = wpS P (⟨.mov (.t 0), (some 12), none, []⟩ :: ⟨.mov (.t 5), (some 13), none, []⟩ :: L218_6) T L (rdy h) K := rfl
def L218_8 : List AStep := [⟨.mov (.t 5), (some 19), none, []⟩, ⟨.mov (.t 19), (some 4), none, []⟩]
theorem v218_8 : wpS P L218_8 T L (rdy h) K = wpS P ([⟨.mov (.t 5), (some 19), none, []⟩, ⟨.mov (.t 19), (some 4), none, []⟩]) T L (rdy h) K := rfl
def L218_9 : List AStep := [⟨.mov (.t 11), (some 5), none, []⟩]
theorem v218_9 : wpS P L218_9 T L (rdy h) K = wpS P ([⟨.mov (.t 11), (some 5), none, []⟩]) T L (rdy h) K := rfl
def L218_10 : List AStep := ⟨.mov (.t 5), (some 10), none, []⟩ :: ⟨.bin .add (.t 10) (.c (.int .i64 1)), (some 11), none, []⟩ :: L218_9
theorem v218_10 : wpS P L218_10 T L (rdy h) K = wpS P (⟨.mov (.t 5), (some 10), none, []⟩ :: ⟨.bin .add (.t 10) (.c (.int .i64 1)), (some 11), none, []⟩ :: L218_9) T L (rdy h) K := rfl
def L218_11 : List AStep := [⟨.mov (.c (.int .i64 (-1))), (some 4), none, []⟩]
theorem v218_11 : wpS P L218_11 T L (rdy h) K = wpS P ([⟨.mov (.c (.int .i64 (-1))), (some 4), none, []⟩]) T L (rdy h) K := rfl
def C218_0 : ACode := .cond (.t 9) .skip (.exit 0)
theorem u218_0 : wpC P C218_0 T L (rdy h) Q = wpC P (.cond (.t 9) .skip (.exit 0)) T L (rdy h) Q := rfl
def C218_1 : ACode := .seq (.reg L218_3) C218_0
theorem u218_1 : wpC P C218_1 T L (rdy h) Q = wpC P (.seq (.reg L218_3) C218_0) T L (rdy h) Q := rfl
def C218_2 : ACode := .seq (.reg L218_8) .ret
theorem u218_2 : wpC P C218_2 T L (rdy h) Q = wpC P (.seq (.reg L218_8) .ret) T L (rdy h) Q := rfl
def C218_3 : ACode := .cond (.t 18) C218_2 .skip
theorem u218_3 : wpC P C218_3 T L (rdy h) Q = wpC P (.cond (.t 18) C218_2 .skip) T L (rdy h) Q := rfl
def C218_4 : ACode := .seq (.reg L218_7) C218_3
theorem u218_4 : wpC P C218_4 T L (rdy h) Q = wpC P (.seq (.reg L218_7) C218_3) T L (rdy h) Q := rfl
def C218_5 : ACode := .block 1 C218_4
theorem u218_5 : wpC P C218_5 T L (rdy h) Q = wpC P (.block 1 C218_4) T L (rdy h) Q := rfl
def C218_6 : ACode := .seq C218_5 (.reg L218_10)
theorem u218_6 : wpC P C218_6 T L (rdy h) Q = wpC P (.seq C218_5 (.reg L218_10)) T L (rdy h) Q := rfl
def C218_7 : ACode := .seq C218_1 C218_6
theorem u218_7 : wpC P C218_7 T L (rdy h) Q = wpC P (.seq C218_1 C218_6) T L (rdy h) Q := rfl
def C218_8 : ACode := .block 0 (.loop C218_7)
theorem u218_8 : wpC P C218_8 T L (rdy h) Q = wpC P (.block 0 (.loop C218_7)) T L (rdy h) Q := rfl
def C218_9 : ACode := .seq (.reg L218_1) C218_8
theorem u218_9 : wpC P C218_9 T L (rdy h) Q = wpC P (.seq (.reg L218_1) C218_8) T L (rdy h) Q := rfl
def C218_10 : ACode := .seq (.reg L218_11) .ret
theorem u218_10 : wpC P C218_10 T L (rdy h) Q = wpC P (.seq (.reg L218_11) .ret) T L (rdy h) Q := rfl
def C218_11 : ACode := .seq C218_9 C218_10
theorem u218_11 : wpC P C218_11 T L (rdy h) Q = wpC P (.seq C218_9 C218_10) T L (rdy h) Q := rfl
def C218_12 : ACode := .seq (.reg L218_0) C218_11
theorem u218_12 : wpC P C218_12 T L (rdy h) Q = wpC P (.seq (.reg L218_0) C218_11) T L (rdy h) Q := rfl
def F218 : AFunc := ⟨20, [.tmp 4], C218_12⟩
theorem cF218 : compB Try.prog 218 = some F218 := by kernel_rfl
end
attribute [local go_sem ↓] u218_0 u218_1 u218_2 u218_3 u218_4 u218_5 u218_6 u218_7 u218_8 u218_9 u218_10 u218_11 u218_12 v218_0 v218_1 v218_2 v218_3 v218_4 v218_5 v218_6 v218_7 v218_8 v218_9 v218_10 v218_11
theorem c_findParam (l : List Param) (v : AV) (s : ByteArray) (h : H) (hl : SlQ h v l) (hn : smQ l) : bm Try.prog 218 [v, .one (.str s)] h = some (ii (paramAt l s), h) := by
  refine bm_eq cF218 ?_
  simp +contextual (maxSteps := 2000000) only [go_sem, Nat.reduceEqDiff, reduceCtorEq, Nat.reduceAdd, Nat.reduceLeDiff, F218]
  refine wpC_loop (fun i T L h' => h' = h ∧ T 0 = .v v ∧ T 1 = .v (.one (.str s)) ∧ T 5 = .v (.one (.int .i64 i)) ∧ Pre (fun p => decide (p.name = s)) false l i) l.length ?_ ?_ (Nat.zero_le _) ?_
  · rintro i T L h' hi ⟨rfl, h0, h1, h3, hp⟩
    simp +contextual (maxSteps := 2000000) only [go_sem, Nat.reduceEqDiff, reduceCtorEq, Nat.reduceAdd, Nat.reduceLeDiff, h0, h1, h3, hl.len, hl.iaddr hi, hl.fieldO hi, lt_true hi]
    (repeat' (first | refine And.intro ?_ ?_ | intro _)) <;> first | rfl | rw [wrap_next hi hn.len] | exact hp.next hi ‹_› | rw [paramAt, idx_hit hi hp ‹_›]
  · rintro T L h' ⟨rfl, h0, h1, h3, hp⟩
    simp +contextual (maxSteps := 2000000) only [go_sem, Nat.reduceEqDiff, reduceCtorEq, Nat.reduceAdd, Nat.reduceLeDiff, h0, h1, h3, hl.len, lt_false, paramAt, idx_none hp]
  · simp +contextual (maxSteps := 2000000) only [go_sem, Nat.reduceEqDiff, reduceCtorEq, Nat.reduceAdd, Nat.reduceLeDiff]
    (repeat' (first | refine And.intro ?_ ?_ | intro _)) <;> first | rfl | exact Pre.zero
section
variable {P : Program} {T : Tb} {L : Lb} {h : H} {Q : PostC} {K : Post}
/-! spec.validParams -/
def L176_0 : List AStep := [⟨.mov (.c (.bool false)), (some 2), none, []⟩]
theorem v176_0 : wpS P L176_0 T L (rdy h) K = wpS P ([⟨.mov (.c (.bool false)), (some 2), none, []⟩]) T L (rdy h) K := rfl
def L176_1 : List AStep := [⟨.mov (.c (.int .i64 0)), (some 3), none, []⟩]
theorem v176_1 : wpS P L176_1 T L (rdy h) K = wpS P ([⟨.mov (.c (.int .i64 0)), (some 3), none, []⟩]) T L (rdy h) K := rfl
def L176_2 : List AStep := [⟨.len (.t 7), (some 8), none, []⟩, ⟨.bin .lss (.t 6) (.t 8), (some 9), none, []⟩]
theorem v176_2 : wpS P L176_2 T L (rdy h) K = wpS P ([⟨.len (.t 7), (some 8), none, []⟩, ⟨.bin .lss (.t 6) (.t 8), (some 9), none, []⟩]) T L (rdy h) K := rfl
def L176_3 : List AStep := ⟨.mov (.t 3), (some 6), none, []⟩ :: ⟨.mov (.t 0), (some 7), none, []⟩ :: L176_2
theorem v176_3 : wpS P L176_3 T L (rdy h) K = wpS P (⟨.mov (.t 3), (some 6), none, []⟩ :: ⟨.mov (.t 0), (some 7), none, []⟩ :: L176_2) T L (rdy h) K := rfl
def L176_4 : List AStep := [⟨.alloc 108 [(.str (strOfNums [])), (.int .i64 0), (.bool false), (.int .i64 0)], (some 4), none, []⟩, ⟨.store 4 (.t 4) (.t 15), none, none, []⟩]
theorem v176_4 : wpS P L176_4 T L (rdy h) K = wpS P ([⟨.alloc 108 [(.str (strOfNums [])), (.int .i64 0), (.bool false), (.int .i64 0)], (some 4), none, []⟩, ⟨.store 4 (.t 4) (.t 15), none, none, []⟩]) T L (rdy h) K := rfl
def L176_5 : List AStep := ⟨.iaddr 4 (.t 12) (.t 13), (some 14), none, []⟩ :: ⟨.load 4 true (.t 14), (some 15), none, []⟩ :: L176_4
theorem v176_5 : wpS P L176_5 T L (rdy h) K = wpS P (⟨.iaddr 4 (.t 12) (.t 13), (some 14), none, []⟩ :: ⟨.load 4 true (.t 14), (some 15), none, []⟩ :: L176_4) T L (rdy h) K := rfl
def L176_6 : List AStep := ⟨.mov (.t 0), (some 12), none, []⟩ :: ⟨.mov (.t 3), (some 13), none, []⟩ :: L176_5
theorem v176_6 : wpS P L176_6 T L (rdy h) K = wpS P (⟨.mov (.t 0), (some 12), none, []⟩ :: ⟨.mov (.t 3), (some 13), none, []⟩ :: L176_5) T L (rdy h) K := rfl
def L176_7 : List AStep := [⟨.bin .geq (.t 25) (.c (.int .i64 0)), (some 26), (some (19, false)), []⟩, ⟨.pick (.t 19) (.c (.bool true)) (.t 26), (some 27), none, []⟩]
theorem v176_7 : wpS P L176_7 T L (rdy h) K = wpS P ([⟨.bin .geq (.t 25) (.c (.int .i64 0)), (some 26), (some (19, false)), []⟩, ⟨.pick (.t 19) (.c (.bool true)) (.t 26), (some 27), none, []⟩]) T L (rdy h) K := rfl
def L176_8 : List AStep := ⟨.load 1 false (.t 23), (some 24), (some (19, false)), []⟩ :: ⟨.call 218 [(.t 22), (.t 24)], (some 25), (some (19, false)), []⟩ :: L176_7
theorem v176_8 : wpS P L176_8 T L (rdy h) K = wpS P (⟨.load 1 false (.t 23), (some 24), (some (19, false)), []⟩ :: ⟨.call 218 [(.t 22), (.t 24)], (some 25), (some (19, false)), []⟩ :: L176_7) T L (rdy h) K := rfl
def L176_9 : List AStep := ⟨.slice 108 4 (.t 20) none (some (.t 21)) none, (some 22), (some (19, false)), []⟩ :: ⟨.faddr 0 (.t 4), (some 23), (some (19, false)), []⟩ :: L176_8
theorem v176_9 : wpS P L176_9 T L (rdy h) K = wpS P (⟨.slice 108 4 (.t 20) none (some (.t 21)) none, (some 22), (some (19, false)), []⟩ :: ⟨.faddr 0 (.t 4), (some 23), (some (19, false)), []⟩ :: L176_8) T L (rdy h) K := rfl
def L176_10 : List AStep := ⟨.mov (.t 0), (some 20), (some (19, false)), []⟩ :: ⟨.mov (.t 3), (some 21), (some (19, false)), []⟩ :: L176_9
theorem v176_10 : wpS P L176_10 T L (rdy h) K = wpS P (⟨.mov (.t 0), (some 20), (some (19, false)), []⟩ :: ⟨.mov (.t 3), (some 21), (some (19, false)), []⟩ :: L176_9) T L (rdy h) K := rfl
def L176_11 : List AStep := ⟨.not (.t 17), (some 18), none, []⟩ :: ⟨.mov (.t 18), (some 19), none, []⟩ :: L176_10
theorem v176_11 : wpS P L176_11 T L (rdy h) K = wpS P (⟨.not (.t 17), (some 18), none, []⟩ :: ⟨.mov (.t 18), (some 19), none, []⟩ :: L176_10) T L (rdy h) K := rfl
def L176_12 : List AStep := ⟨.load 4 true (.t 4), (some 16), none, []⟩ :: ⟨.call 217 [(.t 16)], (some 17), none, []⟩ :: L176_11
theorem v176_12 : wpS P L176_12 T L (rdy h) K = wpS P (⟨.load 4 true (.t 4), (some 16), none, []⟩ :: ⟨.call 217 [(.t 16)], (some 17), none, []⟩ :: L176_11) T L (rdy h) K := rfl
def L176_13 : List AStep := [⟨.mov (.c (.bool false)), (some 2), none, []⟩]
theorem v176_13 : wpS P L176_13 T L (rdy h) K = wpS P ([⟨.mov (.c (.bool false)), (some 2), none, []⟩]) T L (rdy h) K := rfl
def L176_14 : List AStep := [⟨.mov (.t 3), (some 28), none, []⟩, ⟨.bin .eql (.t 28) (.c (.int .i64 0)), (some 29), none, []⟩]
theorem v176_14 : wpS P L176_14 T L (rdy h) K = wpS P ([⟨.mov (.t 3), (some 28), none, []⟩, ⟨.bin .eql (.t 28) (.c (.int .i64 0)), (some 29), none, []⟩]) T L (rdy h) K := rfl
def L176_15 : List AStep := [⟨.store 4 (.t 5) (.t 34), none, none, []⟩]
theorem v176_15 : wpS P L176_15 T L (rdy h) K = wpS P ([⟨.store 4 (.t 5) (.t 34), none, none, []⟩]) T L (rdy h) K := rfl
def L176_16 : List AStep := ⟨.load 4 true (.t 33), (some 34), none, []⟩ :: ⟨.alloc 108 [(.str (strOfNums [])), (.int .i64 0), (.bool false), (.int .i64 0)], (some 5), none, []⟩ :: L176_15
theorem v176_16 : wpS P L176_16 T L (rdy h) K = wpS P (⟨.load 4 true (.t 33), (some 34), none, []⟩ :: ⟨.alloc 108 [(.str (strOfNums [])), (.int .i64 0), (.bool false), (.int .i64 0)], (some 5), none, []⟩ :: L176_15) T L (rdy h) K := rfl
def L176_17 : List AStep := ⟨.bin .sub (.t 31) (.c (.int .i64 1)), (some 32), none, []⟩ :: ⟨.iaddr 4 (.t 30) (.t 32), (some 33), none, []⟩ :: L176_16
theorem v176_17 : wpS P L176_17 T L (rdy h) K = wpS P (⟨.bin .sub (.t 31) (.c (.int .i64 1)), (some 32), none, []⟩ :: ⟨.iaddr 4 (.t 30) (.t 32), (some 33), none, []⟩ :: L176_16) T L (rdy h) K := rfl
def L176_18 : List AStep := ⟨.mov (.t 0), (some 30), none, []⟩ :: ⟨.mov (.t 3), (some 31), none, []⟩ :: L176_17
theorem v176_18 : wpS P L176_18 T L (rdy h) K = wpS P (⟨.mov (.t 0), (some 30), none, []⟩ :: ⟨.mov (.t 3), (some 31), none, []⟩ :: L176_17) T L (rdy h) K := rfl
def L176_19 : List AStep := [⟨.pick (.t 59) (.t 62) (.c (.bool false)), (some 63), (some (52, false)), []⟩, ⟨.pick (.t 52) (.c (.bool true)) (.t 63), (some 64), none, []⟩]
theorem v176_19 : wpS P L176_19 T L (rdy h) K = wpS P ([⟨.pick (.t 59) (.t 62) (.c (.bool false)), (some 63), (some (52, false)), []⟩, ⟨.pick (.t 52) (.c (.bool true)) (.t 63), (some 64), none, []⟩]) T L (rdy h) K := rfl
def L176_20 : List AStep := ⟨.load 1 false (.t 60), (some 61), (some (59, true)), []⟩ :: ⟨.not (.t 61), (some 62), (some (59, true)), []⟩ :: L176_19
theorem v176_20 : wpS P L176_20 T L (rdy h) K = wpS P (⟨.load 1 false (.t 60), (some 61), (some (59, true)), []⟩ :: ⟨.not (.t 61), (some 62), (some (59, true)), []⟩ :: L176_19) T L (rdy h) K := rfl
def L176_21 : List AStep := ⟨.mov (.t 58), (some 59), (some (52, false)), []⟩ :: ⟨.faddr 2 (.t 4), (some 60), (some (59, true)), []⟩ :: L176_20
theorem v176_21 : wpS P L176_21 T L (rdy h) K = wpS P (⟨.mov (.t 58), (some 59), (some (52, false)), []⟩ :: ⟨.faddr 2 (.t 4), (some 60), (some (59, true)), []⟩ :: L176_20) T L (rdy h) K := rfl
def L176_22 : List AStep := ⟨.load 1 false (.t 56), (some 57), (some (55, true)), []⟩ :: ⟨.pick (.t 55) (.t 57) (.c (.bool false)), (some 58), (some (52, false)), []⟩ :: L176_21
theorem v176_22 : wpS P L176_22 T L (rdy h) K = wpS P (⟨.load 1 false (.t 56), (some 57), (some (55, true)), []⟩ :: ⟨.pick (.t 55) (.t 57) (.c (.bool false)), (some 58), (some (52, false)), []⟩ :: L176_21) T L (rdy h) K := rfl
def L176_23 : List AStep := ⟨.mov (.t 54), (some 55), (some (52, false)), []⟩ :: ⟨.faddr 2 (.t 5), (some 56), (some (55, true)), []⟩ :: L176_22
theorem v176_23 : wpS P L176_23 T L (rdy h) K = wpS P (⟨.mov (.t 54), (some 55), (some (52, false)), []⟩ :: ⟨.faddr 2 (.t 5), (some 56), (some (55, true)), []⟩ :: L176_22) T L (rdy h) K := rfl
def L176_24 : List AStep := ⟨.load 4 true (.t 4), (some 53), (some (52, false)), []⟩ :: ⟨.call 177 [(.t 53)], (some 54), (some (52, false)), []⟩ :: L176_23
theorem v176_24 : wpS P L176_24 T L (rdy h) K = wpS P (⟨.load 4 true (.t 4), (some 53), (some (52, false)), []⟩ :: ⟨.call 177 [(.t 53)], (some 54), (some (52, false)), []⟩ :: L176_23) T L (rdy h) K := rfl
def L176_25 : List AStep := ⟨.pick (.t 40) (.c (.bool true)) (.t 50), (some 51), none, []⟩ :: ⟨.mov (.t 51), (some 52), none, []⟩ :: L176_24
theorem v176_25 : wpS P L176_25 T L (rdy h) K = wpS P (⟨.pick (.t 40) (.c (.bool true)) (.t 50), (some 51), none, []⟩ :: ⟨.mov (.t 51), (some 52), none, []⟩ :: L176_24) T L (rdy h) K := rfl
def L176_26 : List AStep := ⟨.not (.t 48), (some 49), (some (46, true)), []⟩ :: ⟨.pick (.t 46) (.t 49) (.c (.bool false)), (some 50), (some (40, false)), []⟩ :: L176_25
theorem v176_26 : wpS P L176_26 T L (rdy h) K = wpS P (⟨.not (.t 48), (some 49), (some (46, true)), []⟩ :: ⟨.pick (.t 46) (.t 49) (.c (.bool false)), (some 50), (some (40, false)), []⟩ :: L176_25) T L (rdy h) K := rfl
def L176_27 : List AStep := ⟨.load 4 true (.t 4), (some 47), (some (46, true)), []⟩ :: ⟨.call 214 [(.t 47)], (some 48), (some (46, true)), []⟩ :: L176_26
theorem v176_27 : wpS P L176_27 T L (rdy h) K = wpS P (⟨.load 4 true (.t 4), (some 47), (some (46, true)), []⟩ :: ⟨.call 214 [(.t 47)], (some 48), (some (46, true)), []⟩ :: L176_26) T L (rdy h) K := rfl
def L176_28 : List AStep := ⟨.bin .eql (.t 42) (.t 44), (some 45), (some (40, false)), []⟩ :: ⟨.mov (.t 45), (some 46), (some (40, false)), []⟩ :: L176_27
theorem v176_28 : wpS P L176_28 T L (rdy h) K = wpS P (⟨.bin .eql (.t 42) (.t 44), (some 45), (some (40, false)), []⟩ :: ⟨.mov (.t 45), (some 46), (some (40, false)), []⟩ :: L176_27) T L (rdy h) K := rfl
def L176_29 : List AStep := ⟨.faddr 1 (.t 5), (some 43), (some (40, false)), []⟩ :: ⟨.load 1 false (.t 43), (some 44), (some (40, false)), []⟩ :: L176_28
theorem v176_29 : wpS P L176_29 T L (rdy h) K = wpS P (⟨.faddr 1 (.t 5), (some 43), (some (40, false)), []⟩ :: ⟨.load 1 false (.t 43), (some 44), (some (40, false)), []⟩ :: L176_28) T L (rdy h) K := rfl
def L176_30 : List AStep := ⟨.faddr 1 (.t 4), (some 41), (some (40, false)), []⟩ :: ⟨.load 1 false (.t 41), (some 42), (some (40, false)), []⟩ :: L176_29
theorem v176_30 : wpS P L176_30 T L (rdy h) K = wpS P (⟨.faddr 1 (.t 4), (some 41), (some (40, false)), []⟩ :: ⟨.load 1 false (.t 41), (some 42), (some (40, false)), []⟩ :: L176_29) T L (rdy h) K := rfl
def L176_31 : List AStep := ⟨.bin .lss (.t 36) (.t 38), (some 39), none, []⟩ :: ⟨.mov (.t 39), (some 40), none, []⟩ :: L176_30
theorem v176_31 : wpS P L176_31 T L (rdy h) K = wpS P (⟨.bin .lss (.t 36) (.t 38), (some 39), none, []⟩ :: ⟨.mov (.t 39), (some 40), none, []⟩ :: L176_30) T L (rdy h) K := rfl
def L176_32 : List AStep := ⟨.faddr 1 (.t 5), (some 37), none, []⟩ :: ⟨.load 1 false (.t 37), (some 38), none, []⟩ :: L176_31
theorem v176_32 : wpS P L176_32 T L (rdy h) K = wpS P (⟨.faddr 1 (.t 5), (some 37), none, []⟩ :: ⟨.load 1 false (.t 37), (some 38), none, []⟩ :: L176_31) T L (rdy h) K := rfl
def L176_33 : List AStep := ⟨.faddr 1 (.t 4), (some 35), none, []⟩ :: ⟨.load 1 false (.t 35), (some 36), none, []⟩ :: L176_32
theorem v176_33 : wpS P L176_33 T L (rdy h) K = wpS P (⟨.faddr 1 (.t 4), (some 35), none, []⟩ :: ⟨.load 1 false (.t 35), (some 36), none, []⟩ :: L176_32) T L (rdy h) K := rfl
def L176_34 : List AStep := [⟨.mov (.c (.bool false)), (some 2), none, []⟩]
theorem v176_34 : wpS P L176_34 T L (rdy h) K = wpS P ([⟨.mov (.c (.bool false)), (some 2), none, []⟩]) T L (rdy h) K := rfl
def L176_35 : List AStep := [⟨.mov (.t 11), (some 3), none, []⟩]
theorem v176_35 : wpS P L176_35 T L (rdy h) K = wpS P ([⟨.mov (.t 11), (some 3), none, []⟩]) T L (rdy h) K := rfl
def L176_36 : List AStep := ⟨.mov (.t 3), (some 10), none, []⟩ :: ⟨.bin .add (.t 10) (.c (.int .i64 1)), (some 11), none, []⟩ :: L176_35
theorem v176_36 : wpS P L176_36 T L (rdy h) K = wpS P (⟨.mov (.t 3), (some 10), none, []⟩ :: ⟨.bin .add (.t 10) (.c (.int .i64 1)), (some 11), none, []⟩ :: L176_35) T L (rdy h) K := rfl
def L176_37 : List AStep := [⟨.bin .leq (.t 66) (.c (.int .i64 8)), (some 67), none, []⟩, ⟨.mov (.t 67), (some 2), none, []⟩]
theorem v176_37 : wpS P L176_37 T L (rdy h) K = wpS P ([⟨.bin .leq (.t 66) (.c (.int .i64 8)), (some 67), none, []⟩, ⟨.mov (.t 67), (some 2), none, []⟩]) T L (rdy h) K := rfl
def L176_38 : List AStep := ⟨.mov (.t 0), (some 65), none, []⟩ :: ⟨.len (.t 65), (some 66), none, []⟩ :: L176_37
theorem v176_38 : wpS P L176_38 T L (rdy h) K = wpS P (⟨.mov (.t 0), (some 65), none, []⟩ :: ⟨.len (.t 65), (some 66), none, []⟩ :: L176_37) T L (rdy h) K := rfl
def C176_0 : ACode := .cond (.t 9) .skip (.exit 0)
theorem u176_0 : wpC P C176_0 T L (rdy h) Q = wpC P (.cond (.t 9) .skip (.exit 0)) T L (rdy h) Q := rfl
def C176_1 : ACode := .seq (.reg L176_3) C176_0
theorem u176_1 : wpC P C176_1 T L (rdy h) Q = wpC P (.seq (.reg L176_3) C176_0) T L (rdy h) Q := rfl
def C176_2 : ACode := .seq (.reg L176_13) .ret
theorem u176_2 : wpC P C176_2 T L (rdy h) Q = wpC P (.seq (.reg L176_13) .ret) T L (rdy h) Q := rfl
def C176_3 : ACode := .cond (.t 27) C176_2 .skip
theorem u176_3 : wpC P C176_3 T L (rdy h) Q = wpC P (.cond (.t 27) C176_2 .skip) T L (rdy h) Q := rfl
def C176_4 : ACode := .seq (.reg L176_12) C176_3
theorem u176_4 : wpC P C176_4 T L (rdy h) Q = wpC P (.seq (.reg L176_12) C176_3) T L (rdy h) Q := rfl
def C176_5 : ACode := .cond (.t 29) (.exit 1) .skip
theorem u176_5 : wpC P C176_5 T L (rdy h) Q = wpC P (.cond (.t 29) (.exit 1) .skip) T L (rdy h) Q := rfl
def C176_6 : ACode := .seq (.reg L176_14) C176_5
theorem u176_6 : wpC P C176_6 T L (rdy h) Q = wpC P (.seq (.reg L176_14) C176_5) T L (rdy h) Q := rfl
def C176_7 : ACode := .seq (.reg L176_34) .ret
theorem u176_7 : wpC P C176_7 T L (rdy h) Q = wpC P (.seq (.reg L176_34) .ret) T L (rdy h) Q := rfl
def C176_8 : ACode := .cond (.t 64) C176_7 .skip
theorem u176_8 : wpC P C176_8 T L (rdy h) Q = wpC P (.cond (.t 64) C176_7 .skip) T L (rdy h) Q := rfl
def C176_9 : ACode := .seq (.reg L176_33) C176_8
theorem u176_9 : wpC P C176_9 T L (rdy h) Q = wpC P (.seq (.reg L176_33) C176_8) T L (rdy h) Q := rfl
def C176_10 : ACode := .seq (.reg L176_18) C176_9
theorem u176_10 : wpC P C176_10 T L (rdy h) Q = wpC P (.seq (.reg L176_18) C176_9) T L (rdy h) Q := rfl
def C176_11 : ACode := .seq C176_6 C176_10
theorem u176_11 : wpC P C176_11 T L (rdy h) Q = wpC P (.seq C176_6 C176_10) T L (rdy h) Q := rfl
def C176_12 : ACode := .seq C176_4 C176_11
theorem u176_12 : wpC P C176_12 T L (rdy h) Q = wpC P (.seq C176_4 C176_11) T L (rdy h) Q := rfl
def C176_13 : ACode := .seq (.reg L176_6) C176_12
theorem u176_13 : wpC P C176_13 T L (rdy h) Q = wpC P (.seq (.reg L176_6) C176_12) T L (rdy h) Q := rfl
def C176_14 : ACode := .block 1 C176_13
theorem u176_14 : wpC P C176_14 T L (rdy h) Q = wpC P (.block 1 C176_13) T L (rdy h) Q := rfl
def C176_15 : ACode := .seq C176_14 (.reg L176_36)
theorem u176_15 : wpC P C176_15 T L (rdy h) Q = wpC P (.seq C176_14 (.reg L176_36)) T L (rdy h) Q := rfl
def C176_16 : ACode := .seq C176_1 C176_15
theorem u176_16 : wpC P C176_16 T L (rdy h) Q = wpC P (.seq C176_1 C176_15) T L (rdy h) Q := rfl
def C176_17 : ACode := .block 0 (.loop C176_16)
theorem u176_17 : wpC P C176_17 T L (rdy h) Q = wpC P (.block 0 (.loop C176_16)) T L (rdy h) Q := rfl
def C176_18 : ACode := .seq (.reg L176_1) C176_17
theorem u176_18 : wpC P C176_18 T L (rdy h) Q = wpC P (.seq (.reg L176_1) C176_17) T L (rdy h) Q := rfl
def C176_19 : ACode := .seq (.reg L176_38) .ret
theorem u176_19 : wpC P C176_19 T L (rdy h) Q = wpC P (.seq (.reg L176_38) .ret) T L (rdy h) Q := rfl
def C176_20 : ACode := .seq C176_18 C176_19
theorem u176_20 : wpC P C176_20 T L (rdy h) Q = wpC P (.seq C176_18 C176_19) T L (rdy h) Q := rfl
def C176_21 : ACode := .seq (.reg L176_0) C176_20
theorem u176_21 : wpC P C176_21 T L (rdy h) Q = wpC P (.seq (.reg L176_0) C176_20) T L (rdy h) Q := rfl
def F176 : AFunc := ⟨68, [.tmp 2], C176_21⟩
theorem cF176 : compB Try.prog 176 = some F176 := by kernel_rfl
end
attribute [local go_sem ↓] u176_0 u176_1 u176_2 u176_3 u176_4 u176_5 u176_6 u176_7 u176_8 u176_9 u176_10 u176_11 u176_12 u176_13 u176_14 u176_15 u176_16 u176_17 u176_18 u176_19 u176_20 u176_21 v176_0 v176_1 v176_2 v176_3 v176_4 v176_5 v176_6 v176_7 v176_8 v176_9 v176_10 v176_11 v176_12 v176_13 v176_14 v176_15 v176_16 v176_17 v176_18 v176_19 v176_20 v176_21 v176_22 v176_23 v176_24 v176_25 v176_26 v176_27 v176_28 v176_29 v176_30 v176_31 v176_32 v176_33 v176_34 v176_35 v176_36 v176_37 v176_38
theorem c_validParams (l : List Param) (v : AV) (h : H) (hl : SlQ h v l) (hn : smQ l) : bm Try.prog 176 [v] h = some (ib (okSig l), h) := by
  refine bm_eq cF176 ?_
  simp +contextual (maxSteps := 2000000) only [go_sem, Nat.reduceEqDiff, reduceCtorEq, Nat.reduceAdd, Nat.reduceLeDiff, F176]
  refine wpC_loop (fun i T L h' => h' = h ∧ T 0 = .v v ∧ T 3 = .v (.one (.int .i64 i)) ∧ Upto (stepAt l) i) l.length ?_ ?_ (Nat.zero_le _) ?_
  · rintro i T L h' hi ⟨rfl, t0, t3, hu⟩
    obtain ⟨v', e1, s1⟩ := hl.takeO (i := i) (by omega) (kd := .i64)
    have e2 : decide (paramAt (l.take i) l[i].name ≥ 0) = !(newAt Param.name l i) := newAt_ge hi
    cases i with
    | zero =>
      have e3 := stepAt_zero hi
      simp only [List.take_zero] at e1 e2 s1
      have e4 : decide (((0 : Nat) : Int) = 0) = true := rfl
      simp +contextual (maxSteps := 2000000) only [go_sem, Nat.reduceEqDiff, reduceCtorEq, Nat.reduceAdd, Nat.reduceLeDiff, e4, List.take_zero, t0, t3, hl.len, hl.iaddr hi, hl.whole hi, lt_true hi, e1, e2, c_findParam _ _ _ _ s1 (hn.take 0), c_validParam _ _ (hn.at hi)]
      (repeat' (first | refine And.intro ?_ ?_ | intro _)) <;> first | rfl | rw [wrap_next hi hn.len] | exact hu.next (by rw [e3]; simp_all) | (rw [okSig_not hi (by rw [e3]; simp_all)]) | simp_all
    | succ j =>
      have e3 := stepAt_succ hi
      have hj : j < l.length := by omega
      have e4 : decide (((j + 1 : Nat) : Int) = 0) = false := decide_eq_false (by omega)
      simp +contextual (maxSteps := 2000000) only [go_sem, Nat.reduceEqDiff, reduceCtorEq, Nat.reduceAdd, Nat.reduceLeDiff, e4, t0, t3, hl.len, hl.iaddr hi, hl.whole hi, lt_true hi, e1, e2, c_findParam _ _ _ _ s1 (hn.take _), c_validParam _ _ (hn.at hi), wrap_pred (show j < 2 ^ 62 from Nat.lt_trans (Nat.lt_succ_self j) (Nat.lt_trans hi hn.len)), hl.iaddr hj, hl.whole hj, c_isSingle, c_byPlace]
      (repeat' (first | refine And.intro ?_ ?_ | intro _)) <;> first | rfl | rw [wrap_next hi hn.len] | exact hu.next (by rw [e3]; simp_all [follows]) | (rw [okSig_not hi (by rw [e3]; simp_all [follows])]) | simp_all
  · rintro T L h' ⟨rfl, t0, t3, hu⟩
    simp +contextual (maxSteps := 2000000) only [go_sem, Nat.reduceEqDiff, reduceCtorEq, Nat.reduceAdd, Nat.reduceLeDiff, t0, t3, hl.len, lt_false, okSig_of hu]
  · simp +contextual (maxSteps := 2000000) only [go_sem, Nat.reduceEqDiff, reduceCtorEq, Nat.reduceAdd, Nat.reduceLeDiff]
    (repeat' (first | refine And.intro ?_ ?_ | intro _)) <;> first | rfl | exact Upto.zero
section
variable {P : Program} {T : Tb} {L : Lb} {h : H} {Q : PostC} {K : Post}
/-! spec.validSignature -/
def L96_0 : List AStep := [⟨.box 51 (.t 0), (some 1), none, []⟩, ⟨.mov (.c (.bool false)), (some 2), none, []⟩]
theorem v96_0 : wpS P L96_0 T L (rdy h) K = wpS P ([⟨.box 51 (.t 0), (some 1), none, []⟩, ⟨.mov (.c (.bool false)), (some 2), none, []⟩]) T L (rdy h) K := rfl
def L96_1 : List AStep := [⟨.call 176 [(.t 4)], (some 5), none, []⟩, ⟨.mov (.t 5), (some 2), none, []⟩]
theorem v96_1 : wpS P L96_1 T L (rdy h) K = wpS P ([⟨.call 176 [(.t 4)], (some 5), none, []⟩, ⟨.mov (.t 5), (some 2), none, []⟩]) T L (rdy h) K := rfl
def L96_2 : List AStep := ⟨.faddr 0 (.t 1), (some 3), none, []⟩ :: ⟨.load 1 false (.t 3), (some 4), none, []⟩ :: L96_1
theorem v96_2 : wpS P L96_2 T L (rdy h) K = wpS P (⟨.faddr 0 (.t 1), (some 3), none, []⟩ :: ⟨.load 1 false (.t 3), (some 4), none, []⟩ :: L96_1) T L (rdy h) K := rfl
def C96_0 : ACode := .seq (.reg L96_2) .ret
theorem u96_0 : wpC P C96_0 T L (rdy h) Q = wpC P (.seq (.reg L96_2) .ret) T L (rdy h) Q := rfl
def C96_1 : ACode := .seq (.reg L96_0) C96_0
theorem u96_1 : wpC P C96_1 T L (rdy h) Q = wpC P (.seq (.reg L96_0) C96_0) T L (rdy h) Q := rfl
def F96 : AFunc := ⟨6, [.tmp 2], C96_1⟩
theorem cF96 : compB Try.prog 96 = some F96 := by kernel_rfl
end
attribute [local go_sem ↓] u96_0 u96_1 v96_0 v96_1 v96_2
theorem c_validSignature (l : List Param) (pv : CV) (h : H) (hl : SlQ h (.one pv) l) (hn : smQ l) : bm Try.prog 96 [.agg [pv]] h = some (ib (okSig l), h) := by
  refine bm_eq cF96 ?_
  simp +contextual (maxSteps := 2000000) only [go_sem, Nat.reduceEqDiff, reduceCtorEq, Nat.reduceAdd, Nat.reduceLeDiff, F96, c_validParams _ _ _ hl hn]
end Go.Proofs.Ytnphlonhogcedaa.Am
