/- Contracts of the reference: numbers, names, pairs, flat calls and signatures that are valid. -/
import Derived.Test.YtdalgphpacikkacDat
namespace Go.Proofs.Ytdalgphpacikkac.Am
open Go
set_option maxRecDepth 100000
set_option maxHeartbeats 4000000
set_option linter.unusedSimpArgs false
set_option linter.unusedVariables false
attribute [local go_sem ↓] bv_t bv_c ev_t ev_c put_same put_ne put_none kill_at pro_at lb_same lb_ne start_zero start_succ wpC_seq wpC_reg wpC_cond wpC_block wpC_skip wpC_exit wpC_ret thenQ_normal thenQ_exit thenQ_ret inBlk_normal inBlk_exit inBlk_ret wpS_nil wpS_step wpS_again wpS_guard wpO_mov wpO_load wpO_faddr wpO_nilCheck wpO_pick wpO_build wpO_bin wpO_eqb wpO_eqst wpO_eqnil wpO_not wpO_conv wpO_bytesStr wpO_iaddr wpO_idxStr wpO_field wpO_extract wpO_len wpO_lenStr wpO_cap wpO_min wpO_slice wpO_sliceStr wpO_alloc wpO_box wpO_store wpO_call wpO_callv wpO_mkfn wpO_buildSlice wpO_mkslice wpO_append wpO_appz proA_nil proA_cons tmpX_nil tmpX_tmp tmpX_cell doneB_normal doneB_ret agK_cons agK_nil agK_guard agG_tt agG_ff agG_tf agG_ft agG_undef pureB_load results_one results_two results_nil resBs_cons resBs_nil resB_tmp resB_cell
attribute [local go_sem] kill_v kill_lp_ne kill_lp_same pro_v pro_lp_same pro_lp_ne av_v av_lp optB_some optX_some valX_eq ldX_lp ldX_v faX_lp faX_v ncX_lp ncX_ptr ncX_fn boxK_one boxK_agg stL_some stK_lp_one stK_lp_agg stK_v_one stK_v_agg proM_v proM_lp callG_mk callVG_mk callvK_fn fnG_mk ptrsA_nil ptrsA_cons callH_some whenA_true whenA_false guardH_tt guardH_ff guardH_tf guardH_ft guardH_undef agV_one agV_agg lenO_sl lenStrO_str notO_bool pickO_bool convO_int eqbO_bool eqnilO_sl extractO_tup capO_sl minO_int loadL_one loadL_all storeL_eq fillA_nil fillA_one fillA_agg nat_ge neg_ge nat_lt neg_lt buildO bin_add bin_sub bin_mul bin_eql bin_neq bin_lss bin_leq bin_gtr bin_geq str_eql str_neq str_lss str_leq str_gtr str_geq retK_some endK_mk gcK_same gcK_int gcK_bool tupO_one tupO_agg rdy_self ib ii Option.map_none Option.map_some Option.some.injEq exists_eq_left' exists_eq_left ne_eq not_false_eq_true if_true if_false List.map_cons List.map_nil List.getElem?_cons_zero List.getElem?_cons_succ List.length_cons List.length_nil List.take_succ_cons List.take_zero List.take_nil List.drop_succ_cons List.drop_zero List.drop_nil List.cons_append List.nil_append List.append_nil List.set_cons_zero List.set_cons_succ Nat.zero_add forall_const true_and and_true and_self Bool.false_eq_true false_implies true_implies implies_true Bool.not_true Bool.not_false Bool.not_eq_true' Bool.not_eq_false' beq_self_eq_true Bool.bne_true Bool.bne_false
attribute [local go_sem] lenI lenS lenP lenQ lenB lenL lenT encI_0 encS_0 encP_0 encP_1 encQ_0 encQ_1 encQ_2 encQ_3 encB_0 encB_1 encL_0 encL_1 encT_0 encT_1
attribute [local go_sem low] whenA_bool guardH_bool
/-! spec.inRange -/
def L115_0 : List AStep := [⟨.mov (.c (.bool false)), (some 6), none, []⟩]
theorem v115_0 : VS L115_0.eq_1 := rfl
def L115_1 : List AStep := [⟨.mov (.t 14), (some 6), none, []⟩]
theorem v115_1 : VS L115_1.eq_1 := rfl
def L115_2 : List AStep := ⟨.bin .leq (.t 11) (.t 12), (some 13), (some (10, true)), []⟩ :: ⟨.pick (.t 10) (.t 13) (.c (.bool false)), (some 14), none, []⟩ :: L115_1
theorem v115_2 : VS L115_2.eq_1 := rfl
def L115_3 : List AStep := ⟨.mov (.t 0), (some 11), (some (10, true)), []⟩ :: ⟨.mov (.t 2), (some 12), (some (10, true)), []⟩ :: L115_2
theorem v115_3 : VS L115_3.eq_1 := rfl
def L115_4 : List AStep := ⟨.bin .leq (.t 7) (.t 8), (some 9), none, []⟩ :: ⟨.mov (.t 9), (some 10), none, []⟩ :: L115_3
theorem v115_4 : VS L115_4.eq_1 := rfl
def L115_5 : List AStep := ⟨.mov (.t 1), (some 7), none, []⟩ :: ⟨.mov (.t 0), (some 8), none, []⟩ :: L115_4
theorem v115_5 : VS L115_5.eq_1 := rfl
def C115_0 : ACode := .seq (.reg L115_5) .ret
theorem u115_0 : VC C115_0.eq_1 := rfl
def C115_1 : ACode := .seq (.reg L115_0) C115_0
theorem u115_1 : VC C115_1.eq_1 := rfl
def F115 : AFunc := ⟨15, [.tmp 6], C115_1⟩
theorem cF115 : compB Try.prog 115 = some F115 := by kernel_rfl
attribute [local go_sem ↓] u115_0 u115_1 v115_0 v115_1 v115_2 v115_3 v115_4 v115_5
theorem c_inRange (n lo hi : Int) (h : H) : bm Try.prog 115 [.one (.int .i64 n), .one (.int .i64 lo), .one (.int .i64 hi)] h = some (ib (decide (lo ≤ n) && decide (n ≤ hi)), h) := by
  refine bm_eq cF115 ?_
  simp +contextual (maxSteps := 2000000) only [go_sem, Nat.reduceEqDiff, reduceCtorEq, Nat.reduceAdd, Nat.reduceLeDiff, F115]
  cases decide (lo ≤ n) <;> simp
/-! spec.validNumber -/
def L87_0 : List AStep := [⟨.mov (.c (.bool false)), (some 2), none, []⟩]
theorem v87_0 : VS L87_0.eq_1 := rfl
def L87_1 : List AStep := [⟨.mov (.t 4), (some 2), none, []⟩]
theorem v87_1 : VS L87_1.eq_1 := rfl
def L87_2 : List AStep := ⟨.mov (.t 0), (some 3), none, []⟩ :: ⟨.call 115 [(.t 3), (.c (.int .i64 (-99))), (.c (.int .i64 99))], (some 4), none, []⟩ :: L87_1
theorem v87_2 : VS L87_2.eq_1 := rfl
def C87_0 : ACode := .seq (.reg L87_2) .ret
theorem u87_0 : VC C87_0.eq_1 := rfl
def C87_1 : ACode := .seq (.reg L87_0) C87_0
theorem u87_1 : VC C87_1.eq_1 := rfl
def F87 : AFunc := ⟨5, [.tmp 2], C87_1⟩
theorem cF87 : compB Try.prog 87 = some F87 := by kernel_rfl
attribute [local go_sem ↓] u87_0 u87_1 v87_0 v87_1 v87_2
theorem c_validNumber (n : Int) (h : H) : bm Try.prog 87 [.one (.int .i64 n)] h = some (ib (okNum n), h) := by
  refine bm_eq cF87 ?_
  simp +contextual (maxSteps := 2000000) only [go_sem, Nat.reduceEqDiff, reduceCtorEq, Nat.reduceAdd, Nat.reduceLeDiff, F87, c_inRange, okNum]
/-! spec.validName -/
def L114_0 : List AStep := [⟨.mov (.c (.bool false)), (some 2), none, []⟩]
theorem v114_0 : VS L114_0.eq_1 := rfl
def L114_1 : List AStep := [⟨.mov (.c (.int .i64 0)), (some 3), none, []⟩]
theorem v114_1 : VS L114_1.eq_1 := rfl
def L114_2 : List AStep := [⟨.lenStr (.t 5), (some 6), none, []⟩, ⟨.bin .lss (.t 4) (.t 6), (some 7), none, []⟩]
theorem v114_2 : VS L114_2.eq_1 := rfl
def L114_3 : List AStep := ⟨.mov (.t 3), (some 4), none, []⟩ :: ⟨.mov (.t 0), (some 5), none, []⟩ :: L114_2
theorem v114_3 : VS L114_3.eq_1 := rfl
def L114_4 : List AStep := [⟨.bin .gtr (.t 17) (.c (.int .u8 122)), (some 18), (some (14, false)), []⟩, ⟨.pick (.t 14) (.c (.bool true)) (.t 18), (some 19), none, []⟩]
theorem v114_4 : VS L114_4.eq_1 := rfl
def L114_5 : List AStep := ⟨.mov (.t 3), (some 16), (some (14, false)), []⟩ :: ⟨.idxStr (.t 15) (.t 16), (some 17), (some (14, false)), []⟩ :: L114_4
theorem v114_5 : VS L114_5.eq_1 := rfl
def L114_6 : List AStep := ⟨.mov (.t 13), (some 14), none, []⟩ :: ⟨.mov (.t 0), (some 15), (some (14, false)), []⟩ :: L114_5
theorem v114_6 : VS L114_6.eq_1 := rfl
def L114_7 : List AStep := ⟨.idxStr (.t 10) (.t 11), (some 12), none, []⟩ :: ⟨.bin .lss (.t 12) (.c (.int .u8 97)), (some 13), none, []⟩ :: L114_6
theorem v114_7 : VS L114_7.eq_1 := rfl
def L114_8 : List AStep := ⟨.mov (.t 0), (some 10), none, []⟩ :: ⟨.mov (.t 3), (some 11), none, []⟩ :: L114_7
theorem v114_8 : VS L114_8.eq_1 := rfl
def L114_9 : List AStep := [⟨.mov (.c (.bool false)), (some 2), none, []⟩]
theorem v114_9 : VS L114_9.eq_1 := rfl
def L114_10 : List AStep := [⟨.mov (.t 9), (some 3), none, []⟩]
theorem v114_10 : VS L114_10.eq_1 := rfl
def L114_11 : List AStep := ⟨.mov (.t 3), (some 8), none, []⟩ :: ⟨.bin .add (.t 8) (.c (.int .i64 1)), (some 9), none, []⟩ :: L114_10
theorem v114_11 : VS L114_11.eq_1 := rfl
def L114_12 : List AStep := [⟨.call 115 [(.t 21), (.c (.int .i64 1)), (.c (.int .i64 6))], (some 22), none, []⟩, ⟨.mov (.t 22), (some 2), none, []⟩]
theorem v114_12 : VS L114_12.eq_1 := rfl
def L114_13 : List AStep := ⟨.mov (.t 0), (some 20), none, []⟩ :: ⟨.lenStr (.t 20), (some 21), none, []⟩ :: L114_12
theorem v114_13 : VS L114_13.eq_1 := rfl
def C114_0 : ACode := .cond (.t 7) .skip (.exit 0)
theorem u114_0 : VC C114_0.eq_1 := rfl
def C114_1 : ACode := .seq (.reg L114_3) C114_0
theorem u114_1 : VC C114_1.eq_1 := rfl
def C114_2 : ACode := .seq (.reg L114_9) .ret
theorem u114_2 : VC C114_2.eq_1 := rfl
def C114_3 : ACode := .cond (.t 19) C114_2 .skip
theorem u114_3 : VC C114_3.eq_1 := rfl
def C114_4 : ACode := .seq (.reg L114_8) C114_3
theorem u114_4 : VC C114_4.eq_1 := rfl
def C114_5 : ACode := .block 1 C114_4
theorem u114_5 : VC C114_5.eq_1 := rfl
def C114_6 : ACode := .seq C114_5 (.reg L114_11)
theorem u114_6 : VC C114_6.eq_1 := rfl
def C114_7 : ACode := .seq C114_1 C114_6
theorem u114_7 : VC C114_7.eq_1 := rfl
def C114_8 : ACode := .block 0 (.loop C114_7)
theorem u114_8 : VC C114_8.eq_1 := rfl
def C114_9 : ACode := .seq (.reg L114_1) C114_8
theorem u114_9 : VC C114_9.eq_1 := rfl
def C114_10 : ACode := .seq (.reg L114_13) .ret
theorem u114_10 : VC C114_10.eq_1 := rfl
def C114_11 : ACode := .seq C114_9 C114_10
theorem u114_11 : VC C114_11.eq_1 := rfl
def C114_12 : ACode := .seq (.reg L114_0) C114_11
theorem u114_12 : VC C114_12.eq_1 := rfl
def F114 : AFunc := ⟨23, [.tmp 2], C114_12⟩
theorem cF114 : compB Try.prog 114 = some F114 := by kernel_rfl
attribute [local go_sem ↓] u114_0 u114_1 u114_2 u114_3 u114_4 u114_5 u114_6 u114_7 u114_8 u114_9 u114_10 u114_11 u114_12 v114_0 v114_1 v114_2 v114_3 v114_4 v114_5 v114_6 v114_7 v114_8 v114_9 v114_10 v114_11 v114_12 v114_13
theorem c_validName (s : ByteArray) (h : H) (hn : s.size < 2 ^ 62) : bm Try.prog 114 [.one (.str s)] h = some (ib (okName s), h) := by
  refine bm_eq cF114 ?_
  simp +contextual (maxSteps := 2000000) only [go_sem, Nat.reduceEqDiff, reduceCtorEq, Nat.reduceAdd, Nat.reduceLeDiff, F114]
  have hsz : s.data.toList.length = s.size := Array.length_toList
  refine wpC_loop (fun i T L h' => h' = h ∧ T 0 = .v (.one (.str s)) ∧ T 3 = .v (.one (.int .i64 i)) ∧ Pre isLow true s.data.toList i) s.size ?_ ?_ (Nat.zero_le _) ?_
  · rintro i T L h' hi ⟨rfl, h0, h3, hp⟩
    simp +contextual (maxSteps := 2000000) only [go_sem, Nat.reduceEqDiff, reduceCtorEq, Nat.reduceAdd, Nat.reduceLeDiff, h0, h3, idx_at hi, lt_true hi]
    have e : s.data.toList[i]'(by omega) = s.data[i]'hi := Array.getElem_toList _
    have bad : isLow (s.data[i]'hi) = false → okName s = false := fun hx => by
      unfold okName
      rw [all_stop (l := s.data.toList) (i := i) (by omega) (by rw [e]; exact hx)]
      rfl
    have low : isLow (s.data[i]'hi) = (!(decide ((↑(s.data[i]'hi).toNat : Int) < 97)) && !(decide ((↑(s.data[i]'hi).toNat : Int) > 122))) := by
      unfold isLow
      rw [Bool.eq_iff_iff]
      simp
      omega
    (repeat' (first | refine And.intro ?_ ?_ | intro _)) <;> first | rfl | rw [wrap_next hi hn] | exact hp.next (by omega) (by rw [e, low]; simp_all) | rw [bad (by rw [low]; simp_all)]
  · rintro T L h' ⟨rfl, h0, h3, hp⟩
    rw [← hsz] at hp
    simp +contextual (maxSteps := 2000000) only [go_sem, Nat.reduceEqDiff, reduceCtorEq, Nat.reduceAdd, Nat.reduceLeDiff, h0, h3, lt_false, c_inRange, okName, hp.all, Bool.true_and]
  · simp +contextual (maxSteps := 2000000) only [go_sem, Nat.reduceEqDiff, reduceCtorEq, Nat.reduceAdd, Nat.reduceLeDiff]
    (repeat' (first | refine And.intro ?_ ?_ | intro _)) <;> first | rfl | exact Pre.zero
/-! spec.byPlace -/
def L146_0 : List AStep := [⟨.box 155 (.t 0), (some 1), none, []⟩, ⟨.mov (.c (.bool false)), (some 2), none, []⟩]
theorem v146_0 : VS L146_0.eq_1 := rfl
def L146_1 : List AStep := [⟨.mov (.t 10), (some 2), none, []⟩]
theorem v146_1 : VS L146_1.eq_1 := rfl
def L146_2 : List AStep := ⟨.bin .eql (.t 8) (.c (.int .i64 1)), (some 9), (some (6, false)), []⟩ :: ⟨.pick (.t 6) (.c (.bool true)) (.t 9), (some 10), none, []⟩ :: L146_1
theorem v146_2 : VS L146_2.eq_1 := rfl
def L146_3 : List AStep := ⟨.faddr 1 (.t 1), (some 7), (some (6, false)), []⟩ :: ⟨.load 1 false (.t 7), (some 8), (some (6, false)), []⟩ :: L146_2
theorem v146_3 : VS L146_3.eq_1 := rfl
def L146_4 : List AStep := ⟨.bin .eql (.t 4) (.c (.int .i64 0)), (some 5), none, []⟩ :: ⟨.mov (.t 5), (some 6), none, []⟩ :: L146_3
theorem v146_4 : VS L146_4.eq_1 := rfl
def L146_5 : List AStep := ⟨.faddr 1 (.t 1), (some 3), none, []⟩ :: ⟨.load 1 false (.t 3), (some 4), none, []⟩ :: L146_4
theorem v146_5 : VS L146_5.eq_1 := rfl
def C146_0 : ACode := .seq (.reg L146_5) .ret
theorem u146_0 : VC C146_0.eq_1 := rfl
def C146_1 : ACode := .seq (.reg L146_0) C146_0
theorem u146_1 : VC C146_1.eq_1 := rfl
def F146 : AFunc := ⟨11, [.tmp 2], C146_1⟩
theorem cF146 : compB Try.prog 146 = some F146 := by kernel_rfl
attribute [local go_sem ↓] u146_0 u146_1 v146_0 v146_1 v146_2 v146_3 v146_4 v146_5
theorem c_byPlace (p : Param) (h : H) : bm Try.prog 146 [.agg (encQ p)] h = some (ib (byPlace p), h) := by
  refine bm_eq cF146 ?_
  simp +contextual (maxSteps := 2000000) only [go_sem, Nat.reduceEqDiff, reduceCtorEq, Nat.reduceAdd, Nat.reduceLeDiff, F146, byPlace]
  cases decide (p.kind = 0) <;> simp
/-! spec.byName -/
def L165_0 : List AStep := [⟨.box 155 (.t 0), (some 1), none, []⟩, ⟨.mov (.c (.bool false)), (some 2), none, []⟩]
theorem v165_0 : VS L165_0.eq_1 := rfl
def L165_1 : List AStep := [⟨.mov (.t 10), (some 2), none, []⟩]
theorem v165_1 : VS L165_1.eq_1 := rfl
def L165_2 : List AStep := ⟨.bin .eql (.t 8) (.c (.int .i64 3)), (some 9), (some (6, false)), []⟩ :: ⟨.pick (.t 6) (.c (.bool true)) (.t 9), (some 10), none, []⟩ :: L165_1
theorem v165_2 : VS L165_2.eq_1 := rfl
def L165_3 : List AStep := ⟨.faddr 1 (.t 1), (some 7), (some (6, false)), []⟩ :: ⟨.load 1 false (.t 7), (some 8), (some (6, false)), []⟩ :: L165_2
theorem v165_3 : VS L165_3.eq_1 := rfl
def L165_4 : List AStep := ⟨.bin .eql (.t 4) (.c (.int .i64 1)), (some 5), none, []⟩ :: ⟨.mov (.t 5), (some 6), none, []⟩ :: L165_3
theorem v165_4 : VS L165_4.eq_1 := rfl
def L165_5 : List AStep := ⟨.faddr 1 (.t 1), (some 3), none, []⟩ :: ⟨.load 1 false (.t 3), (some 4), none, []⟩ :: L165_4
theorem v165_5 : VS L165_5.eq_1 := rfl
def C165_0 : ACode := .seq (.reg L165_5) .ret
theorem u165_0 : VC C165_0.eq_1 := rfl
def C165_1 : ACode := .seq (.reg L165_0) C165_0
theorem u165_1 : VC C165_1.eq_1 := rfl
def F165 : AFunc := ⟨11, [.tmp 2], C165_1⟩
theorem cF165 : compB Try.prog 165 = some F165 := by kernel_rfl
attribute [local go_sem ↓] u165_0 u165_1 v165_0 v165_1 v165_2 v165_3 v165_4 v165_5
theorem c_byName (p : Param) (h : H) : bm Try.prog 165 [.agg (encQ p)] h = some (ib (byName p), h) := by
  refine bm_eq cF165 ?_
  simp +contextual (maxSteps := 2000000) only [go_sem, Nat.reduceEqDiff, reduceCtorEq, Nat.reduceAdd, Nat.reduceLeDiff, F165, byName]
  cases decide (p.kind = 1) <;> simp
/-! spec.isSingle -/
def L145_0 : List AStep := [⟨.box 155 (.t 0), (some 1), none, []⟩, ⟨.mov (.c (.bool false)), (some 2), none, []⟩]
theorem v145_0 : VS L145_0.eq_1 := rfl
def L145_1 : List AStep := [⟨.mov (.t 8), (some 2), none, []⟩]
theorem v145_1 : VS L145_1.eq_1 := rfl
def L145_2 : List AStep := ⟨.call 165 [(.t 6)], (some 7), (some (5, false)), []⟩ :: ⟨.pick (.t 5) (.c (.bool true)) (.t 7), (some 8), none, []⟩ :: L145_1
theorem v145_2 : VS L145_2.eq_1 := rfl
def L145_3 : List AStep := ⟨.mov (.t 4), (some 5), none, []⟩ :: ⟨.load 4 true (.t 1), (some 6), (some (5, false)), []⟩ :: L145_2
theorem v145_3 : VS L145_3.eq_1 := rfl
def L145_4 : List AStep := ⟨.load 4 true (.t 1), (some 3), none, []⟩ :: ⟨.call 146 [(.t 3)], (some 4), none, []⟩ :: L145_3
theorem v145_4 : VS L145_4.eq_1 := rfl
def C145_0 : ACode := .seq (.reg L145_4) .ret
theorem u145_0 : VC C145_0.eq_1 := rfl
def C145_1 : ACode := .seq (.reg L145_0) C145_0
theorem u145_1 : VC C145_1.eq_1 := rfl
def F145 : AFunc := ⟨9, [.tmp 2], C145_1⟩
theorem cF145 : compB Try.prog 145 = some F145 := by kernel_rfl
attribute [local go_sem ↓] u145_0 u145_1 v145_0 v145_1 v145_2 v145_3 v145_4
theorem c_isSingle (p : Param) (h : H) : bm Try.prog 145 [.agg (encQ p)] h = some (ib (single p), h) := by
  refine bm_eq cF145 ?_
  simp +contextual (maxSteps := 2000000) only [go_sem, Nat.reduceEqDiff, reduceCtorEq, Nat.reduceAdd, Nat.reduceLeDiff, F145, c_byPlace, c_byName, single]
  cases byPlace p <;> simp
end Go.Proofs.Ytdalgphpacikkac.Am
