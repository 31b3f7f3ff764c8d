/- Contracts of the reference: numbers, names, pairs, flat calls and signatures that are valid. -/
import Derived.Test.YtoeceafibmafpaaDoorDat
namespace Go.Proofs.YtoeceafibmafpaaDoor.Am
open Go
set_option maxRecDepth 100000
set_option maxHeartbeats 4000000
set_option linter.unusedSimpArgs false
set_option linter.unusedVariables false
attribute [local go_sem ↓] bv_t bv_c ev_t ev_c put_same put_ne put_none kill_at pro_at lb_same lb_ne start_zero start_succ wpC_seq wpC_reg wpC_cond wpC_block wpC_skip wpC_exit wpC_ret thenQ_normal thenQ_exit thenQ_ret inBlk_normal inBlk_exit inBlk_ret wpS_nil wpS_step wpS_again wpS_guard wpO_mov wpO_load wpO_faddr wpO_nilCheck wpO_pick wpO_build wpO_bin wpO_eqb wpO_eqst wpO_eqnil wpO_not wpO_conv wpO_bytesStr wpO_iaddr wpO_idxStr wpO_field wpO_extract wpO_len wpO_lenStr wpO_cap wpO_min wpO_slice wpO_sliceStr wpO_alloc wpO_box wpO_store wpO_call wpO_callv wpO_mkfn wpO_buildSlice wpO_mkslice wpO_append wpO_appz proA_nil proA_cons tmpX_nil tmpX_tmp tmpX_cell doneB_normal doneB_ret agK_cons agK_nil agK_guard agG_tt agG_ff agG_tf agG_ft agG_undef pureB_load results_one results_two results_nil resBs_cons resBs_nil resB_tmp resB_cell
attribute [local go_sem] kill_v kill_lp_ne kill_lp_same pro_v pro_lp_same pro_lp_ne av_v av_lp optB_some optX_some valX_eq ldX_lp ldX_v faX_lp faX_v ncX_lp ncX_ptr ncX_fn boxK_one boxK_agg stL_some stK_lp_one stK_lp_agg stK_v_one stK_v_agg proM_v proM_lp callG_mk callVG_mk callvK_fn fnG_mk ptrsA_nil ptrsA_cons callH_some whenA_true whenA_false guardH_tt guardH_ff guardH_tf guardH_ft guardH_undef agV_one agV_agg lenO_sl lenStrO_str notO_bool pickO_bool convO_int eqbO_bool eqnilO_sl extractO_tup capO_sl minO_int loadL_one loadL_all storeL_eq fillA_nil fillA_one fillA_agg nat_ge neg_ge nat_lt neg_lt buildO bin_add bin_sub bin_mul bin_eql bin_neq bin_lss bin_leq bin_gtr bin_geq str_eql str_neq str_lss str_leq str_gtr str_geq retK_some endK_mk gcK_same gcK_int gcK_bool tupO_one tupO_agg rdy_self ib ii Option.map_none Option.map_some Option.some.injEq exists_eq_left' exists_eq_left ne_eq not_false_eq_true if_true if_false List.map_cons List.map_nil List.getElem?_cons_zero List.getElem?_cons_succ List.length_cons List.length_nil List.take_succ_cons List.take_zero List.take_nil List.drop_succ_cons List.drop_zero List.drop_nil List.cons_append List.nil_append List.append_nil List.set_cons_zero List.set_cons_succ Nat.zero_add forall_const true_and and_true and_self Bool.false_eq_true false_implies true_implies implies_true Bool.not_true Bool.not_false Bool.not_eq_true' Bool.not_eq_false' beq_self_eq_true Bool.bne_true Bool.bne_false
attribute [local go_sem] lenI lenS lenP lenQ lenB lenL lenT encI_0 encS_0 encP_0 encP_1 encQ_0 encQ_1 encQ_2 encQ_3 encB_0 encB_1 encL_0 encL_1 encT_0 encT_1
attribute [local go_sem low] whenA_bool guardH_bool
/-! spec.inRange -/
def L67_0 : List AStep := [⟨.mov (.c (.bool false)), (some 6), none, []⟩]
theorem v67_0 : VS L67_0.eq_1 := rfl
def L67_1 : List AStep := [⟨.mov (.t 14), (some 6), none, []⟩]
theorem v67_1 : VS L67_1.eq_1 := rfl
def L67_2 : List AStep := ⟨.bin .leq (.t 11) (.t 12), (some 13), (some (10, true)), []⟩ :: ⟨.pick (.t 10) (.t 13) (.c (.bool false)), (some 14), none, []⟩ :: L67_1
theorem v67_2 : VS L67_2.eq_1 := rfl
def L67_3 : List AStep := ⟨.mov (.t 0), (some 11), (some (10, true)), []⟩ :: ⟨.mov (.t 2), (some 12), (some (10, true)), []⟩ :: L67_2
theorem v67_3 : VS L67_3.eq_1 := rfl
def L67_4 : List AStep := ⟨.bin .leq (.t 7) (.t 8), (some 9), none, []⟩ :: ⟨.mov (.t 9), (some 10), none, []⟩ :: L67_3
theorem v67_4 : VS L67_4.eq_1 := rfl
def L67_5 : List AStep := ⟨.mov (.t 1), (some 7), none, []⟩ :: ⟨.mov (.t 0), (some 8), none, []⟩ :: L67_4
theorem v67_5 : VS L67_5.eq_1 := rfl
def C67_0 : ACode := .seq (.reg L67_5) .ret
theorem u67_0 : VC C67_0.eq_1 := rfl
def C67_1 : ACode := .seq (.reg L67_0) C67_0
theorem u67_1 : VC C67_1.eq_1 := rfl
def F67 : AFunc := ⟨15, [.tmp 6], C67_1⟩
theorem cF67 : compB Tryd.prog 67 = some F67 := by kernel_rfl
attribute [local go_sem ↓] u67_0 u67_1 v67_0 v67_1 v67_2 v67_3 v67_4 v67_5
theorem c_inRange (n lo hi : Int) (h : H) : bm Tryd.prog 67 [.one (.int .i64 n), .one (.int .i64 lo), .one (.int .i64 hi)] h = some (ib (decide (lo ≤ n) && decide (n ≤ hi)), h) := by
  refine bm_eq cF67 ?_
  simp +contextual (maxSteps := 2000000) only [go_sem, Nat.reduceEqDiff, reduceCtorEq, Nat.reduceAdd, Nat.reduceLeDiff, F67]
  cases decide (lo ≤ n) <;> simp
/-! spec.validNumber -/
def L135_0 : List AStep := [⟨.mov (.c (.bool false)), (some 2), none, []⟩]
theorem v135_0 : VS L135_0.eq_1 := rfl
def L135_1 : List AStep := [⟨.mov (.t 4), (some 2), none, []⟩]
theorem v135_1 : VS L135_1.eq_1 := rfl
def L135_2 : List AStep := ⟨.mov (.t 0), (some 3), none, []⟩ :: ⟨.call 67 [(.t 3), (.c (.int .i64 (-99))), (.c (.int .i64 99))], (some 4), none, []⟩ :: L135_1
theorem v135_2 : VS L135_2.eq_1 := rfl
def C135_0 : ACode := .seq (.reg L135_2) .ret
theorem u135_0 : VC C135_0.eq_1 := rfl
def C135_1 : ACode := .seq (.reg L135_0) C135_0
theorem u135_1 : VC C135_1.eq_1 := rfl
def F135 : AFunc := ⟨5, [.tmp 2], C135_1⟩
theorem cF135 : compB Tryd.prog 135 = some F135 := by kernel_rfl
attribute [local go_sem ↓] u135_0 u135_1 v135_0 v135_1 v135_2
theorem c_validNumber (n : Int) (h : H) : bm Tryd.prog 135 [.one (.int .i64 n)] h = some (ib (okNum n), h) := by
  refine bm_eq cF135 ?_
  simp +contextual (maxSteps := 2000000) only [go_sem, Nat.reduceEqDiff, reduceCtorEq, Nat.reduceAdd, Nat.reduceLeDiff, F135, c_inRange, okNum]
/-! spec.validName -/
def L66_0 : List AStep := [⟨.mov (.c (.bool false)), (some 2), none, []⟩]
theorem v66_0 : VS L66_0.eq_1 := rfl
def L66_1 : List AStep := [⟨.mov (.c (.int .i64 0)), (some 3), none, []⟩]
theorem v66_1 : VS L66_1.eq_1 := rfl
def L66_2 : List AStep := [⟨.lenStr (.t 5), (some 6), none, []⟩, ⟨.bin .lss (.t 4) (.t 6), (some 7), none, []⟩]
theorem v66_2 : VS L66_2.eq_1 := rfl
def L66_3 : List AStep := ⟨.mov (.t 3), (some 4), none, []⟩ :: ⟨.mov (.t 0), (some 5), none, []⟩ :: L66_2
theorem v66_3 : VS L66_3.eq_1 := rfl
def L66_4 : List AStep := [⟨.bin .gtr (.t 17) (.c (.int .u8 122)), (some 18), (some (14, false)), []⟩, ⟨.pick (.t 14) (.c (.bool true)) (.t 18), (some 19), none, []⟩]
theorem v66_4 : VS L66_4.eq_1 := rfl
def L66_5 : List AStep := ⟨.mov (.t 3), (some 16), (some (14, false)), []⟩ :: ⟨.idxStr (.t 15) (.t 16), (some 17), (some (14, false)), []⟩ :: L66_4
theorem v66_5 : VS L66_5.eq_1 := rfl
def L66_6 : List AStep := ⟨.mov (.t 13), (some 14), none, []⟩ :: ⟨.mov (.t 0), (some 15), (some (14, false)), []⟩ :: L66_5
theorem v66_6 : VS L66_6.eq_1 := rfl
def L66_7 : List AStep := ⟨.idxStr (.t 10) (.t 11), (some 12), none, []⟩ :: ⟨.bin .lss (.t 12) (.c (.int .u8 97)), (some 13), none, []⟩ :: L66_6
theorem v66_7 : VS L66_7.eq_1 := rfl
def L66_8 : List AStep := ⟨.mov (.t 0), (some 10), none, []⟩ :: ⟨.mov (.t 3), (some 11), none, []⟩ :: L66_7
theorem v66_8 : VS L66_8.eq_1 := rfl
def L66_9 : List AStep := [⟨.mov (.c (.bool false)), (some 2), none, []⟩]
theorem v66_9 : VS L66_9.eq_1 := rfl
def L66_10 : List AStep := [⟨.mov (.t 9), (some 3), none, []⟩]
theorem v66_10 : VS L66_10.eq_1 := rfl
def L66_11 : List AStep := ⟨.mov (.t 3), (some 8), none, []⟩ :: ⟨.bin .add (.t 8) (.c (.int .i64 1)), (some 9), none, []⟩ :: L66_10
theorem v66_11 : VS L66_11.eq_1 := rfl
def L66_12 : List AStep := [⟨.call 67 [(.t 21), (.c (.int .i64 1)), (.c (.int .i64 6))], (some 22), none, []⟩, ⟨.mov (.t 22), (some 2), none, []⟩]
theorem v66_12 : VS L66_12.eq_1 := rfl
def L66_13 : List AStep := ⟨.mov (.t 0), (some 20), none, []⟩ :: ⟨.lenStr (.t 20), (some 21), none, []⟩ :: L66_12
theorem v66_13 : VS L66_13.eq_1 := rfl
def C66_0 : ACode := .cond (.t 7) .skip (.exit 0)
theorem u66_0 : VC C66_0.eq_1 := rfl
def C66_1 : ACode := .seq (.reg L66_3) C66_0
theorem u66_1 : VC C66_1.eq_1 := rfl
def C66_2 : ACode := .seq (.reg L66_9) .ret
theorem u66_2 : VC C66_2.eq_1 := rfl
def C66_3 : ACode := .cond (.t 19) C66_2 .skip
theorem u66_3 : VC C66_3.eq_1 := rfl
def C66_4 : ACode := .seq (.reg L66_8) C66_3
theorem u66_4 : VC C66_4.eq_1 := rfl
def C66_5 : ACode := .block 1 C66_4
theorem u66_5 : VC C66_5.eq_1 := rfl
def C66_6 : ACode := .seq C66_5 (.reg L66_11)
theorem u66_6 : VC C66_6.eq_1 := rfl
def C66_7 : ACode := .seq C66_1 C66_6
theorem u66_7 : VC C66_7.eq_1 := rfl
def C66_8 : ACode := .block 0 (.loop C66_7)
theorem u66_8 : VC C66_8.eq_1 := rfl
def C66_9 : ACode := .seq (.reg L66_1) C66_8
theorem u66_9 : VC C66_9.eq_1 := rfl
def C66_10 : ACode := .seq (.reg L66_13) .ret
theorem u66_10 : VC C66_10.eq_1 := rfl
def C66_11 : ACode := .seq C66_9 C66_10
theorem u66_11 : VC C66_11.eq_1 := rfl
def C66_12 : ACode := .seq (.reg L66_0) C66_11
theorem u66_12 : VC C66_12.eq_1 := rfl
def F66 : AFunc := ⟨23, [.tmp 2], C66_12⟩
theorem cF66 : compB Tryd.prog 66 = some F66 := by kernel_rfl
attribute [local go_sem ↓] u66_0 u66_1 u66_2 u66_3 u66_4 u66_5 u66_6 u66_7 u66_8 u66_9 u66_10 u66_11 u66_12 v66_0 v66_1 v66_2 v66_3 v66_4 v66_5 v66_6 v66_7 v66_8 v66_9 v66_10 v66_11 v66_12 v66_13
theorem c_validName (s : ByteArray) (h : H) (hn : s.size < 2 ^ 62) : bm Tryd.prog 66 [.one (.str s)] h = some (ib (okName s), h) := by
  refine bm_eq cF66 ?_
  simp +contextual (maxSteps := 2000000) only [go_sem, Nat.reduceEqDiff, reduceCtorEq, Nat.reduceAdd, Nat.reduceLeDiff, F66]
  have hsz : s.data.toList.length = s.size := Array.length_toList
  refine wpC_loop (fun i T L h' => h' = h ∧ T 0 = .v (.one (.str s)) ∧ T 3 = .v (.one (.int .i64 i)) ∧ Pre isLow true s.data.toList i) s.size ?_ ?_ (Nat.zero_le _) ?_
  · rintro i T L h' hi ⟨rfl, h0, h3, hp⟩
    simp +contextual (maxSteps := 2000000) only [go_sem, Nat.reduceEqDiff, reduceCtorEq, Nat.reduceAdd, Nat.reduceLeDiff, h0, h3, idx_at hi, lt_true hi]
    have e : s.data.toList[i]'(by omega) = s.data[i]'hi := Array.getElem_toList _
    have bad : isLow (s.data[i]'hi) = false → okName s = false := fun hx => by
      unfold okName
      rw [all_stop (l := s.data.toList) (i := i) (by omega) (by rw [e]; exact hx)]
      rfl
    have low : isLow (s.data[i]'hi) = (!(decide ((↑(s.data[i]'hi).toNat : Int) < 97)) && !(decide ((↑(s.data[i]'hi).toNat : Int) > 122))) := by
      unfold isLow
      rw [Bool.eq_iff_iff]
      simp
      omega
    (repeat' (first | refine And.intro ?_ ?_ | intro _)) <;> first | rfl | rw [wrap_next hi hn] | exact hp.next (by omega) (by rw [e, low]; simp_all) | rw [bad (by rw [low]; simp_all)]
  · rintro T L h' ⟨rfl, h0, h3, hp⟩
    rw [← hsz] at hp
    simp +contextual (maxSteps := 2000000) only [go_sem, Nat.reduceEqDiff, reduceCtorEq, Nat.reduceAdd, Nat.reduceLeDiff, h0, h3, lt_false, c_inRange, okName, hp.all, Bool.true_and]
  · simp +contextual (maxSteps := 2000000) only [go_sem, Nat.reduceEqDiff, reduceCtorEq, Nat.reduceAdd, Nat.reduceLeDiff]
    (repeat' (first | refine And.intro ?_ ?_ | intro _)) <;> first | rfl | exact Pre.zero
/-! spec.byPlace -/
def L108_0 : List AStep := [⟨.box 83 (.t 0), (some 1), none, []⟩, ⟨.mov (.c (.bool false)), (some 2), none, []⟩]
theorem v108_0 : VS L108_0.eq_1 := rfl
def L108_1 : List AStep := [⟨.mov (.t 10), (some 2), none, []⟩]
theorem v108_1 : VS L108_1.eq_1 := rfl
def L108_2 : List AStep := ⟨.bin .eql (.t 8) (.c (.int .i64 1)), (some 9), (some (6, false)), []⟩ :: ⟨.pick (.t 6) (.c (.bool true)) (.t 9), (some 10), none, []⟩ :: L108_1
theorem v108_2 : VS L108_2.eq_1 := rfl
def L108_3 : List AStep := ⟨.faddr 1 (.t 1), (some 7), (some (6, false)), []⟩ :: ⟨.load 1 false (.t 7), (some 8), (some (6, false)), []⟩ :: L108_2
theorem v108_3 : VS L108_3.eq_1 := rfl
def L108_4 : List AStep := ⟨.bin .eql (.t 4) (.c (.int .i64 0)), (some 5), none, []⟩ :: ⟨.mov (.t 5), (some 6), none, []⟩ :: L108_3
theorem v108_4 : VS L108_4.eq_1 := rfl
def L108_5 : List AStep := ⟨.faddr 1 (.t 1), (some 3), none, []⟩ :: ⟨.load 1 false (.t 3), (some 4), none, []⟩ :: L108_4
theorem v108_5 : VS L108_5.eq_1 := rfl
def C108_0 : ACode := .seq (.reg L108_5) .ret
theorem u108_0 : VC C108_0.eq_1 := rfl
def C108_1 : ACode := .seq (.reg L108_0) C108_0
theorem u108_1 : VC C108_1.eq_1 := rfl
def F108 : AFunc := ⟨11, [.tmp 2], C108_1⟩
theorem cF108 : compB Tryd.prog 108 = some F108 := by kernel_rfl
attribute [local go_sem ↓] u108_0 u108_1 v108_0 v108_1 v108_2 v108_3 v108_4 v108_5
theorem c_byPlace (p : Param) (h : H) : bm Tryd.prog 108 [.agg (encQ p)] h = some (ib (byPlace p), h) := by
  refine bm_eq cF108 ?_
  simp +contextual (maxSteps := 2000000) only [go_sem, Nat.reduceEqDiff, reduceCtorEq, Nat.reduceAdd, Nat.reduceLeDiff, F108, byPlace]
  cases decide (p.kind = 0) <;> simp
/-! spec.byName -/
def L136_0 : List AStep := [⟨.box 83 (.t 0), (some 1), none, []⟩, ⟨.mov (.c (.bool false)), (some 2), none, []⟩]
theorem v136_0 : VS L136_0.eq_1 := rfl
def L136_1 : List AStep := [⟨.mov (.t 10), (some 2), none, []⟩]
theorem v136_1 : VS L136_1.eq_1 := rfl
def L136_2 : List AStep := ⟨.bin .eql (.t 8) (.c (.int .i64 3)), (some 9), (some (6, false)), []⟩ :: ⟨.pick (.t 6) (.c (.bool true)) (.t 9), (some 10), none, []⟩ :: L136_1
theorem v136_2 : VS L136_2.eq_1 := rfl
def L136_3 : List AStep := ⟨.faddr 1 (.t 1), (some 7), (some (6, false)), []⟩ :: ⟨.load 1 false (.t 7), (some 8), (some (6, false)), []⟩ :: L136_2
theorem v136_3 : VS L136_3.eq_1 := rfl
def L136_4 : List AStep := ⟨.bin .eql (.t 4) (.c (.int .i64 1)), (some 5), none, []⟩ :: ⟨.mov (.t 5), (some 6), none, []⟩ :: L136_3
theorem v136_4 : VS L136_4.eq_1 := rfl
def L136_5 : List AStep := ⟨.faddr 1 (.t 1), (some 3), none, []⟩ :: ⟨.load 1 false (.t 3), (some 4), none, []⟩ :: L136_4
theorem v136_5 : VS L136_5.eq_1 := rfl
def C136_0 : ACode := .seq (.reg L136_5) .ret
theorem u136_0 : VC C136_0.eq_1 := rfl
def C136_1 : ACode := .seq (.reg L136_0) C136_0
theorem u136_1 : VC C136_1.eq_1 := rfl
def F136 : AFunc := ⟨11, [.tmp 2], C136_1⟩
theorem cF136 : compB Tryd.prog 136 = some F136 := by kernel_rfl
attribute [local go_sem ↓] u136_0 u136_1 v136_0 v136_1 v136_2 v136_3 v136_4 v136_5
theorem c_byName (p : Param) (h : H) : bm Tryd.prog 136 [.agg (encQ p)] h = some (ib (byName p), h) := by
  refine bm_eq cF136 ?_
  simp +contextual (maxSteps := 2000000) only [go_sem, Nat.reduceEqDiff, reduceCtorEq, Nat.reduceAdd, Nat.reduceLeDiff, F136, byName]
  cases decide (p.kind = 1) <;> simp
/-! spec.isSingle -/
def L107_0 : List AStep := [⟨.box 83 (.t 0), (some 1), none, []⟩, ⟨.mov (.c (.bool false)), (some 2), none, []⟩]
theorem v107_0 : VS L107_0.eq_1 := rfl
def L107_1 : List AStep := [⟨.mov (.t 8), (some 2), none, []⟩]
theorem v107_1 : VS L107_1.eq_1 := rfl
def L107_2 : List AStep := ⟨.call 136 [(.t 6)], (some 7), (some (5, false)), []⟩ :: ⟨.pick (.t 5) (.c (.bool true)) (.t 7), (some 8), none, []⟩ :: L107_1
theorem v107_2 : VS L107_2.eq_1 := rfl
def L107_3 : List AStep := ⟨.mov (.t 4), (some 5), none, []⟩ :: ⟨.load 4 true (.t 1), (some 6), (some (5, false)), []⟩ :: L107_2
theorem v107_3 : VS L107_3.eq_1 := rfl
def L107_4 : List AStep := ⟨.load 4 true (.t 1), (some 3), none, []⟩ :: ⟨.call 108 [(.t 3)], (some 4), none, []⟩ :: L107_3
theorem v107_4 : VS L107_4.eq_1 := rfl
def C107_0 : ACode := .seq (.reg L107_4) .ret
theorem u107_0 : VC C107_0.eq_1 := rfl
def C107_1 : ACode := .seq (.reg L107_0) C107_0
theorem u107_1 : VC C107_1.eq_1 := rfl
def F107 : AFunc := ⟨9, [.tmp 2], C107_1⟩
theorem cF107 : compB Tryd.prog 107 = some F107 := by kernel_rfl
attribute [local go_sem ↓] u107_0 u107_1 v107_0 v107_1 v107_2 v107_3 v107_4
theorem c_isSingle (p : Param) (h : H) : bm Tryd.prog 107 [.agg (encQ p)] h = some (ib (single p), h) := by
  refine bm_eq cF107 ?_
  simp +contextual (maxSteps := 2000000) only [go_sem, Nat.reduceEqDiff, reduceCtorEq, Nat.reduceAdd, Nat.reduceLeDiff, F107, c_byPlace, c_byName, single]
  cases byPlace p <;> simp
end Go.Proofs.YtoeceafibmafpaaDoor.Am
