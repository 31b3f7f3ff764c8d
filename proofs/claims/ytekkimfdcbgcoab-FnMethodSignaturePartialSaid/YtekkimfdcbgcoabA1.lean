/- Contracts of the reference: numbers, names, pairs, flat calls and signatures that are valid. -/
import Derived.Test.YtekkimfdcbgcoabDat
namespace Go.Proofs.Ytekkimfdcbgcoab.Am
open Go
set_option maxRecDepth 100000
set_option maxHeartbeats 4000000
set_option linter.unusedSimpArgs false
set_option linter.unusedVariables false
attribute [local go_sem ↓] bv_t bv_c ev_t ev_c put_same put_ne put_none kill_at pro_at lb_same lb_ne start_zero start_succ wpC_seq wpC_reg wpC_cond wpC_block wpC_skip wpC_exit wpC_ret thenQ_normal thenQ_exit thenQ_ret inBlk_normal inBlk_exit inBlk_ret wpS_nil wpS_step wpS_again wpS_guard wpO_mov wpO_load wpO_faddr wpO_nilCheck wpO_pick wpO_build wpO_bin wpO_eqb wpO_eqst wpO_eqnil wpO_not wpO_conv wpO_bytesStr wpO_iaddr wpO_idxStr wpO_field wpO_extract wpO_len wpO_lenStr wpO_cap wpO_min wpO_slice wpO_sliceStr wpO_alloc wpO_box wpO_store wpO_call wpO_callv wpO_mkfn wpO_buildSlice wpO_mkslice wpO_append wpO_appz proA_nil proA_cons tmpX_nil tmpX_tmp tmpX_cell doneB_normal doneB_ret agK_cons agK_nil agK_guard agG_tt agG_ff agG_tf agG_ft agG_undef pureB_load results_one results_two results_nil resBs_cons resBs_nil resB_tmp resB_cell
attribute [local go_sem] kill_v kill_lp_ne kill_lp_same pro_v pro_lp_same pro_lp_ne av_v av_lp optB_some optX_some valX_eq ldX_lp ldX_v faX_lp faX_v ncX_lp ncX_ptr ncX_fn boxK_one boxK_agg stL_some stK_lp_one stK_lp_agg stK_v_one stK_v_agg proM_v proM_lp callG_mk callVG_mk callvK_fn fnG_mk ptrsA_nil ptrsA_cons callH_some whenA_true whenA_false guardH_tt guardH_ff guardH_tf guardH_ft guardH_undef agV_one agV_agg lenO_sl lenStrO_str notO_bool pickO_bool convO_int eqbO_bool eqnilO_sl extractO_tup capO_sl minO_int loadL_one loadL_all storeL_eq fillA_nil fillA_one fillA_agg nat_ge neg_ge nat_lt neg_lt buildO bin_add bin_sub bin_mul bin_eql bin_neq bin_lss bin_leq bin_gtr bin_geq str_eql str_neq str_lss str_leq str_gtr str_geq retK_some endK_mk gcK_same gcK_int gcK_bool tupO_one tupO_agg rdy_self ib ii Option.map_none Option.map_some Option.some.injEq exists_eq_left' exists_eq_left ne_eq not_false_eq_true if_true if_false List.map_cons List.map_nil List.getElem?_cons_zero List.getElem?_cons_succ List.length_cons List.length_nil List.take_succ_cons List.take_zero List.take_nil List.drop_succ_cons List.drop_zero List.drop_nil List.cons_append List.nil_append List.append_nil List.set_cons_zero List.set_cons_succ Nat.zero_add forall_const true_and and_true and_self Bool.false_eq_true false_implies true_implies implies_true Bool.not_true Bool.not_false Bool.not_eq_true' Bool.not_eq_false' beq_self_eq_true Bool.bne_true Bool.bne_false
attribute [local go_sem] lenI lenS lenP lenQ lenB lenL lenT encI_0 encS_0 encP_0 encP_1 encQ_0 encQ_1 encQ_2 encQ_3 encB_0 encB_1 encL_0 encL_1 encT_0 encT_1
attribute [local go_sem low] whenA_bool guardH_bool
/-! spec.inRange -/
def L144_0 : List AStep := [⟨.mov (.c (.bool false)), (some 6), none, []⟩]
theorem v144_0 : VS L144_0.eq_1 := rfl
def L144_1 : List AStep := [⟨.mov (.t 14), (some 6), none, []⟩]
theorem v144_1 : VS L144_1.eq_1 := rfl
def L144_2 : List AStep := ⟨.bin .leq (.t 11) (.t 12), (some 13), (some (10, true)), []⟩ :: ⟨.pick (.t 10) (.t 13) (.c (.bool false)), (some 14), none, []⟩ :: L144_1
theorem v144_2 : VS L144_2.eq_1 := rfl
def L144_3 : List AStep := ⟨.mov (.t 0), (some 11), (some (10, true)), []⟩ :: ⟨.mov (.t 2), (some 12), (some (10, true)), []⟩ :: L144_2
theorem v144_3 : VS L144_3.eq_1 := rfl
def L144_4 : List AStep := ⟨.bin .leq (.t 7) (.t 8), (some 9), none, []⟩ :: ⟨.mov (.t 9), (some 10), none, []⟩ :: L144_3
theorem v144_4 : VS L144_4.eq_1 := rfl
def L144_5 : List AStep := ⟨.mov (.t 1), (some 7), none, []⟩ :: ⟨.mov (.t 0), (some 8), none, []⟩ :: L144_4
theorem v144_5 : VS L144_5.eq_1 := rfl
def C144_0 : ACode := .seq (.reg L144_5) .ret
theorem u144_0 : VC C144_0.eq_1 := rfl
def C144_1 : ACode := .seq (.reg L144_0) C144_0
theorem u144_1 : VC C144_1.eq_1 := rfl
def F144 : AFunc := ⟨15, [.tmp 6], C144_1⟩
theorem cF144 : compB Try.prog 144 = some F144 := by kernel_rfl
attribute [local go_sem ↓] u144_0 u144_1 v144_0 v144_1 v144_2 v144_3 v144_4 v144_5
theorem c_inRange (n lo hi : Int) (h : H) : bm Try.prog 144 [.one (.int .i64 n), .one (.int .i64 lo), .one (.int .i64 hi)] h = some (ib (decide (lo ≤ n) && decide (n ≤ hi)), h) := by
  refine bm_eq cF144 ?_
  simp +contextual (maxSteps := 2000000) only [go_sem, Nat.reduceEqDiff, reduceCtorEq, Nat.reduceAdd, Nat.reduceLeDiff, F144]
  cases decide (lo ≤ n) <;> simp
/-! spec.validNumber -/
def L145_0 : List AStep := [⟨.mov (.c (.bool false)), (some 2), none, []⟩]
theorem v145_0 : VS L145_0.eq_1 := rfl
def L145_1 : List AStep := [⟨.mov (.t 4), (some 2), none, []⟩]
theorem v145_1 : VS L145_1.eq_1 := rfl
def L145_2 : List AStep := ⟨.mov (.t 0), (some 3), none, []⟩ :: ⟨.call 144 [(.t 3), (.c (.int .i64 (-99))), (.c (.int .i64 99))], (some 4), none, []⟩ :: L145_1
theorem v145_2 : VS L145_2.eq_1 := rfl
def C145_0 : ACode := .seq (.reg L145_2) .ret
theorem u145_0 : VC C145_0.eq_1 := rfl
def C145_1 : ACode := .seq (.reg L145_0) C145_0
theorem u145_1 : VC C145_1.eq_1 := rfl
def F145 : AFunc := ⟨5, [.tmp 2], C145_1⟩
theorem cF145 : compB Try.prog 145 = some F145 := by kernel_rfl
attribute [local go_sem ↓] u145_0 u145_1 v145_0 v145_1 v145_2
theorem c_validNumber (n : Int) (h : H) : bm Try.prog 145 [.one (.int .i64 n)] h = some (ib (okNum n), h) := by
  refine bm_eq cF145 ?_
  simp +contextual (maxSteps := 2000000) only [go_sem, Nat.reduceEqDiff, reduceCtorEq, Nat.reduceAdd, Nat.reduceLeDiff, F145, c_inRange, okNum]
/-! spec.pairAt -/
def L131_0 : List AStep := [⟨.mov (.c (.int .i64 0)), (some 4), none, []⟩]
theorem v131_0 : VS L131_0.eq_1 := rfl
def L131_1 : List AStep := [⟨.mov (.c (.int .i64 0)), (some 5), none, []⟩]
theorem v131_1 : VS L131_1.eq_1 := rfl
def L131_2 : List AStep := [⟨.len (.t 7), (some 8), none, []⟩, ⟨.bin .lss (.t 6) (.t 8), (some 9), none, []⟩]
theorem v131_2 : VS L131_2.eq_1 := rfl
def L131_3 : List AStep := ⟨.mov (.t 5), (some 6), none, []⟩ :: ⟨.mov (.t 0), (some 7), none, []⟩ :: L131_2
theorem v131_3 : VS L131_3.eq_1 := rfl
def L131_4 : List AStep := [⟨.bin .eql (.t 16) (.t 17), (some 18), none, []⟩]
theorem v131_4 : VS L131_4.eq_1 := rfl
def L131_5 : List AStep := ⟨.load 1 false (.t 15), (some 16), none, []⟩ :: ⟨.mov (.t 1), (some 17), none, []⟩ :: L131_4
theorem v131_5 : VS L131_5.eq_1 := rfl
def L131_6 : List AStep := ⟨.iaddr 2 (.t 12) (.t 13), (some 14), none, []⟩ :: ⟨.faddr 0 (.t 14), (some 15), none, []⟩ :: L131_5
theorem v131_6 : VS L131_6.eq_1 := rfl
def L131_7 : List AStep := ⟨.mov (.t 0), (some 12), none, []⟩ :: ⟨.mov (.t 5), (some 13), none, []⟩ :: L131_6
theorem v131_7 : VS L131_7.eq_1 := rfl
def L131_8 : List AStep := [⟨.mov (.t 5), (some 19), none, []⟩, ⟨.mov (.t 19), (some 4), none, []⟩]
theorem v131_8 : VS L131_8.eq_1 := rfl
def L131_9 : List AStep := [⟨.mov (.t 11), (some 5), none, []⟩]
theorem v131_9 : VS L131_9.eq_1 := rfl
def L131_10 : List AStep := ⟨.mov (.t 5), (some 10), none, []⟩ :: ⟨.bin .add (.t 10) (.c (.int .i64 1)), (some 11), none, []⟩ :: L131_9
theorem v131_10 : VS L131_10.eq_1 := rfl
def L131_11 : List AStep := [⟨.mov (.c (.int .i64 (-1))), (some 4), none, []⟩]
theorem v131_11 : VS L131_11.eq_1 := rfl
def C131_0 : ACode := .cond (.t 9) .skip (.exit 0)
theorem u131_0 : VC C131_0.eq_1 := rfl
def C131_1 : ACode := .seq (.reg L131_3) C131_0
theorem u131_1 : VC C131_1.eq_1 := rfl
def C131_2 : ACode := .seq (.reg L131_8) .ret
theorem u131_2 : VC C131_2.eq_1 := rfl
def C131_3 : ACode := .cond (.t 18) C131_2 .skip
theorem u131_3 : VC C131_3.eq_1 := rfl
def C131_4 : ACode := .seq (.reg L131_7) C131_3
theorem u131_4 : VC C131_4.eq_1 := rfl
def C131_5 : ACode := .block 1 C131_4
theorem u131_5 : VC C131_5.eq_1 := rfl
def C131_6 : ACode := .seq C131_5 (.reg L131_10)
theorem u131_6 : VC C131_6.eq_1 := rfl
def C131_7 : ACode := .seq C131_1 C131_6
theorem u131_7 : VC C131_7.eq_1 := rfl
def C131_8 : ACode := .block 0 (.loop C131_7)
theorem u131_8 : VC C131_8.eq_1 := rfl
def C131_9 : ACode := .seq (.reg L131_1) C131_8
theorem u131_9 : VC C131_9.eq_1 := rfl
def C131_10 : ACode := .seq (.reg L131_11) .ret
theorem u131_10 : VC C131_10.eq_1 := rfl
def C131_11 : ACode := .seq C131_9 C131_10
theorem u131_11 : VC C131_11.eq_1 := rfl
def C131_12 : ACode := .seq (.reg L131_0) C131_11
theorem u131_12 : VC C131_12.eq_1 := rfl
def F131 : AFunc := ⟨20, [.tmp 4], C131_12⟩
theorem cF131 : compB Try.prog 131 = some F131 := by kernel_rfl
attribute [local go_sem ↓] u131_0 u131_1 u131_2 u131_3 u131_4 u131_5 u131_6 u131_7 u131_8 u131_9 u131_10 u131_11 u131_12 v131_0 v131_1 v131_2 v131_3 v131_4 v131_5 v131_6 v131_7 v131_8 v131_9 v131_10 v131_11
theorem c_pairAt (l : List Pair) (v : AV) (s : ByteArray) (h : H) (hl : SlP h v l) (hn : smP l) : bm Try.prog 131 [v, .one (.str s)] h = some (ii (pairAt l s), h) := by
  refine bm_eq cF131 ?_
  simp +contextual (maxSteps := 2000000) only [go_sem, Nat.reduceEqDiff, reduceCtorEq, Nat.reduceAdd, Nat.reduceLeDiff, F131]
  refine wpC_loop (fun i T L h' => h' = h ∧ T 0 = .v v ∧ T 1 = .v (.one (.str s)) ∧ T 5 = .v (.one (.int .i64 i)) ∧ Pre (fun p => decide (p.name = s)) false l i) l.length ?_ ?_ (Nat.zero_le _) ?_
  · rintro i T L h' hi ⟨rfl, h0, h1, h3, hp⟩
    simp +contextual (maxSteps := 2000000) only [go_sem, Nat.reduceEqDiff, reduceCtorEq, Nat.reduceAdd, Nat.reduceLeDiff, h0, h1, h3, hl.len, hl.iaddr hi, hl.fieldO hi, lt_true hi]
    (repeat' (first | refine And.intro ?_ ?_ | intro _)) <;> first | rfl | rw [wrap_next hi hn.len] | exact hp.next hi ‹_› | rw [pairAt, idx_hit hi hp ‹_›]
  · rintro T L h' ⟨rfl, h0, h1, h3, hp⟩
    simp +contextual (maxSteps := 2000000) only [go_sem, Nat.reduceEqDiff, reduceCtorEq, Nat.reduceAdd, Nat.reduceLeDiff, h0, h1, h3, hl.len, lt_false, pairAt, idx_none hp]
  · simp +contextual (maxSteps := 2000000) only [go_sem, Nat.reduceEqDiff, reduceCtorEq, Nat.reduceAdd, Nat.reduceLeDiff]
    (repeat' (first | refine And.intro ?_ ?_ | intro _)) <;> first | rfl | exact Pre.zero
/-! spec.validName -/
def L143_0 : List AStep := [⟨.mov (.c (.bool false)), (some 2), none, []⟩]
theorem v143_0 : VS L143_0.eq_1 := rfl
def L143_1 : List AStep := [⟨.mov (.c (.int .i64 0)), (some 3), none, []⟩]
theorem v143_1 : VS L143_1.eq_1 := rfl
def L143_2 : List AStep := [⟨.lenStr (.t 5), (some 6), none, []⟩, ⟨.bin .lss (.t 4) (.t 6), (some 7), none, []⟩]
theorem v143_2 : VS L143_2.eq_1 := rfl
def L143_3 : List AStep := ⟨.mov (.t 3), (some 4), none, []⟩ :: ⟨.mov (.t 0), (some 5), none, []⟩ :: L143_2
theorem v143_3 : VS L143_3.eq_1 := rfl
def L143_4 : List AStep := [⟨.bin .gtr (.t 17) (.c (.int .u8 122)), (some 18), (some (14, false)), []⟩, ⟨.pick (.t 14) (.c (.bool true)) (.t 18), (some 19), none, []⟩]
theorem v143_4 : VS L143_4.eq_1 := rfl
def L143_5 : List AStep := ⟨.mov (.t 3), (some 16), (some (14, false)), []⟩ :: ⟨.idxStr (.t 15) (.t 16), (some 17), (some (14, false)), []⟩ :: L143_4
theorem v143_5 : VS L143_5.eq_1 := rfl
def L143_6 : List AStep := ⟨.mov (.t 13), (some 14), none, []⟩ :: ⟨.mov (.t 0), (some 15), (some (14, false)), []⟩ :: L143_5
theorem v143_6 : VS L143_6.eq_1 := rfl
def L143_7 : List AStep := ⟨.idxStr (.t 10) (.t 11), (some 12), none, []⟩ :: ⟨.bin .lss (.t 12) (.c (.int .u8 97)), (some 13), none, []⟩ :: L143_6
theorem v143_7 : VS L143_7.eq_1 := rfl
def L143_8 : List AStep := ⟨.mov (.t 0), (some 10), none, []⟩ :: ⟨.mov (.t 3), (some 11), none, []⟩ :: L143_7
theorem v143_8 : VS L143_8.eq_1 := rfl
def L143_9 : List AStep := [⟨.mov (.c (.bool false)), (some 2), none, []⟩]
theorem v143_9 : VS L143_9.eq_1 := rfl
def L143_10 : List AStep := [⟨.mov (.t 9), (some 3), none, []⟩]
theorem v143_10 : VS L143_10.eq_1 := rfl
def L143_11 : List AStep := ⟨.mov (.t 3), (some 8), none, []⟩ :: ⟨.bin .add (.t 8) (.c (.int .i64 1)), (some 9), none, []⟩ :: L143_10
theorem v143_11 : VS L143_11.eq_1 := rfl
def L143_12 : List AStep := [⟨.call 144 [(.t 21), (.c (.int .i64 1)), (.c (.int .i64 6))], (some 22), none, []⟩, ⟨.mov (.t 22), (some 2), none, []⟩]
theorem v143_12 : VS L143_12.eq_1 := rfl
def L143_13 : List AStep := ⟨.mov (.t 0), (some 20), none, []⟩ :: ⟨.lenStr (.t 20), (some 21), none, []⟩ :: L143_12
theorem v143_13 : VS L143_13.eq_1 := rfl
def C143_0 : ACode := .cond (.t 7) .skip (.exit 0)
theorem u143_0 : VC C143_0.eq_1 := rfl
def C143_1 : ACode := .seq (.reg L143_3) C143_0
theorem u143_1 : VC C143_1.eq_1 := rfl
def C143_2 : ACode := .seq (.reg L143_9) .ret
theorem u143_2 : VC C143_2.eq_1 := rfl
def C143_3 : ACode := .cond (.t 19) C143_2 .skip
theorem u143_3 : VC C143_3.eq_1 := rfl
def C143_4 : ACode := .seq (.reg L143_8) C143_3
theorem u143_4 : VC C143_4.eq_1 := rfl
def C143_5 : ACode := .block 1 C143_4
theorem u143_5 : VC C143_5.eq_1 := rfl
def C143_6 : ACode := .seq C143_5 (.reg L143_11)
theorem u143_6 : VC C143_6.eq_1 := rfl
def C143_7 : ACode := .seq C143_1 C143_6
theorem u143_7 : VC C143_7.eq_1 := rfl
def C143_8 : ACode := .block 0 (.loop C143_7)
theorem u143_8 : VC C143_8.eq_1 := rfl
def C143_9 : ACode := .seq (.reg L143_1) C143_8
theorem u143_9 : VC C143_9.eq_1 := rfl
def C143_10 : ACode := .seq (.reg L143_13) .ret
theorem u143_10 : VC C143_10.eq_1 := rfl
def C143_11 : ACode := .seq C143_9 C143_10
theorem u143_11 : VC C143_11.eq_1 := rfl
def C143_12 : ACode := .seq (.reg L143_0) C143_11
theorem u143_12 : VC C143_12.eq_1 := rfl
def F143 : AFunc := ⟨23, [.tmp 2], C143_12⟩
theorem cF143 : compB Try.prog 143 = some F143 := by kernel_rfl
attribute [local go_sem ↓] u143_0 u143_1 u143_2 u143_3 u143_4 u143_5 u143_6 u143_7 u143_8 u143_9 u143_10 u143_11 u143_12 v143_0 v143_1 v143_2 v143_3 v143_4 v143_5 v143_6 v143_7 v143_8 v143_9 v143_10 v143_11 v143_12 v143_13
theorem c_validName (s : ByteArray) (h : H) (hn : s.size < 2 ^ 62) : bm Try.prog 143 [.one (.str s)] h = some (ib (okName s), h) := by
  refine bm_eq cF143 ?_
  simp +contextual (maxSteps := 2000000) only [go_sem, Nat.reduceEqDiff, reduceCtorEq, Nat.reduceAdd, Nat.reduceLeDiff, F143]
  have hsz : s.data.toList.length = s.size := Array.length_toList
  refine wpC_loop (fun i T L h' => h' = h ∧ T 0 = .v (.one (.str s)) ∧ T 3 = .v (.one (.int .i64 i)) ∧ Pre isLow true s.data.toList i) s.size ?_ ?_ (Nat.zero_le _) ?_
  · rintro i T L h' hi ⟨rfl, h0, h3, hp⟩
    simp +contextual (maxSteps := 2000000) only [go_sem, Nat.reduceEqDiff, reduceCtorEq, Nat.reduceAdd, Nat.reduceLeDiff, h0, h3, idx_at hi, lt_true hi]
    have e : s.data.toList[i]'(by omega) = s.data[i]'hi := Array.getElem_toList _
    have bad : isLow (s.data[i]'hi) = false → okName s = false := fun hx => by
      unfold okName
      rw [all_stop (l := s.data.toList) (i := i) (by omega) (by rw [e]; exact hx)]
      rfl
    have low : isLow (s.data[i]'hi) = (!(decide ((↑(s.data[i]'hi).toNat : Int) < 97)) && !(decide ((↑(s.data[i]'hi).toNat : Int) > 122))) := by
      unfold isLow
      rw [Bool.eq_iff_iff]
      simp
      omega
    (repeat' (first | refine And.intro ?_ ?_ | intro _)) <;> first | rfl | rw [wrap_next hi hn] | exact hp.next (by omega) (by rw [e, low]; simp_all) | rw [bad (by rw [low]; simp_all)]
  · rintro T L h' ⟨rfl, h0, h3, hp⟩
    rw [← hsz] at hp
    simp +contextual (maxSteps := 2000000) only [go_sem, Nat.reduceEqDiff, reduceCtorEq, Nat.reduceAdd, Nat.reduceLeDiff, h0, h3, lt_false, c_inRange, okName, hp.all, Bool.true_and]
  · simp +contextual (maxSteps := 2000000) only [go_sem, Nat.reduceEqDiff, reduceCtorEq, Nat.reduceAdd, Nat.reduceLeDiff]
    (repeat' (first | refine And.intro ?_ ?_ | intro _)) <;> first | rfl | exact Pre.zero
/-! spec.byPlace -/
def L104_0 : List AStep := [⟨.box 39 (.t 0), (some 1), none, []⟩, ⟨.mov (.c (.bool false)), (some 2), none, []⟩]
theorem v104_0 : VS L104_0.eq_1 := rfl
def L104_1 : List AStep := [⟨.mov (.t 10), (some 2), none, []⟩]
theorem v104_1 : VS L104_1.eq_1 := rfl
def L104_2 : List AStep := ⟨.bin .eql (.t 8) (.c (.int .i64 1)), (some 9), (some (6, false)), []⟩ :: ⟨.pick (.t 6) (.c (.bool true)) (.t 9), (some 10), none, []⟩ :: L104_1
theorem v104_2 : VS L104_2.eq_1 := rfl
def L104_3 : List AStep := ⟨.faddr 1 (.t 1), (some 7), (some (6, false)), []⟩ :: ⟨.load 1 false (.t 7), (some 8), (some (6, false)), []⟩ :: L104_2
theorem v104_3 : VS L104_3.eq_1 := rfl
def L104_4 : List AStep := ⟨.bin .eql (.t 4) (.c (.int .i64 0)), (some 5), none, []⟩ :: ⟨.mov (.t 5), (some 6), none, []⟩ :: L104_3
theorem v104_4 : VS L104_4.eq_1 := rfl
def L104_5 : List AStep := ⟨.faddr 1 (.t 1), (some 3), none, []⟩ :: ⟨.load 1 false (.t 3), (some 4), none, []⟩ :: L104_4
theorem v104_5 : VS L104_5.eq_1 := rfl
def C104_0 : ACode := .seq (.reg L104_5) .ret
theorem u104_0 : VC C104_0.eq_1 := rfl
def C104_1 : ACode := .seq (.reg L104_0) C104_0
theorem u104_1 : VC C104_1.eq_1 := rfl
def F104 : AFunc := ⟨11, [.tmp 2], C104_1⟩
theorem cF104 : compB Try.prog 104 = some F104 := by kernel_rfl
attribute [local go_sem ↓] u104_0 u104_1 v104_0 v104_1 v104_2 v104_3 v104_4 v104_5
theorem c_byPlace (p : Param) (h : H) : bm Try.prog 104 [.agg (encQ p)] h = some (ib (byPlace p), h) := by
  refine bm_eq cF104 ?_
  simp +contextual (maxSteps := 2000000) only [go_sem, Nat.reduceEqDiff, reduceCtorEq, Nat.reduceAdd, Nat.reduceLeDiff, F104, byPlace]
  cases decide (p.kind = 0) <;> simp
/-! spec.byName -/
def L130_0 : List AStep := [⟨.box 39 (.t 0), (some 1), none, []⟩, ⟨.mov (.c (.bool false)), (some 2), none, []⟩]
theorem v130_0 : VS L130_0.eq_1 := rfl
def L130_1 : List AStep := [⟨.mov (.t 10), (some 2), none, []⟩]
theorem v130_1 : VS L130_1.eq_1 := rfl
def L130_2 : List AStep := ⟨.bin .eql (.t 8) (.c (.int .i64 3)), (some 9), (some (6, false)), []⟩ :: ⟨.pick (.t 6) (.c (.bool true)) (.t 9), (some 10), none, []⟩ :: L130_1
theorem v130_2 : VS L130_2.eq_1 := rfl
def L130_3 : List AStep := ⟨.faddr 1 (.t 1), (some 7), (some (6, false)), []⟩ :: ⟨.load 1 false (.t 7), (some 8), (some (6, false)), []⟩ :: L130_2
theorem v130_3 : VS L130_3.eq_1 := rfl
def L130_4 : List AStep := ⟨.bin .eql (.t 4) (.c (.int .i64 1)), (some 5), none, []⟩ :: ⟨.mov (.t 5), (some 6), none, []⟩ :: L130_3
theorem v130_4 : VS L130_4.eq_1 := rfl
def L130_5 : List AStep := ⟨.faddr 1 (.t 1), (some 3), none, []⟩ :: ⟨.load 1 false (.t 3), (some 4), none, []⟩ :: L130_4
theorem v130_5 : VS L130_5.eq_1 := rfl
def C130_0 : ACode := .seq (.reg L130_5) .ret
theorem u130_0 : VC C130_0.eq_1 := rfl
def C130_1 : ACode := .seq (.reg L130_0) C130_0
theorem u130_1 : VC C130_1.eq_1 := rfl
def F130 : AFunc := ⟨11, [.tmp 2], C130_1⟩
theorem cF130 : compB Try.prog 130 = some F130 := by kernel_rfl
attribute [local go_sem ↓] u130_0 u130_1 v130_0 v130_1 v130_2 v130_3 v130_4 v130_5
theorem c_byName (p : Param) (h : H) : bm Try.prog 130 [.agg (encQ p)] h = some (ib (byName p), h) := by
  refine bm_eq cF130 ?_
  simp +contextual (maxSteps := 2000000) only [go_sem, Nat.reduceEqDiff, reduceCtorEq, Nat.reduceAdd, Nat.reduceLeDiff, F130, byName]
  cases decide (p.kind = 1) <;> simp
/-! spec.isSingle -/
def L135_0 : List AStep := [⟨.box 39 (.t 0), (some 1), none, []⟩, ⟨.mov (.c (.bool false)), (some 2), none, []⟩]
theorem v135_0 : VS L135_0.eq_1 := rfl
def L135_1 : List AStep := [⟨.mov (.t 8), (some 2), none, []⟩]
theorem v135_1 : VS L135_1.eq_1 := rfl
def L135_2 : List AStep := ⟨.call 130 [(.t 6)], (some 7), (some (5, false)), []⟩ :: ⟨.pick (.t 5) (.c (.bool true)) (.t 7), (some 8), none, []⟩ :: L135_1
theorem v135_2 : VS L135_2.eq_1 := rfl
def L135_3 : List AStep := ⟨.mov (.t 4), (some 5), none, []⟩ :: ⟨.load 4 true (.t 1), (some 6), (some (5, false)), []⟩ :: L135_2
theorem v135_3 : VS L135_3.eq_1 := rfl
def L135_4 : List AStep := ⟨.load 4 true (.t 1), (some 3), none, []⟩ :: ⟨.call 104 [(.t 3)], (some 4), none, []⟩ :: L135_3
theorem v135_4 : VS L135_4.eq_1 := rfl
def C135_0 : ACode := .seq (.reg L135_4) .ret
theorem u135_0 : VC C135_0.eq_1 := rfl
def C135_1 : ACode := .seq (.reg L135_0) C135_0
theorem u135_1 : VC C135_1.eq_1 := rfl
def F135 : AFunc := ⟨9, [.tmp 2], C135_1⟩
theorem cF135 : compB Try.prog 135 = some F135 := by kernel_rfl
attribute [local go_sem ↓] u135_0 u135_1 v135_0 v135_1 v135_2 v135_3 v135_4
theorem c_isSingle (p : Param) (h : H) : bm Try.prog 135 [.agg (encQ p)] h = some (ib (single p), h) := by
  refine bm_eq cF135 ?_
  simp +contextual (maxSteps := 2000000) only [go_sem, Nat.reduceEqDiff, reduceCtorEq, Nat.reduceAdd, Nat.reduceLeDiff, F135, c_byPlace, c_byName, single]
  cases byPlace p <;> simp
end Go.Proofs.Ytekkimfdcbgcoab.Am
