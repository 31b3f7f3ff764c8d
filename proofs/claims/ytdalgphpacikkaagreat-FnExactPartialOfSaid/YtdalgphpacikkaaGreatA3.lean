/- Contracts of the program: numbers, names, pairs, flat calls and signatures that are valid. -/
import Derived.Test.YtdalgphpacikkaaGreatDat
namespace Go.Proofs.YtdalgphpacikkaaGreat.Am
open Go
set_option maxRecDepth 100000
set_option maxHeartbeats 4000000
set_option linter.unusedSimpArgs false
set_option linter.unusedVariables false
attribute [local go_sem ↓] bv_t bv_c ev_t ev_c put_same put_ne put_none kill_at pro_at lb_same lb_ne start_zero start_succ wpC_seq wpC_reg wpC_cond wpC_block wpC_skip wpC_exit wpC_ret thenQ_normal thenQ_exit thenQ_ret inBlk_normal inBlk_exit inBlk_ret wpS_nil wpS_step wpS_again wpS_guard wpO_mov wpO_load wpO_faddr wpO_nilCheck wpO_pick wpO_build wpO_bin wpO_eqb wpO_eqst wpO_eqnil wpO_not wpO_conv wpO_bytesStr wpO_iaddr wpO_idxStr wpO_field wpO_extract wpO_len wpO_lenStr wpO_cap wpO_min wpO_slice wpO_sliceStr wpO_alloc wpO_box wpO_store wpO_call wpO_callv wpO_mkfn wpO_buildSlice wpO_mkslice wpO_append wpO_appz proA_nil proA_cons tmpX_nil tmpX_tmp tmpX_cell doneB_normal doneB_ret agK_cons agK_nil agK_guard agG_tt agG_ff agG_tf agG_ft agG_undef pureB_load results_one results_two results_nil resBs_cons resBs_nil resB_tmp resB_cell
attribute [local go_sem] kill_v kill_lp_ne kill_lp_same pro_v pro_lp_same pro_lp_ne av_v av_lp optB_some optX_some valX_eq ldX_lp ldX_v faX_lp faX_v ncX_lp ncX_ptr ncX_fn boxK_one boxK_agg stL_some stK_lp_one stK_lp_agg stK_v_one stK_v_agg proM_v proM_lp callG_mk callVG_mk callvK_fn fnG_mk ptrsA_nil ptrsA_cons callH_some whenA_true whenA_false guardH_tt guardH_ff guardH_tf guardH_ft guardH_undef agV_one agV_agg lenO_sl lenStrO_str notO_bool pickO_bool convO_int eqbO_bool eqnilO_sl extractO_tup capO_sl minO_int loadL_one loadL_all storeL_eq fillA_nil fillA_one fillA_agg nat_ge neg_ge nat_lt neg_lt buildO bin_add bin_sub bin_mul bin_eql bin_neq bin_lss bin_leq bin_gtr bin_geq str_eql str_neq str_lss str_leq str_gtr str_geq retK_some endK_mk gcK_same gcK_int gcK_bool tupO_one tupO_agg rdy_self ib ii Option.map_none Option.map_some Option.some.injEq exists_eq_left' exists_eq_left ne_eq not_false_eq_true if_true if_false List.map_cons List.map_nil List.getElem?_cons_zero List.getElem?_cons_succ List.length_cons List.length_nil List.take_succ_cons List.take_zero List.take_nil List.drop_succ_cons List.drop_zero List.drop_nil List.cons_append List.nil_append List.append_nil List.set_cons_zero List.set_cons_succ Nat.zero_add forall_const true_and and_true and_self Bool.false_eq_true false_implies true_implies implies_true Bool.not_true Bool.not_false Bool.not_eq_true' Bool.not_eq_false' beq_self_eq_true Bool.bne_true Bool.bne_false
attribute [local go_sem] lenI lenS lenP lenQ lenB lenL lenT encI_0 encS_0 encP_0 encP_1 encQ_0 encQ_1 encQ_2 encQ_3 encB_0 encB_1 encL_0 encL_1 encT_0 encT_1
attribute [local go_sem low] whenA_bool guardH_bool
/-! impl.in -/
def L88_0 : List AStep := [⟨.mov (.c (.bool false)), (some 6), none, []⟩]
theorem v88_0 : VS L88_0.eq_1 := rfl
def L88_1 : List AStep := [⟨.mov (.t 14), (some 6), none, []⟩]
theorem v88_1 : VS L88_1.eq_1 := rfl
def L88_2 : List AStep := ⟨.bin .leq (.t 11) (.t 12), (some 13), (some (10, true)), []⟩ :: ⟨.pick (.t 10) (.t 13) (.c (.bool false)), (some 14), none, []⟩ :: L88_1
theorem v88_2 : VS L88_2.eq_1 := rfl
def L88_3 : List AStep := ⟨.mov (.t 0), (some 11), (some (10, true)), []⟩ :: ⟨.mov (.t 2), (some 12), (some (10, true)), []⟩ :: L88_2
theorem v88_3 : VS L88_3.eq_1 := rfl
def L88_4 : List AStep := ⟨.bin .geq (.t 7) (.t 8), (some 9), none, []⟩ :: ⟨.mov (.t 9), (some 10), none, []⟩ :: L88_3
theorem v88_4 : VS L88_4.eq_1 := rfl
def L88_5 : List AStep := ⟨.mov (.t 0), (some 7), none, []⟩ :: ⟨.mov (.t 1), (some 8), none, []⟩ :: L88_4
theorem v88_5 : VS L88_5.eq_1 := rfl
def C88_0 : ACode := .seq (.reg L88_5) .ret
theorem u88_0 : VC C88_0.eq_1 := rfl
def C88_1 : ACode := .seq (.reg L88_0) C88_0
theorem u88_1 : VC C88_1.eq_1 := rfl
def F88 : AFunc := ⟨15, [.tmp 6], C88_1⟩
theorem cF88 : compB Tryz.prog 88 = some F88 := by kernel_rfl
attribute [local go_sem ↓] u88_0 u88_1 v88_0 v88_1 v88_2 v88_3 v88_4 v88_5
theorem c_in (n lo hi : Int) (h : H) : bm Tryz.prog 88 [.one (.int .i64 n), .one (.int .i64 lo), .one (.int .i64 hi)] h = some (ib (decide (lo ≤ n) && decide (n ≤ hi)), h) := by
  refine bm_eq cF88 ?_
  simp +contextual (maxSteps := 2000000) only [go_sem, Nat.reduceEqDiff, reduceCtorEq, Nat.reduceAdd, Nat.reduceLeDiff, F88]
  (repeat' (first | refine And.intro ?_ ?_ | intro _)) <;> first | simp_all
/-! impl.isValue -/
def L89_0 : List AStep := [⟨.mov (.c (.bool false)), (some 2), none, []⟩]
theorem v89_0 : VS L89_0.eq_1 := rfl
def L89_1 : List AStep := [⟨.mov (.t 4), (some 2), none, []⟩]
theorem v89_1 : VS L89_1.eq_1 := rfl
def L89_2 : List AStep := ⟨.mov (.t 0), (some 3), none, []⟩ :: ⟨.call 88 [(.t 3), (.c (.int .i64 (-99))), (.c (.int .i64 99))], (some 4), none, []⟩ :: L89_1
theorem v89_2 : VS L89_2.eq_1 := rfl
def C89_0 : ACode := .seq (.reg L89_2) .ret
theorem u89_0 : VC C89_0.eq_1 := rfl
def C89_1 : ACode := .seq (.reg L89_0) C89_0
theorem u89_1 : VC C89_1.eq_1 := rfl
def F89 : AFunc := ⟨5, [.tmp 2], C89_1⟩
theorem cF89 : compB Tryz.prog 89 = some F89 := by kernel_rfl
attribute [local go_sem ↓] u89_0 u89_1 v89_0 v89_1 v89_2
theorem c_isValue (n : Int) (h : H) : bm Tryz.prog 89 [.one (.int .i64 n)] h = some (ib (okNum n), h) := by
  refine bm_eq cF89 ?_
  simp +contextual (maxSteps := 2000000) only [go_sem, Nat.reduceEqDiff, reduceCtorEq, Nat.reduceAdd, Nat.reduceLeDiff, F89, c_in, okNum]
/-! impl.isName -/
def L87_0 : List AStep := [⟨.mov (.c (.bool false)), (some 2), none, []⟩]
theorem v87_0 : VS L87_0.eq_1 := rfl
def L87_1 : List AStep := [⟨.mov (.c (.int .i64 0)), (some 3), none, []⟩]
theorem v87_1 : VS L87_1.eq_1 := rfl
def L87_2 : List AStep := [⟨.lenStr (.t 5), (some 6), none, []⟩, ⟨.bin .lss (.t 4) (.t 6), (some 7), none, []⟩]
theorem v87_2 : VS L87_2.eq_1 := rfl
def L87_3 : List AStep := ⟨.mov (.t 3), (some 4), none, []⟩ :: ⟨.mov (.t 0), (some 5), none, []⟩ :: L87_2
theorem v87_3 : VS L87_3.eq_1 := rfl
def L87_4 : List AStep := [⟨.bin .gtr (.t 17) (.c (.int .u8 122)), (some 18), (some (14, false)), []⟩, ⟨.pick (.t 14) (.c (.bool true)) (.t 18), (some 19), none, []⟩]
theorem v87_4 : VS L87_4.eq_1 := rfl
def L87_5 : List AStep := ⟨.mov (.t 3), (some 16), (some (14, false)), []⟩ :: ⟨.idxStr (.t 15) (.t 16), (some 17), (some (14, false)), []⟩ :: L87_4
theorem v87_5 : VS L87_5.eq_1 := rfl
def L87_6 : List AStep := ⟨.mov (.t 13), (some 14), none, []⟩ :: ⟨.mov (.t 0), (some 15), (some (14, false)), []⟩ :: L87_5
theorem v87_6 : VS L87_6.eq_1 := rfl
def L87_7 : List AStep := ⟨.idxStr (.t 10) (.t 11), (some 12), none, []⟩ :: ⟨.bin .lss (.t 12) (.c (.int .u8 97)), (some 13), none, []⟩ :: L87_6
theorem v87_7 : VS L87_7.eq_1 := rfl
def L87_8 : List AStep := ⟨.mov (.t 0), (some 10), none, []⟩ :: ⟨.mov (.t 3), (some 11), none, []⟩ :: L87_7
theorem v87_8 : VS L87_8.eq_1 := rfl
def L87_9 : List AStep := [⟨.mov (.c (.bool false)), (some 2), none, []⟩]
theorem v87_9 : VS L87_9.eq_1 := rfl
def L87_10 : List AStep := [⟨.mov (.t 9), (some 3), none, []⟩]
theorem v87_10 : VS L87_10.eq_1 := rfl
def L87_11 : List AStep := ⟨.mov (.t 3), (some 8), none, []⟩ :: ⟨.bin .add (.t 8) (.c (.int .i64 1)), (some 9), none, []⟩ :: L87_10
theorem v87_11 : VS L87_11.eq_1 := rfl
def L87_12 : List AStep := [⟨.call 88 [(.t 21), (.c (.int .i64 1)), (.c (.int .i64 6))], (some 22), none, []⟩, ⟨.mov (.t 22), (some 2), none, []⟩]
theorem v87_12 : VS L87_12.eq_1 := rfl
def L87_13 : List AStep := ⟨.mov (.t 0), (some 20), none, []⟩ :: ⟨.lenStr (.t 20), (some 21), none, []⟩ :: L87_12
theorem v87_13 : VS L87_13.eq_1 := rfl
def C87_0 : ACode := .cond (.t 7) .skip (.exit 0)
theorem u87_0 : VC C87_0.eq_1 := rfl
def C87_1 : ACode := .seq (.reg L87_3) C87_0
theorem u87_1 : VC C87_1.eq_1 := rfl
def C87_2 : ACode := .seq (.reg L87_9) .ret
theorem u87_2 : VC C87_2.eq_1 := rfl
def C87_3 : ACode := .cond (.t 19) C87_2 .skip
theorem u87_3 : VC C87_3.eq_1 := rfl
def C87_4 : ACode := .seq (.reg L87_8) C87_3
theorem u87_4 : VC C87_4.eq_1 := rfl
def C87_5 : ACode := .block 1 C87_4
theorem u87_5 : VC C87_5.eq_1 := rfl
def C87_6 : ACode := .seq C87_5 (.reg L87_11)
theorem u87_6 : VC C87_6.eq_1 := rfl
def C87_7 : ACode := .seq C87_1 C87_6
theorem u87_7 : VC C87_7.eq_1 := rfl
def C87_8 : ACode := .block 0 (.loop C87_7)
theorem u87_8 : VC C87_8.eq_1 := rfl
def C87_9 : ACode := .seq (.reg L87_1) C87_8
theorem u87_9 : VC C87_9.eq_1 := rfl
def C87_10 : ACode := .seq (.reg L87_13) .ret
theorem u87_10 : VC C87_10.eq_1 := rfl
def C87_11 : ACode := .seq C87_9 C87_10
theorem u87_11 : VC C87_11.eq_1 := rfl
def C87_12 : ACode := .seq (.reg L87_0) C87_11
theorem u87_12 : VC C87_12.eq_1 := rfl
def F87 : AFunc := ⟨23, [.tmp 2], C87_12⟩
theorem cF87 : compB Tryz.prog 87 = some F87 := by kernel_rfl
attribute [local go_sem ↓] u87_0 u87_1 u87_2 u87_3 u87_4 u87_5 u87_6 u87_7 u87_8 u87_9 u87_10 u87_11 u87_12 v87_0 v87_1 v87_2 v87_3 v87_4 v87_5 v87_6 v87_7 v87_8 v87_9 v87_10 v87_11 v87_12 v87_13
theorem c_isName (s : ByteArray) (h : H) (hn : s.size < 2 ^ 62) : bm Tryz.prog 87 [.one (.str s)] h = some (ib (okName s), h) := by
  refine bm_eq cF87 ?_
  simp +contextual (maxSteps := 2000000) only [go_sem, Nat.reduceEqDiff, reduceCtorEq, Nat.reduceAdd, Nat.reduceLeDiff, F87]
  have hsz : s.data.toList.length = s.size := Array.length_toList
  refine wpC_loop (fun i T L h' => h' = h ∧ T 0 = .v (.one (.str s)) ∧ T 3 = .v (.one (.int .i64 i)) ∧ Pre isLow true s.data.toList i) s.size ?_ ?_ (Nat.zero_le _) ?_
  · rintro i T L h' hi ⟨rfl, h0, h3, hp⟩
    simp +contextual (maxSteps := 2000000) only [go_sem, Nat.reduceEqDiff, reduceCtorEq, Nat.reduceAdd, Nat.reduceLeDiff, h0, h3, idx_at hi, lt_true hi]
    have e : s.data.toList[i]'(by omega) = s.data[i]'hi := Array.getElem_toList _
    have bad : isLow (s.data[i]'hi) = false → okName s = false := fun hx => by
      unfold okName
      rw [all_stop (l := s.data.toList) (i := i) (by omega) (by rw [e]; exact hx)]
      rfl
    have low : isLow (s.data[i]'hi) = (!(decide ((↑(s.data[i]'hi).toNat : Int) < 97)) && !(decide ((↑(s.data[i]'hi).toNat : Int) > 122))) := by
      unfold isLow
      rw [Bool.eq_iff_iff]
      simp
      omega
    (repeat' (first | refine And.intro ?_ ?_ | intro _)) <;> first | rfl | rw [wrap_next hi hn] | exact hp.next (by omega) (by rw [e, low]; simp_all) | rw [bad (by rw [low]; simp_all)]
  · rintro T L h' ⟨rfl, h0, h3, hp⟩
    rw [← hsz] at hp
    simp +contextual (maxSteps := 2000000) only [go_sem, Nat.reduceEqDiff, reduceCtorEq, Nat.reduceAdd, Nat.reduceLeDiff, h0, h3, lt_false, c_in, okName, hp.all, Bool.true_and]
  · simp +contextual (maxSteps := 2000000) only [go_sem, Nat.reduceEqDiff, reduceCtorEq, Nat.reduceAdd, Nat.reduceLeDiff]
    (repeat' (first | refine And.intro ?_ ?_ | intro _)) <;> first | rfl | exact Pre.zero
/-! (impl.Param).placed -/
def L78_0 : List AStep := [⟨.box 79 (.t 0), (some 1), none, []⟩, ⟨.mov (.c (.bool false)), (some 2), none, []⟩]
theorem v78_0 : VS L78_0.eq_1 := rfl
def L78_1 : List AStep := [⟨.mov (.t 10), (some 2), none, []⟩]
theorem v78_1 : VS L78_1.eq_1 := rfl
def L78_2 : List AStep := ⟨.bin .eql (.t 8) (.c (.int .i64 1)), (some 9), (some (6, false)), []⟩ :: ⟨.pick (.t 6) (.c (.bool true)) (.t 9), (some 10), none, []⟩ :: L78_1
theorem v78_2 : VS L78_2.eq_1 := rfl
def L78_3 : List AStep := ⟨.faddr 1 (.t 1), (some 7), (some (6, false)), []⟩ :: ⟨.load 1 false (.t 7), (some 8), (some (6, false)), []⟩ :: L78_2
theorem v78_3 : VS L78_3.eq_1 := rfl
def L78_4 : List AStep := ⟨.bin .eql (.t 4) (.c (.int .i64 0)), (some 5), none, []⟩ :: ⟨.mov (.t 5), (some 6), none, []⟩ :: L78_3
theorem v78_4 : VS L78_4.eq_1 := rfl
def L78_5 : List AStep := ⟨.faddr 1 (.t 1), (some 3), none, []⟩ :: ⟨.load 1 false (.t 3), (some 4), none, []⟩ :: L78_4
theorem v78_5 : VS L78_5.eq_1 := rfl
def C78_0 : ACode := .seq (.reg L78_5) .ret
theorem u78_0 : VC C78_0.eq_1 := rfl
def C78_1 : ACode := .seq (.reg L78_0) C78_0
theorem u78_1 : VC C78_1.eq_1 := rfl
def F78 : AFunc := ⟨11, [.tmp 2], C78_1⟩
theorem cF78 : compB Tryz.prog 78 = some F78 := by kernel_rfl
attribute [local go_sem ↓] u78_0 u78_1 v78_0 v78_1 v78_2 v78_3 v78_4 v78_5
theorem c_placed (p : Param) (h : H) : bm Tryz.prog 78 [.agg (encQ p)] h = some (ib (byPlace p), h) := by
  refine bm_eq cF78 ?_
  simp +contextual (maxSteps := 2000000) only [go_sem, Nat.reduceEqDiff, reduceCtorEq, Nat.reduceAdd, Nat.reduceLeDiff, F78, byPlace]
  (repeat' (first | refine And.intro ?_ ?_ | intro _)) <;> first | simp_all
/-! (impl.Param).named -/
def L94_0 : List AStep := [⟨.box 79 (.t 0), (some 1), none, []⟩, ⟨.mov (.c (.bool false)), (some 2), none, []⟩]
theorem v94_0 : VS L94_0.eq_1 := rfl
def L94_1 : List AStep := [⟨.mov (.t 10), (some 2), none, []⟩]
theorem v94_1 : VS L94_1.eq_1 := rfl
def L94_2 : List AStep := ⟨.bin .eql (.t 8) (.c (.int .i64 3)), (some 9), (some (6, false)), []⟩ :: ⟨.pick (.t 6) (.c (.bool true)) (.t 9), (some 10), none, []⟩ :: L94_1
theorem v94_2 : VS L94_2.eq_1 := rfl
def L94_3 : List AStep := ⟨.faddr 1 (.t 1), (some 7), (some (6, false)), []⟩ :: ⟨.load 1 false (.t 7), (some 8), (some (6, false)), []⟩ :: L94_2
theorem v94_3 : VS L94_3.eq_1 := rfl
def L94_4 : List AStep := ⟨.bin .eql (.t 4) (.c (.int .i64 1)), (some 5), none, []⟩ :: ⟨.mov (.t 5), (some 6), none, []⟩ :: L94_3
theorem v94_4 : VS L94_4.eq_1 := rfl
def L94_5 : List AStep := ⟨.faddr 1 (.t 1), (some 3), none, []⟩ :: ⟨.load 1 false (.t 3), (some 4), none, []⟩ :: L94_4
theorem v94_5 : VS L94_5.eq_1 := rfl
def C94_0 : ACode := .seq (.reg L94_5) .ret
theorem u94_0 : VC C94_0.eq_1 := rfl
def C94_1 : ACode := .seq (.reg L94_0) C94_0
theorem u94_1 : VC C94_1.eq_1 := rfl
def F94 : AFunc := ⟨11, [.tmp 2], C94_1⟩
theorem cF94 : compB Tryz.prog 94 = some F94 := by kernel_rfl
attribute [local go_sem ↓] u94_0 u94_1 v94_0 v94_1 v94_2 v94_3 v94_4 v94_5
theorem c_named (p : Param) (h : H) : bm Tryz.prog 94 [.agg (encQ p)] h = some (ib (byName p), h) := by
  refine bm_eq cF94 ?_
  simp +contextual (maxSteps := 2000000) only [go_sem, Nat.reduceEqDiff, reduceCtorEq, Nat.reduceAdd, Nat.reduceLeDiff, F94, byName]
  (repeat' (first | refine And.intro ?_ ?_ | intro _)) <;> first | simp_all
/-! (impl.Param).single -/
def L80_0 : List AStep := [⟨.box 79 (.t 0), (some 1), none, []⟩, ⟨.mov (.c (.bool false)), (some 2), none, []⟩]
theorem v80_0 : VS L80_0.eq_1 := rfl
def L80_1 : List AStep := [⟨.pick (.t 5) (.c (.bool true)) (.t 8), (some 9), none, []⟩, ⟨.mov (.t 9), (some 2), none, []⟩]
theorem v80_1 : VS L80_1.eq_1 := rfl
def L80_2 : List AStep := ⟨.load 1 false (.t 6), (some 7), (some (5, false)), []⟩ :: ⟨.bin .eql (.t 7) (.c (.int .i64 3)), (some 8), (some (5, false)), []⟩ :: L80_1
theorem v80_2 : VS L80_2.eq_1 := rfl
def L80_3 : List AStep := ⟨.mov (.t 4), (some 5), none, []⟩ :: ⟨.faddr 1 (.t 1), (some 6), (some (5, false)), []⟩ :: L80_2
theorem v80_3 : VS L80_3.eq_1 := rfl
def L80_4 : List AStep := ⟨.load 4 true (.t 1), (some 3), none, []⟩ :: ⟨.call 78 [(.t 3)], (some 4), none, []⟩ :: L80_3
theorem v80_4 : VS L80_4.eq_1 := rfl
def C80_0 : ACode := .seq (.reg L80_4) .ret
theorem u80_0 : VC C80_0.eq_1 := rfl
def C80_1 : ACode := .seq (.reg L80_0) C80_0
theorem u80_1 : VC C80_1.eq_1 := rfl
def F80 : AFunc := ⟨10, [.tmp 2], C80_1⟩
theorem cF80 : compB Tryz.prog 80 = some F80 := by kernel_rfl
attribute [local go_sem ↓] u80_0 u80_1 v80_0 v80_1 v80_2 v80_3 v80_4
theorem c_single (p : Param) (h : H) : bm Tryz.prog 80 [.agg (encQ p)] h = some (ib (single p), h) := by
  refine bm_eq cF80 ?_
  simp +contextual (maxSteps := 2000000) only [go_sem, Nat.reduceEqDiff, reduceCtorEq, Nat.reduceAdd, Nat.reduceLeDiff, F80, c_placed, single_eq]
  (repeat' (first | refine And.intro ?_ ?_ | intro _)) <;> first | simp_all
/-! (impl.Pair).valid -/
def L91_0 : List AStep := [⟨.box 81 (.t 0), (some 1), none, []⟩, ⟨.mov (.c (.bool false)), (some 2), none, []⟩]
theorem v91_0 : VS L91_0.eq_1 := rfl
def L91_1 : List AStep := [⟨.mov (.t 10), (some 2), none, []⟩]
theorem v91_1 : VS L91_1.eq_1 := rfl
def L91_2 : List AStep := ⟨.call 89 [(.t 8)], (some 9), (some (6, true)), []⟩ :: ⟨.pick (.t 6) (.t 9) (.c (.bool false)), (some 10), none, []⟩ :: L91_1
theorem v91_2 : VS L91_2.eq_1 := rfl
def L91_3 : List AStep := ⟨.faddr 1 (.t 1), (some 7), (some (6, true)), []⟩ :: ⟨.load 1 false (.t 7), (some 8), (some (6, true)), []⟩ :: L91_2
theorem v91_3 : VS L91_3.eq_1 := rfl
def L91_4 : List AStep := ⟨.call 87 [(.t 4)], (some 5), none, []⟩ :: ⟨.mov (.t 5), (some 6), none, []⟩ :: L91_3
theorem v91_4 : VS L91_4.eq_1 := rfl
def L91_5 : List AStep := ⟨.faddr 0 (.t 1), (some 3), none, []⟩ :: ⟨.load 1 false (.t 3), (some 4), none, []⟩ :: L91_4
theorem v91_5 : VS L91_5.eq_1 := rfl
def C91_0 : ACode := .seq (.reg L91_5) .ret
theorem u91_0 : VC C91_0.eq_1 := rfl
def C91_1 : ACode := .seq (.reg L91_0) C91_0
theorem u91_1 : VC C91_1.eq_1 := rfl
def F91 : AFunc := ⟨11, [.tmp 2], C91_1⟩
theorem cF91 : compB Tryz.prog 91 = some F91 := by kernel_rfl
attribute [local go_sem ↓] u91_0 u91_1 v91_0 v91_1 v91_2 v91_3 v91_4 v91_5
theorem c_okPair (p : Pair) (h : H) (hn : p.name.size < 2 ^ 62) : bm Tryz.prog 91 [.agg (encP p)] h = some (ib (okPair p), h) := by
  refine bm_eq cF91 ?_
  simp +contextual (maxSteps := 2000000) only [go_sem, Nat.reduceEqDiff, reduceCtorEq, Nat.reduceAdd, Nat.reduceLeDiff, F91, c_isName _ _ hn, c_isValue, okPair]
  (repeat' (first | refine And.intro ?_ ?_ | intro _)) <;> first | simp_all
/-! slices.IndexFunc(()impl.Pair,impl.Pair) -/
def L99_0 : List AStep := [⟨.mov (.c (.int .i64 0)), (some 4), none, []⟩]
theorem v99_0 : VS L99_0.eq_1 := rfl
def L99_1 : List AStep := [⟨.mov (.c (.int .i64 0)), (some 8), none, []⟩]
theorem v99_1 : VS L99_1.eq_1 := rfl
def L99_2 : List AStep := ⟨.mov (.t 0), (some 6), none, []⟩ :: ⟨.len (.t 6), (some 7), none, []⟩ :: L99_1
theorem v99_2 : VS L99_2.eq_1 := rfl
def L99_3 : List AStep := [⟨.bin .lss (.t 8) (.t 7), (some 9), none, []⟩]
theorem v99_3 : VS L99_3.eq_1 := rfl
def L99_4 : List AStep := [⟨.mov (.t 8), (some 10), none, []⟩, ⟨.mov (.t 10), (some 5), none, []⟩]
theorem v99_4 : VS L99_4.eq_1 := rfl
def L99_5 : List AStep := [⟨.load 2 true (.t 14), (some 15), none, []⟩, ⟨.callv (.t 11) [(.t 15)], (some 16), none, []⟩]
theorem v99_5 : VS L99_5.eq_1 := rfl
def L99_6 : List AStep := ⟨.mov (.t 5), (some 13), none, []⟩ :: ⟨.iaddr 2 (.t 12) (.t 13), (some 14), none, []⟩ :: L99_5
theorem v99_6 : VS L99_6.eq_1 := rfl
def L99_7 : List AStep := ⟨.mov (.t 1), (some 11), none, []⟩ :: ⟨.mov (.t 0), (some 12), none, []⟩ :: L99_6
theorem v99_7 : VS L99_7.eq_1 := rfl
def L99_8 : List AStep := [⟨.mov (.t 5), (some 17), none, []⟩, ⟨.mov (.t 17), (some 4), none, []⟩]
theorem v99_8 : VS L99_8.eq_1 := rfl
def L99_9 : List AStep := [⟨.bin .add (.t 8) (.c (.int .i64 1)), (some 18), none, []⟩, ⟨.mov (.t 18), (some 8), none, []⟩]
theorem v99_9 : VS L99_9.eq_1 := rfl
def L99_10 : List AStep := [⟨.mov (.c (.int .i64 (-1))), (some 4), none, []⟩]
theorem v99_10 : VS L99_10.eq_1 := rfl
def C99_0 : ACode := .cond (.t 9) .skip (.exit 0)
theorem u99_0 : VC C99_0.eq_1 := rfl
def C99_1 : ACode := .seq (.reg L99_8) .ret
theorem u99_1 : VC C99_1.eq_1 := rfl
def C99_2 : ACode := .cond (.t 16) C99_1 .skip
theorem u99_2 : VC C99_2.eq_1 := rfl
def C99_3 : ACode := .seq (.reg L99_7) C99_2
theorem u99_3 : VC C99_3.eq_1 := rfl
def C99_4 : ACode := .seq (.reg L99_4) C99_3
theorem u99_4 : VC C99_4.eq_1 := rfl
def C99_5 : ACode := .block 1 C99_4
theorem u99_5 : VC C99_5.eq_1 := rfl
def C99_6 : ACode := .seq C99_5 (.reg L99_9)
theorem u99_6 : VC C99_6.eq_1 := rfl
def C99_7 : ACode := .seq C99_0 C99_6
theorem u99_7 : VC C99_7.eq_1 := rfl
def C99_8 : ACode := .seq (.reg L99_3) C99_7
theorem u99_8 : VC C99_8.eq_1 := rfl
def C99_9 : ACode := .block 0 (.loop C99_8)
theorem u99_9 : VC C99_9.eq_1 := rfl
def C99_10 : ACode := .seq (.reg L99_2) C99_9
theorem u99_10 : VC C99_10.eq_1 := rfl
def C99_11 : ACode := .seq (.reg L99_10) .ret
theorem u99_11 : VC C99_11.eq_1 := rfl
def C99_12 : ACode := .seq C99_10 C99_11
theorem u99_12 : VC C99_12.eq_1 := rfl
def C99_13 : ACode := .seq (.reg L99_0) C99_12
theorem u99_13 : VC C99_13.eq_1 := rfl
def F99 : AFunc := ⟨19, [.tmp 4], C99_13⟩
theorem cF99 : compB Tryz.prog 99 = some F99 := by kernel_rfl
attribute [local go_sem ↓] u99_0 u99_1 u99_2 u99_3 u99_4 u99_5 u99_6 u99_7 u99_8 u99_9 u99_10 u99_11 u99_12 u99_13 v99_0 v99_1 v99_2 v99_3 v99_4 v99_5 v99_6 v99_7 v99_8 v99_9 v99_10
theorem c_indexP (l : List Pair) (v : AV) (f : Nat) (caps : List (Nat × Nat)) (p : Pair → Bool) (h : H) (hl : SlP h v l) (hn : l.length ≤ big) (hf : ∀ i (hi : i < l.length), ∀ x, x = l[i] → bm Tryz.prog f (.agg (encP x) :: caps.map fun a => .one (.ptr (some a))) h = some (ib (p x), h)) :
    bm Tryz.prog 99 [v, .one (.fn f caps)] h = some (ii (idx p l), h) := by
  refine bm_eq cF99 ?_
  simp +contextual (maxSteps := 2000000) only [go_sem, Nat.reduceEqDiff, reduceCtorEq, Nat.reduceAdd, Nat.reduceLeDiff, F99, hl.len]
  refine wpC_loop (fun i T L h' => h' = h ∧ T 0 = .v v ∧ T 1 = .v (.one (.fn f caps)) ∧ T 7 = .v (.one (.int .i64 l.length)) ∧ T 8 = .v (.one (.int .i64 i)) ∧ Pre p false l i) l.length ?_ ?_ (Nat.zero_le _) ?_
  · rintro i T L h' hi ⟨rfl, h0, h1, h7, h8, hp⟩
    simp +contextual (maxSteps := 2000000) only [go_sem, Nat.reduceEqDiff, reduceCtorEq, Nat.reduceAdd, Nat.reduceLeDiff, h0, h1, h7, h8, hl.iaddr hi, hl.whole hi, hf i hi _ rfl, lt_true hi]
    (repeat' (first | refine And.intro ?_ ?_ | intro _)) <;> first | rfl | rw [wrap_next hi (big_lt hn)] | exact hp.next hi ‹_› | rw [idx_hit hi hp ‹_›]
  · rintro T L h' ⟨rfl, h0, h1, h7, h8, hp⟩
    simp +contextual (maxSteps := 2000000) only [go_sem, Nat.reduceEqDiff, reduceCtorEq, Nat.reduceAdd, Nat.reduceLeDiff, h0, h1, h7, h8, lt_false, idx_none hp]
  · simp +contextual (maxSteps := 2000000) only [go_sem, Nat.reduceEqDiff, reduceCtorEq, Nat.reduceAdd, Nat.reduceLeDiff]
    (repeat' (first | refine And.intro ?_ ?_ | intro _)) <;> first | rfl | exact Pre.zero
/-! slices.IndexFunc(()impl.Param,impl.Param) -/
def L95_0 : List AStep := [⟨.mov (.c (.int .i64 0)), (some 4), none, []⟩]
theorem v95_0 : VS L95_0.eq_1 := rfl
def L95_1 : List AStep := [⟨.mov (.c (.int .i64 0)), (some 8), none, []⟩]
theorem v95_1 : VS L95_1.eq_1 := rfl
def L95_2 : List AStep := ⟨.mov (.t 0), (some 6), none, []⟩ :: ⟨.len (.t 6), (some 7), none, []⟩ :: L95_1
theorem v95_2 : VS L95_2.eq_1 := rfl
def L95_3 : List AStep := [⟨.bin .lss (.t 8) (.t 7), (some 9), none, []⟩]
theorem v95_3 : VS L95_3.eq_1 := rfl
def L95_4 : List AStep := [⟨.mov (.t 8), (some 10), none, []⟩, ⟨.mov (.t 10), (some 5), none, []⟩]
theorem v95_4 : VS L95_4.eq_1 := rfl
def L95_5 : List AStep := [⟨.load 4 true (.t 14), (some 15), none, []⟩, ⟨.callv (.t 11) [(.t 15)], (some 16), none, []⟩]
theorem v95_5 : VS L95_5.eq_1 := rfl
def L95_6 : List AStep := ⟨.mov (.t 5), (some 13), none, []⟩ :: ⟨.iaddr 4 (.t 12) (.t 13), (some 14), none, []⟩ :: L95_5
theorem v95_6 : VS L95_6.eq_1 := rfl
def L95_7 : List AStep := ⟨.mov (.t 1), (some 11), none, []⟩ :: ⟨.mov (.t 0), (some 12), none, []⟩ :: L95_6
theorem v95_7 : VS L95_7.eq_1 := rfl
def L95_8 : List AStep := [⟨.mov (.t 5), (some 17), none, []⟩, ⟨.mov (.t 17), (some 4), none, []⟩]
theorem v95_8 : VS L95_8.eq_1 := rfl
def L95_9 : List AStep := [⟨.bin .add (.t 8) (.c (.int .i64 1)), (some 18), none, []⟩, ⟨.mov (.t 18), (some 8), none, []⟩]
theorem v95_9 : VS L95_9.eq_1 := rfl
def L95_10 : List AStep := [⟨.mov (.c (.int .i64 (-1))), (some 4), none, []⟩]
theorem v95_10 : VS L95_10.eq_1 := rfl
def C95_0 : ACode := .cond (.t 9) .skip (.exit 0)
theorem u95_0 : VC C95_0.eq_1 := rfl
def C95_1 : ACode := .seq (.reg L95_8) .ret
theorem u95_1 : VC C95_1.eq_1 := rfl
def C95_2 : ACode := .cond (.t 16) C95_1 .skip
theorem u95_2 : VC C95_2.eq_1 := rfl
def C95_3 : ACode := .seq (.reg L95_7) C95_2
theorem u95_3 : VC C95_3.eq_1 := rfl
def C95_4 : ACode := .seq (.reg L95_4) C95_3
theorem u95_4 : VC C95_4.eq_1 := rfl
def C95_5 : ACode := .block 1 C95_4
theorem u95_5 : VC C95_5.eq_1 := rfl
def C95_6 : ACode := .seq C95_5 (.reg L95_9)
theorem u95_6 : VC C95_6.eq_1 := rfl
def C95_7 : ACode := .seq C95_0 C95_6
theorem u95_7 : VC C95_7.eq_1 := rfl
def C95_8 : ACode := .seq (.reg L95_3) C95_7
theorem u95_8 : VC C95_8.eq_1 := rfl
def C95_9 : ACode := .block 0 (.loop C95_8)
theorem u95_9 : VC C95_9.eq_1 := rfl
def C95_10 : ACode := .seq (.reg L95_2) C95_9
theorem u95_10 : VC C95_10.eq_1 := rfl
def C95_11 : ACode := .seq (.reg L95_10) .ret
theorem u95_11 : VC C95_11.eq_1 := rfl
def C95_12 : ACode := .seq C95_10 C95_11
theorem u95_12 : VC C95_12.eq_1 := rfl
def C95_13 : ACode := .seq (.reg L95_0) C95_12
theorem u95_13 : VC C95_13.eq_1 := rfl
def F95 : AFunc := ⟨19, [.tmp 4], C95_13⟩
theorem cF95 : compB Tryz.prog 95 = some F95 := by kernel_rfl
attribute [local go_sem ↓] u95_0 u95_1 u95_2 u95_3 u95_4 u95_5 u95_6 u95_7 u95_8 u95_9 u95_10 u95_11 u95_12 u95_13 v95_0 v95_1 v95_2 v95_3 v95_4 v95_5 v95_6 v95_7 v95_8 v95_9 v95_10
theorem c_indexQ (l : List Param) (v : AV) (f : Nat) (caps : List (Nat × Nat)) (p : Param → Bool) (h : H) (hl : SlQ h v l) (hn : l.length ≤ big) (hf : ∀ i (hi : i < l.length), ∀ x, x = l[i] → bm Tryz.prog f (.agg (encQ x) :: caps.map fun a => .one (.ptr (some a))) h = some (ib (p x), h)) :
    bm Tryz.prog 95 [v, .one (.fn f caps)] h = some (ii (idx p l), h) := by
  refine bm_eq cF95 ?_
  simp +contextual (maxSteps := 2000000) only [go_sem, Nat.reduceEqDiff, reduceCtorEq, Nat.reduceAdd, Nat.reduceLeDiff, F95, hl.len]
  refine wpC_loop (fun i T L h' => h' = h ∧ T 0 = .v v ∧ T 1 = .v (.one (.fn f caps)) ∧ T 7 = .v (.one (.int .i64 l.length)) ∧ T 8 = .v (.one (.int .i64 i)) ∧ Pre p false l i) l.length ?_ ?_ (Nat.zero_le _) ?_
  · rintro i T L h' hi ⟨rfl, h0, h1, h7, h8, hp⟩
    simp +contextual (maxSteps := 2000000) only [go_sem, Nat.reduceEqDiff, reduceCtorEq, Nat.reduceAdd, Nat.reduceLeDiff, h0, h1, h7, h8, hl.iaddr hi, hl.whole hi, hf i hi _ rfl, lt_true hi]
    (repeat' (first | refine And.intro ?_ ?_ | intro _)) <;> first | rfl | rw [wrap_next hi (big_lt hn)] | exact hp.next hi ‹_› | rw [idx_hit hi hp ‹_›]
  · rintro T L h' ⟨rfl, h0, h1, h7, h8, hp⟩
    simp +contextual (maxSteps := 2000000) only [go_sem, Nat.reduceEqDiff, reduceCtorEq, Nat.reduceAdd, Nat.reduceLeDiff, h0, h1, h7, h8, lt_false, idx_none hp]
  · simp +contextual (maxSteps := 2000000) only [go_sem, Nat.reduceEqDiff, reduceCtorEq, Nat.reduceAdd, Nat.reduceLeDiff]
    (repeat' (first | refine And.intro ?_ ?_ | intro _)) <;> first | rfl | exact Pre.zero
/-! slices.IndexFunc(()int,int) -/
def L103_0 : List AStep := [⟨.mov (.c (.int .i64 0)), (some 4), none, []⟩]
theorem v103_0 : VS L103_0.eq_1 := rfl
def L103_1 : List AStep := [⟨.mov (.c (.int .i64 0)), (some 8), none, []⟩]
theorem v103_1 : VS L103_1.eq_1 := rfl
def L103_2 : List AStep := ⟨.mov (.t 0), (some 6), none, []⟩ :: ⟨.len (.t 6), (some 7), none, []⟩ :: L103_1
theorem v103_2 : VS L103_2.eq_1 := rfl
def L103_3 : List AStep := [⟨.bin .lss (.t 8) (.t 7), (some 9), none, []⟩]
theorem v103_3 : VS L103_3.eq_1 := rfl
def L103_4 : List AStep := [⟨.mov (.t 8), (some 10), none, []⟩, ⟨.mov (.t 10), (some 5), none, []⟩]
theorem v103_4 : VS L103_4.eq_1 := rfl
def L103_5 : List AStep := [⟨.load 1 false (.t 14), (some 15), none, []⟩, ⟨.callv (.t 11) [(.t 15)], (some 16), none, []⟩]
theorem v103_5 : VS L103_5.eq_1 := rfl
def L103_6 : List AStep := ⟨.mov (.t 5), (some 13), none, []⟩ :: ⟨.iaddr 1 (.t 12) (.t 13), (some 14), none, []⟩ :: L103_5
theorem v103_6 : VS L103_6.eq_1 := rfl
def L103_7 : List AStep := ⟨.mov (.t 1), (some 11), none, []⟩ :: ⟨.mov (.t 0), (some 12), none, []⟩ :: L103_6
theorem v103_7 : VS L103_7.eq_1 := rfl
def L103_8 : List AStep := [⟨.mov (.t 5), (some 17), none, []⟩, ⟨.mov (.t 17), (some 4), none, []⟩]
theorem v103_8 : VS L103_8.eq_1 := rfl
def L103_9 : List AStep := [⟨.bin .add (.t 8) (.c (.int .i64 1)), (some 18), none, []⟩, ⟨.mov (.t 18), (some 8), none, []⟩]
theorem v103_9 : VS L103_9.eq_1 := rfl
def L103_10 : List AStep := [⟨.mov (.c (.int .i64 (-1))), (some 4), none, []⟩]
theorem v103_10 : VS L103_10.eq_1 := rfl
def C103_0 : ACode := .cond (.t 9) .skip (.exit 0)
theorem u103_0 : VC C103_0.eq_1 := rfl
def C103_1 : ACode := .seq (.reg L103_8) .ret
theorem u103_1 : VC C103_1.eq_1 := rfl
def C103_2 : ACode := .cond (.t 16) C103_1 .skip
theorem u103_2 : VC C103_2.eq_1 := rfl
def C103_3 : ACode := .seq (.reg L103_7) C103_2
theorem u103_3 : VC C103_3.eq_1 := rfl
def C103_4 : ACode := .seq (.reg L103_4) C103_3
theorem u103_4 : VC C103_4.eq_1 := rfl
def C103_5 : ACode := .block 1 C103_4
theorem u103_5 : VC C103_5.eq_1 := rfl
def C103_6 : ACode := .seq C103_5 (.reg L103_9)
theorem u103_6 : VC C103_6.eq_1 := rfl
def C103_7 : ACode := .seq C103_0 C103_6
theorem u103_7 : VC C103_7.eq_1 := rfl
def C103_8 : ACode := .seq (.reg L103_3) C103_7
theorem u103_8 : VC C103_8.eq_1 := rfl
def C103_9 : ACode := .block 0 (.loop C103_8)
theorem u103_9 : VC C103_9.eq_1 := rfl
def C103_10 : ACode := .seq (.reg L103_2) C103_9
theorem u103_10 : VC C103_10.eq_1 := rfl
def C103_11 : ACode := .seq (.reg L103_10) .ret
theorem u103_11 : VC C103_11.eq_1 := rfl
def C103_12 : ACode := .seq C103_10 C103_11
theorem u103_12 : VC C103_12.eq_1 := rfl
def C103_13 : ACode := .seq (.reg L103_0) C103_12
theorem u103_13 : VC C103_13.eq_1 := rfl
def F103 : AFunc := ⟨19, [.tmp 4], C103_13⟩
theorem cF103 : compB Tryz.prog 103 = some F103 := by kernel_rfl
attribute [local go_sem ↓] u103_0 u103_1 u103_2 u103_3 u103_4 u103_5 u103_6 u103_7 u103_8 u103_9 u103_10 u103_11 u103_12 u103_13 v103_0 v103_1 v103_2 v103_3 v103_4 v103_5 v103_6 v103_7 v103_8 v103_9 v103_10
theorem c_indexI (l : List Int) (v : AV) (f : Nat) (caps : List (Nat × Nat)) (p : Int → Bool) (h : H) (hl : SlI h v l) (hn : l.length ≤ big) (hf : ∀ i (hi : i < l.length), ∀ x, x = l[i] → bm Tryz.prog f (.one (.int .i64 x) :: caps.map fun a => .one (.ptr (some a))) h = some (ib (p x), h)) :
    bm Tryz.prog 103 [v, .one (.fn f caps)] h = some (ii (idx p l), h) := by
  refine bm_eq cF103 ?_
  simp +contextual (maxSteps := 2000000) only [go_sem, Nat.reduceEqDiff, reduceCtorEq, Nat.reduceAdd, Nat.reduceLeDiff, F103, hl.len]
  refine wpC_loop (fun i T L h' => h' = h ∧ T 0 = .v v ∧ T 1 = .v (.one (.fn f caps)) ∧ T 7 = .v (.one (.int .i64 l.length)) ∧ T 8 = .v (.one (.int .i64 i)) ∧ Pre p false l i) l.length ?_ ?_ (Nat.zero_le _) ?_
  · rintro i T L h' hi ⟨rfl, h0, h1, h7, h8, hp⟩
    simp +contextual (maxSteps := 2000000) only [go_sem, Nat.reduceEqDiff, reduceCtorEq, Nat.reduceAdd, Nat.reduceLeDiff, h0, h1, h7, h8, hl.iaddr hi, hl.oneO hi, hf i hi _ rfl, lt_true hi]
    (repeat' (first | refine And.intro ?_ ?_ | intro _)) <;> first | rfl | rw [wrap_next hi (big_lt hn)] | exact hp.next hi ‹_› | rw [idx_hit hi hp ‹_›]
  · rintro T L h' ⟨rfl, h0, h1, h7, h8, hp⟩
    simp +contextual (maxSteps := 2000000) only [go_sem, Nat.reduceEqDiff, reduceCtorEq, Nat.reduceAdd, Nat.reduceLeDiff, h0, h1, h7, h8, lt_false, idx_none hp]
  · simp +contextual (maxSteps := 2000000) only [go_sem, Nat.reduceEqDiff, reduceCtorEq, Nat.reduceAdd, Nat.reduceLeDiff]
    (repeat' (first | refine And.intro ?_ ?_ | intro _)) <;> first | rfl | exact Pre.zero
/-! slices.ContainsFunc(()int,int) -/
def L101_0 : List AStep := [⟨.mov (.c (.bool false)), (some 4), none, []⟩]
theorem v101_0 : VS L101_0.eq_1 := rfl
def L101_1 : List AStep := [⟨.mov (.t 8), (some 4), none, []⟩]
theorem v101_1 : VS L101_1.eq_1 := rfl
def L101_2 : List AStep := ⟨.call 103 [(.t 5), (.t 6)], (some 7), none, []⟩ :: ⟨.bin .geq (.t 7) (.c (.int .i64 0)), (some 8), none, []⟩ :: L101_1
theorem v101_2 : VS L101_2.eq_1 := rfl
def L101_3 : List AStep := ⟨.mov (.t 0), (some 5), none, []⟩ :: ⟨.mov (.t 1), (some 6), none, []⟩ :: L101_2
theorem v101_3 : VS L101_3.eq_1 := rfl
def C101_0 : ACode := .seq (.reg L101_3) .ret
theorem u101_0 : VC C101_0.eq_1 := rfl
def C101_1 : ACode := .seq (.reg L101_0) C101_0
theorem u101_1 : VC C101_1.eq_1 := rfl
def F101 : AFunc := ⟨9, [.tmp 4], C101_1⟩
theorem cF101 : compB Tryz.prog 101 = some F101 := by kernel_rfl
attribute [local go_sem ↓] u101_0 u101_1 v101_0 v101_1 v101_2 v101_3
theorem c_hasI (l : List Int) (v : AV) (f : Nat) (caps : List (Nat × Nat)) (p : Int → Bool) (h : H) (hl : SlI h v l) (hn : l.length ≤ big) (hf : ∀ i (hi : i < l.length), ∀ x, x = l[i] → bm Tryz.prog f (.one (.int .i64 x) :: caps.map fun a => .one (.ptr (some a))) h = some (ib (p x), h)) :
    bm Tryz.prog 101 [v, .one (.fn f caps)] h = some (ib (l.any p), h) := by
  refine bm_eq cF101 ?_
  have e := idx_any (p := p) (l := l)
  simp +contextual (maxSteps := 2000000) only [go_sem, Nat.reduceEqDiff, reduceCtorEq, Nat.reduceAdd, Nat.reduceLeDiff, F101, c_indexI l v f caps p h hl hn hf, e]
/-! slices.IndexFunc(()impl.Problem,impl.Problem) -/
def L82_0 : List AStep := [⟨.mov (.c (.int .i64 0)), (some 4), none, []⟩]
theorem v82_0 : VS L82_0.eq_1 := rfl
def L82_1 : List AStep := [⟨.mov (.c (.int .i64 0)), (some 8), none, []⟩]
theorem v82_1 : VS L82_1.eq_1 := rfl
def L82_2 : List AStep := ⟨.mov (.t 0), (some 6), none, []⟩ :: ⟨.len (.t 6), (some 7), none, []⟩ :: L82_1
theorem v82_2 : VS L82_2.eq_1 := rfl
def L82_3 : List AStep := [⟨.bin .lss (.t 8) (.t 7), (some 9), none, []⟩]
theorem v82_3 : VS L82_3.eq_1 := rfl
def L82_4 : List AStep := [⟨.mov (.t 8), (some 10), none, []⟩, ⟨.mov (.t 10), (some 5), none, []⟩]
theorem v82_4 : VS L82_4.eq_1 := rfl
def L82_5 : List AStep := [⟨.load 2 true (.t 14), (some 15), none, []⟩, ⟨.callv (.t 11) [(.t 15)], (some 16), none, []⟩]
theorem v82_5 : VS L82_5.eq_1 := rfl
def L82_6 : List AStep := ⟨.mov (.t 5), (some 13), none, []⟩ :: ⟨.iaddr 2 (.t 12) (.t 13), (some 14), none, []⟩ :: L82_5
theorem v82_6 : VS L82_6.eq_1 := rfl
def L82_7 : List AStep := ⟨.mov (.t 1), (some 11), none, []⟩ :: ⟨.mov (.t 0), (some 12), none, []⟩ :: L82_6
theorem v82_7 : VS L82_7.eq_1 := rfl
def L82_8 : List AStep := [⟨.mov (.t 5), (some 17), none, []⟩, ⟨.mov (.t 17), (some 4), none, []⟩]
theorem v82_8 : VS L82_8.eq_1 := rfl
def L82_9 : List AStep := [⟨.bin .add (.t 8) (.c (.int .i64 1)), (some 18), none, []⟩, ⟨.mov (.t 18), (some 8), none, []⟩]
theorem v82_9 : VS L82_9.eq_1 := rfl
def L82_10 : List AStep := [⟨.mov (.c (.int .i64 (-1))), (some 4), none, []⟩]
theorem v82_10 : VS L82_10.eq_1 := rfl
def C82_0 : ACode := .cond (.t 9) .skip (.exit 0)
theorem u82_0 : VC C82_0.eq_1 := rfl
def C82_1 : ACode := .seq (.reg L82_8) .ret
theorem u82_1 : VC C82_1.eq_1 := rfl
def C82_2 : ACode := .cond (.t 16) C82_1 .skip
theorem u82_2 : VC C82_2.eq_1 := rfl
def C82_3 : ACode := .seq (.reg L82_7) C82_2
theorem u82_3 : VC C82_3.eq_1 := rfl
def C82_4 : ACode := .seq (.reg L82_4) C82_3
theorem u82_4 : VC C82_4.eq_1 := rfl
def C82_5 : ACode := .block 1 C82_4
theorem u82_5 : VC C82_5.eq_1 := rfl
def C82_6 : ACode := .seq C82_5 (.reg L82_9)
theorem u82_6 : VC C82_6.eq_1 := rfl
def C82_7 : ACode := .seq C82_0 C82_6
theorem u82_7 : VC C82_7.eq_1 := rfl
def C82_8 : ACode := .seq (.reg L82_3) C82_7
theorem u82_8 : VC C82_8.eq_1 := rfl
def C82_9 : ACode := .block 0 (.loop C82_8)
theorem u82_9 : VC C82_9.eq_1 := rfl
def C82_10 : ACode := .seq (.reg L82_2) C82_9
theorem u82_10 : VC C82_10.eq_1 := rfl
def C82_11 : ACode := .seq (.reg L82_10) .ret
theorem u82_11 : VC C82_11.eq_1 := rfl
def C82_12 : ACode := .seq C82_10 C82_11
theorem u82_12 : VC C82_12.eq_1 := rfl
def C82_13 : ACode := .seq (.reg L82_0) C82_12
theorem u82_13 : VC C82_13.eq_1 := rfl
def F82 : AFunc := ⟨19, [.tmp 4], C82_13⟩
theorem cF82 : compB Tryz.prog 82 = some F82 := by kernel_rfl
attribute [local go_sem ↓] u82_0 u82_1 u82_2 u82_3 u82_4 u82_5 u82_6 u82_7 u82_8 u82_9 u82_10 u82_11 u82_12 u82_13 v82_0 v82_1 v82_2 v82_3 v82_4 v82_5 v82_6 v82_7 v82_8 v82_9 v82_10
theorem c_indexB (l : List Problem) (v : AV) (f : Nat) (caps : List (Nat × Nat)) (p : Problem → Bool) (h : H) (hl : SlB h v l) (hn : l.length ≤ big) (hf : ∀ i (hi : i < l.length), ∀ x, x = l[i] → bm Tryz.prog f (.agg (encB x) :: caps.map fun a => .one (.ptr (some a))) h = some (ib (p x), h)) :
    bm Tryz.prog 82 [v, .one (.fn f caps)] h = some (ii (idx p l), h) := by
  refine bm_eq cF82 ?_
  simp +contextual (maxSteps := 2000000) only [go_sem, Nat.reduceEqDiff, reduceCtorEq, Nat.reduceAdd, Nat.reduceLeDiff, F82, hl.len]
  refine wpC_loop (fun i T L h' => h' = h ∧ T 0 = .v v ∧ T 1 = .v (.one (.fn f caps)) ∧ T 7 = .v (.one (.int .i64 l.length)) ∧ T 8 = .v (.one (.int .i64 i)) ∧ Pre p false l i) l.length ?_ ?_ (Nat.zero_le _) ?_
  · rintro i T L h' hi ⟨rfl, h0, h1, h7, h8, hp⟩
    simp +contextual (maxSteps := 2000000) only [go_sem, Nat.reduceEqDiff, reduceCtorEq, Nat.reduceAdd, Nat.reduceLeDiff, h0, h1, h7, h8, hl.iaddr hi, hl.whole hi, hf i hi _ rfl, lt_true hi]
    (repeat' (first | refine And.intro ?_ ?_ | intro _)) <;> first | rfl | rw [wrap_next hi (big_lt hn)] | exact hp.next hi ‹_› | rw [idx_hit hi hp ‹_›]
  · rintro T L h' ⟨rfl, h0, h1, h7, h8, hp⟩
    simp +contextual (maxSteps := 2000000) only [go_sem, Nat.reduceEqDiff, reduceCtorEq, Nat.reduceAdd, Nat.reduceLeDiff, h0, h1, h7, h8, lt_false, idx_none hp]
  · simp +contextual (maxSteps := 2000000) only [go_sem, Nat.reduceEqDiff, reduceCtorEq, Nat.reduceAdd, Nat.reduceLeDiff]
    (repeat' (first | refine And.intro ?_ ?_ | intro _)) <;> first | rfl | exact Pre.zero
/-! slices.ContainsFunc(()impl.Problem,impl.Problem) -/
def L61_0 : List AStep := [⟨.mov (.c (.bool false)), (some 4), none, []⟩]
theorem v61_0 : VS L61_0.eq_1 := rfl
def L61_1 : List AStep := [⟨.mov (.t 8), (some 4), none, []⟩]
theorem v61_1 : VS L61_1.eq_1 := rfl
def L61_2 : List AStep := ⟨.call 82 [(.t 5), (.t 6)], (some 7), none, []⟩ :: ⟨.bin .geq (.t 7) (.c (.int .i64 0)), (some 8), none, []⟩ :: L61_1
theorem v61_2 : VS L61_2.eq_1 := rfl
def L61_3 : List AStep := ⟨.mov (.t 0), (some 5), none, []⟩ :: ⟨.mov (.t 1), (some 6), none, []⟩ :: L61_2
theorem v61_3 : VS L61_3.eq_1 := rfl
def C61_0 : ACode := .seq (.reg L61_3) .ret
theorem u61_0 : VC C61_0.eq_1 := rfl
def C61_1 : ACode := .seq (.reg L61_0) C61_0
theorem u61_1 : VC C61_1.eq_1 := rfl
def F61 : AFunc := ⟨9, [.tmp 4], C61_1⟩
theorem cF61 : compB Tryz.prog 61 = some F61 := by kernel_rfl
attribute [local go_sem ↓] u61_0 u61_1 v61_0 v61_1 v61_2 v61_3
theorem c_hasB (l : List Problem) (v : AV) (f : Nat) (caps : List (Nat × Nat)) (p : Problem → Bool) (h : H) (hl : SlB h v l) (hn : l.length ≤ big) (hf : ∀ i (hi : i < l.length), ∀ x, x = l[i] → bm Tryz.prog f (.agg (encB x) :: caps.map fun a => .one (.ptr (some a))) h = some (ib (p x), h)) :
    bm Tryz.prog 61 [v, .one (.fn f caps)] h = some (ib (l.any p), h) := by
  refine bm_eq cF61 ?_
  have e := idx_any (p := p) (l := l)
  simp +contextual (maxSteps := 2000000) only [go_sem, Nat.reduceEqDiff, reduceCtorEq, Nat.reduceAdd, Nat.reduceLeDiff, F61, c_indexB l v f caps p h hl hn hf, e]
/-! impl.pairAt$1 -/
def L100_0 : List AStep := [⟨.box 81 (.t 0), (some 2), none, []⟩, ⟨.mov (.c (.bool false)), (some 3), none, []⟩]
theorem v100_0 : VS L100_0.eq_1 := rfl
def L100_1 : List AStep := [⟨.mov (.t 7), (some 3), none, []⟩]
theorem v100_1 : VS L100_1.eq_1 := rfl
def L100_2 : List AStep := ⟨.load 1 false (.t 1), (some 6), none, []⟩ :: ⟨.bin .eql (.t 5) (.t 6), (some 7), none, []⟩ :: L100_1
theorem v100_2 : VS L100_2.eq_1 := rfl
def L100_3 : List AStep := ⟨.faddr 0 (.t 2), (some 4), none, []⟩ :: ⟨.load 1 false (.t 4), (some 5), none, []⟩ :: L100_2
theorem v100_3 : VS L100_3.eq_1 := rfl
def C100_0 : ACode := .seq (.reg L100_3) .ret
theorem u100_0 : VC C100_0.eq_1 := rfl
def C100_1 : ACode := .seq (.reg L100_0) C100_0
theorem u100_1 : VC C100_1.eq_1 := rfl
def F100 : AFunc := ⟨8, [.tmp 3], C100_1⟩
theorem cF100 : compB Tryz.prog 100 = some F100 := by kernel_rfl
attribute [local go_sem ↓] u100_0 u100_1 v100_0 v100_1 v100_2 v100_3
theorem c_pairAt1 (p : Pair) (a : Nat × Nat) (s : ByteArray) (h : H) (ha : loadO 1 false h (.one (.ptr (some a))) = some (.one (.str s))) : bm Tryz.prog 100 [.agg (encP p), .one (.ptr (some a))] h = some (ib (decide (p.name = s)), h) := by
  refine bm_eq cF100 ?_
  simp +contextual (maxSteps := 2000000) only [go_sem, Nat.reduceEqDiff, reduceCtorEq, Nat.reduceAdd, Nat.reduceLeDiff, F100, ha]
/-! impl.pairAt -/
def L92_0 : List AStep := [⟨.box 9 (.t 1), (some 3), none, []⟩, ⟨.mov (.c (.int .i64 0)), (some 4), none, []⟩]
theorem v92_0 : VS L92_0.eq_1 := rfl
def L92_1 : List AStep := [⟨.call 99 [(.t 5), (.t 6)], (some 7), none, []⟩, ⟨.mov (.t 7), (some 4), none, []⟩]
theorem v92_1 : VS L92_1.eq_1 := rfl
def L92_2 : List AStep := ⟨.mov (.t 0), (some 5), none, []⟩ :: ⟨.mkfn 100 [(.t 3)], (some 6), none, []⟩ :: L92_1
theorem v92_2 : VS L92_2.eq_1 := rfl
def C92_0 : ACode := .seq (.reg L92_2) .ret
theorem u92_0 : VC C92_0.eq_1 := rfl
def C92_1 : ACode := .seq (.reg L92_0) C92_0
theorem u92_1 : VC C92_1.eq_1 := rfl
def F92 : AFunc := ⟨8, [.tmp 4], C92_1⟩
theorem cF92 : compB Tryz.prog 92 = some F92 := by kernel_rfl
attribute [local go_sem ↓] u92_0 u92_1 v92_0 v92_1 v92_2
theorem c_pairAtI (l : List Pair) (v : AV) (s : ByteArray) (h : H) (hl : SlP h v l) (hn : smP l) : bm Tryz.prog 92 [v, .one (.str s)] h = some (ii (pairAt l s), h) := by
  refine bm_eq cF92 ?_
  have e := c_indexP l v 100 [(h.n, 0)] (fun p => decide (p.name = s)) (h.alloc [.str s] 9) (hl.grow (Grow.alloc _ _ _)) hn.1 (fun i hi x hx => c_pairAt1 x (h.n, 0) s _ (Box.new.one rfl))
  simp +contextual (maxSteps := 2000000) only [go_sem, Nat.reduceEqDiff, reduceCtorEq, Nat.reduceAdd, Nat.reduceLeDiff, F92, e, pairAt]
/-! impl.find$1 -/
def L98_0 : List AStep := [⟨.box 79 (.t 0), (some 2), none, []⟩, ⟨.mov (.c (.bool false)), (some 3), none, []⟩]
theorem v98_0 : VS L98_0.eq_1 := rfl
def L98_1 : List AStep := [⟨.mov (.t 7), (some 3), none, []⟩]
theorem v98_1 : VS L98_1.eq_1 := rfl
def L98_2 : List AStep := ⟨.load 1 false (.t 1), (some 6), none, []⟩ :: ⟨.bin .eql (.t 5) (.t 6), (some 7), none, []⟩ :: L98_1
theorem v98_2 : VS L98_2.eq_1 := rfl
def L98_3 : List AStep := ⟨.faddr 0 (.t 2), (some 4), none, []⟩ :: ⟨.load 1 false (.t 4), (some 5), none, []⟩ :: L98_2
theorem v98_3 : VS L98_3.eq_1 := rfl
def C98_0 : ACode := .seq (.reg L98_3) .ret
theorem u98_0 : VC C98_0.eq_1 := rfl
def C98_1 : ACode := .seq (.reg L98_0) C98_0
theorem u98_1 : VC C98_1.eq_1 := rfl
def F98 : AFunc := ⟨8, [.tmp 3], C98_1⟩
theorem cF98 : compB Tryz.prog 98 = some F98 := by kernel_rfl
attribute [local go_sem ↓] u98_0 u98_1 v98_0 v98_1 v98_2 v98_3
theorem c_find1 (p : Param) (a : Nat × Nat) (s : ByteArray) (h : H) (ha : loadO 1 false h (.one (.ptr (some a))) = some (.one (.str s))) : bm Tryz.prog 98 [.agg (encQ p), .one (.ptr (some a))] h = some (ib (decide (p.name = s)), h) := by
  refine bm_eq cF98 ?_
  simp +contextual (maxSteps := 2000000) only [go_sem, Nat.reduceEqDiff, reduceCtorEq, Nat.reduceAdd, Nat.reduceLeDiff, F98, ha]
/-! impl.find -/
def L90_0 : List AStep := [⟨.box 9 (.t 1), (some 3), none, []⟩, ⟨.mov (.c (.int .i64 0)), (some 4), none, []⟩]
theorem v90_0 : VS L90_0.eq_1 := rfl
def L90_1 : List AStep := [⟨.call 95 [(.t 5), (.t 6)], (some 7), none, []⟩, ⟨.mov (.t 7), (some 4), none, []⟩]
theorem v90_1 : VS L90_1.eq_1 := rfl
def L90_2 : List AStep := ⟨.mov (.t 0), (some 5), none, []⟩ :: ⟨.mkfn 98 [(.t 3)], (some 6), none, []⟩ :: L90_1
theorem v90_2 : VS L90_2.eq_1 := rfl
def C90_0 : ACode := .seq (.reg L90_2) .ret
theorem u90_0 : VC C90_0.eq_1 := rfl
def C90_1 : ACode := .seq (.reg L90_0) C90_0
theorem u90_1 : VC C90_1.eq_1 := rfl
def F90 : AFunc := ⟨8, [.tmp 4], C90_1⟩
theorem cF90 : compB Tryz.prog 90 = some F90 := by kernel_rfl
attribute [local go_sem ↓] u90_0 u90_1 v90_0 v90_1 v90_2
theorem c_find (l : List Param) (v : AV) (s : ByteArray) (h : H) (hl : SlQ h v l) (hn : smQ l) : bm Tryz.prog 90 [v, .one (.str s)] h = some (ii (paramAt l s), h) := by
  refine bm_eq cF90 ?_
  have e := c_indexQ l v 98 [(h.n, 0)] (fun p => decide (p.name = s)) (h.alloc [.str s] 9) (hl.grow (Grow.alloc _ _ _)) hn.1 (fun i hi x hx => c_find1 x (h.n, 0) s _ (Box.new.one rfl))
  simp +contextual (maxSteps := 2000000) only [go_sem, Nat.reduceEqDiff, reduceCtorEq, Nat.reduceAdd, Nat.reduceLeDiff, F90, e, paramAt]
/-! (impl.Signature).takes$1 -/
def L96_0 : List AStep := [⟨.box 79 (.t 0), (some 1), none, []⟩, ⟨.mov (.c (.bool false)), (some 2), none, []⟩]
theorem v96_0 : VS L96_0.eq_1 := rfl
def L96_1 : List AStep := [⟨.bin .eql (.t 4) (.c (.int .i64 4)), (some 5), none, []⟩, ⟨.mov (.t 5), (some 2), none, []⟩]
theorem v96_1 : VS L96_1.eq_1 := rfl
def L96_2 : List AStep := ⟨.faddr 1 (.t 1), (some 3), none, []⟩ :: ⟨.load 1 false (.t 3), (some 4), none, []⟩ :: L96_1
theorem v96_2 : VS L96_2.eq_1 := rfl
def C96_0 : ACode := .seq (.reg L96_2) .ret
theorem u96_0 : VC C96_0.eq_1 := rfl
def C96_1 : ACode := .seq (.reg L96_0) C96_0
theorem u96_1 : VC C96_1.eq_1 := rfl
def F96 : AFunc := ⟨6, [.tmp 2], C96_1⟩
theorem cF96 : compB Tryz.prog 96 = some F96 := by kernel_rfl
attribute [local go_sem ↓] u96_0 u96_1 v96_0 v96_1 v96_2
theorem c_takes1 (p : Param) (h : H) : bm Tryz.prog 96 [.agg (encQ p)] h = some (ib (decide (p.kind = 4)), h) := by
  refine bm_eq cF96 ?_
  simp +contextual (maxSteps := 2000000) only [go_sem, Nat.reduceEqDiff, reduceCtorEq, Nat.reduceAdd, Nat.reduceLeDiff, F96]
/-! (impl.Signature).takes -/
def L79_0 : List AStep := [⟨.box 33 (.t 0), (some 2), none, []⟩, ⟨.mov (.c (.int .i64 0)), (some 4), none, []⟩]
theorem v79_0 : VS L79_0.eq_1 := rfl
def L79_1 : List AStep := [⟨.mov (.t 9), (some 5), none, []⟩]
theorem v79_1 : VS L79_1.eq_1 := rfl
def L79_2 : List AStep := ⟨.mov (.t 1), (some 8), none, []⟩ :: ⟨.call 90 [(.t 7), (.t 8)], (some 9), none, []⟩ :: L79_1
theorem v79_2 : VS L79_2.eq_1 := rfl
def L79_3 : List AStep := ⟨.faddr 0 (.t 2), (some 6), none, []⟩ :: ⟨.load 1 false (.t 6), (some 7), none, []⟩ :: L79_2
theorem v79_3 : VS L79_3.eq_1 := rfl
def L79_4 : List AStep := [⟨.call 94 [(.t 17)], (some 18), (some (12, true)), []⟩, ⟨.pick (.t 12) (.t 18) (.c (.bool false)), (some 19), none, []⟩]
theorem v79_4 : VS L79_4.eq_1 := rfl
def L79_5 : List AStep := ⟨.iaddr 4 (.t 14) (.t 15), (some 16), (some (12, true)), []⟩ :: ⟨.load 4 true (.t 16), (some 17), (some (12, true)), []⟩ :: L79_4
theorem v79_5 : VS L79_5.eq_1 := rfl
def L79_6 : List AStep := ⟨.load 1 false (.t 13), (some 14), (some (12, true)), []⟩ :: ⟨.mov (.t 5), (some 15), (some (12, true)), []⟩ :: L79_5
theorem v79_6 : VS L79_6.eq_1 := rfl
def L79_7 : List AStep := ⟨.mov (.t 11), (some 12), none, []⟩ :: ⟨.faddr 0 (.t 2), (some 13), (some (12, true)), []⟩ :: L79_6
theorem v79_7 : VS L79_7.eq_1 := rfl
def L79_8 : List AStep := ⟨.mov (.t 5), (some 10), none, []⟩ :: ⟨.bin .geq (.t 10) (.c (.int .i64 0)), (some 11), none, []⟩ :: L79_7
theorem v79_8 : VS L79_8.eq_1 := rfl
def L79_9 : List AStep := [⟨.mov (.t 5), (some 20), none, []⟩, ⟨.mov (.t 20), (some 4), none, []⟩]
theorem v79_9 : VS L79_9.eq_1 := rfl
def L79_10 : List AStep := [⟨.call 95 [(.t 22), (.c (.fn 96 []))], (some 23), none, []⟩, ⟨.mov (.t 23), (some 4), none, []⟩]
theorem v79_10 : VS L79_10.eq_1 := rfl
def L79_11 : List AStep := ⟨.faddr 0 (.t 2), (some 21), none, []⟩ :: ⟨.load 1 false (.t 21), (some 22), none, []⟩ :: L79_10
theorem v79_11 : VS L79_11.eq_1 := rfl
def C79_0 : ACode := .seq (.reg L79_9) .ret
theorem u79_0 : VC C79_0.eq_1 := rfl
def C79_1 : ACode := .cond (.t 19) C79_0 .skip
theorem u79_1 : VC C79_1.eq_1 := rfl
def C79_2 : ACode := .seq (.reg L79_8) C79_1
theorem u79_2 : VC C79_2.eq_1 := rfl
def C79_3 : ACode := .seq (.reg L79_3) C79_2
theorem u79_3 : VC C79_3.eq_1 := rfl
def C79_4 : ACode := .seq (.reg L79_11) .ret
theorem u79_4 : VC C79_4.eq_1 := rfl
def C79_5 : ACode := .seq C79_3 C79_4
theorem u79_5 : VC C79_5.eq_1 := rfl
def C79_6 : ACode := .seq (.reg L79_0) C79_5
theorem u79_6 : VC C79_6.eq_1 := rfl
def F79 : AFunc := ⟨24, [.tmp 4], C79_6⟩
theorem cF79 : compB Tryz.prog 79 = some F79 := by kernel_rfl
attribute [local go_sem ↓] u79_0 u79_1 u79_2 u79_3 u79_4 u79_5 u79_6 v79_0 v79_1 v79_2 v79_3 v79_4 v79_5 v79_6 v79_7 v79_8 v79_9 v79_10 v79_11
theorem c_takes (l : List Param) (pv : CV) (s : ByteArray) (h : H) (hl : SlQ h (.one pv) l) (hn : smQ l) : bm Tryz.prog 79 [.agg [pv], .one (.str s)] h = some (ii (takes l s), h) := by
  refine bm_eq cF79 ?_
  have e2 := c_indexQ l (.one pv) 96 [] (fun p => decide (p.kind = 4)) h hl hn.1 (fun i hi x hx => c_takes1 x h)
  rw [show idx (fun p : Param => decide (p.kind = 4)) l = kindAt l 4 from rfl] at e2
  rcases idx_cases (fun p : Param => decide (p.name = s)) l with e | ⟨j, hj, e, _⟩ <;> (replace e := (show paramAt l s = _ from e))
  · simp +contextual (maxSteps := 2000000) only [go_sem, Nat.reduceEqDiff, reduceCtorEq, Nat.reduceAdd, Nat.reduceLeDiff, F79, c_find _ _ _ _ hl hn, e, e2, takes_none e]
  · simp +contextual (maxSteps := 2000000) only [go_sem, Nat.reduceEqDiff, reduceCtorEq, Nat.reduceAdd, Nat.reduceLeDiff, F79, c_find _ _ _ _ hl hn, e, e2, takes_some hj e, hl.iaddr hj, hl.whole hj, c_named]
/-! impl.areValues$1 -/
def L102_0 : List AStep := [⟨.mov (.c (.bool false)), (some 2), none, []⟩]
theorem v102_0 : VS L102_0.eq_1 := rfl
def L102_1 : List AStep := [⟨.not (.t 4), (some 5), none, []⟩, ⟨.mov (.t 5), (some 2), none, []⟩]
theorem v102_1 : VS L102_1.eq_1 := rfl
def L102_2 : List AStep := ⟨.mov (.t 0), (some 3), none, []⟩ :: ⟨.call 89 [(.t 3)], (some 4), none, []⟩ :: L102_1
theorem v102_2 : VS L102_2.eq_1 := rfl
def C102_0 : ACode := .seq (.reg L102_2) .ret
theorem u102_0 : VC C102_0.eq_1 := rfl
def C102_1 : ACode := .seq (.reg L102_0) C102_0
theorem u102_1 : VC C102_1.eq_1 := rfl
def F102 : AFunc := ⟨6, [.tmp 2], C102_1⟩
theorem cF102 : compB Tryz.prog 102 = some F102 := by kernel_rfl
attribute [local go_sem ↓] u102_0 u102_1 v102_0 v102_1 v102_2
theorem c_areValues1 (n : Int) (h : H) : bm Tryz.prog 102 [.one (.int .i64 n)] h = some (ib (!(okNum n)), h) := by
  refine bm_eq cF102 ?_
  simp +contextual (maxSteps := 2000000) only [go_sem, Nat.reduceEqDiff, reduceCtorEq, Nat.reduceAdd, Nat.reduceLeDiff, F102, c_isValue]
/-! impl.areValues -/
def L93_0 : List AStep := [⟨.mov (.c (.bool false)), (some 2), none, []⟩]
theorem v93_0 : VS L93_0.eq_1 := rfl
def L93_1 : List AStep := [⟨.not (.t 4), (some 5), none, []⟩, ⟨.mov (.t 5), (some 2), none, []⟩]
theorem v93_1 : VS L93_1.eq_1 := rfl
def L93_2 : List AStep := ⟨.mov (.t 0), (some 3), none, []⟩ :: ⟨.call 101 [(.t 3), (.c (.fn 102 []))], (some 4), none, []⟩ :: L93_1
theorem v93_2 : VS L93_2.eq_1 := rfl
def C93_0 : ACode := .seq (.reg L93_2) .ret
theorem u93_0 : VC C93_0.eq_1 := rfl
def C93_1 : ACode := .seq (.reg L93_0) C93_0
theorem u93_1 : VC C93_1.eq_1 := rfl
def F93 : AFunc := ⟨6, [.tmp 2], C93_1⟩
theorem cF93 : compB Tryz.prog 93 = some F93 := by kernel_rfl
attribute [local go_sem ↓] u93_0 u93_1 v93_0 v93_1 v93_2
theorem c_areValues (l : List Int) (v : AV) (h : H) (hl : SlI h v l) (hn : l.length ≤ big) : bm Tryz.prog 93 [v] h = some (ib (l.all okNum), h) := by
  refine bm_eq cF93 ?_
  have e := c_hasI l v 102 [] (fun n => !(okNum n)) h hl hn (fun i hi x hx => c_areValues1 x h)
  simp +contextual (maxSteps := 2000000) only [go_sem, Nat.reduceEqDiff, reduceCtorEq, Nat.reduceAdd, Nat.reduceLeDiff, F93, e]
  simp [List.not_any_eq_all_not]
/-! impl.ValidFlat -/
def L77_0 : List AStep := [⟨.box 36 (.t 0), (some 1), none, []⟩, ⟨.mov (.c (.bool false)), (some 2), none, []⟩]
theorem v77_0 : VS L77_0.eq_1 := rfl
def L77_1 : List AStep := [⟨.len (.t 6), (some 7), none, []⟩, ⟨.mov (.c (.int .i64 0)), (some 8), none, []⟩]
theorem v77_1 : VS L77_1.eq_1 := rfl
def L77_2 : List AStep := ⟨.faddr 1 (.t 1), (some 5), none, []⟩ :: ⟨.load 1 false (.t 5), (some 6), none, []⟩ :: L77_1
theorem v77_2 : VS L77_2.eq_1 := rfl
def L77_3 : List AStep := [⟨.bin .lss (.t 8) (.t 7), (some 9), none, []⟩]
theorem v77_3 : VS L77_3.eq_1 := rfl
def L77_4 : List AStep := [⟨.mov (.t 10), (some 3), none, []⟩, ⟨.store 2 (.t 4) (.t 12), none, none, []⟩]
theorem v77_4 : VS L77_4.eq_1 := rfl
def L77_5 : List AStep := ⟨.load 2 true (.t 11), (some 12), none, []⟩ :: ⟨.alloc 81 [(.str (strOfNums [])), (.int .i64 0)], (some 4), none, []⟩ :: L77_4
theorem v77_5 : VS L77_5.eq_1 := rfl
def L77_6 : List AStep := ⟨.mov (.t 8), (some 10), none, []⟩ :: ⟨.iaddr 2 (.t 6) (.t 8), (some 11), none, []⟩ :: L77_5
theorem v77_6 : VS L77_6.eq_1 := rfl
def L77_7 : List AStep := [⟨.pick (.t 16) (.c (.bool true)) (.t 24), (some 25), none, []⟩]
theorem v77_7 : VS L77_7.eq_1 := rfl
def L77_8 : List AStep := ⟨.call 92 [(.t 20), (.t 22)], (some 23), (some (16, false)), []⟩ :: ⟨.bin .geq (.t 23) (.c (.int .i64 0)), (some 24), (some (16, false)), []⟩ :: L77_7
theorem v77_8 : VS L77_8.eq_1 := rfl
def L77_9 : List AStep := ⟨.faddr 0 (.t 4), (some 21), (some (16, false)), []⟩ :: ⟨.load 1 false (.t 21), (some 22), (some (16, false)), []⟩ :: L77_8
theorem v77_9 : VS L77_9.eq_1 := rfl
def L77_10 : List AStep := ⟨.mov (.t 3), (some 19), (some (16, false)), []⟩ :: ⟨.slice 81 2 (.t 18) none (some (.t 19)) none, (some 20), (some (16, false)), []⟩ :: L77_9
theorem v77_10 : VS L77_10.eq_1 := rfl
def L77_11 : List AStep := ⟨.faddr 1 (.t 1), (some 17), (some (16, false)), []⟩ :: ⟨.load 1 false (.t 17), (some 18), (some (16, false)), []⟩ :: L77_10
theorem v77_11 : VS L77_11.eq_1 := rfl
def L77_12 : List AStep := ⟨.not (.t 14), (some 15), none, []⟩ :: ⟨.mov (.t 15), (some 16), none, []⟩ :: L77_11
theorem v77_12 : VS L77_12.eq_1 := rfl
def L77_13 : List AStep := ⟨.load 2 true (.t 4), (some 13), none, []⟩ :: ⟨.call 91 [(.t 13)], (some 14), none, []⟩ :: L77_12
theorem v77_13 : VS L77_13.eq_1 := rfl
def L77_14 : List AStep := [⟨.mov (.c (.bool false)), (some 2), none, []⟩]
theorem v77_14 : VS L77_14.eq_1 := rfl
def L77_15 : List AStep := [⟨.bin .add (.t 8) (.c (.int .i64 1)), (some 26), none, []⟩, ⟨.mov (.t 26), (some 8), none, []⟩]
theorem v77_15 : VS L77_15.eq_1 := rfl
def L77_16 : List AStep := [⟨.pick (.t 37) (.t 40) (.c (.bool false)), (some 41), none, []⟩, ⟨.mov (.t 41), (some 2), none, []⟩]
theorem v77_16 : VS L77_16.eq_1 := rfl
def L77_17 : List AStep := ⟨.load 1 false (.t 38), (some 39), (some (37, true)), []⟩ :: ⟨.call 93 [(.t 39)], (some 40), (some (37, true)), []⟩ :: L77_16
theorem v77_17 : VS L77_17.eq_1 := rfl
def L77_18 : List AStep := ⟨.mov (.t 36), (some 37), none, []⟩ :: ⟨.faddr 0 (.t 1), (some 38), (some (37, true)), []⟩ :: L77_17
theorem v77_18 : VS L77_18.eq_1 := rfl
def L77_19 : List AStep := ⟨.bin .leq (.t 34) (.c (.int .i64 8)), (some 35), (some (31, true)), []⟩ :: ⟨.pick (.t 31) (.t 35) (.c (.bool false)), (some 36), none, []⟩ :: L77_18
theorem v77_19 : VS L77_19.eq_1 := rfl
def L77_20 : List AStep := ⟨.load 1 false (.t 32), (some 33), (some (31, true)), []⟩ :: ⟨.len (.t 33), (some 34), (some (31, true)), []⟩ :: L77_19
theorem v77_20 : VS L77_20.eq_1 := rfl
def L77_21 : List AStep := ⟨.mov (.t 30), (some 31), none, []⟩ :: ⟨.faddr 1 (.t 1), (some 32), (some (31, true)), []⟩ :: L77_20
theorem v77_21 : VS L77_21.eq_1 := rfl
def L77_22 : List AStep := ⟨.len (.t 28), (some 29), none, []⟩ :: ⟨.bin .leq (.t 29) (.c (.int .i64 8)), (some 30), none, []⟩ :: L77_21
theorem v77_22 : VS L77_22.eq_1 := rfl
def L77_23 : List AStep := ⟨.faddr 0 (.t 1), (some 27), none, []⟩ :: ⟨.load 1 false (.t 27), (some 28), none, []⟩ :: L77_22
theorem v77_23 : VS L77_23.eq_1 := rfl
def C77_0 : ACode := .cond (.t 9) .skip (.exit 0)
theorem u77_0 : VC C77_0.eq_1 := rfl
def C77_1 : ACode := .seq (.reg L77_14) .ret
theorem u77_1 : VC C77_1.eq_1 := rfl
def C77_2 : ACode := .cond (.t 25) C77_1 .skip
theorem u77_2 : VC C77_2.eq_1 := rfl
def C77_3 : ACode := .seq (.reg L77_13) C77_2
theorem u77_3 : VC C77_3.eq_1 := rfl
def C77_4 : ACode := .seq (.reg L77_6) C77_3
theorem u77_4 : VC C77_4.eq_1 := rfl
def C77_5 : ACode := .block 1 C77_4
theorem u77_5 : VC C77_5.eq_1 := rfl
def C77_6 : ACode := .seq C77_5 (.reg L77_15)
theorem u77_6 : VC C77_6.eq_1 := rfl
def C77_7 : ACode := .seq C77_0 C77_6
theorem u77_7 : VC C77_7.eq_1 := rfl
def C77_8 : ACode := .seq (.reg L77_3) C77_7
theorem u77_8 : VC C77_8.eq_1 := rfl
def C77_9 : ACode := .block 0 (.loop C77_8)
theorem u77_9 : VC C77_9.eq_1 := rfl
def C77_10 : ACode := .seq (.reg L77_2) C77_9
theorem u77_10 : VC C77_10.eq_1 := rfl
def C77_11 : ACode := .seq (.reg L77_23) .ret
theorem u77_11 : VC C77_11.eq_1 := rfl
def C77_12 : ACode := .seq C77_10 C77_11
theorem u77_12 : VC C77_12.eq_1 := rfl
def C77_13 : ACode := .seq (.reg L77_0) C77_12
theorem u77_13 : VC C77_13.eq_1 := rfl
def F77 : AFunc := ⟨42, [.tmp 2], C77_13⟩
theorem cF77 : compB Tryz.prog 77 = some F77 := by kernel_rfl
attribute [local go_sem ↓] u77_0 u77_1 u77_2 u77_3 u77_4 u77_5 u77_6 u77_7 u77_8 u77_9 u77_10 u77_11 u77_12 u77_13 v77_0 v77_1 v77_2 v77_3 v77_4 v77_5 v77_6 v77_7 v77_8 v77_9 v77_10 v77_11 v77_12 v77_13 v77_14 v77_15 v77_16 v77_17 v77_18 v77_19 v77_20 v77_21 v77_22 v77_23
theorem c_ValidFlat (f : Flat) (pv nv : CV) (h : H) (hp : SlI h (.one pv) f.pl) (hq : SlP h (.one nv) f.nl) (hn : smF f) : bm Tryz.prog 77 [.agg [pv, nv]] h = some (ib (okFlat f), h) := by
  refine bm_eq cF77 ?_
  simp +contextual (maxSteps := 2000000) only [go_sem, Nat.reduceEqDiff, reduceCtorEq, Nat.reduceAdd, Nat.reduceLeDiff, F77, hq.len]
  refine wpC_loop (fun i T L h' => h' = h ∧ T 1 = .lp 1 0 ∧ (L 1).2 = [pv, nv] ∧ T 6 = .v (.one nv) ∧ T 7 = .v (.one (.int .i64 f.nl.length)) ∧ T 8 = .v (.one (.int .i64 i)) ∧ Upto (newAt Pair.name f.nl) i ∧ Pre okPair true f.nl i) f.nl.length ?_ ?_ (Nat.zero_le _) ?_
  · rintro i T L h' hi ⟨rfl, t1, l1, t6, t7, t8, hu, hpre⟩
    obtain ⟨v', e1, s1⟩ := hq.takeO (i := i) (by omega) (kd := .i64)
    have e2 : decide (pairAt (f.nl.take i) f.nl[i].name ≥ 0) = !(newAt Pair.name f.nl i) := newAt_ge hi
    simp +contextual (maxSteps := 2000000) only [go_sem, Nat.reduceEqDiff, reduceCtorEq, Nat.reduceAdd, Nat.reduceLeDiff, e2, t1, l1, t6, t7, t8, hq.iaddr hi, hq.whole hi, lt_true hi, e1, c_okPair _ _ (hn.nl.at hi), c_pairAtI _ _ _ _ s1 (hn.nl.take i)]
    (repeat' (first | refine And.intro ?_ ?_ | intro _)) <;> first | rfl | rw [wrap_next hi hn.nl.len] | (refine hu.next ?_; simp_all; done) | (refine hpre.next hi ?_; simp_all; done) | (rw [okFlat, apart_not hi] <;> first | rfl | (simp_all; done)) | (rw [okFlat, all_stop (p := okPair) hi] <;> first | (simp; done) | (simp_all; done))
  · rintro T L h' ⟨rfl, t1, l1, t6, t7, t8, hu, hpre⟩
    simp +contextual (maxSteps := 2000000) only [go_sem, Nat.reduceEqDiff, reduceCtorEq, Nat.reduceAdd, Nat.reduceLeDiff, t1, l1, t6, t7, t8, hq.len, hp.len, lt_false, c_areValues _ _ _ hp hn.pl, okFlat, apart_of hu, hpre.all]
    (repeat' (first | refine And.intro ?_ ?_ | intro _)) <;> first | rfl | simp_all
  · simp +contextual (maxSteps := 2000000) only [go_sem, Nat.reduceEqDiff, reduceCtorEq, Nat.reduceAdd, Nat.reduceLeDiff]
    (repeat' (first | refine And.intro ?_ ?_ | intro _)) <;> first | rfl | exact Upto.zero | exact Pre.zero
end Go.Proofs.YtdalgphpacikkaaGreat.Am
