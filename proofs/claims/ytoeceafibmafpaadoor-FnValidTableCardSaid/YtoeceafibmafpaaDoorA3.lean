/- Contracts of the program: numbers, names, pairs, flat calls and signatures that are valid. -/
import Derived.Test.YtoeceafibmafpaaDoorDat
namespace Go.Proofs.YtoeceafibmafpaaDoor.Am
open Go
set_option maxRecDepth 100000
set_option maxHeartbeats 4000000
set_option linter.unusedSimpArgs false
set_option linter.unusedVariables false
attribute [local go_sem ↓] bv_t bv_c ev_t ev_c put_same put_ne put_none kill_at pro_at lb_same lb_ne start_zero start_succ wpC_seq wpC_reg wpC_cond wpC_block wpC_skip wpC_exit wpC_ret thenQ_normal thenQ_exit thenQ_ret inBlk_normal inBlk_exit inBlk_ret wpS_nil wpS_step wpS_again wpS_guard wpO_mov wpO_load wpO_faddr wpO_nilCheck wpO_pick wpO_build wpO_bin wpO_eqb wpO_eqst wpO_eqnil wpO_not wpO_conv wpO_bytesStr wpO_iaddr wpO_idxStr wpO_field wpO_extract wpO_len wpO_lenStr wpO_cap wpO_min wpO_slice wpO_sliceStr wpO_alloc wpO_box wpO_store wpO_call wpO_callv wpO_mkfn wpO_buildSlice wpO_mkslice wpO_append wpO_appz proA_nil proA_cons tmpX_nil tmpX_tmp tmpX_cell doneB_normal doneB_ret agK_cons agK_nil agK_guard agG_tt agG_ff agG_tf agG_ft agG_undef pureB_load results_one results_two results_nil resBs_cons resBs_nil resB_tmp resB_cell
attribute [local go_sem] kill_v kill_lp_ne kill_lp_same pro_v pro_lp_same pro_lp_ne av_v av_lp optB_some optX_some valX_eq ldX_lp ldX_v faX_lp faX_v ncX_lp ncX_ptr ncX_fn boxK_one boxK_agg stL_some stK_lp_one stK_lp_agg stK_v_one stK_v_agg proM_v proM_lp callG_mk callVG_mk callvK_fn fnG_mk ptrsA_nil ptrsA_cons callH_some whenA_true whenA_false guardH_tt guardH_ff guardH_tf guardH_ft guardH_undef agV_one agV_agg lenO_sl lenStrO_str notO_bool pickO_bool convO_int eqbO_bool eqnilO_sl extractO_tup capO_sl minO_int loadL_one loadL_all storeL_eq fillA_nil fillA_one fillA_agg nat_ge neg_ge nat_lt neg_lt buildO bin_add bin_sub bin_mul bin_eql bin_neq bin_lss bin_leq bin_gtr bin_geq str_eql str_neq str_lss str_leq str_gtr str_geq retK_some endK_mk gcK_same gcK_int gcK_bool tupO_one tupO_agg rdy_self ib ii Option.map_none Option.map_some Option.some.injEq exists_eq_left' exists_eq_left ne_eq not_false_eq_true if_true if_false List.map_cons List.map_nil List.getElem?_cons_zero List.getElem?_cons_succ List.length_cons List.length_nil List.take_succ_cons List.take_zero List.take_nil List.drop_succ_cons List.drop_zero List.drop_nil List.cons_append List.nil_append List.append_nil List.set_cons_zero List.set_cons_succ Nat.zero_add forall_const true_and and_true and_self Bool.false_eq_true false_implies true_implies implies_true Bool.not_true Bool.not_false Bool.not_eq_true' Bool.not_eq_false' beq_self_eq_true Bool.bne_true Bool.bne_false
attribute [local go_sem] lenI lenS lenP lenQ lenB lenL lenT encI_0 encS_0 encP_0 encP_1 encQ_0 encQ_1 encQ_2 encQ_3 encB_0 encB_1 encL_0 encL_1 encT_0 encT_1
attribute [local go_sem low] whenA_bool guardH_bool
/-! impl.in -/
def L69_0 : List AStep := [⟨.mov (.c (.bool false)), (some 6), none, []⟩]
theorem v69_0 : VS L69_0.eq_1 := rfl
def L69_1 : List AStep := [⟨.mov (.t 14), (some 6), none, []⟩]
theorem v69_1 : VS L69_1.eq_1 := rfl
def L69_2 : List AStep := ⟨.bin .leq (.t 11) (.t 12), (some 13), (some (10, true)), []⟩ :: ⟨.pick (.t 10) (.t 13) (.c (.bool false)), (some 14), none, []⟩ :: L69_1
theorem v69_2 : VS L69_2.eq_1 := rfl
def L69_3 : List AStep := ⟨.mov (.t 0), (some 11), (some (10, true)), []⟩ :: ⟨.mov (.t 2), (some 12), (some (10, true)), []⟩ :: L69_2
theorem v69_3 : VS L69_3.eq_1 := rfl
def L69_4 : List AStep := ⟨.bin .geq (.t 7) (.t 8), (some 9), none, []⟩ :: ⟨.mov (.t 9), (some 10), none, []⟩ :: L69_3
theorem v69_4 : VS L69_4.eq_1 := rfl
def L69_5 : List AStep := ⟨.mov (.t 0), (some 7), none, []⟩ :: ⟨.mov (.t 1), (some 8), none, []⟩ :: L69_4
theorem v69_5 : VS L69_5.eq_1 := rfl
def C69_0 : ACode := .seq (.reg L69_5) .ret
theorem u69_0 : VC C69_0.eq_1 := rfl
def C69_1 : ACode := .seq (.reg L69_0) C69_0
theorem u69_1 : VC C69_1.eq_1 := rfl
def F69 : AFunc := ⟨15, [.tmp 6], C69_1⟩
theorem cF69 : compB Tryd.prog 69 = some F69 := by kernel_rfl
attribute [local go_sem ↓] u69_0 u69_1 v69_0 v69_1 v69_2 v69_3 v69_4 v69_5
theorem c_in (n lo hi : Int) (h : H) : bm Tryd.prog 69 [.one (.int .i64 n), .one (.int .i64 lo), .one (.int .i64 hi)] h = some (ib (decide (lo ≤ n) && decide (n ≤ hi)), h) := by
  refine bm_eq cF69 ?_
  simp +contextual (maxSteps := 2000000) only [go_sem, Nat.reduceEqDiff, reduceCtorEq, Nat.reduceAdd, Nat.reduceLeDiff, F69]
  (repeat' (first | refine And.intro ?_ ?_ | intro _)) <;> first | simp_all
/-! impl.isValue -/
def L81_0 : List AStep := [⟨.mov (.c (.bool false)), (some 2), none, []⟩]
theorem v81_0 : VS L81_0.eq_1 := rfl
def L81_1 : List AStep := [⟨.mov (.t 4), (some 2), none, []⟩]
theorem v81_1 : VS L81_1.eq_1 := rfl
def L81_2 : List AStep := ⟨.mov (.t 0), (some 3), none, []⟩ :: ⟨.call 69 [(.t 3), (.c (.int .i64 (-99))), (.c (.int .i64 99))], (some 4), none, []⟩ :: L81_1
theorem v81_2 : VS L81_2.eq_1 := rfl
def C81_0 : ACode := .seq (.reg L81_2) .ret
theorem u81_0 : VC C81_0.eq_1 := rfl
def C81_1 : ACode := .seq (.reg L81_0) C81_0
theorem u81_1 : VC C81_1.eq_1 := rfl
def F81 : AFunc := ⟨5, [.tmp 2], C81_1⟩
theorem cF81 : compB Tryd.prog 81 = some F81 := by kernel_rfl
attribute [local go_sem ↓] u81_0 u81_1 v81_0 v81_1 v81_2
theorem c_isValue (n : Int) (h : H) : bm Tryd.prog 81 [.one (.int .i64 n)] h = some (ib (okNum n), h) := by
  refine bm_eq cF81 ?_
  simp +contextual (maxSteps := 2000000) only [go_sem, Nat.reduceEqDiff, reduceCtorEq, Nat.reduceAdd, Nat.reduceLeDiff, F81, c_in, okNum]
/-! impl.isName -/
def L56_0 : List AStep := [⟨.mov (.c (.bool false)), (some 2), none, []⟩]
theorem v56_0 : VS L56_0.eq_1 := rfl
def L56_1 : List AStep := [⟨.mov (.c (.int .i64 0)), (some 3), none, []⟩]
theorem v56_1 : VS L56_1.eq_1 := rfl
def L56_2 : List AStep := [⟨.lenStr (.t 5), (some 6), none, []⟩, ⟨.bin .lss (.t 4) (.t 6), (some 7), none, []⟩]
theorem v56_2 : VS L56_2.eq_1 := rfl
def L56_3 : List AStep := ⟨.mov (.t 3), (some 4), none, []⟩ :: ⟨.mov (.t 0), (some 5), none, []⟩ :: L56_2
theorem v56_3 : VS L56_3.eq_1 := rfl
def L56_4 : List AStep := [⟨.bin .gtr (.t 17) (.c (.int .u8 122)), (some 18), (some (14, false)), []⟩, ⟨.pick (.t 14) (.c (.bool true)) (.t 18), (some 19), none, []⟩]
theorem v56_4 : VS L56_4.eq_1 := rfl
def L56_5 : List AStep := ⟨.mov (.t 3), (some 16), (some (14, false)), []⟩ :: ⟨.idxStr (.t 15) (.t 16), (some 17), (some (14, false)), []⟩ :: L56_4
theorem v56_5 : VS L56_5.eq_1 := rfl
def L56_6 : List AStep := ⟨.mov (.t 13), (some 14), none, []⟩ :: ⟨.mov (.t 0), (some 15), (some (14, false)), []⟩ :: L56_5
theorem v56_6 : VS L56_6.eq_1 := rfl
def L56_7 : List AStep := ⟨.idxStr (.t 10) (.t 11), (some 12), none, []⟩ :: ⟨.bin .lss (.t 12) (.c (.int .u8 97)), (some 13), none, []⟩ :: L56_6
theorem v56_7 : VS L56_7.eq_1 := rfl
def L56_8 : List AStep := ⟨.mov (.t 0), (some 10), none, []⟩ :: ⟨.mov (.t 3), (some 11), none, []⟩ :: L56_7
theorem v56_8 : VS L56_8.eq_1 := rfl
def L56_9 : List AStep := [⟨.mov (.c (.bool false)), (some 2), none, []⟩]
theorem v56_9 : VS L56_9.eq_1 := rfl
def L56_10 : List AStep := [⟨.mov (.t 9), (some 3), none, []⟩]
theorem v56_10 : VS L56_10.eq_1 := rfl
def L56_11 : List AStep := ⟨.mov (.t 3), (some 8), none, []⟩ :: ⟨.bin .add (.t 8) (.c (.int .i64 1)), (some 9), none, []⟩ :: L56_10
theorem v56_11 : VS L56_11.eq_1 := rfl
def L56_12 : List AStep := [⟨.call 69 [(.t 21), (.c (.int .i64 1)), (.c (.int .i64 6))], (some 22), none, []⟩, ⟨.mov (.t 22), (some 2), none, []⟩]
theorem v56_12 : VS L56_12.eq_1 := rfl
def L56_13 : List AStep := ⟨.mov (.t 0), (some 20), none, []⟩ :: ⟨.lenStr (.t 20), (some 21), none, []⟩ :: L56_12
theorem v56_13 : VS L56_13.eq_1 := rfl
def C56_0 : ACode := .cond (.t 7) .skip (.exit 0)
theorem u56_0 : VC C56_0.eq_1 := rfl
def C56_1 : ACode := .seq (.reg L56_3) C56_0
theorem u56_1 : VC C56_1.eq_1 := rfl
def C56_2 : ACode := .seq (.reg L56_9) .ret
theorem u56_2 : VC C56_2.eq_1 := rfl
def C56_3 : ACode := .cond (.t 19) C56_2 .skip
theorem u56_3 : VC C56_3.eq_1 := rfl
def C56_4 : ACode := .seq (.reg L56_8) C56_3
theorem u56_4 : VC C56_4.eq_1 := rfl
def C56_5 : ACode := .block 1 C56_4
theorem u56_5 : VC C56_5.eq_1 := rfl
def C56_6 : ACode := .seq C56_5 (.reg L56_11)
theorem u56_6 : VC C56_6.eq_1 := rfl
def C56_7 : ACode := .seq C56_1 C56_6
theorem u56_7 : VC C56_7.eq_1 := rfl
def C56_8 : ACode := .block 0 (.loop C56_7)
theorem u56_8 : VC C56_8.eq_1 := rfl
def C56_9 : ACode := .seq (.reg L56_1) C56_8
theorem u56_9 : VC C56_9.eq_1 := rfl
def C56_10 : ACode := .seq (.reg L56_13) .ret
theorem u56_10 : VC C56_10.eq_1 := rfl
def C56_11 : ACode := .seq C56_9 C56_10
theorem u56_11 : VC C56_11.eq_1 := rfl
def C56_12 : ACode := .seq (.reg L56_0) C56_11
theorem u56_12 : VC C56_12.eq_1 := rfl
def F56 : AFunc := ⟨23, [.tmp 2], C56_12⟩
theorem cF56 : compB Tryd.prog 56 = some F56 := by kernel_rfl
attribute [local go_sem ↓] u56_0 u56_1 u56_2 u56_3 u56_4 u56_5 u56_6 u56_7 u56_8 u56_9 u56_10 u56_11 u56_12 v56_0 v56_1 v56_2 v56_3 v56_4 v56_5 v56_6 v56_7 v56_8 v56_9 v56_10 v56_11 v56_12 v56_13
theorem c_isName (s : ByteArray) (h : H) (hn : s.size < 2 ^ 62) : bm Tryd.prog 56 [.one (.str s)] h = some (ib (okName s), h) := by
  refine bm_eq cF56 ?_
  simp +contextual (maxSteps := 2000000) only [go_sem, Nat.reduceEqDiff, reduceCtorEq, Nat.reduceAdd, Nat.reduceLeDiff, F56]
  have hsz : s.data.toList.length = s.size := Array.length_toList
  refine wpC_loop (fun i T L h' => h' = h ∧ T 0 = .v (.one (.str s)) ∧ T 3 = .v (.one (.int .i64 i)) ∧ Pre isLow true s.data.toList i) s.size ?_ ?_ (Nat.zero_le _) ?_
  · rintro i T L h' hi ⟨rfl, h0, h3, hp⟩
    simp +contextual (maxSteps := 2000000) only [go_sem, Nat.reduceEqDiff, reduceCtorEq, Nat.reduceAdd, Nat.reduceLeDiff, h0, h3, idx_at hi, lt_true hi]
    have e : s.data.toList[i]'(by omega) = s.data[i]'hi := Array.getElem_toList _
    have bad : isLow (s.data[i]'hi) = false → okName s = false := fun hx => by
      unfold okName
      rw [all_stop (l := s.data.toList) (i := i) (by omega) (by rw [e]; exact hx)]
      rfl
    have low : isLow (s.data[i]'hi) = (!(decide ((↑(s.data[i]'hi).toNat : Int) < 97)) && !(decide ((↑(s.data[i]'hi).toNat : Int) > 122))) := by
      unfold isLow
      rw [Bool.eq_iff_iff]
      simp
      omega
    (repeat' (first | refine And.intro ?_ ?_ | intro _)) <;> first | rfl | rw [wrap_next hi hn] | exact hp.next (by omega) (by rw [e, low]; simp_all) | rw [bad (by rw [low]; simp_all)]
  · rintro T L h' ⟨rfl, h0, h3, hp⟩
    rw [← hsz] at hp
    simp +contextual (maxSteps := 2000000) only [go_sem, Nat.reduceEqDiff, reduceCtorEq, Nat.reduceAdd, Nat.reduceLeDiff, h0, h3, lt_false, c_in, okName, hp.all, Bool.true_and]
  · simp +contextual (maxSteps := 2000000) only [go_sem, Nat.reduceEqDiff, reduceCtorEq, Nat.reduceAdd, Nat.reduceLeDiff]
    (repeat' (first | refine And.intro ?_ ?_ | intro _)) <;> first | rfl | exact Pre.zero
/-! (impl.Param).placed -/
def L83_0 : List AStep := [⟨.box 83 (.t 0), (some 1), none, []⟩, ⟨.mov (.c (.bool false)), (some 2), none, []⟩]
theorem v83_0 : VS L83_0.eq_1 := rfl
def L83_1 : List AStep := [⟨.mov (.t 10), (some 2), none, []⟩]
theorem v83_1 : VS L83_1.eq_1 := rfl
def L83_2 : List AStep := ⟨.bin .eql (.t 8) (.c (.int .i64 1)), (some 9), (some (6, false)), []⟩ :: ⟨.pick (.t 6) (.c (.bool true)) (.t 9), (some 10), none, []⟩ :: L83_1
theorem v83_2 : VS L83_2.eq_1 := rfl
def L83_3 : List AStep := ⟨.faddr 1 (.t 1), (some 7), (some (6, false)), []⟩ :: ⟨.load 1 false (.t 7), (some 8), (some (6, false)), []⟩ :: L83_2
theorem v83_3 : VS L83_3.eq_1 := rfl
def L83_4 : List AStep := ⟨.bin .eql (.t 4) (.c (.int .i64 0)), (some 5), none, []⟩ :: ⟨.mov (.t 5), (some 6), none, []⟩ :: L83_3
theorem v83_4 : VS L83_4.eq_1 := rfl
def L83_5 : List AStep := ⟨.faddr 1 (.t 1), (some 3), none, []⟩ :: ⟨.load 1 false (.t 3), (some 4), none, []⟩ :: L83_4
theorem v83_5 : VS L83_5.eq_1 := rfl
def C83_0 : ACode := .seq (.reg L83_5) .ret
theorem u83_0 : VC C83_0.eq_1 := rfl
def C83_1 : ACode := .seq (.reg L83_0) C83_0
theorem u83_1 : VC C83_1.eq_1 := rfl
def F83 : AFunc := ⟨11, [.tmp 2], C83_1⟩
theorem cF83 : compB Tryd.prog 83 = some F83 := by kernel_rfl
attribute [local go_sem ↓] u83_0 u83_1 v83_0 v83_1 v83_2 v83_3 v83_4 v83_5
theorem c_placed (p : Param) (h : H) : bm Tryd.prog 83 [.agg (encQ p)] h = some (ib (byPlace p), h) := by
  refine bm_eq cF83 ?_
  simp +contextual (maxSteps := 2000000) only [go_sem, Nat.reduceEqDiff, reduceCtorEq, Nat.reduceAdd, Nat.reduceLeDiff, F83, byPlace]
  (repeat' (first | refine And.intro ?_ ?_ | intro _)) <;> first | simp_all
/-! (impl.Param).single -/
def L82_0 : List AStep := [⟨.box 83 (.t 0), (some 1), none, []⟩, ⟨.mov (.c (.bool false)), (some 2), none, []⟩]
theorem v82_0 : VS L82_0.eq_1 := rfl
def L82_1 : List AStep := [⟨.pick (.t 5) (.c (.bool true)) (.t 8), (some 9), none, []⟩, ⟨.mov (.t 9), (some 2), none, []⟩]
theorem v82_1 : VS L82_1.eq_1 := rfl
def L82_2 : List AStep := ⟨.load 1 false (.t 6), (some 7), (some (5, false)), []⟩ :: ⟨.bin .eql (.t 7) (.c (.int .i64 3)), (some 8), (some (5, false)), []⟩ :: L82_1
theorem v82_2 : VS L82_2.eq_1 := rfl
def L82_3 : List AStep := ⟨.mov (.t 4), (some 5), none, []⟩ :: ⟨.faddr 1 (.t 1), (some 6), (some (5, false)), []⟩ :: L82_2
theorem v82_3 : VS L82_3.eq_1 := rfl
def L82_4 : List AStep := ⟨.load 4 true (.t 1), (some 3), none, []⟩ :: ⟨.call 83 [(.t 3)], (some 4), none, []⟩ :: L82_3
theorem v82_4 : VS L82_4.eq_1 := rfl
def C82_0 : ACode := .seq (.reg L82_4) .ret
theorem u82_0 : VC C82_0.eq_1 := rfl
def C82_1 : ACode := .seq (.reg L82_0) C82_0
theorem u82_1 : VC C82_1.eq_1 := rfl
def F82 : AFunc := ⟨10, [.tmp 2], C82_1⟩
theorem cF82 : compB Tryd.prog 82 = some F82 := by kernel_rfl
attribute [local go_sem ↓] u82_0 u82_1 v82_0 v82_1 v82_2 v82_3 v82_4
theorem c_single (p : Param) (h : H) : bm Tryd.prog 82 [.agg (encQ p)] h = some (ib (single p), h) := by
  refine bm_eq cF82 ?_
  simp +contextual (maxSteps := 2000000) only [go_sem, Nat.reduceEqDiff, reduceCtorEq, Nat.reduceAdd, Nat.reduceLeDiff, F82, c_placed, single_eq]
  (repeat' (first | refine And.intro ?_ ?_ | intro _)) <;> first | simp_all
/-! slices.IndexFunc(()impl.Param,impl.Param) -/
def L109_0 : List AStep := [⟨.mov (.c (.int .i64 0)), (some 4), none, []⟩]
theorem v109_0 : VS L109_0.eq_1 := rfl
def L109_1 : List AStep := [⟨.mov (.c (.int .i64 0)), (some 8), none, []⟩]
theorem v109_1 : VS L109_1.eq_1 := rfl
def L109_2 : List AStep := ⟨.mov (.t 0), (some 6), none, []⟩ :: ⟨.len (.t 6), (some 7), none, []⟩ :: L109_1
theorem v109_2 : VS L109_2.eq_1 := rfl
def L109_3 : List AStep := [⟨.bin .lss (.t 8) (.t 7), (some 9), none, []⟩]
theorem v109_3 : VS L109_3.eq_1 := rfl
def L109_4 : List AStep := [⟨.mov (.t 8), (some 10), none, []⟩, ⟨.mov (.t 10), (some 5), none, []⟩]
theorem v109_4 : VS L109_4.eq_1 := rfl
def L109_5 : List AStep := [⟨.load 4 true (.t 14), (some 15), none, []⟩, ⟨.callv (.t 11) [(.t 15)], (some 16), none, []⟩]
theorem v109_5 : VS L109_5.eq_1 := rfl
def L109_6 : List AStep := ⟨.mov (.t 5), (some 13), none, []⟩ :: ⟨.iaddr 4 (.t 12) (.t 13), (some 14), none, []⟩ :: L109_5
theorem v109_6 : VS L109_6.eq_1 := rfl
def L109_7 : List AStep := ⟨.mov (.t 1), (some 11), none, []⟩ :: ⟨.mov (.t 0), (some 12), none, []⟩ :: L109_6
theorem v109_7 : VS L109_7.eq_1 := rfl
def L109_8 : List AStep := [⟨.mov (.t 5), (some 17), none, []⟩, ⟨.mov (.t 17), (some 4), none, []⟩]
theorem v109_8 : VS L109_8.eq_1 := rfl
def L109_9 : List AStep := [⟨.bin .add (.t 8) (.c (.int .i64 1)), (some 18), none, []⟩, ⟨.mov (.t 18), (some 8), none, []⟩]
theorem v109_9 : VS L109_9.eq_1 := rfl
def L109_10 : List AStep := [⟨.mov (.c (.int .i64 (-1))), (some 4), none, []⟩]
theorem v109_10 : VS L109_10.eq_1 := rfl
def C109_0 : ACode := .cond (.t 9) .skip (.exit 0)
theorem u109_0 : VC C109_0.eq_1 := rfl
def C109_1 : ACode := .seq (.reg L109_8) .ret
theorem u109_1 : VC C109_1.eq_1 := rfl
def C109_2 : ACode := .cond (.t 16) C109_1 .skip
theorem u109_2 : VC C109_2.eq_1 := rfl
def C109_3 : ACode := .seq (.reg L109_7) C109_2
theorem u109_3 : VC C109_3.eq_1 := rfl
def C109_4 : ACode := .seq (.reg L109_4) C109_3
theorem u109_4 : VC C109_4.eq_1 := rfl
def C109_5 : ACode := .block 1 C109_4
theorem u109_5 : VC C109_5.eq_1 := rfl
def C109_6 : ACode := .seq C109_5 (.reg L109_9)
theorem u109_6 : VC C109_6.eq_1 := rfl
def C109_7 : ACode := .seq C109_0 C109_6
theorem u109_7 : VC C109_7.eq_1 := rfl
def C109_8 : ACode := .seq (.reg L109_3) C109_7
theorem u109_8 : VC C109_8.eq_1 := rfl
def C109_9 : ACode := .block 0 (.loop C109_8)
theorem u109_9 : VC C109_9.eq_1 := rfl
def C109_10 : ACode := .seq (.reg L109_2) C109_9
theorem u109_10 : VC C109_10.eq_1 := rfl
def C109_11 : ACode := .seq (.reg L109_10) .ret
theorem u109_11 : VC C109_11.eq_1 := rfl
def C109_12 : ACode := .seq C109_10 C109_11
theorem u109_12 : VC C109_12.eq_1 := rfl
def C109_13 : ACode := .seq (.reg L109_0) C109_12
theorem u109_13 : VC C109_13.eq_1 := rfl
def F109 : AFunc := ⟨19, [.tmp 4], C109_13⟩
theorem cF109 : compB Tryd.prog 109 = some F109 := by kernel_rfl
attribute [local go_sem ↓] u109_0 u109_1 u109_2 u109_3 u109_4 u109_5 u109_6 u109_7 u109_8 u109_9 u109_10 u109_11 u109_12 u109_13 v109_0 v109_1 v109_2 v109_3 v109_4 v109_5 v109_6 v109_7 v109_8 v109_9 v109_10
theorem c_indexQ (l : List Param) (v : AV) (f : Nat) (caps : List (Nat × Nat)) (p : Param → Bool) (h : H) (hl : SlQ h v l) (hn : l.length ≤ big) (hf : ∀ i (hi : i < l.length), ∀ x, x = l[i] → bm Tryd.prog f (.agg (encQ x) :: caps.map fun a => .one (.ptr (some a))) h = some (ib (p x), h)) :
    bm Tryd.prog 109 [v, .one (.fn f caps)] h = some (ii (idx p l), h) := by
  refine bm_eq cF109 ?_
  simp +contextual (maxSteps := 2000000) only [go_sem, Nat.reduceEqDiff, reduceCtorEq, Nat.reduceAdd, Nat.reduceLeDiff, F109, hl.len]
  refine wpC_loop (fun i T L h' => h' = h ∧ T 0 = .v v ∧ T 1 = .v (.one (.fn f caps)) ∧ T 7 = .v (.one (.int .i64 l.length)) ∧ T 8 = .v (.one (.int .i64 i)) ∧ Pre p false l i) l.length ?_ ?_ (Nat.zero_le _) ?_
  · rintro i T L h' hi ⟨rfl, h0, h1, h7, h8, hp⟩
    simp +contextual (maxSteps := 2000000) only [go_sem, Nat.reduceEqDiff, reduceCtorEq, Nat.reduceAdd, Nat.reduceLeDiff, h0, h1, h7, h8, hl.iaddr hi, hl.whole hi, hf i hi _ rfl, lt_true hi]
    (repeat' (first | refine And.intro ?_ ?_ | intro _)) <;> first | rfl | rw [wrap_next hi (big_lt hn)] | exact hp.next hi ‹_› | rw [idx_hit hi hp ‹_›]
  · rintro T L h' ⟨rfl, h0, h1, h7, h8, hp⟩
    simp +contextual (maxSteps := 2000000) only [go_sem, Nat.reduceEqDiff, reduceCtorEq, Nat.reduceAdd, Nat.reduceLeDiff, h0, h1, h7, h8, lt_false, idx_none hp]
  · simp +contextual (maxSteps := 2000000) only [go_sem, Nat.reduceEqDiff, reduceCtorEq, Nat.reduceAdd, Nat.reduceLeDiff]
    (repeat' (first | refine And.intro ?_ ?_ | intro _)) <;> first | rfl | exact Pre.zero
/-! slices.ContainsFunc(()impl.Param,impl.Param) -/
def L85_0 : List AStep := [⟨.mov (.c (.bool false)), (some 4), none, []⟩]
theorem v85_0 : VS L85_0.eq_1 := rfl
def L85_1 : List AStep := [⟨.mov (.t 8), (some 4), none, []⟩]
theorem v85_1 : VS L85_1.eq_1 := rfl
def L85_2 : List AStep := ⟨.call 109 [(.t 5), (.t 6)], (some 7), none, []⟩ :: ⟨.bin .geq (.t 7) (.c (.int .i64 0)), (some 8), none, []⟩ :: L85_1
theorem v85_2 : VS L85_2.eq_1 := rfl
def L85_3 : List AStep := ⟨.mov (.t 0), (some 5), none, []⟩ :: ⟨.mov (.t 1), (some 6), none, []⟩ :: L85_2
theorem v85_3 : VS L85_3.eq_1 := rfl
def C85_0 : ACode := .seq (.reg L85_3) .ret
theorem u85_0 : VC C85_0.eq_1 := rfl
def C85_1 : ACode := .seq (.reg L85_0) C85_0
theorem u85_1 : VC C85_1.eq_1 := rfl
def F85 : AFunc := ⟨9, [.tmp 4], C85_1⟩
theorem cF85 : compB Tryd.prog 85 = some F85 := by kernel_rfl
attribute [local go_sem ↓] u85_0 u85_1 v85_0 v85_1 v85_2 v85_3
theorem c_hasQ (l : List Param) (v : AV) (f : Nat) (caps : List (Nat × Nat)) (p : Param → Bool) (h : H) (hl : SlQ h v l) (hn : l.length ≤ big) (hf : ∀ i (hi : i < l.length), ∀ x, x = l[i] → bm Tryd.prog f (.agg (encQ x) :: caps.map fun a => .one (.ptr (some a))) h = some (ib (p x), h)) :
    bm Tryd.prog 85 [v, .one (.fn f caps)] h = some (ib (l.any p), h) := by
  refine bm_eq cF85 ?_
  have e := idx_any (p := p) (l := l)
  simp +contextual (maxSteps := 2000000) only [go_sem, Nat.reduceEqDiff, reduceCtorEq, Nat.reduceAdd, Nat.reduceLeDiff, F85, c_indexQ l v f caps p h hl hn hf, e]
/-! impl.find$1 -/
def L110_0 : List AStep := [⟨.box 83 (.t 0), (some 2), none, []⟩, ⟨.mov (.c (.bool false)), (some 3), none, []⟩]
theorem v110_0 : VS L110_0.eq_1 := rfl
def L110_1 : List AStep := [⟨.mov (.t 7), (some 3), none, []⟩]
theorem v110_1 : VS L110_1.eq_1 := rfl
def L110_2 : List AStep := ⟨.load 1 false (.t 1), (some 6), none, []⟩ :: ⟨.bin .eql (.t 5) (.t 6), (some 7), none, []⟩ :: L110_1
theorem v110_2 : VS L110_2.eq_1 := rfl
def L110_3 : List AStep := ⟨.faddr 0 (.t 2), (some 4), none, []⟩ :: ⟨.load 1 false (.t 4), (some 5), none, []⟩ :: L110_2
theorem v110_3 : VS L110_3.eq_1 := rfl
def C110_0 : ACode := .seq (.reg L110_3) .ret
theorem u110_0 : VC C110_0.eq_1 := rfl
def C110_1 : ACode := .seq (.reg L110_0) C110_0
theorem u110_1 : VC C110_1.eq_1 := rfl
def F110 : AFunc := ⟨8, [.tmp 3], C110_1⟩
theorem cF110 : compB Tryd.prog 110 = some F110 := by kernel_rfl
attribute [local go_sem ↓] u110_0 u110_1 v110_0 v110_1 v110_2 v110_3
theorem c_find1 (p : Param) (a : Nat × Nat) (s : ByteArray) (h : H) (ha : loadO 1 false h (.one (.ptr (some a))) = some (.one (.str s))) : bm Tryd.prog 110 [.agg (encQ p), .one (.ptr (some a))] h = some (ib (decide (p.name = s)), h) := by
  refine bm_eq cF110 ?_
  simp +contextual (maxSteps := 2000000) only [go_sem, Nat.reduceEqDiff, reduceCtorEq, Nat.reduceAdd, Nat.reduceLeDiff, F110, ha]
/-! impl.find -/
def L84_0 : List AStep := [⟨.box 9 (.t 1), (some 3), none, []⟩, ⟨.mov (.c (.int .i64 0)), (some 4), none, []⟩]
theorem v84_0 : VS L84_0.eq_1 := rfl
def L84_1 : List AStep := [⟨.call 109 [(.t 5), (.t 6)], (some 7), none, []⟩, ⟨.mov (.t 7), (some 4), none, []⟩]
theorem v84_1 : VS L84_1.eq_1 := rfl
def L84_2 : List AStep := ⟨.mov (.t 0), (some 5), none, []⟩ :: ⟨.mkfn 110 [(.t 3)], (some 6), none, []⟩ :: L84_1
theorem v84_2 : VS L84_2.eq_1 := rfl
def C84_0 : ACode := .seq (.reg L84_2) .ret
theorem u84_0 : VC C84_0.eq_1 := rfl
def C84_1 : ACode := .seq (.reg L84_0) C84_0
theorem u84_1 : VC C84_1.eq_1 := rfl
def F84 : AFunc := ⟨8, [.tmp 4], C84_1⟩
theorem cF84 : compB Tryd.prog 84 = some F84 := by kernel_rfl
attribute [local go_sem ↓] u84_0 u84_1 v84_0 v84_1 v84_2
theorem c_find (l : List Param) (v : AV) (s : ByteArray) (h : H) (hl : SlQ h v l) (hn : smQ l) : bm Tryd.prog 84 [v, .one (.str s)] h = some (ii (paramAt l s), h) := by
  refine bm_eq cF84 ?_
  have e := c_indexQ l v 110 [(h.n, 0)] (fun p => decide (p.name = s)) (h.alloc [.str s] 9) (hl.grow (Grow.alloc _ _ _)) hn.1 (fun i hi x hx => c_find1 x (h.n, 0) s _ (Box.new.one rfl))
  simp +contextual (maxSteps := 2000000) only [go_sem, Nat.reduceEqDiff, reduceCtorEq, Nat.reduceAdd, Nat.reduceLeDiff, F84, e, paramAt]
end Go.Proofs.YtoeceafibmafpaaDoor.Am
