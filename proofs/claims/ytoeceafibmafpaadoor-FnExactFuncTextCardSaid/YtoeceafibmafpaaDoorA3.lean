/- Contracts of the program: numbers, names, pairs, flat calls and signatures that are valid. -/
import Derived.Test.YtoeceafibmafpaaDoorDat
namespace Go.Proofs.YtoeceafibmafpaaDoor.Am
open Go
set_option maxRecDepth 100000
set_option maxHeartbeats 4000000
set_option linter.unusedSimpArgs false
set_option linter.unusedVariables false
attribute [local go_sem ↓] bv_t bv_c ev_t ev_c put_same put_ne put_none kill_at pro_at lb_same lb_ne start_zero start_succ wpC_seq wpC_reg wpC_cond wpC_block wpC_skip wpC_exit wpC_ret thenQ_normal thenQ_exit thenQ_ret inBlk_normal inBlk_exit inBlk_ret wpS_nil wpS_step wpS_again wpS_guard wpO_mov wpO_load wpO_faddr wpO_nilCheck wpO_pick wpO_build wpO_bin wpO_eqb wpO_eqst wpO_eqnil wpO_not wpO_conv wpO_bytesStr wpO_iaddr wpO_idxStr wpO_field wpO_extract wpO_len wpO_lenStr wpO_cap wpO_min wpO_slice wpO_sliceStr wpO_alloc wpO_box wpO_store wpO_call wpO_callv wpO_mkfn wpO_buildSlice wpO_mkslice wpO_append wpO_appz proA_nil proA_cons tmpX_nil tmpX_tmp tmpX_cell doneB_normal doneB_ret agK_cons agK_nil agK_guard agG_tt agG_ff agG_tf agG_ft agG_undef pureB_load results_one results_two results_nil resBs_cons resBs_nil resB_tmp resB_cell
attribute [local go_sem] kill_v kill_lp_ne kill_lp_same pro_v pro_lp_same pro_lp_ne av_v av_lp optB_some optX_some valX_eq ldX_lp ldX_v faX_lp faX_v ncX_lp ncX_ptr ncX_fn boxK_one boxK_agg stL_some stK_lp_one stK_lp_agg stK_v_one stK_v_agg proM_v proM_lp callG_mk callVG_mk callvK_fn fnG_mk ptrsA_nil ptrsA_cons callH_some whenA_true whenA_false guardH_tt guardH_ff guardH_tf guardH_ft guardH_undef agV_one agV_agg lenO_sl lenStrO_str notO_bool pickO_bool convO_int eqbO_bool eqnilO_sl extractO_tup capO_sl minO_int loadL_one loadL_all storeL_eq fillA_nil fillA_one fillA_agg nat_ge neg_ge nat_lt neg_lt buildO bin_add bin_sub bin_mul bin_eql bin_neq bin_lss bin_leq bin_gtr bin_geq str_eql str_neq str_lss str_leq str_gtr str_geq retK_some endK_mk gcK_same gcK_int gcK_bool tupO_one tupO_agg rdy_self ib ii Option.map_none Option.map_some Option.some.injEq exists_eq_left' exists_eq_left ne_eq not_false_eq_true if_true if_false List.map_cons List.map_nil List.getElem?_cons_zero List.getElem?_cons_succ List.length_cons List.length_nil List.take_succ_cons List.take_zero List.take_nil List.drop_succ_cons List.drop_zero List.drop_nil List.cons_append List.nil_append List.append_nil List.set_cons_zero List.set_cons_succ Nat.zero_add forall_const true_and and_true and_self Bool.false_eq_true false_implies true_implies implies_true Bool.not_true Bool.not_false Bool.not_eq_true' Bool.not_eq_false' beq_self_eq_true Bool.bne_true Bool.bne_false
attribute [local go_sem] lenI lenS lenP lenQ lenB lenL lenT encI_0 encS_0 encP_0 encP_1 encQ_0 encQ_1 encQ_2 encQ_3 encB_0 encB_1 encL_0 encL_1 encT_0 encT_1
attribute [local go_sem low] whenA_bool guardH_bool
/-! impl.in -/
def L69_0 : List AStep := [⟨.mov (.c (.bool false)), (some 6), none, []⟩]
theorem v69_0 : VS L69_0.eq_1 := rfl
def L69_1 : List AStep := [⟨.mov (.t 14), (some 6), none, []⟩]
theorem v69_1 : VS L69_1.eq_1 := rfl
def L69_2 : List AStep := ⟨.bin .leq (.t 11) (.t 12), (some 13), (some (10, true)), []⟩ :: ⟨.pick (.t 10) (.t 13) (.c (.bool false)), (some 14), none, []⟩ :: L69_1
theorem v69_2 : VS L69_2.eq_1 := rfl
def L69_3 : List AStep := ⟨.mov (.t 0), (some 11), (some (10, true)), []⟩ :: ⟨.mov (.t 2), (some 12), (some (10, true)), []⟩ :: L69_2
theorem v69_3 : VS L69_3.eq_1 := rfl
def L69_4 : List AStep := ⟨.bin .geq (.t 7) (.t 8), (some 9), none, []⟩ :: ⟨.mov (.t 9), (some 10), none, []⟩ :: L69_3
theorem v69_4 : VS L69_4.eq_1 := rfl
def L69_5 : List AStep := ⟨.mov (.t 0), (some 7), none, []⟩ :: ⟨.mov (.t 1), (some 8), none, []⟩ :: L69_4
theorem v69_5 : VS L69_5.eq_1 := rfl
def C69_0 : ACode := .seq (.reg L69_5) .ret
theorem u69_0 : VC C69_0.eq_1 := rfl
def C69_1 : ACode := .seq (.reg L69_0) C69_0
theorem u69_1 : VC C69_1.eq_1 := rfl
def F69 : AFunc := ⟨15, [.tmp 6], C69_1⟩
theorem cF69 : compB Tryd.prog 69 = some F69 := by kernel_rfl
attribute [local go_sem ↓] u69_0 u69_1 v69_0 v69_1 v69_2 v69_3 v69_4 v69_5
theorem c_in (n lo hi : Int) (h : H) : bm Tryd.prog 69 [.one (.int .i64 n), .one (.int .i64 lo), .one (.int .i64 hi)] h = some (ib (decide (lo ≤ n) && decide (n ≤ hi)), h) := by
  refine bm_eq cF69 ?_
  simp +contextual (maxSteps := 2000000) only [go_sem, Nat.reduceEqDiff, reduceCtorEq, Nat.reduceAdd, Nat.reduceLeDiff, F69]
  (repeat' (first | refine And.intro ?_ ?_ | intro _)) <;> first | simp_all
/-! impl.isValue -/
def L81_0 : List AStep := [⟨.mov (.c (.bool false)), (some 2), none, []⟩]
theorem v81_0 : VS L81_0.eq_1 := rfl
def L81_1 : List AStep := [⟨.mov (.t 4), (some 2), none, []⟩]
theorem v81_1 : VS L81_1.eq_1 := rfl
def L81_2 : List AStep := ⟨.mov (.t 0), (some 3), none, []⟩ :: ⟨.call 69 [(.t 3), (.c (.int .i64 (-99))), (.c (.int .i64 99))], (some 4), none, []⟩ :: L81_1
theorem v81_2 : VS L81_2.eq_1 := rfl
def C81_0 : ACode := .seq (.reg L81_2) .ret
theorem u81_0 : VC C81_0.eq_1 := rfl
def C81_1 : ACode := .seq (.reg L81_0) C81_0
theorem u81_1 : VC C81_1.eq_1 := rfl
def F81 : AFunc := ⟨5, [.tmp 2], C81_1⟩
theorem cF81 : compB Tryd.prog 81 = some F81 := by kernel_rfl
attribute [local go_sem ↓] u81_0 u81_1 v81_0 v81_1 v81_2
theorem c_isValue (n : Int) (h : H) : bm Tryd.prog 81 [.one (.int .i64 n)] h = some (ib (okNum n), h) := by
  refine bm_eq cF81 ?_
  simp +contextual (maxSteps := 2000000) only [go_sem, Nat.reduceEqDiff, reduceCtorEq, Nat.reduceAdd, Nat.reduceLeDiff, F81, c_in, okNum]
/-! impl.isName -/
def L56_0 : List AStep := [⟨.mov (.c (.bool false)), (some 2), none, []⟩]
theorem v56_0 : VS L56_0.eq_1 := rfl
def L56_1 : List AStep := [⟨.mov (.c (.int .i64 0)), (some 3), none, []⟩]
theorem v56_1 : VS L56_1.eq_1 := rfl
def L56_2 : List AStep := [⟨.lenStr (.t 5), (some 6), none, []⟩, ⟨.bin .lss (.t 4) (.t 6), (some 7), none, []⟩]
theorem v56_2 : VS L56_2.eq_1 := rfl
def L56_3 : List AStep := ⟨.mov (.t 3), (some 4), none, []⟩ :: ⟨.mov (.t 0), (some 5), none, []⟩ :: L56_2
theorem v56_3 : VS L56_3.eq_1 := rfl
def L56_4 : List AStep := [⟨.bin .gtr (.t 17) (.c (.int .u8 122)), (some 18), (some (14, false)), []⟩, ⟨.pick (.t 14) (.c (.bool true)) (.t 18), (some 19), none, []⟩]
theorem v56_4 : VS L56_4.eq_1 := rfl
def L56_5 : List AStep := ⟨.mov (.t 3), (some 16), (some (14, false)), []⟩ :: ⟨.idxStr (.t 15) (.t 16), (some 17), (some (14, false)), []⟩ :: L56_4
theorem v56_5 : VS L56_5.eq_1 := rfl
def L56_6 : List AStep := ⟨.mov (.t 13), (some 14), none, []⟩ :: ⟨.mov (.t 0), (some 15), (some (14, false)), []⟩ :: L56_5
theorem v56_6 : VS L56_6.eq_1 := rfl
def L56_7 : List AStep := ⟨.idxStr (.t 10) (.t 11), (some 12), none, []⟩ :: ⟨.bin .lss (.t 12) (.c (.int .u8 97)), (some 13), none, []⟩ :: L56_6
theorem v56_7 : VS L56_7.eq_1 := rfl
def L56_8 : List AStep := ⟨.mov (.t 0), (some 10), none, []⟩ :: ⟨.mov (.t 3), (some 11), none, []⟩ :: L56_7
theorem v56_8 : VS L56_8.eq_1 := rfl
def L56_9 : List AStep := [⟨.mov (.c (.bool false)), (some 2), none, []⟩]
theorem v56_9 : VS L56_9.eq_1 := rfl
def L56_10 : List AStep := [⟨.mov (.t 9), (some 3), none, []⟩]
theorem v56_10 : VS L56_10.eq_1 := rfl
def L56_11 : List AStep := ⟨.mov (.t 3), (some 8), none, []⟩ :: ⟨.bin .add (.t 8) (.c (.int .i64 1)), (some 9), none, []⟩ :: L56_10
theorem v56_11 : VS L56_11.eq_1 := rfl
def L56_12 : List AStep := [⟨.call 69 [(.t 21), (.c (.int .i64 1)), (.c (.int .i64 6))], (some 22), none, []⟩, ⟨.mov (.t 22), (some 2), none, []⟩]
theorem v56_12 : VS L56_12.eq_1 := rfl
def L56_13 : List AStep := ⟨.mov (.t 0), (some 20), none, []⟩ :: ⟨.lenStr (.t 20), (some 21), none, []⟩ :: L56_12
theorem v56_13 : VS L56_13.eq_1 := rfl
def C56_0 : ACode := .cond (.t 7) .skip (.exit 0)
theorem u56_0 : VC C56_0.eq_1 := rfl
def C56_1 : ACode := .seq (.reg L56_3) C56_0
theorem u56_1 : VC C56_1.eq_1 := rfl
def C56_2 : ACode := .seq (.reg L56_9) .ret
theorem u56_2 : VC C56_2.eq_1 := rfl
def C56_3 : ACode := .cond (.t 19) C56_2 .skip
theorem u56_3 : VC C56_3.eq_1 := rfl
def C56_4 : ACode := .seq (.reg L56_8) C56_3
theorem u56_4 : VC C56_4.eq_1 := rfl
def C56_5 : ACode := .block 1 C56_4
theorem u56_5 : VC C56_5.eq_1 := rfl
def C56_6 : ACode := .seq C56_5 (.reg L56_11)
theorem u56_6 : VC C56_6.eq_1 := rfl
def C56_7 : ACode := .seq C56_1 C56_6
theorem u56_7 : VC C56_7.eq_1 := rfl
def C56_8 : ACode := .block 0 (.loop C56_7)
theorem u56_8 : VC C56_8.eq_1 := rfl
def C56_9 : ACode := .seq (.reg L56_1) C56_8
theorem u56_9 : VC C56_9.eq_1 := rfl
def C56_10 : ACode := .seq (.reg L56_13) .ret
theorem u56_10 : VC C56_10.eq_1 := rfl
def C56_11 : ACode := .seq C56_9 C56_10
theorem u56_11 : VC C56_11.eq_1 := rfl
def C56_12 : ACode := .seq (.reg L56_0) C56_11
theorem u56_12 : VC C56_12.eq_1 := rfl
def F56 : AFunc := ⟨23, [.tmp 2], C56_12⟩
theorem cF56 : compB Tryd.prog 56 = some F56 := by kernel_rfl
attribute [local go_sem ↓] u56_0 u56_1 u56_2 u56_3 u56_4 u56_5 u56_6 u56_7 u56_8 u56_9 u56_10 u56_11 u56_12 v56_0 v56_1 v56_2 v56_3 v56_4 v56_5 v56_6 v56_7 v56_8 v56_9 v56_10 v56_11 v56_12 v56_13
theorem c_isName (s : ByteArray) (h : H) (hn : s.size < 2 ^ 62) : bm Tryd.prog 56 [.one (.str s)] h = some (ib (okName s), h) := by
  refine bm_eq cF56 ?_
  simp +contextual (maxSteps := 2000000) only [go_sem, Nat.reduceEqDiff, reduceCtorEq, Nat.reduceAdd, Nat.reduceLeDiff, F56]
  have hsz : s.data.toList.length = s.size := Array.length_toList
  refine wpC_loop (fun i T L h' => h' = h ∧ T 0 = .v (.one (.str s)) ∧ T 3 = .v (.one (.int .i64 i)) ∧ Pre isLow true s.data.toList i) s.size ?_ ?_ (Nat.zero_le _) ?_
  · rintro i T L h' hi ⟨rfl, h0, h3, hp⟩
    simp +contextual (maxSteps := 2000000) only [go_sem, Nat.reduceEqDiff, reduceCtorEq, Nat.reduceAdd, Nat.reduceLeDiff, h0, h3, idx_at hi, lt_true hi]
    have e : s.data.toList[i]'(by omega) = s.data[i]'hi := Array.getElem_toList _
    have bad : isLow (s.data[i]'hi) = false → okName s = false := fun hx => by
      unfold okName
      rw [all_stop (l := s.data.toList) (i := i) (by omega) (by rw [e]; exact hx)]
      rfl
    have low : isLow (s.data[i]'hi) = (!(decide ((↑(s.data[i]'hi).toNat : Int) < 97)) && !(decide ((↑(s.data[i]'hi).toNat : Int) > 122))) := by
      unfold isLow
      rw [Bool.eq_iff_iff]
      simp
      omega
    (repeat' (first | refine And.intro ?_ ?_ | intro _)) <;> first | rfl | rw [wrap_next hi hn] | exact hp.next (by omega) (by rw [e, low]; simp_all) | rw [bad (by rw [low]; simp_all)]
  · rintro T L h' ⟨rfl, h0, h3, hp⟩
    rw [← hsz] at hp
    simp +contextual (maxSteps := 2000000) only [go_sem, Nat.reduceEqDiff, reduceCtorEq, Nat.reduceAdd, Nat.reduceLeDiff, h0, h3, lt_false, c_in, okName, hp.all, Bool.true_and]
  · simp +contextual (maxSteps := 2000000) only [go_sem, Nat.reduceEqDiff, reduceCtorEq, Nat.reduceAdd, Nat.reduceLeDiff]
    (repeat' (first | refine And.intro ?_ ?_ | intro _)) <;> first | rfl | exact Pre.zero
/-! (impl.Param).placed -/
def L83_0 : List AStep := [⟨.box 83 (.t 0), (some 1), none, []⟩, ⟨.mov (.c (.bool false)), (some 2), none, []⟩]
theorem v83_0 : VS L83_0.eq_1 := rfl
def L83_1 : List AStep := [⟨.mov (.t 10), (some 2), none, []⟩]
theorem v83_1 : VS L83_1.eq_1 := rfl
def L83_2 : List AStep := ⟨.bin .eql (.t 8) (.c (.int .i64 1)), (some 9), (some (6, false)), []⟩ :: ⟨.pick (.t 6) (.c (.bool true)) (.t 9), (some 10), none, []⟩ :: L83_1
theorem v83_2 : VS L83_2.eq_1 := rfl
def L83_3 : List AStep := ⟨.faddr 1 (.t 1), (some 7), (some (6, false)), []⟩ :: ⟨.load 1 false (.t 7), (some 8), (some (6, false)), []⟩ :: L83_2
theorem v83_3 : VS L83_3.eq_1 := rfl
def L83_4 : List AStep := ⟨.bin .eql (.t 4) (.c (.int .i64 0)), (some 5), none, []⟩ :: ⟨.mov (.t 5), (some 6), none, []⟩ :: L83_3
theorem v83_4 : VS L83_4.eq_1 := rfl
def L83_5 : List AStep := ⟨.faddr 1 (.t 1), (some 3), none, []⟩ :: ⟨.load 1 false (.t 3), (some 4), none, []⟩ :: L83_4
theorem v83_5 : VS L83_5.eq_1 := rfl
def C83_0 : ACode := .seq (.reg L83_5) .ret
theorem u83_0 : VC C83_0.eq_1 := rfl
def C83_1 : ACode := .seq (.reg L83_0) C83_0
theorem u83_1 : VC C83_1.eq_1 := rfl
def F83 : AFunc := ⟨11, [.tmp 2], C83_1⟩
theorem cF83 : compB Tryd.prog 83 = some F83 := by kernel_rfl
attribute [local go_sem ↓] u83_0 u83_1 v83_0 v83_1 v83_2 v83_3 v83_4 v83_5
theorem c_placed (p : Param) (h : H) : bm Tryd.prog 83 [.agg (encQ p)] h = some (ib (byPlace p), h) := by
  refine bm_eq cF83 ?_
  simp +contextual (maxSteps := 2000000) only [go_sem, Nat.reduceEqDiff, reduceCtorEq, Nat.reduceAdd, Nat.reduceLeDiff, F83, byPlace]
  (repeat' (first | refine And.intro ?_ ?_ | intro _)) <;> first | simp_all
/-! (impl.Param).single -/
def L82_0 : List AStep := [⟨.box 83 (.t 0), (some 1), none, []⟩, ⟨.mov (.c (.bool false)), (some 2), none, []⟩]
theorem v82_0 : VS L82_0.eq_1 := rfl
def L82_1 : List AStep := [⟨.pick (.t 5) (.c (.bool true)) (.t 8), (some 9), none, []⟩, ⟨.mov (.t 9), (some 2), none, []⟩]
theorem v82_1 : VS L82_1.eq_1 := rfl
def L82_2 : List AStep := ⟨.load 1 false (.t 6), (some 7), (some (5, false)), []⟩ :: ⟨.bin .eql (.t 7) (.c (.int .i64 3)), (some 8), (some (5, false)), []⟩ :: L82_1
theorem v82_2 : VS L82_2.eq_1 := rfl
def L82_3 : List AStep := ⟨.mov (.t 4), (some 5), none, []⟩ :: ⟨.faddr 1 (.t 1), (some 6), (some (5, false)), []⟩ :: L82_2
theorem v82_3 : VS L82_3.eq_1 := rfl
def L82_4 : List AStep := ⟨.load 4 true (.t 1), (some 3), none, []⟩ :: ⟨.call 83 [(.t 3)], (some 4), none, []⟩ :: L82_3
theorem v82_4 : VS L82_4.eq_1 := rfl
def C82_0 : ACode := .seq (.reg L82_4) .ret
theorem u82_0 : VC C82_0.eq_1 := rfl
def C82_1 : ACode := .seq (.reg L82_0) C82_0
theorem u82_1 : VC C82_1.eq_1 := rfl
def F82 : AFunc := ⟨10, [.tmp 2], C82_1⟩
theorem cF82 : compB Tryd.prog 82 = some F82 := by kernel_rfl
attribute [local go_sem ↓] u82_0 u82_1 v82_0 v82_1 v82_2 v82_3 v82_4
theorem c_single (p : Param) (h : H) : bm Tryd.prog 82 [.agg (encQ p)] h = some (ib (single p), h) := by
  refine bm_eq cF82 ?_
  simp +contextual (maxSteps := 2000000) only [go_sem, Nat.reduceEqDiff, reduceCtorEq, Nat.reduceAdd, Nat.reduceLeDiff, F82, c_placed, single_eq]
  (repeat' (first | refine And.intro ?_ ?_ | intro _)) <;> first | simp_all
/-! (impl.Pair).valid -/
def L126_0 : List AStep := [⟨.box 151 (.t 0), (some 1), none, []⟩, ⟨.mov (.c (.bool false)), (some 2), none, []⟩]
theorem v126_0 : VS L126_0.eq_1 := rfl
def L126_1 : List AStep := [⟨.mov (.t 10), (some 2), none, []⟩]
theorem v126_1 : VS L126_1.eq_1 := rfl
def L126_2 : List AStep := ⟨.call 81 [(.t 8)], (some 9), (some (6, true)), []⟩ :: ⟨.pick (.t 6) (.t 9) (.c (.bool false)), (some 10), none, []⟩ :: L126_1
theorem v126_2 : VS L126_2.eq_1 := rfl
def L126_3 : List AStep := ⟨.faddr 1 (.t 1), (some 7), (some (6, true)), []⟩ :: ⟨.load 1 false (.t 7), (some 8), (some (6, true)), []⟩ :: L126_2
theorem v126_3 : VS L126_3.eq_1 := rfl
def L126_4 : List AStep := ⟨.call 56 [(.t 4)], (some 5), none, []⟩ :: ⟨.mov (.t 5), (some 6), none, []⟩ :: L126_3
theorem v126_4 : VS L126_4.eq_1 := rfl
def L126_5 : List AStep := ⟨.faddr 0 (.t 1), (some 3), none, []⟩ :: ⟨.load 1 false (.t 3), (some 4), none, []⟩ :: L126_4
theorem v126_5 : VS L126_5.eq_1 := rfl
def C126_0 : ACode := .seq (.reg L126_5) .ret
theorem u126_0 : VC C126_0.eq_1 := rfl
def C126_1 : ACode := .seq (.reg L126_0) C126_0
theorem u126_1 : VC C126_1.eq_1 := rfl
def F126 : AFunc := ⟨11, [.tmp 2], C126_1⟩
theorem cF126 : compB Tryd.prog 126 = some F126 := by kernel_rfl
attribute [local go_sem ↓] u126_0 u126_1 v126_0 v126_1 v126_2 v126_3 v126_4 v126_5
theorem c_okPair (p : Pair) (h : H) (hn : p.name.size < 2 ^ 62) : bm Tryd.prog 126 [.agg (encP p)] h = some (ib (okPair p), h) := by
  refine bm_eq cF126 ?_
  simp +contextual (maxSteps := 2000000) only [go_sem, Nat.reduceEqDiff, reduceCtorEq, Nat.reduceAdd, Nat.reduceLeDiff, F126, c_isName _ _ hn, c_isValue, okPair]
  (repeat' (first | refine And.intro ?_ ?_ | intro _)) <;> first | simp_all
/-! slices.IndexFunc(()impl.Pair,impl.Pair) -/
def L144_0 : List AStep := [⟨.mov (.c (.int .i64 0)), (some 4), none, []⟩]
theorem v144_0 : VS L144_0.eq_1 := rfl
def L144_1 : List AStep := [⟨.mov (.c (.int .i64 0)), (some 8), none, []⟩]
theorem v144_1 : VS L144_1.eq_1 := rfl
def L144_2 : List AStep := ⟨.mov (.t 0), (some 6), none, []⟩ :: ⟨.len (.t 6), (some 7), none, []⟩ :: L144_1
theorem v144_2 : VS L144_2.eq_1 := rfl
def L144_3 : List AStep := [⟨.bin .lss (.t 8) (.t 7), (some 9), none, []⟩]
theorem v144_3 : VS L144_3.eq_1 := rfl
def L144_4 : List AStep := [⟨.mov (.t 8), (some 10), none, []⟩, ⟨.mov (.t 10), (some 5), none, []⟩]
theorem v144_4 : VS L144_4.eq_1 := rfl
def L144_5 : List AStep := [⟨.load 2 true (.t 14), (some 15), none, []⟩, ⟨.callv (.t 11) [(.t 15)], (some 16), none, []⟩]
theorem v144_5 : VS L144_5.eq_1 := rfl
def L144_6 : List AStep := ⟨.mov (.t 5), (some 13), none, []⟩ :: ⟨.iaddr 2 (.t 12) (.t 13), (some 14), none, []⟩ :: L144_5
theorem v144_6 : VS L144_6.eq_1 := rfl
def L144_7 : List AStep := ⟨.mov (.t 1), (some 11), none, []⟩ :: ⟨.mov (.t 0), (some 12), none, []⟩ :: L144_6
theorem v144_7 : VS L144_7.eq_1 := rfl
def L144_8 : List AStep := [⟨.mov (.t 5), (some 17), none, []⟩, ⟨.mov (.t 17), (some 4), none, []⟩]
theorem v144_8 : VS L144_8.eq_1 := rfl
def L144_9 : List AStep := [⟨.bin .add (.t 8) (.c (.int .i64 1)), (some 18), none, []⟩, ⟨.mov (.t 18), (some 8), none, []⟩]
theorem v144_9 : VS L144_9.eq_1 := rfl
def L144_10 : List AStep := [⟨.mov (.c (.int .i64 (-1))), (some 4), none, []⟩]
theorem v144_10 : VS L144_10.eq_1 := rfl
def C144_0 : ACode := .cond (.t 9) .skip (.exit 0)
theorem u144_0 : VC C144_0.eq_1 := rfl
def C144_1 : ACode := .seq (.reg L144_8) .ret
theorem u144_1 : VC C144_1.eq_1 := rfl
def C144_2 : ACode := .cond (.t 16) C144_1 .skip
theorem u144_2 : VC C144_2.eq_1 := rfl
def C144_3 : ACode := .seq (.reg L144_7) C144_2
theorem u144_3 : VC C144_3.eq_1 := rfl
def C144_4 : ACode := .seq (.reg L144_4) C144_3
theorem u144_4 : VC C144_4.eq_1 := rfl
def C144_5 : ACode := .block 1 C144_4
theorem u144_5 : VC C144_5.eq_1 := rfl
def C144_6 : ACode := .seq C144_5 (.reg L144_9)
theorem u144_6 : VC C144_6.eq_1 := rfl
def C144_7 : ACode := .seq C144_0 C144_6
theorem u144_7 : VC C144_7.eq_1 := rfl
def C144_8 : ACode := .seq (.reg L144_3) C144_7
theorem u144_8 : VC C144_8.eq_1 := rfl
def C144_9 : ACode := .block 0 (.loop C144_8)
theorem u144_9 : VC C144_9.eq_1 := rfl
def C144_10 : ACode := .seq (.reg L144_2) C144_9
theorem u144_10 : VC C144_10.eq_1 := rfl
def C144_11 : ACode := .seq (.reg L144_10) .ret
theorem u144_11 : VC C144_11.eq_1 := rfl
def C144_12 : ACode := .seq C144_10 C144_11
theorem u144_12 : VC C144_12.eq_1 := rfl
def C144_13 : ACode := .seq (.reg L144_0) C144_12
theorem u144_13 : VC C144_13.eq_1 := rfl
def F144 : AFunc := ⟨19, [.tmp 4], C144_13⟩
theorem cF144 : compB Tryd.prog 144 = some F144 := by kernel_rfl
attribute [local go_sem ↓] u144_0 u144_1 u144_2 u144_3 u144_4 u144_5 u144_6 u144_7 u144_8 u144_9 u144_10 u144_11 u144_12 u144_13 v144_0 v144_1 v144_2 v144_3 v144_4 v144_5 v144_6 v144_7 v144_8 v144_9 v144_10
theorem c_indexP (l : List Pair) (v : AV) (f : Nat) (caps : List (Nat × Nat)) (p : Pair → Bool) (h : H) (hl : SlP h v l) (hn : l.length ≤ big) (hf : ∀ i (hi : i < l.length), ∀ x, x = l[i] → bm Tryd.prog f (.agg (encP x) :: caps.map fun a => .one (.ptr (some a))) h = some (ib (p x), h)) :
    bm Tryd.prog 144 [v, .one (.fn f caps)] h = some (ii (idx p l), h) := by
  refine bm_eq cF144 ?_
  simp +contextual (maxSteps := 2000000) only [go_sem, Nat.reduceEqDiff, reduceCtorEq, Nat.reduceAdd, Nat.reduceLeDiff, F144, hl.len]
  refine wpC_loop (fun i T L h' => h' = h ∧ T 0 = .v v ∧ T 1 = .v (.one (.fn f caps)) ∧ T 7 = .v (.one (.int .i64 l.length)) ∧ T 8 = .v (.one (.int .i64 i)) ∧ Pre p false l i) l.length ?_ ?_ (Nat.zero_le _) ?_
  · rintro i T L h' hi ⟨rfl, h0, h1, h7, h8, hp⟩
    simp +contextual (maxSteps := 2000000) only [go_sem, Nat.reduceEqDiff, reduceCtorEq, Nat.reduceAdd, Nat.reduceLeDiff, h0, h1, h7, h8, hl.iaddr hi, hl.whole hi, hf i hi _ rfl, lt_true hi]
    (repeat' (first | refine And.intro ?_ ?_ | intro _)) <;> first | rfl | rw [wrap_next hi (big_lt hn)] | exact hp.next hi ‹_› | rw [idx_hit hi hp ‹_›]
  · rintro T L h' ⟨rfl, h0, h1, h7, h8, hp⟩
    simp +contextual (maxSteps := 2000000) only [go_sem, Nat.reduceEqDiff, reduceCtorEq, Nat.reduceAdd, Nat.reduceLeDiff, h0, h1, h7, h8, lt_false, idx_none hp]
  · simp +contextual (maxSteps := 2000000) only [go_sem, Nat.reduceEqDiff, reduceCtorEq, Nat.reduceAdd, Nat.reduceLeDiff]
    (repeat' (first | refine And.intro ?_ ?_ | intro _)) <;> first | rfl | exact Pre.zero
/-! slices.ContainsFunc(()impl.Pair,impl.Pair) -/
def L124_0 : List AStep := [⟨.mov (.c (.bool false)), (some 4), none, []⟩]
theorem v124_0 : VS L124_0.eq_1 := rfl
def L124_1 : List AStep := [⟨.mov (.t 8), (some 4), none, []⟩]
theorem v124_1 : VS L124_1.eq_1 := rfl
def L124_2 : List AStep := ⟨.call 144 [(.t 5), (.t 6)], (some 7), none, []⟩ :: ⟨.bin .geq (.t 7) (.c (.int .i64 0)), (some 8), none, []⟩ :: L124_1
theorem v124_2 : VS L124_2.eq_1 := rfl
def L124_3 : List AStep := ⟨.mov (.t 0), (some 5), none, []⟩ :: ⟨.mov (.t 1), (some 6), none, []⟩ :: L124_2
theorem v124_3 : VS L124_3.eq_1 := rfl
def C124_0 : ACode := .seq (.reg L124_3) .ret
theorem u124_0 : VC C124_0.eq_1 := rfl
def C124_1 : ACode := .seq (.reg L124_0) C124_0
theorem u124_1 : VC C124_1.eq_1 := rfl
def F124 : AFunc := ⟨9, [.tmp 4], C124_1⟩
theorem cF124 : compB Tryd.prog 124 = some F124 := by kernel_rfl
attribute [local go_sem ↓] u124_0 u124_1 v124_0 v124_1 v124_2 v124_3
theorem c_hasP (l : List Pair) (v : AV) (f : Nat) (caps : List (Nat × Nat)) (p : Pair → Bool) (h : H) (hl : SlP h v l) (hn : l.length ≤ big) (hf : ∀ i (hi : i < l.length), ∀ x, x = l[i] → bm Tryd.prog f (.agg (encP x) :: caps.map fun a => .one (.ptr (some a))) h = some (ib (p x), h)) :
    bm Tryd.prog 124 [v, .one (.fn f caps)] h = some (ib (l.any p), h) := by
  refine bm_eq cF124 ?_
  have e := idx_any (p := p) (l := l)
  simp +contextual (maxSteps := 2000000) only [go_sem, Nat.reduceEqDiff, reduceCtorEq, Nat.reduceAdd, Nat.reduceLeDiff, F124, c_indexP l v f caps p h hl hn hf, e]
/-! slices.IndexFunc(()impl.Param,impl.Param) -/
def L109_0 : List AStep := [⟨.mov (.c (.int .i64 0)), (some 4), none, []⟩]
theorem v109_0 : VS L109_0.eq_1 := rfl
def L109_1 : List AStep := [⟨.mov (.c (.int .i64 0)), (some 8), none, []⟩]
theorem v109_1 : VS L109_1.eq_1 := rfl
def L109_2 : List AStep := ⟨.mov (.t 0), (some 6), none, []⟩ :: ⟨.len (.t 6), (some 7), none, []⟩ :: L109_1
theorem v109_2 : VS L109_2.eq_1 := rfl
def L109_3 : List AStep := [⟨.bin .lss (.t 8) (.t 7), (some 9), none, []⟩]
theorem v109_3 : VS L109_3.eq_1 := rfl
def L109_4 : List AStep := [⟨.mov (.t 8), (some 10), none, []⟩, ⟨.mov (.t 10), (some 5), none, []⟩]
theorem v109_4 : VS L109_4.eq_1 := rfl
def L109_5 : List AStep := [⟨.load 4 true (.t 14), (some 15), none, []⟩, ⟨.callv (.t 11) [(.t 15)], (some 16), none, []⟩]
theorem v109_5 : VS L109_5.eq_1 := rfl
def L109_6 : List AStep := ⟨.mov (.t 5), (some 13), none, []⟩ :: ⟨.iaddr 4 (.t 12) (.t 13), (some 14), none, []⟩ :: L109_5
theorem v109_6 : VS L109_6.eq_1 := rfl
def L109_7 : List AStep := ⟨.mov (.t 1), (some 11), none, []⟩ :: ⟨.mov (.t 0), (some 12), none, []⟩ :: L109_6
theorem v109_7 : VS L109_7.eq_1 := rfl
def L109_8 : List AStep := [⟨.mov (.t 5), (some 17), none, []⟩, ⟨.mov (.t 17), (some 4), none, []⟩]
theorem v109_8 : VS L109_8.eq_1 := rfl
def L109_9 : List AStep := [⟨.bin .add (.t 8) (.c (.int .i64 1)), (some 18), none, []⟩, ⟨.mov (.t 18), (some 8), none, []⟩]
theorem v109_9 : VS L109_9.eq_1 := rfl
def L109_10 : List AStep := [⟨.mov (.c (.int .i64 (-1))), (some 4), none, []⟩]
theorem v109_10 : VS L109_10.eq_1 := rfl
def C109_0 : ACode := .cond (.t 9) .skip (.exit 0)
theorem u109_0 : VC C109_0.eq_1 := rfl
def C109_1 : ACode := .seq (.reg L109_8) .ret
theorem u109_1 : VC C109_1.eq_1 := rfl
def C109_2 : ACode := .cond (.t 16) C109_1 .skip
theorem u109_2 : VC C109_2.eq_1 := rfl
def C109_3 : ACode := .seq (.reg L109_7) C109_2
theorem u109_3 : VC C109_3.eq_1 := rfl
def C109_4 : ACode := .seq (.reg L109_4) C109_3
theorem u109_4 : VC C109_4.eq_1 := rfl
def C109_5 : ACode := .block 1 C109_4
theorem u109_5 : VC C109_5.eq_1 := rfl
def C109_6 : ACode := .seq C109_5 (.reg L109_9)
theorem u109_6 : VC C109_6.eq_1 := rfl
def C109_7 : ACode := .seq C109_0 C109_6
theorem u109_7 : VC C109_7.eq_1 := rfl
def C109_8 : ACode := .seq (.reg L109_3) C109_7
theorem u109_8 : VC C109_8.eq_1 := rfl
def C109_9 : ACode := .block 0 (.loop C109_8)
theorem u109_9 : VC C109_9.eq_1 := rfl
def C109_10 : ACode := .seq (.reg L109_2) C109_9
theorem u109_10 : VC C109_10.eq_1 := rfl
def C109_11 : ACode := .seq (.reg L109_10) .ret
theorem u109_11 : VC C109_11.eq_1 := rfl
def C109_12 : ACode := .seq C109_10 C109_11
theorem u109_12 : VC C109_12.eq_1 := rfl
def C109_13 : ACode := .seq (.reg L109_0) C109_12
theorem u109_13 : VC C109_13.eq_1 := rfl
def F109 : AFunc := ⟨19, [.tmp 4], C109_13⟩
theorem cF109 : compB Tryd.prog 109 = some F109 := by kernel_rfl
attribute [local go_sem ↓] u109_0 u109_1 u109_2 u109_3 u109_4 u109_5 u109_6 u109_7 u109_8 u109_9 u109_10 u109_11 u109_12 u109_13 v109_0 v109_1 v109_2 v109_3 v109_4 v109_5 v109_6 v109_7 v109_8 v109_9 v109_10
theorem c_indexQ (l : List Param) (v : AV) (f : Nat) (caps : List (Nat × Nat)) (p : Param → Bool) (h : H) (hl : SlQ h v l) (hn : l.length ≤ big) (hf : ∀ i (hi : i < l.length), ∀ x, x = l[i] → bm Tryd.prog f (.agg (encQ x) :: caps.map fun a => .one (.ptr (some a))) h = some (ib (p x), h)) :
    bm Tryd.prog 109 [v, .one (.fn f caps)] h = some (ii (idx p l), h) := by
  refine bm_eq cF109 ?_
  simp +contextual (maxSteps := 2000000) only [go_sem, Nat.reduceEqDiff, reduceCtorEq, Nat.reduceAdd, Nat.reduceLeDiff, F109, hl.len]
  refine wpC_loop (fun i T L h' => h' = h ∧ T 0 = .v v ∧ T 1 = .v (.one (.fn f caps)) ∧ T 7 = .v (.one (.int .i64 l.length)) ∧ T 8 = .v (.one (.int .i64 i)) ∧ Pre p false l i) l.length ?_ ?_ (Nat.zero_le _) ?_
  · rintro i T L h' hi ⟨rfl, h0, h1, h7, h8, hp⟩
    simp +contextual (maxSteps := 2000000) only [go_sem, Nat.reduceEqDiff, reduceCtorEq, Nat.reduceAdd, Nat.reduceLeDiff, h0, h1, h7, h8, hl.iaddr hi, hl.whole hi, hf i hi _ rfl, lt_true hi]
    (repeat' (first | refine And.intro ?_ ?_ | intro _)) <;> first | rfl | rw [wrap_next hi (big_lt hn)] | exact hp.next hi ‹_› | rw [idx_hit hi hp ‹_›]
  · rintro T L h' ⟨rfl, h0, h1, h7, h8, hp⟩
    simp +contextual (maxSteps := 2000000) only [go_sem, Nat.reduceEqDiff, reduceCtorEq, Nat.reduceAdd, Nat.reduceLeDiff, h0, h1, h7, h8, lt_false, idx_none hp]
  · simp +contextual (maxSteps := 2000000) only [go_sem, Nat.reduceEqDiff, reduceCtorEq, Nat.reduceAdd, Nat.reduceLeDiff]
    (repeat' (first | refine And.intro ?_ ?_ | intro _)) <;> first | rfl | exact Pre.zero
/-! slices.ContainsFunc(()impl.Param,impl.Param) -/
def L85_0 : List AStep := [⟨.mov (.c (.bool false)), (some 4), none, []⟩]
theorem v85_0 : VS L85_0.eq_1 := rfl
def L85_1 : List AStep := [⟨.mov (.t 8), (some 4), none, []⟩]
theorem v85_1 : VS L85_1.eq_1 := rfl
def L85_2 : List AStep := ⟨.call 109 [(.t 5), (.t 6)], (some 7), none, []⟩ :: ⟨.bin .geq (.t 7) (.c (.int .i64 0)), (some 8), none, []⟩ :: L85_1
theorem v85_2 : VS L85_2.eq_1 := rfl
def L85_3 : List AStep := ⟨.mov (.t 0), (some 5), none, []⟩ :: ⟨.mov (.t 1), (some 6), none, []⟩ :: L85_2
theorem v85_3 : VS L85_3.eq_1 := rfl
def C85_0 : ACode := .seq (.reg L85_3) .ret
theorem u85_0 : VC C85_0.eq_1 := rfl
def C85_1 : ACode := .seq (.reg L85_0) C85_0
theorem u85_1 : VC C85_1.eq_1 := rfl
def F85 : AFunc := ⟨9, [.tmp 4], C85_1⟩
theorem cF85 : compB Tryd.prog 85 = some F85 := by kernel_rfl
attribute [local go_sem ↓] u85_0 u85_1 v85_0 v85_1 v85_2 v85_3
theorem c_hasQ (l : List Param) (v : AV) (f : Nat) (caps : List (Nat × Nat)) (p : Param → Bool) (h : H) (hl : SlQ h v l) (hn : l.length ≤ big) (hf : ∀ i (hi : i < l.length), ∀ x, x = l[i] → bm Tryd.prog f (.agg (encQ x) :: caps.map fun a => .one (.ptr (some a))) h = some (ib (p x), h)) :
    bm Tryd.prog 85 [v, .one (.fn f caps)] h = some (ib (l.any p), h) := by
  refine bm_eq cF85 ?_
  have e := idx_any (p := p) (l := l)
  simp +contextual (maxSteps := 2000000) only [go_sem, Nat.reduceEqDiff, reduceCtorEq, Nat.reduceAdd, Nat.reduceLeDiff, F85, c_indexQ l v f caps p h hl hn hf, e]
/-! slices.IndexFunc(()int,int) -/
def L152_0 : List AStep := [⟨.mov (.c (.int .i64 0)), (some 4), none, []⟩]
theorem v152_0 : VS L152_0.eq_1 := rfl
def L152_1 : List AStep := [⟨.mov (.c (.int .i64 0)), (some 8), none, []⟩]
theorem v152_1 : VS L152_1.eq_1 := rfl
def L152_2 : List AStep := ⟨.mov (.t 0), (some 6), none, []⟩ :: ⟨.len (.t 6), (some 7), none, []⟩ :: L152_1
theorem v152_2 : VS L152_2.eq_1 := rfl
def L152_3 : List AStep := [⟨.bin .lss (.t 8) (.t 7), (some 9), none, []⟩]
theorem v152_3 : VS L152_3.eq_1 := rfl
def L152_4 : List AStep := [⟨.mov (.t 8), (some 10), none, []⟩, ⟨.mov (.t 10), (some 5), none, []⟩]
theorem v152_4 : VS L152_4.eq_1 := rfl
def L152_5 : List AStep := [⟨.load 1 false (.t 14), (some 15), none, []⟩, ⟨.callv (.t 11) [(.t 15)], (some 16), none, []⟩]
theorem v152_5 : VS L152_5.eq_1 := rfl
def L152_6 : List AStep := ⟨.mov (.t 5), (some 13), none, []⟩ :: ⟨.iaddr 1 (.t 12) (.t 13), (some 14), none, []⟩ :: L152_5
theorem v152_6 : VS L152_6.eq_1 := rfl
def L152_7 : List AStep := ⟨.mov (.t 1), (some 11), none, []⟩ :: ⟨.mov (.t 0), (some 12), none, []⟩ :: L152_6
theorem v152_7 : VS L152_7.eq_1 := rfl
def L152_8 : List AStep := [⟨.mov (.t 5), (some 17), none, []⟩, ⟨.mov (.t 17), (some 4), none, []⟩]
theorem v152_8 : VS L152_8.eq_1 := rfl
def L152_9 : List AStep := [⟨.bin .add (.t 8) (.c (.int .i64 1)), (some 18), none, []⟩, ⟨.mov (.t 18), (some 8), none, []⟩]
theorem v152_9 : VS L152_9.eq_1 := rfl
def L152_10 : List AStep := [⟨.mov (.c (.int .i64 (-1))), (some 4), none, []⟩]
theorem v152_10 : VS L152_10.eq_1 := rfl
def C152_0 : ACode := .cond (.t 9) .skip (.exit 0)
theorem u152_0 : VC C152_0.eq_1 := rfl
def C152_1 : ACode := .seq (.reg L152_8) .ret
theorem u152_1 : VC C152_1.eq_1 := rfl
def C152_2 : ACode := .cond (.t 16) C152_1 .skip
theorem u152_2 : VC C152_2.eq_1 := rfl
def C152_3 : ACode := .seq (.reg L152_7) C152_2
theorem u152_3 : VC C152_3.eq_1 := rfl
def C152_4 : ACode := .seq (.reg L152_4) C152_3
theorem u152_4 : VC C152_4.eq_1 := rfl
def C152_5 : ACode := .block 1 C152_4
theorem u152_5 : VC C152_5.eq_1 := rfl
def C152_6 : ACode := .seq C152_5 (.reg L152_9)
theorem u152_6 : VC C152_6.eq_1 := rfl
def C152_7 : ACode := .seq C152_0 C152_6
theorem u152_7 : VC C152_7.eq_1 := rfl
def C152_8 : ACode := .seq (.reg L152_3) C152_7
theorem u152_8 : VC C152_8.eq_1 := rfl
def C152_9 : ACode := .block 0 (.loop C152_8)
theorem u152_9 : VC C152_9.eq_1 := rfl
def C152_10 : ACode := .seq (.reg L152_2) C152_9
theorem u152_10 : VC C152_10.eq_1 := rfl
def C152_11 : ACode := .seq (.reg L152_10) .ret
theorem u152_11 : VC C152_11.eq_1 := rfl
def C152_12 : ACode := .seq C152_10 C152_11
theorem u152_12 : VC C152_12.eq_1 := rfl
def C152_13 : ACode := .seq (.reg L152_0) C152_12
theorem u152_13 : VC C152_13.eq_1 := rfl
def F152 : AFunc := ⟨19, [.tmp 4], C152_13⟩
theorem cF152 : compB Tryd.prog 152 = some F152 := by kernel_rfl
attribute [local go_sem ↓] u152_0 u152_1 u152_2 u152_3 u152_4 u152_5 u152_6 u152_7 u152_8 u152_9 u152_10 u152_11 u152_12 u152_13 v152_0 v152_1 v152_2 v152_3 v152_4 v152_5 v152_6 v152_7 v152_8 v152_9 v152_10
theorem c_indexI (l : List Int) (v : AV) (f : Nat) (caps : List (Nat × Nat)) (p : Int → Bool) (h : H) (hl : SlI h v l) (hn : l.length ≤ big) (hf : ∀ i (hi : i < l.length), ∀ x, x = l[i] → bm Tryd.prog f (.one (.int .i64 x) :: caps.map fun a => .one (.ptr (some a))) h = some (ib (p x), h)) :
    bm Tryd.prog 152 [v, .one (.fn f caps)] h = some (ii (idx p l), h) := by
  refine bm_eq cF152 ?_
  simp +contextual (maxSteps := 2000000) only [go_sem, Nat.reduceEqDiff, reduceCtorEq, Nat.reduceAdd, Nat.reduceLeDiff, F152, hl.len]
  refine wpC_loop (fun i T L h' => h' = h ∧ T 0 = .v v ∧ T 1 = .v (.one (.fn f caps)) ∧ T 7 = .v (.one (.int .i64 l.length)) ∧ T 8 = .v (.one (.int .i64 i)) ∧ Pre p false l i) l.length ?_ ?_ (Nat.zero_le _) ?_
  · rintro i T L h' hi ⟨rfl, h0, h1, h7, h8, hp⟩
    simp +contextual (maxSteps := 2000000) only [go_sem, Nat.reduceEqDiff, reduceCtorEq, Nat.reduceAdd, Nat.reduceLeDiff, h0, h1, h7, h8, hl.iaddr hi, hl.oneO hi, hf i hi _ rfl, lt_true hi]
    (repeat' (first | refine And.intro ?_ ?_ | intro _)) <;> first | rfl | rw [wrap_next hi (big_lt hn)] | exact hp.next hi ‹_› | rw [idx_hit hi hp ‹_›]
  · rintro T L h' ⟨rfl, h0, h1, h7, h8, hp⟩
    simp +contextual (maxSteps := 2000000) only [go_sem, Nat.reduceEqDiff, reduceCtorEq, Nat.reduceAdd, Nat.reduceLeDiff, h0, h1, h7, h8, lt_false, idx_none hp]
  · simp +contextual (maxSteps := 2000000) only [go_sem, Nat.reduceEqDiff, reduceCtorEq, Nat.reduceAdd, Nat.reduceLeDiff]
    (repeat' (first | refine And.intro ?_ ?_ | intro _)) <;> first | rfl | exact Pre.zero
/-! slices.ContainsFunc(()int,int) -/
def L142_0 : List AStep := [⟨.mov (.c (.bool false)), (some 4), none, []⟩]
theorem v142_0 : VS L142_0.eq_1 := rfl
def L142_1 : List AStep := [⟨.mov (.t 8), (some 4), none, []⟩]
theorem v142_1 : VS L142_1.eq_1 := rfl
def L142_2 : List AStep := ⟨.call 152 [(.t 5), (.t 6)], (some 7), none, []⟩ :: ⟨.bin .geq (.t 7) (.c (.int .i64 0)), (some 8), none, []⟩ :: L142_1
theorem v142_2 : VS L142_2.eq_1 := rfl
def L142_3 : List AStep := ⟨.mov (.t 0), (some 5), none, []⟩ :: ⟨.mov (.t 1), (some 6), none, []⟩ :: L142_2
theorem v142_3 : VS L142_3.eq_1 := rfl
def C142_0 : ACode := .seq (.reg L142_3) .ret
theorem u142_0 : VC C142_0.eq_1 := rfl
def C142_1 : ACode := .seq (.reg L142_0) C142_0
theorem u142_1 : VC C142_1.eq_1 := rfl
def F142 : AFunc := ⟨9, [.tmp 4], C142_1⟩
theorem cF142 : compB Tryd.prog 142 = some F142 := by kernel_rfl
attribute [local go_sem ↓] u142_0 u142_1 v142_0 v142_1 v142_2 v142_3
theorem c_hasI (l : List Int) (v : AV) (f : Nat) (caps : List (Nat × Nat)) (p : Int → Bool) (h : H) (hl : SlI h v l) (hn : l.length ≤ big) (hf : ∀ i (hi : i < l.length), ∀ x, x = l[i] → bm Tryd.prog f (.one (.int .i64 x) :: caps.map fun a => .one (.ptr (some a))) h = some (ib (p x), h)) :
    bm Tryd.prog 142 [v, .one (.fn f caps)] h = some (ib (l.any p), h) := by
  refine bm_eq cF142 ?_
  have e := idx_any (p := p) (l := l)
  simp +contextual (maxSteps := 2000000) only [go_sem, Nat.reduceEqDiff, reduceCtorEq, Nat.reduceAdd, Nat.reduceLeDiff, F142, c_indexI l v f caps p h hl hn hf, e]
/-! impl.find$1 -/
def L110_0 : List AStep := [⟨.box 83 (.t 0), (some 2), none, []⟩, ⟨.mov (.c (.bool false)), (some 3), none, []⟩]
theorem v110_0 : VS L110_0.eq_1 := rfl
def L110_1 : List AStep := [⟨.mov (.t 7), (some 3), none, []⟩]
theorem v110_1 : VS L110_1.eq_1 := rfl
def L110_2 : List AStep := ⟨.load 1 false (.t 1), (some 6), none, []⟩ :: ⟨.bin .eql (.t 5) (.t 6), (some 7), none, []⟩ :: L110_1
theorem v110_2 : VS L110_2.eq_1 := rfl
def L110_3 : List AStep := ⟨.faddr 0 (.t 2), (some 4), none, []⟩ :: ⟨.load 1 false (.t 4), (some 5), none, []⟩ :: L110_2
theorem v110_3 : VS L110_3.eq_1 := rfl
def C110_0 : ACode := .seq (.reg L110_3) .ret
theorem u110_0 : VC C110_0.eq_1 := rfl
def C110_1 : ACode := .seq (.reg L110_0) C110_0
theorem u110_1 : VC C110_1.eq_1 := rfl
def F110 : AFunc := ⟨8, [.tmp 3], C110_1⟩
theorem cF110 : compB Tryd.prog 110 = some F110 := by kernel_rfl
attribute [local go_sem ↓] u110_0 u110_1 v110_0 v110_1 v110_2 v110_3
theorem c_find1 (p : Param) (a : Nat × Nat) (s : ByteArray) (h : H) (ha : loadO 1 false h (.one (.ptr (some a))) = some (.one (.str s))) : bm Tryd.prog 110 [.agg (encQ p), .one (.ptr (some a))] h = some (ib (decide (p.name = s)), h) := by
  refine bm_eq cF110 ?_
  simp +contextual (maxSteps := 2000000) only [go_sem, Nat.reduceEqDiff, reduceCtorEq, Nat.reduceAdd, Nat.reduceLeDiff, F110, ha]
/-! impl.find -/
def L84_0 : List AStep := [⟨.box 9 (.t 1), (some 3), none, []⟩, ⟨.mov (.c (.int .i64 0)), (some 4), none, []⟩]
theorem v84_0 : VS L84_0.eq_1 := rfl
def L84_1 : List AStep := [⟨.call 109 [(.t 5), (.t 6)], (some 7), none, []⟩, ⟨.mov (.t 7), (some 4), none, []⟩]
theorem v84_1 : VS L84_1.eq_1 := rfl
def L84_2 : List AStep := ⟨.mov (.t 0), (some 5), none, []⟩ :: ⟨.mkfn 110 [(.t 3)], (some 6), none, []⟩ :: L84_1
theorem v84_2 : VS L84_2.eq_1 := rfl
def C84_0 : ACode := .seq (.reg L84_2) .ret
theorem u84_0 : VC C84_0.eq_1 := rfl
def C84_1 : ACode := .seq (.reg L84_0) C84_0
theorem u84_1 : VC C84_1.eq_1 := rfl
def F84 : AFunc := ⟨8, [.tmp 4], C84_1⟩
theorem cF84 : compB Tryd.prog 84 = some F84 := by kernel_rfl
attribute [local go_sem ↓] u84_0 u84_1 v84_0 v84_1 v84_2
theorem c_find (l : List Param) (v : AV) (s : ByteArray) (h : H) (hl : SlQ h v l) (hn : smQ l) : bm Tryd.prog 84 [v, .one (.str s)] h = some (ii (paramAt l s), h) := by
  refine bm_eq cF84 ?_
  have e := c_indexQ l v 110 [(h.n, 0)] (fun p => decide (p.name = s)) (h.alloc [.str s] 9) (hl.grow (Grow.alloc _ _ _)) hn.1 (fun i hi x hx => c_find1 x (h.n, 0) s _ (Box.new.one rfl))
  simp +contextual (maxSteps := 2000000) only [go_sem, Nat.reduceEqDiff, reduceCtorEq, Nat.reduceAdd, Nat.reduceLeDiff, F84, e, paramAt]
/-! impl.areValues$1 -/
def L143_0 : List AStep := [⟨.mov (.c (.bool false)), (some 2), none, []⟩]
theorem v143_0 : VS L143_0.eq_1 := rfl
def L143_1 : List AStep := [⟨.not (.t 4), (some 5), none, []⟩, ⟨.mov (.t 5), (some 2), none, []⟩]
theorem v143_1 : VS L143_1.eq_1 := rfl
def L143_2 : List AStep := ⟨.mov (.t 0), (some 3), none, []⟩ :: ⟨.call 81 [(.t 3)], (some 4), none, []⟩ :: L143_1
theorem v143_2 : VS L143_2.eq_1 := rfl
def C143_0 : ACode := .seq (.reg L143_2) .ret
theorem u143_0 : VC C143_0.eq_1 := rfl
def C143_1 : ACode := .seq (.reg L143_0) C143_0
theorem u143_1 : VC C143_1.eq_1 := rfl
def F143 : AFunc := ⟨6, [.tmp 2], C143_1⟩
theorem cF143 : compB Tryd.prog 143 = some F143 := by kernel_rfl
attribute [local go_sem ↓] u143_0 u143_1 v143_0 v143_1 v143_2
theorem c_areValues1 (n : Int) (h : H) : bm Tryd.prog 143 [.one (.int .i64 n)] h = some (ib (!(okNum n)), h) := by
  refine bm_eq cF143 ?_
  simp +contextual (maxSteps := 2000000) only [go_sem, Nat.reduceEqDiff, reduceCtorEq, Nat.reduceAdd, Nat.reduceLeDiff, F143, c_isValue]
/-! impl.areValues -/
def L123_0 : List AStep := [⟨.mov (.c (.bool false)), (some 2), none, []⟩]
theorem v123_0 : VS L123_0.eq_1 := rfl
def L123_1 : List AStep := [⟨.not (.t 4), (some 5), none, []⟩, ⟨.mov (.t 5), (some 2), none, []⟩]
theorem v123_1 : VS L123_1.eq_1 := rfl
def L123_2 : List AStep := ⟨.mov (.t 0), (some 3), none, []⟩ :: ⟨.call 142 [(.t 3), (.c (.fn 143 []))], (some 4), none, []⟩ :: L123_1
theorem v123_2 : VS L123_2.eq_1 := rfl
def C123_0 : ACode := .seq (.reg L123_2) .ret
theorem u123_0 : VC C123_0.eq_1 := rfl
def C123_1 : ACode := .seq (.reg L123_0) C123_0
theorem u123_1 : VC C123_1.eq_1 := rfl
def F123 : AFunc := ⟨6, [.tmp 2], C123_1⟩
theorem cF123 : compB Tryd.prog 123 = some F123 := by kernel_rfl
attribute [local go_sem ↓] u123_0 u123_1 v123_0 v123_1 v123_2
theorem c_areValues (l : List Int) (v : AV) (h : H) (hl : SlI h v l) (hn : l.length ≤ big) : bm Tryd.prog 123 [v] h = some (ib (l.all okNum), h) := by
  refine bm_eq cF123 ?_
  have e := c_hasI l v 143 [] (fun n => !(okNum n)) h hl hn (fun i hi x hx => c_areValues1 x h)
  simp +contextual (maxSteps := 2000000) only [go_sem, Nat.reduceEqDiff, reduceCtorEq, Nat.reduceAdd, Nat.reduceLeDiff, F123, e]
  simp [List.not_any_eq_all_not]
end Go.Proofs.YtoeceafibmafpaaDoor.Am
