/- Contracts of the program: numbers, names, pairs, flat calls and signatures that are valid. -/
import Derived.Test.YtekkimfdcbgcoacDat
namespace Go.Proofs.Ytekkimfdcbgcoac.Am
open Go
set_option maxRecDepth 100000
set_option maxHeartbeats 4000000
set_option linter.unusedSimpArgs false
set_option linter.unusedVariables false
attribute [local go_sem ↓] bv_t bv_c ev_t ev_c put_same put_ne put_none kill_at pro_at lb_same lb_ne start_zero start_succ wpC_seq wpC_reg wpC_cond wpC_block wpC_skip wpC_exit wpC_ret thenQ_normal thenQ_exit thenQ_ret inBlk_normal inBlk_exit inBlk_ret wpS_nil wpS_step wpS_again wpS_guard wpO_mov wpO_load wpO_faddr wpO_nilCheck wpO_pick wpO_build wpO_bin wpO_eqb wpO_eqst wpO_eqnil wpO_not wpO_conv wpO_bytesStr wpO_iaddr wpO_idxStr wpO_field wpO_extract wpO_len wpO_lenStr wpO_cap wpO_min wpO_slice wpO_sliceStr wpO_alloc wpO_box wpO_store wpO_call wpO_callv wpO_mkfn wpO_buildSlice wpO_mkslice wpO_append wpO_appz proA_nil proA_cons tmpX_nil tmpX_tmp tmpX_cell doneB_normal doneB_ret agK_cons agK_nil agK_guard agG_tt agG_ff agG_tf agG_ft agG_undef pureB_load results_one results_two results_nil resBs_cons resBs_nil resB_tmp resB_cell
attribute [local go_sem] kill_v kill_lp_ne kill_lp_same pro_v pro_lp_same pro_lp_ne av_v av_lp optB_some optX_some valX_eq ldX_lp ldX_v faX_lp faX_v ncX_lp ncX_ptr ncX_fn boxK_one boxK_agg stL_some stK_lp_one stK_lp_agg stK_v_one stK_v_agg proM_v proM_lp callG_mk callVG_mk callvK_fn fnG_mk ptrsA_nil ptrsA_cons callH_some whenA_true whenA_false guardH_tt guardH_ff guardH_tf guardH_ft guardH_undef agV_one agV_agg lenO_sl lenStrO_str notO_bool pickO_bool convO_int eqbO_bool eqnilO_sl extractO_tup capO_sl minO_int loadL_one loadL_all storeL_eq fillA_nil fillA_one fillA_agg nat_ge neg_ge nat_lt neg_lt buildO bin_add bin_sub bin_mul bin_eql bin_neq bin_lss bin_leq bin_gtr bin_geq str_eql str_neq str_lss str_leq str_gtr str_geq retK_some endK_mk gcK_same gcK_int gcK_bool tupO_one tupO_agg rdy_self ib ii Option.map_none Option.map_some Option.some.injEq exists_eq_left' exists_eq_left ne_eq not_false_eq_true if_true if_false List.map_cons List.map_nil List.getElem?_cons_zero List.getElem?_cons_succ List.length_cons List.length_nil List.take_succ_cons List.take_zero List.take_nil List.drop_succ_cons List.drop_zero List.drop_nil List.cons_append List.nil_append List.append_nil List.set_cons_zero List.set_cons_succ Nat.zero_add forall_const true_and and_true and_self Bool.false_eq_true false_implies true_implies implies_true Bool.not_true Bool.not_false Bool.not_eq_true' Bool.not_eq_false' beq_self_eq_true Bool.bne_true Bool.bne_false
attribute [local go_sem] lenI lenS lenP lenQ lenB lenL lenT encI_0 encS_0 encP_0 encP_1 encQ_0 encQ_1 encQ_2 encQ_3 encB_0 encB_1 encL_0 encL_1 encT_0 encT_1
attribute [local go_sem low] whenA_bool guardH_bool
/-! impl.in -/
def L71_0 : List AStep := [⟨.mov (.c (.bool false)), (some 6), none, []⟩]
theorem v71_0 : VS L71_0.eq_1 := rfl
def L71_1 : List AStep := [⟨.mov (.t 14), (some 6), none, []⟩]
theorem v71_1 : VS L71_1.eq_1 := rfl
def L71_2 : List AStep := ⟨.bin .leq (.t 11) (.t 12), (some 13), (some (10, true)), []⟩ :: ⟨.pick (.t 10) (.t 13) (.c (.bool false)), (some 14), none, []⟩ :: L71_1
theorem v71_2 : VS L71_2.eq_1 := rfl
def L71_3 : List AStep := ⟨.mov (.t 0), (some 11), (some (10, true)), []⟩ :: ⟨.mov (.t 2), (some 12), (some (10, true)), []⟩ :: L71_2
theorem v71_3 : VS L71_3.eq_1 := rfl
def L71_4 : List AStep := ⟨.bin .geq (.t 7) (.t 8), (some 9), none, []⟩ :: ⟨.mov (.t 9), (some 10), none, []⟩ :: L71_3
theorem v71_4 : VS L71_4.eq_1 := rfl
def L71_5 : List AStep := ⟨.mov (.t 0), (some 7), none, []⟩ :: ⟨.mov (.t 1), (some 8), none, []⟩ :: L71_4
theorem v71_5 : VS L71_5.eq_1 := rfl
def C71_0 : ACode := .seq (.reg L71_5) .ret
theorem u71_0 : VC C71_0.eq_1 := rfl
def C71_1 : ACode := .seq (.reg L71_0) C71_0
theorem u71_1 : VC C71_1.eq_1 := rfl
def F71 : AFunc := ⟨15, [.tmp 6], C71_1⟩
theorem cF71 : compB Try.prog 71 = some F71 := by kernel_rfl
attribute [local go_sem ↓] u71_0 u71_1 v71_0 v71_1 v71_2 v71_3 v71_4 v71_5
theorem c_in (n lo hi : Int) (h : H) : bm Try.prog 71 [.one (.int .i64 n), .one (.int .i64 lo), .one (.int .i64 hi)] h = some (ib (decide (lo ≤ n) && decide (n ≤ hi)), h) := by
  refine bm_eq cF71 ?_
  simp +contextual (maxSteps := 2000000) only [go_sem, Nat.reduceEqDiff, reduceCtorEq, Nat.reduceAdd, Nat.reduceLeDiff, F71]
  (repeat' (first | refine And.intro ?_ ?_ | intro _)) <;> first | simp_all
/-! impl.isValue -/
def L72_0 : List AStep := [⟨.mov (.c (.bool false)), (some 2), none, []⟩]
theorem v72_0 : VS L72_0.eq_1 := rfl
def L72_1 : List AStep := [⟨.mov (.t 4), (some 2), none, []⟩]
theorem v72_1 : VS L72_1.eq_1 := rfl
def L72_2 : List AStep := ⟨.mov (.t 0), (some 3), none, []⟩ :: ⟨.call 71 [(.t 3), (.c (.int .i64 (-99))), (.c (.int .i64 99))], (some 4), none, []⟩ :: L72_1
theorem v72_2 : VS L72_2.eq_1 := rfl
def C72_0 : ACode := .seq (.reg L72_2) .ret
theorem u72_0 : VC C72_0.eq_1 := rfl
def C72_1 : ACode := .seq (.reg L72_0) C72_0
theorem u72_1 : VC C72_1.eq_1 := rfl
def F72 : AFunc := ⟨5, [.tmp 2], C72_1⟩
theorem cF72 : compB Try.prog 72 = some F72 := by kernel_rfl
attribute [local go_sem ↓] u72_0 u72_1 v72_0 v72_1 v72_2
theorem c_isValue (n : Int) (h : H) : bm Try.prog 72 [.one (.int .i64 n)] h = some (ib (okNum n), h) := by
  refine bm_eq cF72 ?_
  simp +contextual (maxSteps := 2000000) only [go_sem, Nat.reduceEqDiff, reduceCtorEq, Nat.reduceAdd, Nat.reduceLeDiff, F72, c_in, okNum]
/-! impl.isName -/
def L70_0 : List AStep := [⟨.mov (.c (.bool false)), (some 2), none, []⟩]
theorem v70_0 : VS L70_0.eq_1 := rfl
def L70_1 : List AStep := [⟨.mov (.c (.int .i64 0)), (some 3), none, []⟩]
theorem v70_1 : VS L70_1.eq_1 := rfl
def L70_2 : List AStep := [⟨.lenStr (.t 5), (some 6), none, []⟩, ⟨.bin .lss (.t 4) (.t 6), (some 7), none, []⟩]
theorem v70_2 : VS L70_2.eq_1 := rfl
def L70_3 : List AStep := ⟨.mov (.t 3), (some 4), none, []⟩ :: ⟨.mov (.t 0), (some 5), none, []⟩ :: L70_2
theorem v70_3 : VS L70_3.eq_1 := rfl
def L70_4 : List AStep := [⟨.bin .gtr (.t 17) (.c (.int .u8 122)), (some 18), (some (14, false)), []⟩, ⟨.pick (.t 14) (.c (.bool true)) (.t 18), (some 19), none, []⟩]
theorem v70_4 : VS L70_4.eq_1 := rfl
def L70_5 : List AStep := ⟨.mov (.t 3), (some 16), (some (14, false)), []⟩ :: ⟨.idxStr (.t 15) (.t 16), (some 17), (some (14, false)), []⟩ :: L70_4
theorem v70_5 : VS L70_5.eq_1 := rfl
def L70_6 : List AStep := ⟨.mov (.t 13), (some 14), none, []⟩ :: ⟨.mov (.t 0), (some 15), (some (14, false)), []⟩ :: L70_5
theorem v70_6 : VS L70_6.eq_1 := rfl
def L70_7 : List AStep := ⟨.idxStr (.t 10) (.t 11), (some 12), none, []⟩ :: ⟨.bin .lss (.t 12) (.c (.int .u8 97)), (some 13), none, []⟩ :: L70_6
theorem v70_7 : VS L70_7.eq_1 := rfl
def L70_8 : List AStep := ⟨.mov (.t 0), (some 10), none, []⟩ :: ⟨.mov (.t 3), (some 11), none, []⟩ :: L70_7
theorem v70_8 : VS L70_8.eq_1 := rfl
def L70_9 : List AStep := [⟨.mov (.c (.bool false)), (some 2), none, []⟩]
theorem v70_9 : VS L70_9.eq_1 := rfl
def L70_10 : List AStep := [⟨.mov (.t 9), (some 3), none, []⟩]
theorem v70_10 : VS L70_10.eq_1 := rfl
def L70_11 : List AStep := ⟨.mov (.t 3), (some 8), none, []⟩ :: ⟨.bin .add (.t 8) (.c (.int .i64 1)), (some 9), none, []⟩ :: L70_10
theorem v70_11 : VS L70_11.eq_1 := rfl
def L70_12 : List AStep := [⟨.call 71 [(.t 21), (.c (.int .i64 1)), (.c (.int .i64 6))], (some 22), none, []⟩, ⟨.mov (.t 22), (some 2), none, []⟩]
theorem v70_12 : VS L70_12.eq_1 := rfl
def L70_13 : List AStep := ⟨.mov (.t 0), (some 20), none, []⟩ :: ⟨.lenStr (.t 20), (some 21), none, []⟩ :: L70_12
theorem v70_13 : VS L70_13.eq_1 := rfl
def C70_0 : ACode := .cond (.t 7) .skip (.exit 0)
theorem u70_0 : VC C70_0.eq_1 := rfl
def C70_1 : ACode := .seq (.reg L70_3) C70_0
theorem u70_1 : VC C70_1.eq_1 := rfl
def C70_2 : ACode := .seq (.reg L70_9) .ret
theorem u70_2 : VC C70_2.eq_1 := rfl
def C70_3 : ACode := .cond (.t 19) C70_2 .skip
theorem u70_3 : VC C70_3.eq_1 := rfl
def C70_4 : ACode := .seq (.reg L70_8) C70_3
theorem u70_4 : VC C70_4.eq_1 := rfl
def C70_5 : ACode := .block 1 C70_4
theorem u70_5 : VC C70_5.eq_1 := rfl
def C70_6 : ACode := .seq C70_5 (.reg L70_11)
theorem u70_6 : VC C70_6.eq_1 := rfl
def C70_7 : ACode := .seq C70_1 C70_6
theorem u70_7 : VC C70_7.eq_1 := rfl
def C70_8 : ACode := .block 0 (.loop C70_7)
theorem u70_8 : VC C70_8.eq_1 := rfl
def C70_9 : ACode := .seq (.reg L70_1) C70_8
theorem u70_9 : VC C70_9.eq_1 := rfl
def C70_10 : ACode := .seq (.reg L70_13) .ret
theorem u70_10 : VC C70_10.eq_1 := rfl
def C70_11 : ACode := .seq C70_9 C70_10
theorem u70_11 : VC C70_11.eq_1 := rfl
def C70_12 : ACode := .seq (.reg L70_0) C70_11
theorem u70_12 : VC C70_12.eq_1 := rfl
def F70 : AFunc := ⟨23, [.tmp 2], C70_12⟩
theorem cF70 : compB Try.prog 70 = some F70 := by kernel_rfl
attribute [local go_sem ↓] u70_0 u70_1 u70_2 u70_3 u70_4 u70_5 u70_6 u70_7 u70_8 u70_9 u70_10 u70_11 u70_12 v70_0 v70_1 v70_2 v70_3 v70_4 v70_5 v70_6 v70_7 v70_8 v70_9 v70_10 v70_11 v70_12 v70_13
theorem c_isName (s : ByteArray) (h : H) (hn : s.size < 2 ^ 62) : bm Try.prog 70 [.one (.str s)] h = some (ib (okName s), h) := by
  refine bm_eq cF70 ?_
  simp +contextual (maxSteps := 2000000) only [go_sem, Nat.reduceEqDiff, reduceCtorEq, Nat.reduceAdd, Nat.reduceLeDiff, F70]
  have hsz : s.data.toList.length = s.size := Array.length_toList
  refine wpC_loop (fun i T L h' => h' = h ∧ T 0 = .v (.one (.str s)) ∧ T 3 = .v (.one (.int .i64 i)) ∧ Pre isLow true s.data.toList i) s.size ?_ ?_ (Nat.zero_le _) ?_
  · rintro i T L h' hi ⟨rfl, h0, h3, hp⟩
    simp +contextual (maxSteps := 2000000) only [go_sem, Nat.reduceEqDiff, reduceCtorEq, Nat.reduceAdd, Nat.reduceLeDiff, h0, h3, idx_at hi, lt_true hi]
    have e : s.data.toList[i]'(by omega) = s.data[i]'hi := Array.getElem_toList _
    have bad : isLow (s.data[i]'hi) = false → okName s = false := fun hx => by
      unfold okName
      rw [all_stop (l := s.data.toList) (i := i) (by omega) (by rw [e]; exact hx)]
      rfl
    have low : isLow (s.data[i]'hi) = (!(decide ((↑(s.data[i]'hi).toNat : Int) < 97)) && !(decide ((↑(s.data[i]'hi).toNat : Int) > 122))) := by
      unfold isLow
      rw [Bool.eq_iff_iff]
      simp
      omega
    (repeat' (first | refine And.intro ?_ ?_ | intro _)) <;> first | rfl | rw [wrap_next hi hn] | exact hp.next (by omega) (by rw [e, low]; simp_all) | rw [bad (by rw [low]; simp_all)]
  · rintro T L h' ⟨rfl, h0, h3, hp⟩
    rw [← hsz] at hp
    simp +contextual (maxSteps := 2000000) only [go_sem, Nat.reduceEqDiff, reduceCtorEq, Nat.reduceAdd, Nat.reduceLeDiff, h0, h3, lt_false, c_in, okName, hp.all, Bool.true_and]
  · simp +contextual (maxSteps := 2000000) only [go_sem, Nat.reduceEqDiff, reduceCtorEq, Nat.reduceAdd, Nat.reduceLeDiff]
    (repeat' (first | refine And.intro ?_ ?_ | intro _)) <;> first | rfl | exact Pre.zero
/-! (impl.Param).placed -/
def L61_0 : List AStep := [⟨.box 44 (.t 0), (some 1), none, []⟩, ⟨.mov (.c (.bool false)), (some 2), none, []⟩]
theorem v61_0 : VS L61_0.eq_1 := rfl
def L61_1 : List AStep := [⟨.mov (.t 10), (some 2), none, []⟩]
theorem v61_1 : VS L61_1.eq_1 := rfl
def L61_2 : List AStep := ⟨.bin .eql (.t 8) (.c (.int .i64 1)), (some 9), (some (6, false)), []⟩ :: ⟨.pick (.t 6) (.c (.bool true)) (.t 9), (some 10), none, []⟩ :: L61_1
theorem v61_2 : VS L61_2.eq_1 := rfl
def L61_3 : List AStep := ⟨.faddr 1 (.t 1), (some 7), (some (6, false)), []⟩ :: ⟨.load 1 false (.t 7), (some 8), (some (6, false)), []⟩ :: L61_2
theorem v61_3 : VS L61_3.eq_1 := rfl
def L61_4 : List AStep := ⟨.bin .eql (.t 4) (.c (.int .i64 0)), (some 5), none, []⟩ :: ⟨.mov (.t 5), (some 6), none, []⟩ :: L61_3
theorem v61_4 : VS L61_4.eq_1 := rfl
def L61_5 : List AStep := ⟨.faddr 1 (.t 1), (some 3), none, []⟩ :: ⟨.load 1 false (.t 3), (some 4), none, []⟩ :: L61_4
theorem v61_5 : VS L61_5.eq_1 := rfl
def C61_0 : ACode := .seq (.reg L61_5) .ret
theorem u61_0 : VC C61_0.eq_1 := rfl
def C61_1 : ACode := .seq (.reg L61_0) C61_0
theorem u61_1 : VC C61_1.eq_1 := rfl
def F61 : AFunc := ⟨11, [.tmp 2], C61_1⟩
theorem cF61 : compB Try.prog 61 = some F61 := by kernel_rfl
attribute [local go_sem ↓] u61_0 u61_1 v61_0 v61_1 v61_2 v61_3 v61_4 v61_5
theorem c_placed (p : Param) (h : H) : bm Try.prog 61 [.agg (encQ p)] h = some (ib (byPlace p), h) := by
  refine bm_eq cF61 ?_
  simp +contextual (maxSteps := 2000000) only [go_sem, Nat.reduceEqDiff, reduceCtorEq, Nat.reduceAdd, Nat.reduceLeDiff, F61, byPlace]
  (repeat' (first | refine And.intro ?_ ?_ | intro _)) <;> first | simp_all
/-! (impl.Param).named -/
def L63_0 : List AStep := [⟨.box 44 (.t 0), (some 1), none, []⟩, ⟨.mov (.c (.bool false)), (some 2), none, []⟩]
theorem v63_0 : VS L63_0.eq_1 := rfl
def L63_1 : List AStep := [⟨.mov (.t 10), (some 2), none, []⟩]
theorem v63_1 : VS L63_1.eq_1 := rfl
def L63_2 : List AStep := ⟨.bin .eql (.t 8) (.c (.int .i64 3)), (some 9), (some (6, false)), []⟩ :: ⟨.pick (.t 6) (.c (.bool true)) (.t 9), (some 10), none, []⟩ :: L63_1
theorem v63_2 : VS L63_2.eq_1 := rfl
def L63_3 : List AStep := ⟨.faddr 1 (.t 1), (some 7), (some (6, false)), []⟩ :: ⟨.load 1 false (.t 7), (some 8), (some (6, false)), []⟩ :: L63_2
theorem v63_3 : VS L63_3.eq_1 := rfl
def L63_4 : List AStep := ⟨.bin .eql (.t 4) (.c (.int .i64 1)), (some 5), none, []⟩ :: ⟨.mov (.t 5), (some 6), none, []⟩ :: L63_3
theorem v63_4 : VS L63_4.eq_1 := rfl
def L63_5 : List AStep := ⟨.faddr 1 (.t 1), (some 3), none, []⟩ :: ⟨.load 1 false (.t 3), (some 4), none, []⟩ :: L63_4
theorem v63_5 : VS L63_5.eq_1 := rfl
def C63_0 : ACode := .seq (.reg L63_5) .ret
theorem u63_0 : VC C63_0.eq_1 := rfl
def C63_1 : ACode := .seq (.reg L63_0) C63_0
theorem u63_1 : VC C63_1.eq_1 := rfl
def F63 : AFunc := ⟨11, [.tmp 2], C63_1⟩
theorem cF63 : compB Try.prog 63 = some F63 := by kernel_rfl
attribute [local go_sem ↓] u63_0 u63_1 v63_0 v63_1 v63_2 v63_3 v63_4 v63_5
theorem c_named (p : Param) (h : H) : bm Try.prog 63 [.agg (encQ p)] h = some (ib (byName p), h) := by
  refine bm_eq cF63 ?_
  simp +contextual (maxSteps := 2000000) only [go_sem, Nat.reduceEqDiff, reduceCtorEq, Nat.reduceAdd, Nat.reduceLeDiff, F63, byName]
  (repeat' (first | refine And.intro ?_ ?_ | intro _)) <;> first | simp_all
/-! (impl.Param).single -/
def L69_0 : List AStep := [⟨.box 44 (.t 0), (some 1), none, []⟩, ⟨.mov (.c (.bool false)), (some 2), none, []⟩]
theorem v69_0 : VS L69_0.eq_1 := rfl
def L69_1 : List AStep := [⟨.pick (.t 5) (.c (.bool true)) (.t 8), (some 9), none, []⟩, ⟨.mov (.t 9), (some 2), none, []⟩]
theorem v69_1 : VS L69_1.eq_1 := rfl
def L69_2 : List AStep := ⟨.load 1 false (.t 6), (some 7), (some (5, false)), []⟩ :: ⟨.bin .eql (.t 7) (.c (.int .i64 3)), (some 8), (some (5, false)), []⟩ :: L69_1
theorem v69_2 : VS L69_2.eq_1 := rfl
def L69_3 : List AStep := ⟨.mov (.t 4), (some 5), none, []⟩ :: ⟨.faddr 1 (.t 1), (some 6), (some (5, false)), []⟩ :: L69_2
theorem v69_3 : VS L69_3.eq_1 := rfl
def L69_4 : List AStep := ⟨.load 4 true (.t 1), (some 3), none, []⟩ :: ⟨.call 61 [(.t 3)], (some 4), none, []⟩ :: L69_3
theorem v69_4 : VS L69_4.eq_1 := rfl
def C69_0 : ACode := .seq (.reg L69_4) .ret
theorem u69_0 : VC C69_0.eq_1 := rfl
def C69_1 : ACode := .seq (.reg L69_0) C69_0
theorem u69_1 : VC C69_1.eq_1 := rfl
def F69 : AFunc := ⟨10, [.tmp 2], C69_1⟩
theorem cF69 : compB Try.prog 69 = some F69 := by kernel_rfl
attribute [local go_sem ↓] u69_0 u69_1 v69_0 v69_1 v69_2 v69_3 v69_4
theorem c_single (p : Param) (h : H) : bm Try.prog 69 [.agg (encQ p)] h = some (ib (single p), h) := by
  refine bm_eq cF69 ?_
  simp +contextual (maxSteps := 2000000) only [go_sem, Nat.reduceEqDiff, reduceCtorEq, Nat.reduceAdd, Nat.reduceLeDiff, F69, c_placed, single_eq]
  (repeat' (first | refine And.intro ?_ ?_ | intro _)) <;> first | simp_all
/-! (impl.Pair).valid -/
def L89_0 : List AStep := [⟨.box 93 (.t 0), (some 1), none, []⟩, ⟨.mov (.c (.bool false)), (some 2), none, []⟩]
theorem v89_0 : VS L89_0.eq_1 := rfl
def L89_1 : List AStep := [⟨.mov (.t 10), (some 2), none, []⟩]
theorem v89_1 : VS L89_1.eq_1 := rfl
def L89_2 : List AStep := ⟨.call 72 [(.t 8)], (some 9), (some (6, true)), []⟩ :: ⟨.pick (.t 6) (.t 9) (.c (.bool false)), (some 10), none, []⟩ :: L89_1
theorem v89_2 : VS L89_2.eq_1 := rfl
def L89_3 : List AStep := ⟨.faddr 1 (.t 1), (some 7), (some (6, true)), []⟩ :: ⟨.load 1 false (.t 7), (some 8), (some (6, true)), []⟩ :: L89_2
theorem v89_3 : VS L89_3.eq_1 := rfl
def L89_4 : List AStep := ⟨.call 70 [(.t 4)], (some 5), none, []⟩ :: ⟨.mov (.t 5), (some 6), none, []⟩ :: L89_3
theorem v89_4 : VS L89_4.eq_1 := rfl
def L89_5 : List AStep := ⟨.faddr 0 (.t 1), (some 3), none, []⟩ :: ⟨.load 1 false (.t 3), (some 4), none, []⟩ :: L89_4
theorem v89_5 : VS L89_5.eq_1 := rfl
def C89_0 : ACode := .seq (.reg L89_5) .ret
theorem u89_0 : VC C89_0.eq_1 := rfl
def C89_1 : ACode := .seq (.reg L89_0) C89_0
theorem u89_1 : VC C89_1.eq_1 := rfl
def F89 : AFunc := ⟨11, [.tmp 2], C89_1⟩
theorem cF89 : compB Try.prog 89 = some F89 := by kernel_rfl
attribute [local go_sem ↓] u89_0 u89_1 v89_0 v89_1 v89_2 v89_3 v89_4 v89_5
theorem c_okPair (p : Pair) (h : H) (hn : p.name.size < 2 ^ 62) : bm Try.prog 89 [.agg (encP p)] h = some (ib (okPair p), h) := by
  refine bm_eq cF89 ?_
  simp +contextual (maxSteps := 2000000) only [go_sem, Nat.reduceEqDiff, reduceCtorEq, Nat.reduceAdd, Nat.reduceLeDiff, F89, c_isName _ _ hn, c_isValue, okPair]
  (repeat' (first | refine And.intro ?_ ?_ | intro _)) <;> first | simp_all
/-! slices.IndexFunc(()impl.Pair,impl.Pair) -/
def L111_0 : List AStep := [⟨.mov (.c (.int .i64 0)), (some 4), none, []⟩]
theorem v111_0 : VS L111_0.eq_1 := rfl
def L111_1 : List AStep := [⟨.mov (.c (.int .i64 0)), (some 8), none, []⟩]
theorem v111_1 : VS L111_1.eq_1 := rfl
def L111_2 : List AStep := ⟨.mov (.t 0), (some 6), none, []⟩ :: ⟨.len (.t 6), (some 7), none, []⟩ :: L111_1
theorem v111_2 : VS L111_2.eq_1 := rfl
def L111_3 : List AStep := [⟨.bin .lss (.t 8) (.t 7), (some 9), none, []⟩]
theorem v111_3 : VS L111_3.eq_1 := rfl
def L111_4 : List AStep := [⟨.mov (.t 8), (some 10), none, []⟩, ⟨.mov (.t 10), (some 5), none, []⟩]
theorem v111_4 : VS L111_4.eq_1 := rfl
def L111_5 : List AStep := [⟨.load 2 true (.t 14), (some 15), none, []⟩, ⟨.callv (.t 11) [(.t 15)], (some 16), none, []⟩]
theorem v111_5 : VS L111_5.eq_1 := rfl
def L111_6 : List AStep := ⟨.mov (.t 5), (some 13), none, []⟩ :: ⟨.iaddr 2 (.t 12) (.t 13), (some 14), none, []⟩ :: L111_5
theorem v111_6 : VS L111_6.eq_1 := rfl
def L111_7 : List AStep := ⟨.mov (.t 1), (some 11), none, []⟩ :: ⟨.mov (.t 0), (some 12), none, []⟩ :: L111_6
theorem v111_7 : VS L111_7.eq_1 := rfl
def L111_8 : List AStep := [⟨.mov (.t 5), (some 17), none, []⟩, ⟨.mov (.t 17), (some 4), none, []⟩]
theorem v111_8 : VS L111_8.eq_1 := rfl
def L111_9 : List AStep := [⟨.bin .add (.t 8) (.c (.int .i64 1)), (some 18), none, []⟩, ⟨.mov (.t 18), (some 8), none, []⟩]
theorem v111_9 : VS L111_9.eq_1 := rfl
def L111_10 : List AStep := [⟨.mov (.c (.int .i64 (-1))), (some 4), none, []⟩]
theorem v111_10 : VS L111_10.eq_1 := rfl
def C111_0 : ACode := .cond (.t 9) .skip (.exit 0)
theorem u111_0 : VC C111_0.eq_1 := rfl
def C111_1 : ACode := .seq (.reg L111_8) .ret
theorem u111_1 : VC C111_1.eq_1 := rfl
def C111_2 : ACode := .cond (.t 16) C111_1 .skip
theorem u111_2 : VC C111_2.eq_1 := rfl
def C111_3 : ACode := .seq (.reg L111_7) C111_2
theorem u111_3 : VC C111_3.eq_1 := rfl
def C111_4 : ACode := .seq (.reg L111_4) C111_3
theorem u111_4 : VC C111_4.eq_1 := rfl
def C111_5 : ACode := .block 1 C111_4
theorem u111_5 : VC C111_5.eq_1 := rfl
def C111_6 : ACode := .seq C111_5 (.reg L111_9)
theorem u111_6 : VC C111_6.eq_1 := rfl
def C111_7 : ACode := .seq C111_0 C111_6
theorem u111_7 : VC C111_7.eq_1 := rfl
def C111_8 : ACode := .seq (.reg L111_3) C111_7
theorem u111_8 : VC C111_8.eq_1 := rfl
def C111_9 : ACode := .block 0 (.loop C111_8)
theorem u111_9 : VC C111_9.eq_1 := rfl
def C111_10 : ACode := .seq (.reg L111_2) C111_9
theorem u111_10 : VC C111_10.eq_1 := rfl
def C111_11 : ACode := .seq (.reg L111_10) .ret
theorem u111_11 : VC C111_11.eq_1 := rfl
def C111_12 : ACode := .seq C111_10 C111_11
theorem u111_12 : VC C111_12.eq_1 := rfl
def C111_13 : ACode := .seq (.reg L111_0) C111_12
theorem u111_13 : VC C111_13.eq_1 := rfl
def F111 : AFunc := ⟨19, [.tmp 4], C111_13⟩
theorem cF111 : compB Try.prog 111 = some F111 := by kernel_rfl
attribute [local go_sem ↓] u111_0 u111_1 u111_2 u111_3 u111_4 u111_5 u111_6 u111_7 u111_8 u111_9 u111_10 u111_11 u111_12 u111_13 v111_0 v111_1 v111_2 v111_3 v111_4 v111_5 v111_6 v111_7 v111_8 v111_9 v111_10
theorem c_indexP (l : List Pair) (v : AV) (f : Nat) (caps : List (Nat × Nat)) (p : Pair → Bool) (h : H) (hl : SlP h v l) (hn : l.length ≤ big) (hf : ∀ i (hi : i < l.length), ∀ x, x = l[i] → bm Try.prog f (.agg (encP x) :: caps.map fun a => .one (.ptr (some a))) h = some (ib (p x), h)) :
    bm Try.prog 111 [v, .one (.fn f caps)] h = some (ii (idx p l), h) := by
  refine bm_eq cF111 ?_
  simp +contextual (maxSteps := 2000000) only [go_sem, Nat.reduceEqDiff, reduceCtorEq, Nat.reduceAdd, Nat.reduceLeDiff, F111, hl.len]
  refine wpC_loop (fun i T L h' => h' = h ∧ T 0 = .v v ∧ T 1 = .v (.one (.fn f caps)) ∧ T 7 = .v (.one (.int .i64 l.length)) ∧ T 8 = .v (.one (.int .i64 i)) ∧ Pre p false l i) l.length ?_ ?_ (Nat.zero_le _) ?_
  · rintro i T L h' hi ⟨rfl, h0, h1, h7, h8, hp⟩
    simp +contextual (maxSteps := 2000000) only [go_sem, Nat.reduceEqDiff, reduceCtorEq, Nat.reduceAdd, Nat.reduceLeDiff, h0, h1, h7, h8, hl.iaddr hi, hl.whole hi, hf i hi _ rfl, lt_true hi]
    (repeat' (first | refine And.intro ?_ ?_ | intro _)) <;> first | rfl | rw [wrap_next hi (big_lt hn)] | exact hp.next hi ‹_› | rw [idx_hit hi hp ‹_›]
  · rintro T L h' ⟨rfl, h0, h1, h7, h8, hp⟩
    simp +contextual (maxSteps := 2000000) only [go_sem, Nat.reduceEqDiff, reduceCtorEq, Nat.reduceAdd, Nat.reduceLeDiff, h0, h1, h7, h8, lt_false, idx_none hp]
  · simp +contextual (maxSteps := 2000000) only [go_sem, Nat.reduceEqDiff, reduceCtorEq, Nat.reduceAdd, Nat.reduceLeDiff]
    (repeat' (first | refine And.intro ?_ ?_ | intro _)) <;> first | rfl | exact Pre.zero
/-! slices.IndexFunc(()impl.Param,impl.Param) -/
def L109_0 : List AStep := [⟨.mov (.c (.int .i64 0)), (some 4), none, []⟩]
theorem v109_0 : VS L109_0.eq_1 := rfl
def L109_1 : List AStep := [⟨.mov (.c (.int .i64 0)), (some 8), none, []⟩]
theorem v109_1 : VS L109_1.eq_1 := rfl
def L109_2 : List AStep := ⟨.mov (.t 0), (some 6), none, []⟩ :: ⟨.len (.t 6), (some 7), none, []⟩ :: L109_1
theorem v109_2 : VS L109_2.eq_1 := rfl
def L109_3 : List AStep := [⟨.bin .lss (.t 8) (.t 7), (some 9), none, []⟩]
theorem v109_3 : VS L109_3.eq_1 := rfl
def L109_4 : List AStep := [⟨.mov (.t 8), (some 10), none, []⟩, ⟨.mov (.t 10), (some 5), none, []⟩]
theorem v109_4 : VS L109_4.eq_1 := rfl
def L109_5 : List AStep := [⟨.load 4 true (.t 14), (some 15), none, []⟩, ⟨.callv (.t 11) [(.t 15)], (some 16), none, []⟩]
theorem v109_5 : VS L109_5.eq_1 := rfl
def L109_6 : List AStep := ⟨.mov (.t 5), (some 13), none, []⟩ :: ⟨.iaddr 4 (.t 12) (.t 13), (some 14), none, []⟩ :: L109_5
theorem v109_6 : VS L109_6.eq_1 := rfl
def L109_7 : List AStep := ⟨.mov (.t 1), (some 11), none, []⟩ :: ⟨.mov (.t 0), (some 12), none, []⟩ :: L109_6
theorem v109_7 : VS L109_7.eq_1 := rfl
def L109_8 : List AStep := [⟨.mov (.t 5), (some 17), none, []⟩, ⟨.mov (.t 17), (some 4), none, []⟩]
theorem v109_8 : VS L109_8.eq_1 := rfl
def L109_9 : List AStep := [⟨.bin .add (.t 8) (.c (.int .i64 1)), (some 18), none, []⟩, ⟨.mov (.t 18), (some 8), none, []⟩]
theorem v109_9 : VS L109_9.eq_1 := rfl
def L109_10 : List AStep := [⟨.mov (.c (.int .i64 (-1))), (some 4), none, []⟩]
theorem v109_10 : VS L109_10.eq_1 := rfl
def C109_0 : ACode := .cond (.t 9) .skip (.exit 0)
theorem u109_0 : VC C109_0.eq_1 := rfl
def C109_1 : ACode := .seq (.reg L109_8) .ret
theorem u109_1 : VC C109_1.eq_1 := rfl
def C109_2 : ACode := .cond (.t 16) C109_1 .skip
theorem u109_2 : VC C109_2.eq_1 := rfl
def C109_3 : ACode := .seq (.reg L109_7) C109_2
theorem u109_3 : VC C109_3.eq_1 := rfl
def C109_4 : ACode := .seq (.reg L109_4) C109_3
theorem u109_4 : VC C109_4.eq_1 := rfl
def C109_5 : ACode := .block 1 C109_4
theorem u109_5 : VC C109_5.eq_1 := rfl
def C109_6 : ACode := .seq C109_5 (.reg L109_9)
theorem u109_6 : VC C109_6.eq_1 := rfl
def C109_7 : ACode := .seq C109_0 C109_6
theorem u109_7 : VC C109_7.eq_1 := rfl
def C109_8 : ACode := .seq (.reg L109_3) C109_7
theorem u109_8 : VC C109_8.eq_1 := rfl
def C109_9 : ACode := .block 0 (.loop C109_8)
theorem u109_9 : VC C109_9.eq_1 := rfl
def C109_10 : ACode := .seq (.reg L109_2) C109_9
theorem u109_10 : VC C109_10.eq_1 := rfl
def C109_11 : ACode := .seq (.reg L109_10) .ret
theorem u109_11 : VC C109_11.eq_1 := rfl
def C109_12 : ACode := .seq C109_10 C109_11
theorem u109_12 : VC C109_12.eq_1 := rfl
def C109_13 : ACode := .seq (.reg L109_0) C109_12
theorem u109_13 : VC C109_13.eq_1 := rfl
def F109 : AFunc := ⟨19, [.tmp 4], C109_13⟩
theorem cF109 : compB Try.prog 109 = some F109 := by kernel_rfl
attribute [local go_sem ↓] u109_0 u109_1 u109_2 u109_3 u109_4 u109_5 u109_6 u109_7 u109_8 u109_9 u109_10 u109_11 u109_12 u109_13 v109_0 v109_1 v109_2 v109_3 v109_4 v109_5 v109_6 v109_7 v109_8 v109_9 v109_10
theorem c_indexQ (l : List Param) (v : AV) (f : Nat) (caps : List (Nat × Nat)) (p : Param → Bool) (h : H) (hl : SlQ h v l) (hn : l.length ≤ big) (hf : ∀ i (hi : i < l.length), ∀ x, x = l[i] → bm Try.prog f (.agg (encQ x) :: caps.map fun a => .one (.ptr (some a))) h = some (ib (p x), h)) :
    bm Try.prog 109 [v, .one (.fn f caps)] h = some (ii (idx p l), h) := by
  refine bm_eq cF109 ?_
  simp +contextual (maxSteps := 2000000) only [go_sem, Nat.reduceEqDiff, reduceCtorEq, Nat.reduceAdd, Nat.reduceLeDiff, F109, hl.len]
  refine wpC_loop (fun i T L h' => h' = h ∧ T 0 = .v v ∧ T 1 = .v (.one (.fn f caps)) ∧ T 7 = .v (.one (.int .i64 l.length)) ∧ T 8 = .v (.one (.int .i64 i)) ∧ Pre p false l i) l.length ?_ ?_ (Nat.zero_le _) ?_
  · rintro i T L h' hi ⟨rfl, h0, h1, h7, h8, hp⟩
    simp +contextual (maxSteps := 2000000) only [go_sem, Nat.reduceEqDiff, reduceCtorEq, Nat.reduceAdd, Nat.reduceLeDiff, h0, h1, h7, h8, hl.iaddr hi, hl.whole hi, hf i hi _ rfl, lt_true hi]
    (repeat' (first | refine And.intro ?_ ?_ | intro _)) <;> first | rfl | rw [wrap_next hi (big_lt hn)] | exact hp.next hi ‹_› | rw [idx_hit hi hp ‹_›]
  · rintro T L h' ⟨rfl, h0, h1, h7, h8, hp⟩
    simp +contextual (maxSteps := 2000000) only [go_sem, Nat.reduceEqDiff, reduceCtorEq, Nat.reduceAdd, Nat.reduceLeDiff, h0, h1, h7, h8, lt_false, idx_none hp]
  · simp +contextual (maxSteps := 2000000) only [go_sem, Nat.reduceEqDiff, reduceCtorEq, Nat.reduceAdd, Nat.reduceLeDiff]
    (repeat' (first | refine And.intro ?_ ?_ | intro _)) <;> first | rfl | exact Pre.zero
/-! slices.IndexFunc(()int,int) -/
def L149_0 : List AStep := [⟨.mov (.c (.int .i64 0)), (some 4), none, []⟩]
theorem v149_0 : VS L149_0.eq_1 := rfl
def L149_1 : List AStep := [⟨.mov (.c (.int .i64 0)), (some 8), none, []⟩]
theorem v149_1 : VS L149_1.eq_1 := rfl
def L149_2 : List AStep := ⟨.mov (.t 0), (some 6), none, []⟩ :: ⟨.len (.t 6), (some 7), none, []⟩ :: L149_1
theorem v149_2 : VS L149_2.eq_1 := rfl
def L149_3 : List AStep := [⟨.bin .lss (.t 8) (.t 7), (some 9), none, []⟩]
theorem v149_3 : VS L149_3.eq_1 := rfl
def L149_4 : List AStep := [⟨.mov (.t 8), (some 10), none, []⟩, ⟨.mov (.t 10), (some 5), none, []⟩]
theorem v149_4 : VS L149_4.eq_1 := rfl
def L149_5 : List AStep := [⟨.load 1 false (.t 14), (some 15), none, []⟩, ⟨.callv (.t 11) [(.t 15)], (some 16), none, []⟩]
theorem v149_5 : VS L149_5.eq_1 := rfl
def L149_6 : List AStep := ⟨.mov (.t 5), (some 13), none, []⟩ :: ⟨.iaddr 1 (.t 12) (.t 13), (some 14), none, []⟩ :: L149_5
theorem v149_6 : VS L149_6.eq_1 := rfl
def L149_7 : List AStep := ⟨.mov (.t 1), (some 11), none, []⟩ :: ⟨.mov (.t 0), (some 12), none, []⟩ :: L149_6
theorem v149_7 : VS L149_7.eq_1 := rfl
def L149_8 : List AStep := [⟨.mov (.t 5), (some 17), none, []⟩, ⟨.mov (.t 17), (some 4), none, []⟩]
theorem v149_8 : VS L149_8.eq_1 := rfl
def L149_9 : List AStep := [⟨.bin .add (.t 8) (.c (.int .i64 1)), (some 18), none, []⟩, ⟨.mov (.t 18), (some 8), none, []⟩]
theorem v149_9 : VS L149_9.eq_1 := rfl
def L149_10 : List AStep := [⟨.mov (.c (.int .i64 (-1))), (some 4), none, []⟩]
theorem v149_10 : VS L149_10.eq_1 := rfl
def C149_0 : ACode := .cond (.t 9) .skip (.exit 0)
theorem u149_0 : VC C149_0.eq_1 := rfl
def C149_1 : ACode := .seq (.reg L149_8) .ret
theorem u149_1 : VC C149_1.eq_1 := rfl
def C149_2 : ACode := .cond (.t 16) C149_1 .skip
theorem u149_2 : VC C149_2.eq_1 := rfl
def C149_3 : ACode := .seq (.reg L149_7) C149_2
theorem u149_3 : VC C149_3.eq_1 := rfl
def C149_4 : ACode := .seq (.reg L149_4) C149_3
theorem u149_4 : VC C149_4.eq_1 := rfl
def C149_5 : ACode := .block 1 C149_4
theorem u149_5 : VC C149_5.eq_1 := rfl
def C149_6 : ACode := .seq C149_5 (.reg L149_9)
theorem u149_6 : VC C149_6.eq_1 := rfl
def C149_7 : ACode := .seq C149_0 C149_6
theorem u149_7 : VC C149_7.eq_1 := rfl
def C149_8 : ACode := .seq (.reg L149_3) C149_7
theorem u149_8 : VC C149_8.eq_1 := rfl
def C149_9 : ACode := .block 0 (.loop C149_8)
theorem u149_9 : VC C149_9.eq_1 := rfl
def C149_10 : ACode := .seq (.reg L149_2) C149_9
theorem u149_10 : VC C149_10.eq_1 := rfl
def C149_11 : ACode := .seq (.reg L149_10) .ret
theorem u149_11 : VC C149_11.eq_1 := rfl
def C149_12 : ACode := .seq C149_10 C149_11
theorem u149_12 : VC C149_12.eq_1 := rfl
def C149_13 : ACode := .seq (.reg L149_0) C149_12
theorem u149_13 : VC C149_13.eq_1 := rfl
def F149 : AFunc := ⟨19, [.tmp 4], C149_13⟩
theorem cF149 : compB Try.prog 149 = some F149 := by kernel_rfl
attribute [local go_sem ↓] u149_0 u149_1 u149_2 u149_3 u149_4 u149_5 u149_6 u149_7 u149_8 u149_9 u149_10 u149_11 u149_12 u149_13 v149_0 v149_1 v149_2 v149_3 v149_4 v149_5 v149_6 v149_7 v149_8 v149_9 v149_10
theorem c_indexI (l : List Int) (v : AV) (f : Nat) (caps : List (Nat × Nat)) (p : Int → Bool) (h : H) (hl : SlI h v l) (hn : l.length ≤ big) (hf : ∀ i (hi : i < l.length), ∀ x, x = l[i] → bm Try.prog f (.one (.int .i64 x) :: caps.map fun a => .one (.ptr (some a))) h = some (ib (p x), h)) :
    bm Try.prog 149 [v, .one (.fn f caps)] h = some (ii (idx p l), h) := by
  refine bm_eq cF149 ?_
  simp +contextual (maxSteps := 2000000) only [go_sem, Nat.reduceEqDiff, reduceCtorEq, Nat.reduceAdd, Nat.reduceLeDiff, F149, hl.len]
  refine wpC_loop (fun i T L h' => h' = h ∧ T 0 = .v v ∧ T 1 = .v (.one (.fn f caps)) ∧ T 7 = .v (.one (.int .i64 l.length)) ∧ T 8 = .v (.one (.int .i64 i)) ∧ Pre p false l i) l.length ?_ ?_ (Nat.zero_le _) ?_
  · rintro i T L h' hi ⟨rfl, h0, h1, h7, h8, hp⟩
    simp +contextual (maxSteps := 2000000) only [go_sem, Nat.reduceEqDiff, reduceCtorEq, Nat.reduceAdd, Nat.reduceLeDiff, h0, h1, h7, h8, hl.iaddr hi, hl.oneO hi, hf i hi _ rfl, lt_true hi]
    (repeat' (first | refine And.intro ?_ ?_ | intro _)) <;> first | rfl | rw [wrap_next hi (big_lt hn)] | exact hp.next hi ‹_› | rw [idx_hit hi hp ‹_›]
  · rintro T L h' ⟨rfl, h0, h1, h7, h8, hp⟩
    simp +contextual (maxSteps := 2000000) only [go_sem, Nat.reduceEqDiff, reduceCtorEq, Nat.reduceAdd, Nat.reduceLeDiff, h0, h1, h7, h8, lt_false, idx_none hp]
  · simp +contextual (maxSteps := 2000000) only [go_sem, Nat.reduceEqDiff, reduceCtorEq, Nat.reduceAdd, Nat.reduceLeDiff]
    (repeat' (first | refine And.intro ?_ ?_ | intro _)) <;> first | rfl | exact Pre.zero
/-! slices.ContainsFunc(()int,int) -/
def L130_0 : List AStep := [⟨.mov (.c (.bool false)), (some 4), none, []⟩]
theorem v130_0 : VS L130_0.eq_1 := rfl
def L130_1 : List AStep := [⟨.mov (.t 8), (some 4), none, []⟩]
theorem v130_1 : VS L130_1.eq_1 := rfl
def L130_2 : List AStep := ⟨.call 149 [(.t 5), (.t 6)], (some 7), none, []⟩ :: ⟨.bin .geq (.t 7) (.c (.int .i64 0)), (some 8), none, []⟩ :: L130_1
theorem v130_2 : VS L130_2.eq_1 := rfl
def L130_3 : List AStep := ⟨.mov (.t 0), (some 5), none, []⟩ :: ⟨.mov (.t 1), (some 6), none, []⟩ :: L130_2
theorem v130_3 : VS L130_3.eq_1 := rfl
def C130_0 : ACode := .seq (.reg L130_3) .ret
theorem u130_0 : VC C130_0.eq_1 := rfl
def C130_1 : ACode := .seq (.reg L130_0) C130_0
theorem u130_1 : VC C130_1.eq_1 := rfl
def F130 : AFunc := ⟨9, [.tmp 4], C130_1⟩
theorem cF130 : compB Try.prog 130 = some F130 := by kernel_rfl
attribute [local go_sem ↓] u130_0 u130_1 v130_0 v130_1 v130_2 v130_3
theorem c_hasI (l : List Int) (v : AV) (f : Nat) (caps : List (Nat × Nat)) (p : Int → Bool) (h : H) (hl : SlI h v l) (hn : l.length ≤ big) (hf : ∀ i (hi : i < l.length), ∀ x, x = l[i] → bm Try.prog f (.one (.int .i64 x) :: caps.map fun a => .one (.ptr (some a))) h = some (ib (p x), h)) :
    bm Try.prog 130 [v, .one (.fn f caps)] h = some (ib (l.any p), h) := by
  refine bm_eq cF130 ?_
  have e := idx_any (p := p) (l := l)
  simp +contextual (maxSteps := 2000000) only [go_sem, Nat.reduceEqDiff, reduceCtorEq, Nat.reduceAdd, Nat.reduceLeDiff, F130, c_indexI l v f caps p h hl hn hf, e]
/-! impl.pairAt$1 -/
def L112_0 : List AStep := [⟨.box 93 (.t 0), (some 2), none, []⟩, ⟨.mov (.c (.bool false)), (some 3), none, []⟩]
theorem v112_0 : VS L112_0.eq_1 := rfl
def L112_1 : List AStep := [⟨.mov (.t 7), (some 3), none, []⟩]
theorem v112_1 : VS L112_1.eq_1 := rfl
def L112_2 : List AStep := ⟨.load 1 false (.t 1), (some 6), none, []⟩ :: ⟨.bin .eql (.t 5) (.t 6), (some 7), none, []⟩ :: L112_1
theorem v112_2 : VS L112_2.eq_1 := rfl
def L112_3 : List AStep := ⟨.faddr 0 (.t 2), (some 4), none, []⟩ :: ⟨.load 1 false (.t 4), (some 5), none, []⟩ :: L112_2
theorem v112_3 : VS L112_3.eq_1 := rfl
def C112_0 : ACode := .seq (.reg L112_3) .ret
theorem u112_0 : VC C112_0.eq_1 := rfl
def C112_1 : ACode := .seq (.reg L112_0) C112_0
theorem u112_1 : VC C112_1.eq_1 := rfl
def F112 : AFunc := ⟨8, [.tmp 3], C112_1⟩
theorem cF112 : compB Try.prog 112 = some F112 := by kernel_rfl
attribute [local go_sem ↓] u112_0 u112_1 v112_0 v112_1 v112_2 v112_3
theorem c_pairAt1 (p : Pair) (a : Nat × Nat) (s : ByteArray) (h : H) (ha : loadO 1 false h (.one (.ptr (some a))) = some (.one (.str s))) : bm Try.prog 112 [.agg (encP p), .one (.ptr (some a))] h = some (ib (decide (p.name = s)), h) := by
  refine bm_eq cF112 ?_
  simp +contextual (maxSteps := 2000000) only [go_sem, Nat.reduceEqDiff, reduceCtorEq, Nat.reduceAdd, Nat.reduceLeDiff, F112, ha]
/-! impl.pairAt -/
def L62_0 : List AStep := [⟨.box 9 (.t 1), (some 3), none, []⟩, ⟨.mov (.c (.int .i64 0)), (some 4), none, []⟩]
theorem v62_0 : VS L62_0.eq_1 := rfl
def L62_1 : List AStep := [⟨.call 111 [(.t 5), (.t 6)], (some 7), none, []⟩, ⟨.mov (.t 7), (some 4), none, []⟩]
theorem v62_1 : VS L62_1.eq_1 := rfl
def L62_2 : List AStep := ⟨.mov (.t 0), (some 5), none, []⟩ :: ⟨.mkfn 112 [(.t 3)], (some 6), none, []⟩ :: L62_1
theorem v62_2 : VS L62_2.eq_1 := rfl
def C62_0 : ACode := .seq (.reg L62_2) .ret
theorem u62_0 : VC C62_0.eq_1 := rfl
def C62_1 : ACode := .seq (.reg L62_0) C62_0
theorem u62_1 : VC C62_1.eq_1 := rfl
def F62 : AFunc := ⟨8, [.tmp 4], C62_1⟩
theorem cF62 : compB Try.prog 62 = some F62 := by kernel_rfl
attribute [local go_sem ↓] u62_0 u62_1 v62_0 v62_1 v62_2
theorem c_pairAtI (l : List Pair) (v : AV) (s : ByteArray) (h : H) (hl : SlP h v l) (hn : smP l) : bm Try.prog 62 [v, .one (.str s)] h = some (ii (pairAt l s), h) := by
  refine bm_eq cF62 ?_
  have e := c_indexP l v 112 [(h.n, 0)] (fun p => decide (p.name = s)) (h.alloc [.str s] 9) (hl.grow (Grow.alloc _ _ _)) hn.1 (fun i hi x hx => c_pairAt1 x (h.n, 0) s _ (Box.new.one rfl))
  simp +contextual (maxSteps := 2000000) only [go_sem, Nat.reduceEqDiff, reduceCtorEq, Nat.reduceAdd, Nat.reduceLeDiff, F62, e, pairAt]
/-! impl.find$1 -/
def L110_0 : List AStep := [⟨.box 44 (.t 0), (some 2), none, []⟩, ⟨.mov (.c (.bool false)), (some 3), none, []⟩]
theorem v110_0 : VS L110_0.eq_1 := rfl
def L110_1 : List AStep := [⟨.mov (.t 7), (some 3), none, []⟩]
theorem v110_1 : VS L110_1.eq_1 := rfl
def L110_2 : List AStep := ⟨.load 1 false (.t 1), (some 6), none, []⟩ :: ⟨.bin .eql (.t 5) (.t 6), (some 7), none, []⟩ :: L110_1
theorem v110_2 : VS L110_2.eq_1 := rfl
def L110_3 : List AStep := ⟨.faddr 0 (.t 2), (some 4), none, []⟩ :: ⟨.load 1 false (.t 4), (some 5), none, []⟩ :: L110_2
theorem v110_3 : VS L110_3.eq_1 := rfl
def C110_0 : ACode := .seq (.reg L110_3) .ret
theorem u110_0 : VC C110_0.eq_1 := rfl
def C110_1 : ACode := .seq (.reg L110_0) C110_0
theorem u110_1 : VC C110_1.eq_1 := rfl
def F110 : AFunc := ⟨8, [.tmp 3], C110_1⟩
theorem cF110 : compB Try.prog 110 = some F110 := by kernel_rfl
attribute [local go_sem ↓] u110_0 u110_1 v110_0 v110_1 v110_2 v110_3
theorem c_find1 (p : Param) (a : Nat × Nat) (s : ByteArray) (h : H) (ha : loadO 1 false h (.one (.ptr (some a))) = some (.one (.str s))) : bm Try.prog 110 [.agg (encQ p), .one (.ptr (some a))] h = some (ib (decide (p.name = s)), h) := by
  refine bm_eq cF110 ?_
  simp +contextual (maxSteps := 2000000) only [go_sem, Nat.reduceEqDiff, reduceCtorEq, Nat.reduceAdd, Nat.reduceLeDiff, F110, ha]
/-! impl.find -/
def L60_0 : List AStep := [⟨.box 9 (.t 1), (some 3), none, []⟩, ⟨.mov (.c (.int .i64 0)), (some 4), none, []⟩]
theorem v60_0 : VS L60_0.eq_1 := rfl
def L60_1 : List AStep := [⟨.call 109 [(.t 5), (.t 6)], (some 7), none, []⟩, ⟨.mov (.t 7), (some 4), none, []⟩]
theorem v60_1 : VS L60_1.eq_1 := rfl
def L60_2 : List AStep := ⟨.mov (.t 0), (some 5), none, []⟩ :: ⟨.mkfn 110 [(.t 3)], (some 6), none, []⟩ :: L60_1
theorem v60_2 : VS L60_2.eq_1 := rfl
def C60_0 : ACode := .seq (.reg L60_2) .ret
theorem u60_0 : VC C60_0.eq_1 := rfl
def C60_1 : ACode := .seq (.reg L60_0) C60_0
theorem u60_1 : VC C60_1.eq_1 := rfl
def F60 : AFunc := ⟨8, [.tmp 4], C60_1⟩
theorem cF60 : compB Try.prog 60 = some F60 := by kernel_rfl
attribute [local go_sem ↓] u60_0 u60_1 v60_0 v60_1 v60_2
theorem c_find (l : List Param) (v : AV) (s : ByteArray) (h : H) (hl : SlQ h v l) (hn : smQ l) : bm Try.prog 60 [v, .one (.str s)] h = some (ii (paramAt l s), h) := by
  refine bm_eq cF60 ?_
  have e := c_indexQ l v 110 [(h.n, 0)] (fun p => decide (p.name = s)) (h.alloc [.str s] 9) (hl.grow (Grow.alloc _ _ _)) hn.1 (fun i hi x hx => c_find1 x (h.n, 0) s _ (Box.new.one rfl))
  simp +contextual (maxSteps := 2000000) only [go_sem, Nat.reduceEqDiff, reduceCtorEq, Nat.reduceAdd, Nat.reduceLeDiff, F60, e, paramAt]
/-! (impl.Signature).takes$1 -/
def L139_0 : List AStep := [⟨.box 44 (.t 0), (some 1), none, []⟩, ⟨.mov (.c (.bool false)), (some 2), none, []⟩]
theorem v139_0 : VS L139_0.eq_1 := rfl
def L139_1 : List AStep := [⟨.bin .eql (.t 4) (.c (.int .i64 4)), (some 5), none, []⟩, ⟨.mov (.t 5), (some 2), none, []⟩]
theorem v139_1 : VS L139_1.eq_1 := rfl
def L139_2 : List AStep := ⟨.faddr 1 (.t 1), (some 3), none, []⟩ :: ⟨.load 1 false (.t 3), (some 4), none, []⟩ :: L139_1
theorem v139_2 : VS L139_2.eq_1 := rfl
def C139_0 : ACode := .seq (.reg L139_2) .ret
theorem u139_0 : VC C139_0.eq_1 := rfl
def C139_1 : ACode := .seq (.reg L139_0) C139_0
theorem u139_1 : VC C139_1.eq_1 := rfl
def F139 : AFunc := ⟨6, [.tmp 2], C139_1⟩
theorem cF139 : compB Try.prog 139 = some F139 := by kernel_rfl
attribute [local go_sem ↓] u139_0 u139_1 v139_0 v139_1 v139_2
theorem c_takes1 (p : Param) (h : H) : bm Try.prog 139 [.agg (encQ p)] h = some (ib (decide (p.kind = 4)), h) := by
  refine bm_eq cF139 ?_
  simp +contextual (maxSteps := 2000000) only [go_sem, Nat.reduceEqDiff, reduceCtorEq, Nat.reduceAdd, Nat.reduceLeDiff, F139]
/-! (impl.Signature).takes -/
def L104_0 : List AStep := [⟨.box 25 (.t 0), (some 2), none, []⟩, ⟨.mov (.c (.int .i64 0)), (some 4), none, []⟩]
theorem v104_0 : VS L104_0.eq_1 := rfl
def L104_1 : List AStep := [⟨.mov (.t 9), (some 5), none, []⟩]
theorem v104_1 : VS L104_1.eq_1 := rfl
def L104_2 : List AStep := ⟨.mov (.t 1), (some 8), none, []⟩ :: ⟨.call 60 [(.t 7), (.t 8)], (some 9), none, []⟩ :: L104_1
theorem v104_2 : VS L104_2.eq_1 := rfl
def L104_3 : List AStep := ⟨.faddr 0 (.t 2), (some 6), none, []⟩ :: ⟨.load 1 false (.t 6), (some 7), none, []⟩ :: L104_2
theorem v104_3 : VS L104_3.eq_1 := rfl
def L104_4 : List AStep := [⟨.call 63 [(.t 17)], (some 18), (some (12, true)), []⟩, ⟨.pick (.t 12) (.t 18) (.c (.bool false)), (some 19), none, []⟩]
theorem v104_4 : VS L104_4.eq_1 := rfl
def L104_5 : List AStep := ⟨.iaddr 4 (.t 14) (.t 15), (some 16), (some (12, true)), []⟩ :: ⟨.load 4 true (.t 16), (some 17), (some (12, true)), []⟩ :: L104_4
theorem v104_5 : VS L104_5.eq_1 := rfl
def L104_6 : List AStep := ⟨.load 1 false (.t 13), (some 14), (some (12, true)), []⟩ :: ⟨.mov (.t 5), (some 15), (some (12, true)), []⟩ :: L104_5
theorem v104_6 : VS L104_6.eq_1 := rfl
def L104_7 : List AStep := ⟨.mov (.t 11), (some 12), none, []⟩ :: ⟨.faddr 0 (.t 2), (some 13), (some (12, true)), []⟩ :: L104_6
theorem v104_7 : VS L104_7.eq_1 := rfl
def L104_8 : List AStep := ⟨.mov (.t 5), (some 10), none, []⟩ :: ⟨.bin .geq (.t 10) (.c (.int .i64 0)), (some 11), none, []⟩ :: L104_7
theorem v104_8 : VS L104_8.eq_1 := rfl
def L104_9 : List AStep := [⟨.mov (.t 5), (some 20), none, []⟩, ⟨.mov (.t 20), (some 4), none, []⟩]
theorem v104_9 : VS L104_9.eq_1 := rfl
def L104_10 : List AStep := [⟨.call 109 [(.t 22), (.c (.fn 139 []))], (some 23), none, []⟩, ⟨.mov (.t 23), (some 4), none, []⟩]
theorem v104_10 : VS L104_10.eq_1 := rfl
def L104_11 : List AStep := ⟨.faddr 0 (.t 2), (some 21), none, []⟩ :: ⟨.load 1 false (.t 21), (some 22), none, []⟩ :: L104_10
theorem v104_11 : VS L104_11.eq_1 := rfl
def C104_0 : ACode := .seq (.reg L104_9) .ret
theorem u104_0 : VC C104_0.eq_1 := rfl
def C104_1 : ACode := .cond (.t 19) C104_0 .skip
theorem u104_1 : VC C104_1.eq_1 := rfl
def C104_2 : ACode := .seq (.reg L104_8) C104_1
theorem u104_2 : VC C104_2.eq_1 := rfl
def C104_3 : ACode := .seq (.reg L104_3) C104_2
theorem u104_3 : VC C104_3.eq_1 := rfl
def C104_4 : ACode := .seq (.reg L104_11) .ret
theorem u104_4 : VC C104_4.eq_1 := rfl
def C104_5 : ACode := .seq C104_3 C104_4
theorem u104_5 : VC C104_5.eq_1 := rfl
def C104_6 : ACode := .seq (.reg L104_0) C104_5
theorem u104_6 : VC C104_6.eq_1 := rfl
def F104 : AFunc := ⟨24, [.tmp 4], C104_6⟩
theorem cF104 : compB Try.prog 104 = some F104 := by kernel_rfl
attribute [local go_sem ↓] u104_0 u104_1 u104_2 u104_3 u104_4 u104_5 u104_6 v104_0 v104_1 v104_2 v104_3 v104_4 v104_5 v104_6 v104_7 v104_8 v104_9 v104_10 v104_11
theorem c_takes (l : List Param) (pv : CV) (s : ByteArray) (h : H) (hl : SlQ h (.one pv) l) (hn : smQ l) : bm Try.prog 104 [.agg [pv], .one (.str s)] h = some (ii (takes l s), h) := by
  refine bm_eq cF104 ?_
  have e2 := c_indexQ l (.one pv) 139 [] (fun p => decide (p.kind = 4)) h hl hn.1 (fun i hi x hx => c_takes1 x h)
  rw [show idx (fun p : Param => decide (p.kind = 4)) l = kindAt l 4 from rfl] at e2
  rcases idx_cases (fun p : Param => decide (p.name = s)) l with e | ⟨j, hj, e, _⟩ <;> (replace e := (show paramAt l s = _ from e))
  · simp +contextual (maxSteps := 2000000) only [go_sem, Nat.reduceEqDiff, reduceCtorEq, Nat.reduceAdd, Nat.reduceLeDiff, F104, c_find _ _ _ _ hl hn, e, e2, takes_none e]
  · simp +contextual (maxSteps := 2000000) only [go_sem, Nat.reduceEqDiff, reduceCtorEq, Nat.reduceAdd, Nat.reduceLeDiff, F104, c_find _ _ _ _ hl hn, e, e2, takes_some hj e, hl.iaddr hj, hl.whole hj, c_named]
/-! impl.areValues$1 -/
def L131_0 : List AStep := [⟨.mov (.c (.bool false)), (some 2), none, []⟩]
theorem v131_0 : VS L131_0.eq_1 := rfl
def L131_1 : List AStep := [⟨.not (.t 4), (some 5), none, []⟩, ⟨.mov (.t 5), (some 2), none, []⟩]
theorem v131_1 : VS L131_1.eq_1 := rfl
def L131_2 : List AStep := ⟨.mov (.t 0), (some 3), none, []⟩ :: ⟨.call 72 [(.t 3)], (some 4), none, []⟩ :: L131_1
theorem v131_2 : VS L131_2.eq_1 := rfl
def C131_0 : ACode := .seq (.reg L131_2) .ret
theorem u131_0 : VC C131_0.eq_1 := rfl
def C131_1 : ACode := .seq (.reg L131_0) C131_0
theorem u131_1 : VC C131_1.eq_1 := rfl
def F131 : AFunc := ⟨6, [.tmp 2], C131_1⟩
theorem cF131 : compB Try.prog 131 = some F131 := by kernel_rfl
attribute [local go_sem ↓] u131_0 u131_1 v131_0 v131_1 v131_2
theorem c_areValues1 (n : Int) (h : H) : bm Try.prog 131 [.one (.int .i64 n)] h = some (ib (!(okNum n)), h) := by
  refine bm_eq cF131 ?_
  simp +contextual (maxSteps := 2000000) only [go_sem, Nat.reduceEqDiff, reduceCtorEq, Nat.reduceAdd, Nat.reduceLeDiff, F131, c_isValue]
/-! impl.areValues -/
def L90_0 : List AStep := [⟨.mov (.c (.bool false)), (some 2), none, []⟩]
theorem v90_0 : VS L90_0.eq_1 := rfl
def L90_1 : List AStep := [⟨.not (.t 4), (some 5), none, []⟩, ⟨.mov (.t 5), (some 2), none, []⟩]
theorem v90_1 : VS L90_1.eq_1 := rfl
def L90_2 : List AStep := ⟨.mov (.t 0), (some 3), none, []⟩ :: ⟨.call 130 [(.t 3), (.c (.fn 131 []))], (some 4), none, []⟩ :: L90_1
theorem v90_2 : VS L90_2.eq_1 := rfl
def C90_0 : ACode := .seq (.reg L90_2) .ret
theorem u90_0 : VC C90_0.eq_1 := rfl
def C90_1 : ACode := .seq (.reg L90_0) C90_0
theorem u90_1 : VC C90_1.eq_1 := rfl
def F90 : AFunc := ⟨6, [.tmp 2], C90_1⟩
theorem cF90 : compB Try.prog 90 = some F90 := by kernel_rfl
attribute [local go_sem ↓] u90_0 u90_1 v90_0 v90_1 v90_2
theorem c_areValues (l : List Int) (v : AV) (h : H) (hl : SlI h v l) (hn : l.length ≤ big) : bm Try.prog 90 [v] h = some (ib (l.all okNum), h) := by
  refine bm_eq cF90 ?_
  have e := c_hasI l v 131 [] (fun n => !(okNum n)) h hl hn (fun i hi x hx => c_areValues1 x h)
  simp +contextual (maxSteps := 2000000) only [go_sem, Nat.reduceEqDiff, reduceCtorEq, Nat.reduceAdd, Nat.reduceLeDiff, F90, e]
  simp [List.not_any_eq_all_not]
/-! impl.ValidFlat -/
def L43_0 : List AStep := [⟨.box 29 (.t 0), (some 1), none, []⟩, ⟨.mov (.c (.bool false)), (some 2), none, []⟩]
theorem v43_0 : VS L43_0.eq_1 := rfl
def L43_1 : List AStep := [⟨.len (.t 6), (some 7), none, []⟩, ⟨.mov (.c (.int .i64 0)), (some 8), none, []⟩]
theorem v43_1 : VS L43_1.eq_1 := rfl
def L43_2 : List AStep := ⟨.faddr 1 (.t 1), (some 5), none, []⟩ :: ⟨.load 1 false (.t 5), (some 6), none, []⟩ :: L43_1
theorem v43_2 : VS L43_2.eq_1 := rfl
def L43_3 : List AStep := [⟨.bin .lss (.t 8) (.t 7), (some 9), none, []⟩]
theorem v43_3 : VS L43_3.eq_1 := rfl
def L43_4 : List AStep := [⟨.mov (.t 10), (some 3), none, []⟩, ⟨.store 2 (.t 4) (.t 12), none, none, []⟩]
theorem v43_4 : VS L43_4.eq_1 := rfl
def L43_5 : List AStep := ⟨.load 2 true (.t 11), (some 12), none, []⟩ :: ⟨.alloc 93 [(.str (strOfNums [])), (.int .i64 0)], (some 4), none, []⟩ :: L43_4
theorem v43_5 : VS L43_5.eq_1 := rfl
def L43_6 : List AStep := ⟨.mov (.t 8), (some 10), none, []⟩ :: ⟨.iaddr 2 (.t 6) (.t 8), (some 11), none, []⟩ :: L43_5
theorem v43_6 : VS L43_6.eq_1 := rfl
def L43_7 : List AStep := [⟨.pick (.t 16) (.c (.bool true)) (.t 24), (some 25), none, []⟩]
theorem v43_7 : VS L43_7.eq_1 := rfl
def L43_8 : List AStep := ⟨.call 62 [(.t 20), (.t 22)], (some 23), (some (16, false)), []⟩ :: ⟨.bin .geq (.t 23) (.c (.int .i64 0)), (some 24), (some (16, false)), []⟩ :: L43_7
theorem v43_8 : VS L43_8.eq_1 := rfl
def L43_9 : List AStep := ⟨.faddr 0 (.t 4), (some 21), (some (16, false)), []⟩ :: ⟨.load 1 false (.t 21), (some 22), (some (16, false)), []⟩ :: L43_8
theorem v43_9 : VS L43_9.eq_1 := rfl
def L43_10 : List AStep := ⟨.mov (.t 3), (some 19), (some (16, false)), []⟩ :: ⟨.slice 93 2 (.t 18) none (some (.t 19)) none, (some 20), (some (16, false)), []⟩ :: L43_9
theorem v43_10 : VS L43_10.eq_1 := rfl
def L43_11 : List AStep := ⟨.faddr 1 (.t 1), (some 17), (some (16, false)), []⟩ :: ⟨.load 1 false (.t 17), (some 18), (some (16, false)), []⟩ :: L43_10
theorem v43_11 : VS L43_11.eq_1 := rfl
def L43_12 : List AStep := ⟨.not (.t 14), (some 15), none, []⟩ :: ⟨.mov (.t 15), (some 16), none, []⟩ :: L43_11
theorem v43_12 : VS L43_12.eq_1 := rfl
def L43_13 : List AStep := ⟨.load 2 true (.t 4), (some 13), none, []⟩ :: ⟨.call 89 [(.t 13)], (some 14), none, []⟩ :: L43_12
theorem v43_13 : VS L43_13.eq_1 := rfl
def L43_14 : List AStep := [⟨.mov (.c (.bool false)), (some 2), none, []⟩]
theorem v43_14 : VS L43_14.eq_1 := rfl
def L43_15 : List AStep := [⟨.bin .add (.t 8) (.c (.int .i64 1)), (some 26), none, []⟩, ⟨.mov (.t 26), (some 8), none, []⟩]
theorem v43_15 : VS L43_15.eq_1 := rfl
def L43_16 : List AStep := [⟨.pick (.t 37) (.t 40) (.c (.bool false)), (some 41), none, []⟩, ⟨.mov (.t 41), (some 2), none, []⟩]
theorem v43_16 : VS L43_16.eq_1 := rfl
def L43_17 : List AStep := ⟨.load 1 false (.t 38), (some 39), (some (37, true)), []⟩ :: ⟨.call 90 [(.t 39)], (some 40), (some (37, true)), []⟩ :: L43_16
theorem v43_17 : VS L43_17.eq_1 := rfl
def L43_18 : List AStep := ⟨.mov (.t 36), (some 37), none, []⟩ :: ⟨.faddr 0 (.t 1), (some 38), (some (37, true)), []⟩ :: L43_17
theorem v43_18 : VS L43_18.eq_1 := rfl
def L43_19 : List AStep := ⟨.bin .leq (.t 34) (.c (.int .i64 8)), (some 35), (some (31, true)), []⟩ :: ⟨.pick (.t 31) (.t 35) (.c (.bool false)), (some 36), none, []⟩ :: L43_18
theorem v43_19 : VS L43_19.eq_1 := rfl
def L43_20 : List AStep := ⟨.load 1 false (.t 32), (some 33), (some (31, true)), []⟩ :: ⟨.len (.t 33), (some 34), (some (31, true)), []⟩ :: L43_19
theorem v43_20 : VS L43_20.eq_1 := rfl
def L43_21 : List AStep := ⟨.mov (.t 30), (some 31), none, []⟩ :: ⟨.faddr 1 (.t 1), (some 32), (some (31, true)), []⟩ :: L43_20
theorem v43_21 : VS L43_21.eq_1 := rfl
def L43_22 : List AStep := ⟨.len (.t 28), (some 29), none, []⟩ :: ⟨.bin .leq (.t 29) (.c (.int .i64 8)), (some 30), none, []⟩ :: L43_21
theorem v43_22 : VS L43_22.eq_1 := rfl
def L43_23 : List AStep := ⟨.faddr 0 (.t 1), (some 27), none, []⟩ :: ⟨.load 1 false (.t 27), (some 28), none, []⟩ :: L43_22
theorem v43_23 : VS L43_23.eq_1 := rfl
def C43_0 : ACode := .cond (.t 9) .skip (.exit 0)
theorem u43_0 : VC C43_0.eq_1 := rfl
def C43_1 : ACode := .seq (.reg L43_14) .ret
theorem u43_1 : VC C43_1.eq_1 := rfl
def C43_2 : ACode := .cond (.t 25) C43_1 .skip
theorem u43_2 : VC C43_2.eq_1 := rfl
def C43_3 : ACode := .seq (.reg L43_13) C43_2
theorem u43_3 : VC C43_3.eq_1 := rfl
def C43_4 : ACode := .seq (.reg L43_6) C43_3
theorem u43_4 : VC C43_4.eq_1 := rfl
def C43_5 : ACode := .block 1 C43_4
theorem u43_5 : VC C43_5.eq_1 := rfl
def C43_6 : ACode := .seq C43_5 (.reg L43_15)
theorem u43_6 : VC C43_6.eq_1 := rfl
def C43_7 : ACode := .seq C43_0 C43_6
theorem u43_7 : VC C43_7.eq_1 := rfl
def C43_8 : ACode := .seq (.reg L43_3) C43_7
theorem u43_8 : VC C43_8.eq_1 := rfl
def C43_9 : ACode := .block 0 (.loop C43_8)
theorem u43_9 : VC C43_9.eq_1 := rfl
def C43_10 : ACode := .seq (.reg L43_2) C43_9
theorem u43_10 : VC C43_10.eq_1 := rfl
def C43_11 : ACode := .seq (.reg L43_23) .ret
theorem u43_11 : VC C43_11.eq_1 := rfl
def C43_12 : ACode := .seq C43_10 C43_11
theorem u43_12 : VC C43_12.eq_1 := rfl
def C43_13 : ACode := .seq (.reg L43_0) C43_12
theorem u43_13 : VC C43_13.eq_1 := rfl
def F43 : AFunc := ⟨42, [.tmp 2], C43_13⟩
theorem cF43 : compB Try.prog 43 = some F43 := by kernel_rfl
attribute [local go_sem ↓] u43_0 u43_1 u43_2 u43_3 u43_4 u43_5 u43_6 u43_7 u43_8 u43_9 u43_10 u43_11 u43_12 u43_13 v43_0 v43_1 v43_2 v43_3 v43_4 v43_5 v43_6 v43_7 v43_8 v43_9 v43_10 v43_11 v43_12 v43_13 v43_14 v43_15 v43_16 v43_17 v43_18 v43_19 v43_20 v43_21 v43_22 v43_23
theorem c_ValidFlat (f : Flat) (pv nv : CV) (h : H) (hp : SlI h (.one pv) f.pl) (hq : SlP h (.one nv) f.nl) (hn : smF f) : bm Try.prog 43 [.agg [pv, nv]] h = some (ib (okFlat f), h) := by
  refine bm_eq cF43 ?_
  simp +contextual (maxSteps := 2000000) only [go_sem, Nat.reduceEqDiff, reduceCtorEq, Nat.reduceAdd, Nat.reduceLeDiff, F43, hq.len]
  refine wpC_loop (fun i T L h' => h' = h ∧ T 1 = .lp 1 0 ∧ (L 1).2 = [pv, nv] ∧ T 6 = .v (.one nv) ∧ T 7 = .v (.one (.int .i64 f.nl.length)) ∧ T 8 = .v (.one (.int .i64 i)) ∧ Upto (newAt Pair.name f.nl) i ∧ Pre okPair true f.nl i) f.nl.length ?_ ?_ (Nat.zero_le _) ?_
  · rintro i T L h' hi ⟨rfl, t1, l1, t6, t7, t8, hu, hpre⟩
    obtain ⟨v', e1, s1⟩ := hq.takeO (i := i) (by omega) (kd := .i64)
    have e2 : decide (pairAt (f.nl.take i) f.nl[i].name ≥ 0) = !(newAt Pair.name f.nl i) := newAt_ge hi
    simp +contextual (maxSteps := 2000000) only [go_sem, Nat.reduceEqDiff, reduceCtorEq, Nat.reduceAdd, Nat.reduceLeDiff, e2, t1, l1, t6, t7, t8, hq.iaddr hi, hq.whole hi, lt_true hi, e1, c_okPair _ _ (hn.nl.at hi), c_pairAtI _ _ _ _ s1 (hn.nl.take i)]
    (repeat' (first | refine And.intro ?_ ?_ | intro _)) <;> first | rfl | rw [wrap_next hi hn.nl.len] | (refine hu.next ?_; simp_all; done) | (refine hpre.next hi ?_; simp_all; done) | (rw [okFlat, apart_not hi] <;> first | rfl | (simp_all; done)) | (rw [okFlat, all_stop (p := okPair) hi] <;> first | (simp; done) | (simp_all; done))
  · rintro T L h' ⟨rfl, t1, l1, t6, t7, t8, hu, hpre⟩
    simp +contextual (maxSteps := 2000000) only [go_sem, Nat.reduceEqDiff, reduceCtorEq, Nat.reduceAdd, Nat.reduceLeDiff, t1, l1, t6, t7, t8, hq.len, hp.len, lt_false, c_areValues _ _ _ hp hn.pl, okFlat, apart_of hu, hpre.all]
    (repeat' (first | refine And.intro ?_ ?_ | intro _)) <;> first | rfl | simp_all
  · simp +contextual (maxSteps := 2000000) only [go_sem, Nat.reduceEqDiff, reduceCtorEq, Nat.reduceAdd, Nat.reduceLeDiff]
    (repeat' (first | refine And.intro ?_ ?_ | intro _)) <;> first | rfl | exact Upto.zero | exact Pre.zero
end Go.Proofs.Ytekkimfdcbgcoac.Am
