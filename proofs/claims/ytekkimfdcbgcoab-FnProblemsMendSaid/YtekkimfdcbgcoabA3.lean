/- Contracts of the program: numbers, names, pairs, flat calls and signatures that are valid. -/
import Derived.Test.YtekkimfdcbgcoabDat
namespace Go.Proofs.Ytekkimfdcbgcoab.Am
open Go
set_option maxRecDepth 100000
set_option maxHeartbeats 4000000
set_option linter.unusedSimpArgs false
set_option linter.unusedVariables false
attribute [local go_sem ↓] bv_t bv_c ev_t ev_c put_same put_ne put_none kill_at pro_at lb_same lb_ne start_zero start_succ wpC_seq wpC_reg wpC_cond wpC_block wpC_skip wpC_exit wpC_ret thenQ_normal thenQ_exit thenQ_ret inBlk_normal inBlk_exit inBlk_ret wpS_nil wpS_step wpS_again wpS_guard wpO_mov wpO_load wpO_faddr wpO_nilCheck wpO_pick wpO_build wpO_bin wpO_eqb wpO_eqst wpO_eqnil wpO_not wpO_conv wpO_bytesStr wpO_iaddr wpO_idxStr wpO_field wpO_extract wpO_len wpO_lenStr wpO_cap wpO_min wpO_slice wpO_sliceStr wpO_alloc wpO_box wpO_store wpO_call wpO_callv wpO_mkfn wpO_buildSlice wpO_mkslice wpO_append wpO_appz proA_nil proA_cons tmpX_nil tmpX_tmp tmpX_cell doneB_normal doneB_ret agK_cons agK_nil agK_guard agG_tt agG_ff agG_tf agG_ft agG_undef pureB_load results_one results_two results_nil resBs_cons resBs_nil resB_tmp resB_cell
attribute [local go_sem] kill_v kill_lp_ne kill_lp_same pro_v pro_lp_same pro_lp_ne av_v av_lp optB_some optX_some valX_eq ldX_lp ldX_v faX_lp faX_v ncX_lp ncX_ptr ncX_fn boxK_one boxK_agg stL_some stK_lp_one stK_lp_agg stK_v_one stK_v_agg proM_v proM_lp callG_mk callVG_mk callvK_fn fnG_mk ptrsA_nil ptrsA_cons callH_some whenA_true whenA_false guardH_tt guardH_ff guardH_tf guardH_ft guardH_undef agV_one agV_agg lenO_sl lenStrO_str notO_bool pickO_bool convO_int eqbO_bool eqnilO_sl extractO_tup capO_sl minO_int loadL_one loadL_all storeL_eq fillA_nil fillA_one fillA_agg nat_ge neg_ge nat_lt neg_lt buildO bin_add bin_sub bin_mul bin_eql bin_neq bin_lss bin_leq bin_gtr bin_geq str_eql str_neq str_lss str_leq str_gtr str_geq retK_some endK_mk gcK_same gcK_int gcK_bool tupO_one tupO_agg rdy_self ib ii Option.map_none Option.map_some Option.some.injEq exists_eq_left' exists_eq_left ne_eq not_false_eq_true if_true if_false List.map_cons List.map_nil List.getElem?_cons_zero List.getElem?_cons_succ List.length_cons List.length_nil List.take_succ_cons List.take_zero List.take_nil List.drop_succ_cons List.drop_zero List.drop_nil List.cons_append List.nil_append List.append_nil List.set_cons_zero List.set_cons_succ Nat.zero_add forall_const true_and and_true and_self Bool.false_eq_true false_implies true_implies implies_true Bool.not_true Bool.not_false Bool.not_eq_true' Bool.not_eq_false' beq_self_eq_true Bool.bne_true Bool.bne_false
attribute [local go_sem] lenI lenS lenP lenQ lenB lenL lenT encI_0 encS_0 encP_0 encP_1 encQ_0 encQ_1 encQ_2 encQ_3 encB_0 encB_1 encL_0 encL_1 encT_0 encT_1
attribute [local go_sem low] whenA_bool guardH_bool
/-! impl.in -/
def L74_0 : List AStep := [⟨.mov (.c (.bool false)), (some 6), none, []⟩]
theorem v74_0 : VS L74_0.eq_1 := rfl
def L74_1 : List AStep := [⟨.mov (.t 14), (some 6), none, []⟩]
theorem v74_1 : VS L74_1.eq_1 := rfl
def L74_2 : List AStep := ⟨.bin .leq (.t 11) (.t 12), (some 13), (some (10, true)), []⟩ :: ⟨.pick (.t 10) (.t 13) (.c (.bool false)), (some 14), none, []⟩ :: L74_1
theorem v74_2 : VS L74_2.eq_1 := rfl
def L74_3 : List AStep := ⟨.mov (.t 0), (some 11), (some (10, true)), []⟩ :: ⟨.mov (.t 2), (some 12), (some (10, true)), []⟩ :: L74_2
theorem v74_3 : VS L74_3.eq_1 := rfl
def L74_4 : List AStep := ⟨.bin .geq (.t 7) (.t 8), (some 9), none, []⟩ :: ⟨.mov (.t 9), (some 10), none, []⟩ :: L74_3
theorem v74_4 : VS L74_4.eq_1 := rfl
def L74_5 : List AStep := ⟨.mov (.t 0), (some 7), none, []⟩ :: ⟨.mov (.t 1), (some 8), none, []⟩ :: L74_4
theorem v74_5 : VS L74_5.eq_1 := rfl
def C74_0 : ACode := .seq (.reg L74_5) .ret
theorem u74_0 : VC C74_0.eq_1 := rfl
def C74_1 : ACode := .seq (.reg L74_0) C74_0
theorem u74_1 : VC C74_1.eq_1 := rfl
def F74 : AFunc := ⟨15, [.tmp 6], C74_1⟩
theorem cF74 : compB Try.prog 74 = some F74 := by kernel_rfl
attribute [local go_sem ↓] u74_0 u74_1 v74_0 v74_1 v74_2 v74_3 v74_4 v74_5
theorem c_in (n lo hi : Int) (h : H) : bm Try.prog 74 [.one (.int .i64 n), .one (.int .i64 lo), .one (.int .i64 hi)] h = some (ib (decide (lo ≤ n) && decide (n ≤ hi)), h) := by
  refine bm_eq cF74 ?_
  simp +contextual (maxSteps := 2000000) only [go_sem, Nat.reduceEqDiff, reduceCtorEq, Nat.reduceAdd, Nat.reduceLeDiff, F74]
  (repeat' (first | refine And.intro ?_ ?_ | intro _)) <;> first | simp_all
/-! impl.isValue -/
def L75_0 : List AStep := [⟨.mov (.c (.bool false)), (some 2), none, []⟩]
theorem v75_0 : VS L75_0.eq_1 := rfl
def L75_1 : List AStep := [⟨.mov (.t 4), (some 2), none, []⟩]
theorem v75_1 : VS L75_1.eq_1 := rfl
def L75_2 : List AStep := ⟨.mov (.t 0), (some 3), none, []⟩ :: ⟨.call 74 [(.t 3), (.c (.int .i64 (-99))), (.c (.int .i64 99))], (some 4), none, []⟩ :: L75_1
theorem v75_2 : VS L75_2.eq_1 := rfl
def C75_0 : ACode := .seq (.reg L75_2) .ret
theorem u75_0 : VC C75_0.eq_1 := rfl
def C75_1 : ACode := .seq (.reg L75_0) C75_0
theorem u75_1 : VC C75_1.eq_1 := rfl
def F75 : AFunc := ⟨5, [.tmp 2], C75_1⟩
theorem cF75 : compB Try.prog 75 = some F75 := by kernel_rfl
attribute [local go_sem ↓] u75_0 u75_1 v75_0 v75_1 v75_2
theorem c_isValue (n : Int) (h : H) : bm Try.prog 75 [.one (.int .i64 n)] h = some (ib (okNum n), h) := by
  refine bm_eq cF75 ?_
  simp +contextual (maxSteps := 2000000) only [go_sem, Nat.reduceEqDiff, reduceCtorEq, Nat.reduceAdd, Nat.reduceLeDiff, F75, c_in, okNum]
/-! impl.isName -/
def L68_0 : List AStep := [⟨.mov (.c (.bool false)), (some 2), none, []⟩]
theorem v68_0 : VS L68_0.eq_1 := rfl
def L68_1 : List AStep := [⟨.mov (.c (.int .i64 0)), (some 3), none, []⟩]
theorem v68_1 : VS L68_1.eq_1 := rfl
def L68_2 : List AStep := [⟨.lenStr (.t 5), (some 6), none, []⟩, ⟨.bin .lss (.t 4) (.t 6), (some 7), none, []⟩]
theorem v68_2 : VS L68_2.eq_1 := rfl
def L68_3 : List AStep := ⟨.mov (.t 3), (some 4), none, []⟩ :: ⟨.mov (.t 0), (some 5), none, []⟩ :: L68_2
theorem v68_3 : VS L68_3.eq_1 := rfl
def L68_4 : List AStep := [⟨.bin .gtr (.t 17) (.c (.int .u8 122)), (some 18), (some (14, false)), []⟩, ⟨.pick (.t 14) (.c (.bool true)) (.t 18), (some 19), none, []⟩]
theorem v68_4 : VS L68_4.eq_1 := rfl
def L68_5 : List AStep := ⟨.mov (.t 3), (some 16), (some (14, false)), []⟩ :: ⟨.idxStr (.t 15) (.t 16), (some 17), (some (14, false)), []⟩ :: L68_4
theorem v68_5 : VS L68_5.eq_1 := rfl
def L68_6 : List AStep := ⟨.mov (.t 13), (some 14), none, []⟩ :: ⟨.mov (.t 0), (some 15), (some (14, false)), []⟩ :: L68_5
theorem v68_6 : VS L68_6.eq_1 := rfl
def L68_7 : List AStep := ⟨.idxStr (.t 10) (.t 11), (some 12), none, []⟩ :: ⟨.bin .lss (.t 12) (.c (.int .u8 97)), (some 13), none, []⟩ :: L68_6
theorem v68_7 : VS L68_7.eq_1 := rfl
def L68_8 : List AStep := ⟨.mov (.t 0), (some 10), none, []⟩ :: ⟨.mov (.t 3), (some 11), none, []⟩ :: L68_7
theorem v68_8 : VS L68_8.eq_1 := rfl
def L68_9 : List AStep := [⟨.mov (.c (.bool false)), (some 2), none, []⟩]
theorem v68_9 : VS L68_9.eq_1 := rfl
def L68_10 : List AStep := [⟨.mov (.t 9), (some 3), none, []⟩]
theorem v68_10 : VS L68_10.eq_1 := rfl
def L68_11 : List AStep := ⟨.mov (.t 3), (some 8), none, []⟩ :: ⟨.bin .add (.t 8) (.c (.int .i64 1)), (some 9), none, []⟩ :: L68_10
theorem v68_11 : VS L68_11.eq_1 := rfl
def L68_12 : List AStep := [⟨.call 74 [(.t 21), (.c (.int .i64 1)), (.c (.int .i64 6))], (some 22), none, []⟩, ⟨.mov (.t 22), (some 2), none, []⟩]
theorem v68_12 : VS L68_12.eq_1 := rfl
def L68_13 : List AStep := ⟨.mov (.t 0), (some 20), none, []⟩ :: ⟨.lenStr (.t 20), (some 21), none, []⟩ :: L68_12
theorem v68_13 : VS L68_13.eq_1 := rfl
def C68_0 : ACode := .cond (.t 7) .skip (.exit 0)
theorem u68_0 : VC C68_0.eq_1 := rfl
def C68_1 : ACode := .seq (.reg L68_3) C68_0
theorem u68_1 : VC C68_1.eq_1 := rfl
def C68_2 : ACode := .seq (.reg L68_9) .ret
theorem u68_2 : VC C68_2.eq_1 := rfl
def C68_3 : ACode := .cond (.t 19) C68_2 .skip
theorem u68_3 : VC C68_3.eq_1 := rfl
def C68_4 : ACode := .seq (.reg L68_8) C68_3
theorem u68_4 : VC C68_4.eq_1 := rfl
def C68_5 : ACode := .block 1 C68_4
theorem u68_5 : VC C68_5.eq_1 := rfl
def C68_6 : ACode := .seq C68_5 (.reg L68_11)
theorem u68_6 : VC C68_6.eq_1 := rfl
def C68_7 : ACode := .seq C68_1 C68_6
theorem u68_7 : VC C68_7.eq_1 := rfl
def C68_8 : ACode := .block 0 (.loop C68_7)
theorem u68_8 : VC C68_8.eq_1 := rfl
def C68_9 : ACode := .seq (.reg L68_1) C68_8
theorem u68_9 : VC C68_9.eq_1 := rfl
def C68_10 : ACode := .seq (.reg L68_13) .ret
theorem u68_10 : VC C68_10.eq_1 := rfl
def C68_11 : ACode := .seq C68_9 C68_10
theorem u68_11 : VC C68_11.eq_1 := rfl
def C68_12 : ACode := .seq (.reg L68_0) C68_11
theorem u68_12 : VC C68_12.eq_1 := rfl
def F68 : AFunc := ⟨23, [.tmp 2], C68_12⟩
theorem cF68 : compB Try.prog 68 = some F68 := by kernel_rfl
attribute [local go_sem ↓] u68_0 u68_1 u68_2 u68_3 u68_4 u68_5 u68_6 u68_7 u68_8 u68_9 u68_10 u68_11 u68_12 v68_0 v68_1 v68_2 v68_3 v68_4 v68_5 v68_6 v68_7 v68_8 v68_9 v68_10 v68_11 v68_12 v68_13
theorem c_isName (s : ByteArray) (h : H) (hn : s.size < 2 ^ 62) : bm Try.prog 68 [.one (.str s)] h = some (ib (okName s), h) := by
  refine bm_eq cF68 ?_
  simp +contextual (maxSteps := 2000000) only [go_sem, Nat.reduceEqDiff, reduceCtorEq, Nat.reduceAdd, Nat.reduceLeDiff, F68]
  have hsz : s.data.toList.length = s.size := Array.length_toList
  refine wpC_loop (fun i T L h' => h' = h ∧ T 0 = .v (.one (.str s)) ∧ T 3 = .v (.one (.int .i64 i)) ∧ Pre isLow true s.data.toList i) s.size ?_ ?_ (Nat.zero_le _) ?_
  · rintro i T L h' hi ⟨rfl, h0, h3, hp⟩
    simp +contextual (maxSteps := 2000000) only [go_sem, Nat.reduceEqDiff, reduceCtorEq, Nat.reduceAdd, Nat.reduceLeDiff, h0, h3, idx_at hi, lt_true hi]
    have e : s.data.toList[i]'(by omega) = s.data[i]'hi := Array.getElem_toList _
    have bad : isLow (s.data[i]'hi) = false → okName s = false := fun hx => by
      unfold okName
      rw [all_stop (l := s.data.toList) (i := i) (by omega) (by rw [e]; exact hx)]
      rfl
    have low : isLow (s.data[i]'hi) = (!(decide ((↑(s.data[i]'hi).toNat : Int) < 97)) && !(decide ((↑(s.data[i]'hi).toNat : Int) > 122))) := by
      unfold isLow
      rw [Bool.eq_iff_iff]
      simp
      omega
    (repeat' (first | refine And.intro ?_ ?_ | intro _)) <;> first | rfl | rw [wrap_next hi hn] | exact hp.next (by omega) (by rw [e, low]; simp_all) | rw [bad (by rw [low]; simp_all)]
  · rintro T L h' ⟨rfl, h0, h3, hp⟩
    rw [← hsz] at hp
    simp +contextual (maxSteps := 2000000) only [go_sem, Nat.reduceEqDiff, reduceCtorEq, Nat.reduceAdd, Nat.reduceLeDiff, h0, h3, lt_false, c_in, okName, hp.all, Bool.true_and]
  · simp +contextual (maxSteps := 2000000) only [go_sem, Nat.reduceEqDiff, reduceCtorEq, Nat.reduceAdd, Nat.reduceLeDiff]
    (repeat' (first | refine And.intro ?_ ?_ | intro _)) <;> first | rfl | exact Pre.zero
/-! (impl.Param).placed -/
def L51_0 : List AStep := [⟨.box 39 (.t 0), (some 1), none, []⟩, ⟨.mov (.c (.bool false)), (some 2), none, []⟩]
theorem v51_0 : VS L51_0.eq_1 := rfl
def L51_1 : List AStep := [⟨.mov (.t 10), (some 2), none, []⟩]
theorem v51_1 : VS L51_1.eq_1 := rfl
def L51_2 : List AStep := ⟨.bin .eql (.t 8) (.c (.int .i64 1)), (some 9), (some (6, false)), []⟩ :: ⟨.pick (.t 6) (.c (.bool true)) (.t 9), (some 10), none, []⟩ :: L51_1
theorem v51_2 : VS L51_2.eq_1 := rfl
def L51_3 : List AStep := ⟨.faddr 1 (.t 1), (some 7), (some (6, false)), []⟩ :: ⟨.load 1 false (.t 7), (some 8), (some (6, false)), []⟩ :: L51_2
theorem v51_3 : VS L51_3.eq_1 := rfl
def L51_4 : List AStep := ⟨.bin .eql (.t 4) (.c (.int .i64 0)), (some 5), none, []⟩ :: ⟨.mov (.t 5), (some 6), none, []⟩ :: L51_3
theorem v51_4 : VS L51_4.eq_1 := rfl
def L51_5 : List AStep := ⟨.faddr 1 (.t 1), (some 3), none, []⟩ :: ⟨.load 1 false (.t 3), (some 4), none, []⟩ :: L51_4
theorem v51_5 : VS L51_5.eq_1 := rfl
def C51_0 : ACode := .seq (.reg L51_5) .ret
theorem u51_0 : VC C51_0.eq_1 := rfl
def C51_1 : ACode := .seq (.reg L51_0) C51_0
theorem u51_1 : VC C51_1.eq_1 := rfl
def F51 : AFunc := ⟨11, [.tmp 2], C51_1⟩
theorem cF51 : compB Try.prog 51 = some F51 := by kernel_rfl
attribute [local go_sem ↓] u51_0 u51_1 v51_0 v51_1 v51_2 v51_3 v51_4 v51_5
theorem c_placed (p : Param) (h : H) : bm Try.prog 51 [.agg (encQ p)] h = some (ib (byPlace p), h) := by
  refine bm_eq cF51 ?_
  simp +contextual (maxSteps := 2000000) only [go_sem, Nat.reduceEqDiff, reduceCtorEq, Nat.reduceAdd, Nat.reduceLeDiff, F51, byPlace]
  (repeat' (first | refine And.intro ?_ ?_ | intro _)) <;> first | simp_all
/-! (impl.Param).named -/
def L63_0 : List AStep := [⟨.box 39 (.t 0), (some 1), none, []⟩, ⟨.mov (.c (.bool false)), (some 2), none, []⟩]
theorem v63_0 : VS L63_0.eq_1 := rfl
def L63_1 : List AStep := [⟨.mov (.t 10), (some 2), none, []⟩]
theorem v63_1 : VS L63_1.eq_1 := rfl
def L63_2 : List AStep := ⟨.bin .eql (.t 8) (.c (.int .i64 3)), (some 9), (some (6, false)), []⟩ :: ⟨.pick (.t 6) (.c (.bool true)) (.t 9), (some 10), none, []⟩ :: L63_1
theorem v63_2 : VS L63_2.eq_1 := rfl
def L63_3 : List AStep := ⟨.faddr 1 (.t 1), (some 7), (some (6, false)), []⟩ :: ⟨.load 1 false (.t 7), (some 8), (some (6, false)), []⟩ :: L63_2
theorem v63_3 : VS L63_3.eq_1 := rfl
def L63_4 : List AStep := ⟨.bin .eql (.t 4) (.c (.int .i64 1)), (some 5), none, []⟩ :: ⟨.mov (.t 5), (some 6), none, []⟩ :: L63_3
theorem v63_4 : VS L63_4.eq_1 := rfl
def L63_5 : List AStep := ⟨.faddr 1 (.t 1), (some 3), none, []⟩ :: ⟨.load 1 false (.t 3), (some 4), none, []⟩ :: L63_4
theorem v63_5 : VS L63_5.eq_1 := rfl
def C63_0 : ACode := .seq (.reg L63_5) .ret
theorem u63_0 : VC C63_0.eq_1 := rfl
def C63_1 : ACode := .seq (.reg L63_0) C63_0
theorem u63_1 : VC C63_1.eq_1 := rfl
def F63 : AFunc := ⟨11, [.tmp 2], C63_1⟩
theorem cF63 : compB Try.prog 63 = some F63 := by kernel_rfl
attribute [local go_sem ↓] u63_0 u63_1 v63_0 v63_1 v63_2 v63_3 v63_4 v63_5
theorem c_named (p : Param) (h : H) : bm Try.prog 63 [.agg (encQ p)] h = some (ib (byName p), h) := by
  refine bm_eq cF63 ?_
  simp +contextual (maxSteps := 2000000) only [go_sem, Nat.reduceEqDiff, reduceCtorEq, Nat.reduceAdd, Nat.reduceLeDiff, F63, byName]
  (repeat' (first | refine And.intro ?_ ?_ | intro _)) <;> first | simp_all
/-! (impl.Param).single -/
def L76_0 : List AStep := [⟨.box 39 (.t 0), (some 1), none, []⟩, ⟨.mov (.c (.bool false)), (some 2), none, []⟩]
theorem v76_0 : VS L76_0.eq_1 := rfl
def L76_1 : List AStep := [⟨.pick (.t 5) (.c (.bool true)) (.t 8), (some 9), none, []⟩, ⟨.mov (.t 9), (some 2), none, []⟩]
theorem v76_1 : VS L76_1.eq_1 := rfl
def L76_2 : List AStep := ⟨.load 1 false (.t 6), (some 7), (some (5, false)), []⟩ :: ⟨.bin .eql (.t 7) (.c (.int .i64 3)), (some 8), (some (5, false)), []⟩ :: L76_1
theorem v76_2 : VS L76_2.eq_1 := rfl
def L76_3 : List AStep := ⟨.mov (.t 4), (some 5), none, []⟩ :: ⟨.faddr 1 (.t 1), (some 6), (some (5, false)), []⟩ :: L76_2
theorem v76_3 : VS L76_3.eq_1 := rfl
def L76_4 : List AStep := ⟨.load 4 true (.t 1), (some 3), none, []⟩ :: ⟨.call 51 [(.t 3)], (some 4), none, []⟩ :: L76_3
theorem v76_4 : VS L76_4.eq_1 := rfl
def C76_0 : ACode := .seq (.reg L76_4) .ret
theorem u76_0 : VC C76_0.eq_1 := rfl
def C76_1 : ACode := .seq (.reg L76_0) C76_0
theorem u76_1 : VC C76_1.eq_1 := rfl
def F76 : AFunc := ⟨10, [.tmp 2], C76_1⟩
theorem cF76 : compB Try.prog 76 = some F76 := by kernel_rfl
attribute [local go_sem ↓] u76_0 u76_1 v76_0 v76_1 v76_2 v76_3 v76_4
theorem c_single (p : Param) (h : H) : bm Try.prog 76 [.agg (encQ p)] h = some (ib (single p), h) := by
  refine bm_eq cF76 ?_
  simp +contextual (maxSteps := 2000000) only [go_sem, Nat.reduceEqDiff, reduceCtorEq, Nat.reduceAdd, Nat.reduceLeDiff, F76, c_placed, single_eq]
  (repeat' (first | refine And.intro ?_ ?_ | intro _)) <;> first | simp_all
/-! (impl.Pair).valid -/
def L78_0 : List AStep := [⟨.box 64 (.t 0), (some 1), none, []⟩, ⟨.mov (.c (.bool false)), (some 2), none, []⟩]
theorem v78_0 : VS L78_0.eq_1 := rfl
def L78_1 : List AStep := [⟨.mov (.t 10), (some 2), none, []⟩]
theorem v78_1 : VS L78_1.eq_1 := rfl
def L78_2 : List AStep := ⟨.call 75 [(.t 8)], (some 9), (some (6, true)), []⟩ :: ⟨.pick (.t 6) (.t 9) (.c (.bool false)), (some 10), none, []⟩ :: L78_1
theorem v78_2 : VS L78_2.eq_1 := rfl
def L78_3 : List AStep := ⟨.faddr 1 (.t 1), (some 7), (some (6, true)), []⟩ :: ⟨.load 1 false (.t 7), (some 8), (some (6, true)), []⟩ :: L78_2
theorem v78_3 : VS L78_3.eq_1 := rfl
def L78_4 : List AStep := ⟨.call 68 [(.t 4)], (some 5), none, []⟩ :: ⟨.mov (.t 5), (some 6), none, []⟩ :: L78_3
theorem v78_4 : VS L78_4.eq_1 := rfl
def L78_5 : List AStep := ⟨.faddr 0 (.t 1), (some 3), none, []⟩ :: ⟨.load 1 false (.t 3), (some 4), none, []⟩ :: L78_4
theorem v78_5 : VS L78_5.eq_1 := rfl
def C78_0 : ACode := .seq (.reg L78_5) .ret
theorem u78_0 : VC C78_0.eq_1 := rfl
def C78_1 : ACode := .seq (.reg L78_0) C78_0
theorem u78_1 : VC C78_1.eq_1 := rfl
def F78 : AFunc := ⟨11, [.tmp 2], C78_1⟩
theorem cF78 : compB Try.prog 78 = some F78 := by kernel_rfl
attribute [local go_sem ↓] u78_0 u78_1 v78_0 v78_1 v78_2 v78_3 v78_4 v78_5
theorem c_okPair (p : Pair) (h : H) (hn : p.name.size < 2 ^ 62) : bm Try.prog 78 [.agg (encP p)] h = some (ib (okPair p), h) := by
  refine bm_eq cF78 ?_
  simp +contextual (maxSteps := 2000000) only [go_sem, Nat.reduceEqDiff, reduceCtorEq, Nat.reduceAdd, Nat.reduceLeDiff, F78, c_isName _ _ hn, c_isValue, okPair]
  (repeat' (first | refine And.intro ?_ ?_ | intro _)) <;> first | simp_all
/-! slices.IndexFunc(()impl.Pair,impl.Pair) -/
def L110_0 : List AStep := [⟨.mov (.c (.int .i64 0)), (some 4), none, []⟩]
theorem v110_0 : VS L110_0.eq_1 := rfl
def L110_1 : List AStep := [⟨.mov (.c (.int .i64 0)), (some 8), none, []⟩]
theorem v110_1 : VS L110_1.eq_1 := rfl
def L110_2 : List AStep := ⟨.mov (.t 0), (some 6), none, []⟩ :: ⟨.len (.t 6), (some 7), none, []⟩ :: L110_1
theorem v110_2 : VS L110_2.eq_1 := rfl
def L110_3 : List AStep := [⟨.bin .lss (.t 8) (.t 7), (some 9), none, []⟩]
theorem v110_3 : VS L110_3.eq_1 := rfl
def L110_4 : List AStep := [⟨.mov (.t 8), (some 10), none, []⟩, ⟨.mov (.t 10), (some 5), none, []⟩]
theorem v110_4 : VS L110_4.eq_1 := rfl
def L110_5 : List AStep := [⟨.load 2 true (.t 14), (some 15), none, []⟩, ⟨.callv (.t 11) [(.t 15)], (some 16), none, []⟩]
theorem v110_5 : VS L110_5.eq_1 := rfl
def L110_6 : List AStep := ⟨.mov (.t 5), (some 13), none, []⟩ :: ⟨.iaddr 2 (.t 12) (.t 13), (some 14), none, []⟩ :: L110_5
theorem v110_6 : VS L110_6.eq_1 := rfl
def L110_7 : List AStep := ⟨.mov (.t 1), (some 11), none, []⟩ :: ⟨.mov (.t 0), (some 12), none, []⟩ :: L110_6
theorem v110_7 : VS L110_7.eq_1 := rfl
def L110_8 : List AStep := [⟨.mov (.t 5), (some 17), none, []⟩, ⟨.mov (.t 17), (some 4), none, []⟩]
theorem v110_8 : VS L110_8.eq_1 := rfl
def L110_9 : List AStep := [⟨.bin .add (.t 8) (.c (.int .i64 1)), (some 18), none, []⟩, ⟨.mov (.t 18), (some 8), none, []⟩]
theorem v110_9 : VS L110_9.eq_1 := rfl
def L110_10 : List AStep := [⟨.mov (.c (.int .i64 (-1))), (some 4), none, []⟩]
theorem v110_10 : VS L110_10.eq_1 := rfl
def C110_0 : ACode := .cond (.t 9) .skip (.exit 0)
theorem u110_0 : VC C110_0.eq_1 := rfl
def C110_1 : ACode := .seq (.reg L110_8) .ret
theorem u110_1 : VC C110_1.eq_1 := rfl
def C110_2 : ACode := .cond (.t 16) C110_1 .skip
theorem u110_2 : VC C110_2.eq_1 := rfl
def C110_3 : ACode := .seq (.reg L110_7) C110_2
theorem u110_3 : VC C110_3.eq_1 := rfl
def C110_4 : ACode := .seq (.reg L110_4) C110_3
theorem u110_4 : VC C110_4.eq_1 := rfl
def C110_5 : ACode := .block 1 C110_4
theorem u110_5 : VC C110_5.eq_1 := rfl
def C110_6 : ACode := .seq C110_5 (.reg L110_9)
theorem u110_6 : VC C110_6.eq_1 := rfl
def C110_7 : ACode := .seq C110_0 C110_6
theorem u110_7 : VC C110_7.eq_1 := rfl
def C110_8 : ACode := .seq (.reg L110_3) C110_7
theorem u110_8 : VC C110_8.eq_1 := rfl
def C110_9 : ACode := .block 0 (.loop C110_8)
theorem u110_9 : VC C110_9.eq_1 := rfl
def C110_10 : ACode := .seq (.reg L110_2) C110_9
theorem u110_10 : VC C110_10.eq_1 := rfl
def C110_11 : ACode := .seq (.reg L110_10) .ret
theorem u110_11 : VC C110_11.eq_1 := rfl
def C110_12 : ACode := .seq C110_10 C110_11
theorem u110_12 : VC C110_12.eq_1 := rfl
def C110_13 : ACode := .seq (.reg L110_0) C110_12
theorem u110_13 : VC C110_13.eq_1 := rfl
def F110 : AFunc := ⟨19, [.tmp 4], C110_13⟩
theorem cF110 : compB Try.prog 110 = some F110 := by kernel_rfl
attribute [local go_sem ↓] u110_0 u110_1 u110_2 u110_3 u110_4 u110_5 u110_6 u110_7 u110_8 u110_9 u110_10 u110_11 u110_12 u110_13 v110_0 v110_1 v110_2 v110_3 v110_4 v110_5 v110_6 v110_7 v110_8 v110_9 v110_10
theorem c_indexP (l : List Pair) (v : AV) (f : Nat) (caps : List (Nat × Nat)) (p : Pair → Bool) (h : H) (hl : SlP h v l) (hn : l.length ≤ big) (hf : ∀ i (hi : i < l.length), ∀ x, x = l[i] → bm Try.prog f (.agg (encP x) :: caps.map fun a => .one (.ptr (some a))) h = some (ib (p x), h)) :
    bm Try.prog 110 [v, .one (.fn f caps)] h = some (ii (idx p l), h) := by
  refine bm_eq cF110 ?_
  simp +contextual (maxSteps := 2000000) only [go_sem, Nat.reduceEqDiff, reduceCtorEq, Nat.reduceAdd, Nat.reduceLeDiff, F110, hl.len]
  refine wpC_loop (fun i T L h' => h' = h ∧ T 0 = .v v ∧ T 1 = .v (.one (.fn f caps)) ∧ T 7 = .v (.one (.int .i64 l.length)) ∧ T 8 = .v (.one (.int .i64 i)) ∧ Pre p false l i) l.length ?_ ?_ (Nat.zero_le _) ?_
  · rintro i T L h' hi ⟨rfl, h0, h1, h7, h8, hp⟩
    simp +contextual (maxSteps := 2000000) only [go_sem, Nat.reduceEqDiff, reduceCtorEq, Nat.reduceAdd, Nat.reduceLeDiff, h0, h1, h7, h8, hl.iaddr hi, hl.whole hi, hf i hi _ rfl, lt_true hi]
    (repeat' (first | refine And.intro ?_ ?_ | intro _)) <;> first | rfl | rw [wrap_next hi (big_lt hn)] | exact hp.next hi ‹_› | rw [idx_hit hi hp ‹_›]
  · rintro T L h' ⟨rfl, h0, h1, h7, h8, hp⟩
    simp +contextual (maxSteps := 2000000) only [go_sem, Nat.reduceEqDiff, reduceCtorEq, Nat.reduceAdd, Nat.reduceLeDiff, h0, h1, h7, h8, lt_false, idx_none hp]
  · simp +contextual (maxSteps := 2000000) only [go_sem, Nat.reduceEqDiff, reduceCtorEq, Nat.reduceAdd, Nat.reduceLeDiff]
    (repeat' (first | refine And.intro ?_ ?_ | intro _)) <;> first | rfl | exact Pre.zero
/-! slices.IndexFunc(()impl.Param,impl.Param) -/
def L121_0 : List AStep := [⟨.mov (.c (.int .i64 0)), (some 4), none, []⟩]
theorem v121_0 : VS L121_0.eq_1 := rfl
def L121_1 : List AStep := [⟨.mov (.c (.int .i64 0)), (some 8), none, []⟩]
theorem v121_1 : VS L121_1.eq_1 := rfl
def L121_2 : List AStep := ⟨.mov (.t 0), (some 6), none, []⟩ :: ⟨.len (.t 6), (some 7), none, []⟩ :: L121_1
theorem v121_2 : VS L121_2.eq_1 := rfl
def L121_3 : List AStep := [⟨.bin .lss (.t 8) (.t 7), (some 9), none, []⟩]
theorem v121_3 : VS L121_3.eq_1 := rfl
def L121_4 : List AStep := [⟨.mov (.t 8), (some 10), none, []⟩, ⟨.mov (.t 10), (some 5), none, []⟩]
theorem v121_4 : VS L121_4.eq_1 := rfl
def L121_5 : List AStep := [⟨.load 4 true (.t 14), (some 15), none, []⟩, ⟨.callv (.t 11) [(.t 15)], (some 16), none, []⟩]
theorem v121_5 : VS L121_5.eq_1 := rfl
def L121_6 : List AStep := ⟨.mov (.t 5), (some 13), none, []⟩ :: ⟨.iaddr 4 (.t 12) (.t 13), (some 14), none, []⟩ :: L121_5
theorem v121_6 : VS L121_6.eq_1 := rfl
def L121_7 : List AStep := ⟨.mov (.t 1), (some 11), none, []⟩ :: ⟨.mov (.t 0), (some 12), none, []⟩ :: L121_6
theorem v121_7 : VS L121_7.eq_1 := rfl
def L121_8 : List AStep := [⟨.mov (.t 5), (some 17), none, []⟩, ⟨.mov (.t 17), (some 4), none, []⟩]
theorem v121_8 : VS L121_8.eq_1 := rfl
def L121_9 : List AStep := [⟨.bin .add (.t 8) (.c (.int .i64 1)), (some 18), none, []⟩, ⟨.mov (.t 18), (some 8), none, []⟩]
theorem v121_9 : VS L121_9.eq_1 := rfl
def L121_10 : List AStep := [⟨.mov (.c (.int .i64 (-1))), (some 4), none, []⟩]
theorem v121_10 : VS L121_10.eq_1 := rfl
def C121_0 : ACode := .cond (.t 9) .skip (.exit 0)
theorem u121_0 : VC C121_0.eq_1 := rfl
def C121_1 : ACode := .seq (.reg L121_8) .ret
theorem u121_1 : VC C121_1.eq_1 := rfl
def C121_2 : ACode := .cond (.t 16) C121_1 .skip
theorem u121_2 : VC C121_2.eq_1 := rfl
def C121_3 : ACode := .seq (.reg L121_7) C121_2
theorem u121_3 : VC C121_3.eq_1 := rfl
def C121_4 : ACode := .seq (.reg L121_4) C121_3
theorem u121_4 : VC C121_4.eq_1 := rfl
def C121_5 : ACode := .block 1 C121_4
theorem u121_5 : VC C121_5.eq_1 := rfl
def C121_6 : ACode := .seq C121_5 (.reg L121_9)
theorem u121_6 : VC C121_6.eq_1 := rfl
def C121_7 : ACode := .seq C121_0 C121_6
theorem u121_7 : VC C121_7.eq_1 := rfl
def C121_8 : ACode := .seq (.reg L121_3) C121_7
theorem u121_8 : VC C121_8.eq_1 := rfl
def C121_9 : ACode := .block 0 (.loop C121_8)
theorem u121_9 : VC C121_9.eq_1 := rfl
def C121_10 : ACode := .seq (.reg L121_2) C121_9
theorem u121_10 : VC C121_10.eq_1 := rfl
def C121_11 : ACode := .seq (.reg L121_10) .ret
theorem u121_11 : VC C121_11.eq_1 := rfl
def C121_12 : ACode := .seq C121_10 C121_11
theorem u121_12 : VC C121_12.eq_1 := rfl
def C121_13 : ACode := .seq (.reg L121_0) C121_12
theorem u121_13 : VC C121_13.eq_1 := rfl
def F121 : AFunc := ⟨19, [.tmp 4], C121_13⟩
theorem cF121 : compB Try.prog 121 = some F121 := by kernel_rfl
attribute [local go_sem ↓] u121_0 u121_1 u121_2 u121_3 u121_4 u121_5 u121_6 u121_7 u121_8 u121_9 u121_10 u121_11 u121_12 u121_13 v121_0 v121_1 v121_2 v121_3 v121_4 v121_5 v121_6 v121_7 v121_8 v121_9 v121_10
theorem c_indexQ (l : List Param) (v : AV) (f : Nat) (caps : List (Nat × Nat)) (p : Param → Bool) (h : H) (hl : SlQ h v l) (hn : l.length ≤ big) (hf : ∀ i (hi : i < l.length), ∀ x, x = l[i] → bm Try.prog f (.agg (encQ x) :: caps.map fun a => .one (.ptr (some a))) h = some (ib (p x), h)) :
    bm Try.prog 121 [v, .one (.fn f caps)] h = some (ii (idx p l), h) := by
  refine bm_eq cF121 ?_
  simp +contextual (maxSteps := 2000000) only [go_sem, Nat.reduceEqDiff, reduceCtorEq, Nat.reduceAdd, Nat.reduceLeDiff, F121, hl.len]
  refine wpC_loop (fun i T L h' => h' = h ∧ T 0 = .v v ∧ T 1 = .v (.one (.fn f caps)) ∧ T 7 = .v (.one (.int .i64 l.length)) ∧ T 8 = .v (.one (.int .i64 i)) ∧ Pre p false l i) l.length ?_ ?_ (Nat.zero_le _) ?_
  · rintro i T L h' hi ⟨rfl, h0, h1, h7, h8, hp⟩
    simp +contextual (maxSteps := 2000000) only [go_sem, Nat.reduceEqDiff, reduceCtorEq, Nat.reduceAdd, Nat.reduceLeDiff, h0, h1, h7, h8, hl.iaddr hi, hl.whole hi, hf i hi _ rfl, lt_true hi]
    (repeat' (first | refine And.intro ?_ ?_ | intro _)) <;> first | rfl | rw [wrap_next hi (big_lt hn)] | exact hp.next hi ‹_› | rw [idx_hit hi hp ‹_›]
  · rintro T L h' ⟨rfl, h0, h1, h7, h8, hp⟩
    simp +contextual (maxSteps := 2000000) only [go_sem, Nat.reduceEqDiff, reduceCtorEq, Nat.reduceAdd, Nat.reduceLeDiff, h0, h1, h7, h8, lt_false, idx_none hp]
  · simp +contextual (maxSteps := 2000000) only [go_sem, Nat.reduceEqDiff, reduceCtorEq, Nat.reduceAdd, Nat.reduceLeDiff]
    (repeat' (first | refine And.intro ?_ ?_ | intro _)) <;> first | rfl | exact Pre.zero
/-! slices.ContainsFunc(()impl.Param,impl.Param) -/
def L126_0 : List AStep := [⟨.mov (.c (.bool false)), (some 4), none, []⟩]
theorem v126_0 : VS L126_0.eq_1 := rfl
def L126_1 : List AStep := [⟨.mov (.t 8), (some 4), none, []⟩]
theorem v126_1 : VS L126_1.eq_1 := rfl
def L126_2 : List AStep := ⟨.call 121 [(.t 5), (.t 6)], (some 7), none, []⟩ :: ⟨.bin .geq (.t 7) (.c (.int .i64 0)), (some 8), none, []⟩ :: L126_1
theorem v126_2 : VS L126_2.eq_1 := rfl
def L126_3 : List AStep := ⟨.mov (.t 0), (some 5), none, []⟩ :: ⟨.mov (.t 1), (some 6), none, []⟩ :: L126_2
theorem v126_3 : VS L126_3.eq_1 := rfl
def C126_0 : ACode := .seq (.reg L126_3) .ret
theorem u126_0 : VC C126_0.eq_1 := rfl
def C126_1 : ACode := .seq (.reg L126_0) C126_0
theorem u126_1 : VC C126_1.eq_1 := rfl
def F126 : AFunc := ⟨9, [.tmp 4], C126_1⟩
theorem cF126 : compB Try.prog 126 = some F126 := by kernel_rfl
attribute [local go_sem ↓] u126_0 u126_1 v126_0 v126_1 v126_2 v126_3
theorem c_hasQ (l : List Param) (v : AV) (f : Nat) (caps : List (Nat × Nat)) (p : Param → Bool) (h : H) (hl : SlQ h v l) (hn : l.length ≤ big) (hf : ∀ i (hi : i < l.length), ∀ x, x = l[i] → bm Try.prog f (.agg (encQ x) :: caps.map fun a => .one (.ptr (some a))) h = some (ib (p x), h)) :
    bm Try.prog 126 [v, .one (.fn f caps)] h = some (ib (l.any p), h) := by
  refine bm_eq cF126 ?_
  have e := idx_any (p := p) (l := l)
  simp +contextual (maxSteps := 2000000) only [go_sem, Nat.reduceEqDiff, reduceCtorEq, Nat.reduceAdd, Nat.reduceLeDiff, F126, c_indexQ l v f caps p h hl hn hf, e]
/-! slices.IndexFunc(()int,int) -/
def L141_0 : List AStep := [⟨.mov (.c (.int .i64 0)), (some 4), none, []⟩]
theorem v141_0 : VS L141_0.eq_1 := rfl
def L141_1 : List AStep := [⟨.mov (.c (.int .i64 0)), (some 8), none, []⟩]
theorem v141_1 : VS L141_1.eq_1 := rfl
def L141_2 : List AStep := ⟨.mov (.t 0), (some 6), none, []⟩ :: ⟨.len (.t 6), (some 7), none, []⟩ :: L141_1
theorem v141_2 : VS L141_2.eq_1 := rfl
def L141_3 : List AStep := [⟨.bin .lss (.t 8) (.t 7), (some 9), none, []⟩]
theorem v141_3 : VS L141_3.eq_1 := rfl
def L141_4 : List AStep := [⟨.mov (.t 8), (some 10), none, []⟩, ⟨.mov (.t 10), (some 5), none, []⟩]
theorem v141_4 : VS L141_4.eq_1 := rfl
def L141_5 : List AStep := [⟨.load 1 false (.t 14), (some 15), none, []⟩, ⟨.callv (.t 11) [(.t 15)], (some 16), none, []⟩]
theorem v141_5 : VS L141_5.eq_1 := rfl
def L141_6 : List AStep := ⟨.mov (.t 5), (some 13), none, []⟩ :: ⟨.iaddr 1 (.t 12) (.t 13), (some 14), none, []⟩ :: L141_5
theorem v141_6 : VS L141_6.eq_1 := rfl
def L141_7 : List AStep := ⟨.mov (.t 1), (some 11), none, []⟩ :: ⟨.mov (.t 0), (some 12), none, []⟩ :: L141_6
theorem v141_7 : VS L141_7.eq_1 := rfl
def L141_8 : List AStep := [⟨.mov (.t 5), (some 17), none, []⟩, ⟨.mov (.t 17), (some 4), none, []⟩]
theorem v141_8 : VS L141_8.eq_1 := rfl
def L141_9 : List AStep := [⟨.bin .add (.t 8) (.c (.int .i64 1)), (some 18), none, []⟩, ⟨.mov (.t 18), (some 8), none, []⟩]
theorem v141_9 : VS L141_9.eq_1 := rfl
def L141_10 : List AStep := [⟨.mov (.c (.int .i64 (-1))), (some 4), none, []⟩]
theorem v141_10 : VS L141_10.eq_1 := rfl
def C141_0 : ACode := .cond (.t 9) .skip (.exit 0)
theorem u141_0 : VC C141_0.eq_1 := rfl
def C141_1 : ACode := .seq (.reg L141_8) .ret
theorem u141_1 : VC C141_1.eq_1 := rfl
def C141_2 : ACode := .cond (.t 16) C141_1 .skip
theorem u141_2 : VC C141_2.eq_1 := rfl
def C141_3 : ACode := .seq (.reg L141_7) C141_2
theorem u141_3 : VC C141_3.eq_1 := rfl
def C141_4 : ACode := .seq (.reg L141_4) C141_3
theorem u141_4 : VC C141_4.eq_1 := rfl
def C141_5 : ACode := .block 1 C141_4
theorem u141_5 : VC C141_5.eq_1 := rfl
def C141_6 : ACode := .seq C141_5 (.reg L141_9)
theorem u141_6 : VC C141_6.eq_1 := rfl
def C141_7 : ACode := .seq C141_0 C141_6
theorem u141_7 : VC C141_7.eq_1 := rfl
def C141_8 : ACode := .seq (.reg L141_3) C141_7
theorem u141_8 : VC C141_8.eq_1 := rfl
def C141_9 : ACode := .block 0 (.loop C141_8)
theorem u141_9 : VC C141_9.eq_1 := rfl
def C141_10 : ACode := .seq (.reg L141_2) C141_9
theorem u141_10 : VC C141_10.eq_1 := rfl
def C141_11 : ACode := .seq (.reg L141_10) .ret
theorem u141_11 : VC C141_11.eq_1 := rfl
def C141_12 : ACode := .seq C141_10 C141_11
theorem u141_12 : VC C141_12.eq_1 := rfl
def C141_13 : ACode := .seq (.reg L141_0) C141_12
theorem u141_13 : VC C141_13.eq_1 := rfl
def F141 : AFunc := ⟨19, [.tmp 4], C141_13⟩
theorem cF141 : compB Try.prog 141 = some F141 := by kernel_rfl
attribute [local go_sem ↓] u141_0 u141_1 u141_2 u141_3 u141_4 u141_5 u141_6 u141_7 u141_8 u141_9 u141_10 u141_11 u141_12 u141_13 v141_0 v141_1 v141_2 v141_3 v141_4 v141_5 v141_6 v141_7 v141_8 v141_9 v141_10
theorem c_indexI (l : List Int) (v : AV) (f : Nat) (caps : List (Nat × Nat)) (p : Int → Bool) (h : H) (hl : SlI h v l) (hn : l.length ≤ big) (hf : ∀ i (hi : i < l.length), ∀ x, x = l[i] → bm Try.prog f (.one (.int .i64 x) :: caps.map fun a => .one (.ptr (some a))) h = some (ib (p x), h)) :
    bm Try.prog 141 [v, .one (.fn f caps)] h = some (ii (idx p l), h) := by
  refine bm_eq cF141 ?_
  simp +contextual (maxSteps := 2000000) only [go_sem, Nat.reduceEqDiff, reduceCtorEq, Nat.reduceAdd, Nat.reduceLeDiff, F141, hl.len]
  refine wpC_loop (fun i T L h' => h' = h ∧ T 0 = .v v ∧ T 1 = .v (.one (.fn f caps)) ∧ T 7 = .v (.one (.int .i64 l.length)) ∧ T 8 = .v (.one (.int .i64 i)) ∧ Pre p false l i) l.length ?_ ?_ (Nat.zero_le _) ?_
  · rintro i T L h' hi ⟨rfl, h0, h1, h7, h8, hp⟩
    simp +contextual (maxSteps := 2000000) only [go_sem, Nat.reduceEqDiff, reduceCtorEq, Nat.reduceAdd, Nat.reduceLeDiff, h0, h1, h7, h8, hl.iaddr hi, hl.oneO hi, hf i hi _ rfl, lt_true hi]
    (repeat' (first | refine And.intro ?_ ?_ | intro _)) <;> first | rfl | rw [wrap_next hi (big_lt hn)] | exact hp.next hi ‹_› | rw [idx_hit hi hp ‹_›]
  · rintro T L h' ⟨rfl, h0, h1, h7, h8, hp⟩
    simp +contextual (maxSteps := 2000000) only [go_sem, Nat.reduceEqDiff, reduceCtorEq, Nat.reduceAdd, Nat.reduceLeDiff, h0, h1, h7, h8, lt_false, idx_none hp]
  · simp +contextual (maxSteps := 2000000) only [go_sem, Nat.reduceEqDiff, reduceCtorEq, Nat.reduceAdd, Nat.reduceLeDiff]
    (repeat' (first | refine And.intro ?_ ?_ | intro _)) <;> first | rfl | exact Pre.zero
/-! slices.ContainsFunc(()int,int) -/
def L123_0 : List AStep := [⟨.mov (.c (.bool false)), (some 4), none, []⟩]
theorem v123_0 : VS L123_0.eq_1 := rfl
def L123_1 : List AStep := [⟨.mov (.t 8), (some 4), none, []⟩]
theorem v123_1 : VS L123_1.eq_1 := rfl
def L123_2 : List AStep := ⟨.call 141 [(.t 5), (.t 6)], (some 7), none, []⟩ :: ⟨.bin .geq (.t 7) (.c (.int .i64 0)), (some 8), none, []⟩ :: L123_1
theorem v123_2 : VS L123_2.eq_1 := rfl
def L123_3 : List AStep := ⟨.mov (.t 0), (some 5), none, []⟩ :: ⟨.mov (.t 1), (some 6), none, []⟩ :: L123_2
theorem v123_3 : VS L123_3.eq_1 := rfl
def C123_0 : ACode := .seq (.reg L123_3) .ret
theorem u123_0 : VC C123_0.eq_1 := rfl
def C123_1 : ACode := .seq (.reg L123_0) C123_0
theorem u123_1 : VC C123_1.eq_1 := rfl
def F123 : AFunc := ⟨9, [.tmp 4], C123_1⟩
theorem cF123 : compB Try.prog 123 = some F123 := by kernel_rfl
attribute [local go_sem ↓] u123_0 u123_1 v123_0 v123_1 v123_2 v123_3
theorem c_hasI (l : List Int) (v : AV) (f : Nat) (caps : List (Nat × Nat)) (p : Int → Bool) (h : H) (hl : SlI h v l) (hn : l.length ≤ big) (hf : ∀ i (hi : i < l.length), ∀ x, x = l[i] → bm Try.prog f (.one (.int .i64 x) :: caps.map fun a => .one (.ptr (some a))) h = some (ib (p x), h)) :
    bm Try.prog 123 [v, .one (.fn f caps)] h = some (ib (l.any p), h) := by
  refine bm_eq cF123 ?_
  have e := idx_any (p := p) (l := l)
  simp +contextual (maxSteps := 2000000) only [go_sem, Nat.reduceEqDiff, reduceCtorEq, Nat.reduceAdd, Nat.reduceLeDiff, F123, c_indexI l v f caps p h hl hn hf, e]
/-! slices.IndexFunc(()impl.Problem,impl.Problem) -/
def L117_0 : List AStep := [⟨.mov (.c (.int .i64 0)), (some 4), none, []⟩]
theorem v117_0 : VS L117_0.eq_1 := rfl
def L117_1 : List AStep := [⟨.mov (.c (.int .i64 0)), (some 8), none, []⟩]
theorem v117_1 : VS L117_1.eq_1 := rfl
def L117_2 : List AStep := ⟨.mov (.t 0), (some 6), none, []⟩ :: ⟨.len (.t 6), (some 7), none, []⟩ :: L117_1
theorem v117_2 : VS L117_2.eq_1 := rfl
def L117_3 : List AStep := [⟨.bin .lss (.t 8) (.t 7), (some 9), none, []⟩]
theorem v117_3 : VS L117_3.eq_1 := rfl
def L117_4 : List AStep := [⟨.mov (.t 8), (some 10), none, []⟩, ⟨.mov (.t 10), (some 5), none, []⟩]
theorem v117_4 : VS L117_4.eq_1 := rfl
def L117_5 : List AStep := [⟨.load 2 true (.t 14), (some 15), none, []⟩, ⟨.callv (.t 11) [(.t 15)], (some 16), none, []⟩]
theorem v117_5 : VS L117_5.eq_1 := rfl
def L117_6 : List AStep := ⟨.mov (.t 5), (some 13), none, []⟩ :: ⟨.iaddr 2 (.t 12) (.t 13), (some 14), none, []⟩ :: L117_5
theorem v117_6 : VS L117_6.eq_1 := rfl
def L117_7 : List AStep := ⟨.mov (.t 1), (some 11), none, []⟩ :: ⟨.mov (.t 0), (some 12), none, []⟩ :: L117_6
theorem v117_7 : VS L117_7.eq_1 := rfl
def L117_8 : List AStep := [⟨.mov (.t 5), (some 17), none, []⟩, ⟨.mov (.t 17), (some 4), none, []⟩]
theorem v117_8 : VS L117_8.eq_1 := rfl
def L117_9 : List AStep := [⟨.bin .add (.t 8) (.c (.int .i64 1)), (some 18), none, []⟩, ⟨.mov (.t 18), (some 8), none, []⟩]
theorem v117_9 : VS L117_9.eq_1 := rfl
def L117_10 : List AStep := [⟨.mov (.c (.int .i64 (-1))), (some 4), none, []⟩]
theorem v117_10 : VS L117_10.eq_1 := rfl
def C117_0 : ACode := .cond (.t 9) .skip (.exit 0)
theorem u117_0 : VC C117_0.eq_1 := rfl
def C117_1 : ACode := .seq (.reg L117_8) .ret
theorem u117_1 : VC C117_1.eq_1 := rfl
def C117_2 : ACode := .cond (.t 16) C117_1 .skip
theorem u117_2 : VC C117_2.eq_1 := rfl
def C117_3 : ACode := .seq (.reg L117_7) C117_2
theorem u117_3 : VC C117_3.eq_1 := rfl
def C117_4 : ACode := .seq (.reg L117_4) C117_3
theorem u117_4 : VC C117_4.eq_1 := rfl
def C117_5 : ACode := .block 1 C117_4
theorem u117_5 : VC C117_5.eq_1 := rfl
def C117_6 : ACode := .seq C117_5 (.reg L117_9)
theorem u117_6 : VC C117_6.eq_1 := rfl
def C117_7 : ACode := .seq C117_0 C117_6
theorem u117_7 : VC C117_7.eq_1 := rfl
def C117_8 : ACode := .seq (.reg L117_3) C117_7
theorem u117_8 : VC C117_8.eq_1 := rfl
def C117_9 : ACode := .block 0 (.loop C117_8)
theorem u117_9 : VC C117_9.eq_1 := rfl
def C117_10 : ACode := .seq (.reg L117_2) C117_9
theorem u117_10 : VC C117_10.eq_1 := rfl
def C117_11 : ACode := .seq (.reg L117_10) .ret
theorem u117_11 : VC C117_11.eq_1 := rfl
def C117_12 : ACode := .seq C117_10 C117_11
theorem u117_12 : VC C117_12.eq_1 := rfl
def C117_13 : ACode := .seq (.reg L117_0) C117_12
theorem u117_13 : VC C117_13.eq_1 := rfl
def F117 : AFunc := ⟨19, [.tmp 4], C117_13⟩
theorem cF117 : compB Try.prog 117 = some F117 := by kernel_rfl
attribute [local go_sem ↓] u117_0 u117_1 u117_2 u117_3 u117_4 u117_5 u117_6 u117_7 u117_8 u117_9 u117_10 u117_11 u117_12 u117_13 v117_0 v117_1 v117_2 v117_3 v117_4 v117_5 v117_6 v117_7 v117_8 v117_9 v117_10
theorem c_indexB (l : List Problem) (v : AV) (f : Nat) (caps : List (Nat × Nat)) (p : Problem → Bool) (h : H) (hl : SlB h v l) (hn : l.length ≤ big) (hf : ∀ i (hi : i < l.length), ∀ x, x = l[i] → bm Try.prog f (.agg (encB x) :: caps.map fun a => .one (.ptr (some a))) h = some (ib (p x), h)) :
    bm Try.prog 117 [v, .one (.fn f caps)] h = some (ii (idx p l), h) := by
  refine bm_eq cF117 ?_
  simp +contextual (maxSteps := 2000000) only [go_sem, Nat.reduceEqDiff, reduceCtorEq, Nat.reduceAdd, Nat.reduceLeDiff, F117, hl.len]
  refine wpC_loop (fun i T L h' => h' = h ∧ T 0 = .v v ∧ T 1 = .v (.one (.fn f caps)) ∧ T 7 = .v (.one (.int .i64 l.length)) ∧ T 8 = .v (.one (.int .i64 i)) ∧ Pre p false l i) l.length ?_ ?_ (Nat.zero_le _) ?_
  · rintro i T L h' hi ⟨rfl, h0, h1, h7, h8, hp⟩
    simp +contextual (maxSteps := 2000000) only [go_sem, Nat.reduceEqDiff, reduceCtorEq, Nat.reduceAdd, Nat.reduceLeDiff, h0, h1, h7, h8, hl.iaddr hi, hl.whole hi, hf i hi _ rfl, lt_true hi]
    (repeat' (first | refine And.intro ?_ ?_ | intro _)) <;> first | rfl | rw [wrap_next hi (big_lt hn)] | exact hp.next hi ‹_› | rw [idx_hit hi hp ‹_›]
  · rintro T L h' ⟨rfl, h0, h1, h7, h8, hp⟩
    simp +contextual (maxSteps := 2000000) only [go_sem, Nat.reduceEqDiff, reduceCtorEq, Nat.reduceAdd, Nat.reduceLeDiff, h0, h1, h7, h8, lt_false, idx_none hp]
  · simp +contextual (maxSteps := 2000000) only [go_sem, Nat.reduceEqDiff, reduceCtorEq, Nat.reduceAdd, Nat.reduceLeDiff]
    (repeat' (first | refine And.intro ?_ ?_ | intro _)) <;> first | rfl | exact Pre.zero
/-! slices.ContainsFunc(()impl.Problem,impl.Problem) -/
def L70_0 : List AStep := [⟨.mov (.c (.bool false)), (some 4), none, []⟩]
theorem v70_0 : VS L70_0.eq_1 := rfl
def L70_1 : List AStep := [⟨.mov (.t 8), (some 4), none, []⟩]
theorem v70_1 : VS L70_1.eq_1 := rfl
def L70_2 : List AStep := ⟨.call 117 [(.t 5), (.t 6)], (some 7), none, []⟩ :: ⟨.bin .geq (.t 7) (.c (.int .i64 0)), (some 8), none, []⟩ :: L70_1
theorem v70_2 : VS L70_2.eq_1 := rfl
def L70_3 : List AStep := ⟨.mov (.t 0), (some 5), none, []⟩ :: ⟨.mov (.t 1), (some 6), none, []⟩ :: L70_2
theorem v70_3 : VS L70_3.eq_1 := rfl
def C70_0 : ACode := .seq (.reg L70_3) .ret
theorem u70_0 : VC C70_0.eq_1 := rfl
def C70_1 : ACode := .seq (.reg L70_0) C70_0
theorem u70_1 : VC C70_1.eq_1 := rfl
def F70 : AFunc := ⟨9, [.tmp 4], C70_1⟩
theorem cF70 : compB Try.prog 70 = some F70 := by kernel_rfl
attribute [local go_sem ↓] u70_0 u70_1 v70_0 v70_1 v70_2 v70_3
theorem c_hasB (l : List Problem) (v : AV) (f : Nat) (caps : List (Nat × Nat)) (p : Problem → Bool) (h : H) (hl : SlB h v l) (hn : l.length ≤ big) (hf : ∀ i (hi : i < l.length), ∀ x, x = l[i] → bm Try.prog f (.agg (encB x) :: caps.map fun a => .one (.ptr (some a))) h = some (ib (p x), h)) :
    bm Try.prog 70 [v, .one (.fn f caps)] h = some (ib (l.any p), h) := by
  refine bm_eq cF70 ?_
  have e := idx_any (p := p) (l := l)
  simp +contextual (maxSteps := 2000000) only [go_sem, Nat.reduceEqDiff, reduceCtorEq, Nat.reduceAdd, Nat.reduceLeDiff, F70, c_indexB l v f caps p h hl hn hf, e]
/-! impl.pairAt$1 -/
def L111_0 : List AStep := [⟨.box 64 (.t 0), (some 2), none, []⟩, ⟨.mov (.c (.bool false)), (some 3), none, []⟩]
theorem v111_0 : VS L111_0.eq_1 := rfl
def L111_1 : List AStep := [⟨.mov (.t 7), (some 3), none, []⟩]
theorem v111_1 : VS L111_1.eq_1 := rfl
def L111_2 : List AStep := ⟨.load 1 false (.t 1), (some 6), none, []⟩ :: ⟨.bin .eql (.t 5) (.t 6), (some 7), none, []⟩ :: L111_1
theorem v111_2 : VS L111_2.eq_1 := rfl
def L111_3 : List AStep := ⟨.faddr 0 (.t 2), (some 4), none, []⟩ :: ⟨.load 1 false (.t 4), (some 5), none, []⟩ :: L111_2
theorem v111_3 : VS L111_3.eq_1 := rfl
def C111_0 : ACode := .seq (.reg L111_3) .ret
theorem u111_0 : VC C111_0.eq_1 := rfl
def C111_1 : ACode := .seq (.reg L111_0) C111_0
theorem u111_1 : VC C111_1.eq_1 := rfl
def F111 : AFunc := ⟨8, [.tmp 3], C111_1⟩
theorem cF111 : compB Try.prog 111 = some F111 := by kernel_rfl
attribute [local go_sem ↓] u111_0 u111_1 v111_0 v111_1 v111_2 v111_3
theorem c_pairAt1 (p : Pair) (a : Nat × Nat) (s : ByteArray) (h : H) (ha : loadO 1 false h (.one (.ptr (some a))) = some (.one (.str s))) : bm Try.prog 111 [.agg (encP p), .one (.ptr (some a))] h = some (ib (decide (p.name = s)), h) := by
  refine bm_eq cF111 ?_
  simp +contextual (maxSteps := 2000000) only [go_sem, Nat.reduceEqDiff, reduceCtorEq, Nat.reduceAdd, Nat.reduceLeDiff, F111, ha]
/-! impl.pairAt -/
def L62_0 : List AStep := [⟨.box 9 (.t 1), (some 3), none, []⟩, ⟨.mov (.c (.int .i64 0)), (some 4), none, []⟩]
theorem v62_0 : VS L62_0.eq_1 := rfl
def L62_1 : List AStep := [⟨.call 110 [(.t 5), (.t 6)], (some 7), none, []⟩, ⟨.mov (.t 7), (some 4), none, []⟩]
theorem v62_1 : VS L62_1.eq_1 := rfl
def L62_2 : List AStep := ⟨.mov (.t 0), (some 5), none, []⟩ :: ⟨.mkfn 111 [(.t 3)], (some 6), none, []⟩ :: L62_1
theorem v62_2 : VS L62_2.eq_1 := rfl
def C62_0 : ACode := .seq (.reg L62_2) .ret
theorem u62_0 : VC C62_0.eq_1 := rfl
def C62_1 : ACode := .seq (.reg L62_0) C62_0
theorem u62_1 : VC C62_1.eq_1 := rfl
def F62 : AFunc := ⟨8, [.tmp 4], C62_1⟩
theorem cF62 : compB Try.prog 62 = some F62 := by kernel_rfl
attribute [local go_sem ↓] u62_0 u62_1 v62_0 v62_1 v62_2
theorem c_pairAtI (l : List Pair) (v : AV) (s : ByteArray) (h : H) (hl : SlP h v l) (hn : smP l) : bm Try.prog 62 [v, .one (.str s)] h = some (ii (pairAt l s), h) := by
  refine bm_eq cF62 ?_
  have e := c_indexP l v 111 [(h.n, 0)] (fun p => decide (p.name = s)) (h.alloc [.str s] 9) (hl.grow (Grow.alloc _ _ _)) hn.1 (fun i hi x hx => c_pairAt1 x (h.n, 0) s _ (Box.new.one rfl))
  simp +contextual (maxSteps := 2000000) only [go_sem, Nat.reduceEqDiff, reduceCtorEq, Nat.reduceAdd, Nat.reduceLeDiff, F62, e, pairAt]
/-! impl.find$1 -/
def L122_0 : List AStep := [⟨.box 39 (.t 0), (some 2), none, []⟩, ⟨.mov (.c (.bool false)), (some 3), none, []⟩]
theorem v122_0 : VS L122_0.eq_1 := rfl
def L122_1 : List AStep := [⟨.mov (.t 7), (some 3), none, []⟩]
theorem v122_1 : VS L122_1.eq_1 := rfl
def L122_2 : List AStep := ⟨.load 1 false (.t 1), (some 6), none, []⟩ :: ⟨.bin .eql (.t 5) (.t 6), (some 7), none, []⟩ :: L122_1
theorem v122_2 : VS L122_2.eq_1 := rfl
def L122_3 : List AStep := ⟨.faddr 0 (.t 2), (some 4), none, []⟩ :: ⟨.load 1 false (.t 4), (some 5), none, []⟩ :: L122_2
theorem v122_3 : VS L122_3.eq_1 := rfl
def C122_0 : ACode := .seq (.reg L122_3) .ret
theorem u122_0 : VC C122_0.eq_1 := rfl
def C122_1 : ACode := .seq (.reg L122_0) C122_0
theorem u122_1 : VC C122_1.eq_1 := rfl
def F122 : AFunc := ⟨8, [.tmp 3], C122_1⟩
theorem cF122 : compB Try.prog 122 = some F122 := by kernel_rfl
attribute [local go_sem ↓] u122_0 u122_1 v122_0 v122_1 v122_2 v122_3
theorem c_find1 (p : Param) (a : Nat × Nat) (s : ByteArray) (h : H) (ha : loadO 1 false h (.one (.ptr (some a))) = some (.one (.str s))) : bm Try.prog 122 [.agg (encQ p), .one (.ptr (some a))] h = some (ib (decide (p.name = s)), h) := by
  refine bm_eq cF122 ?_
  simp +contextual (maxSteps := 2000000) only [go_sem, Nat.reduceEqDiff, reduceCtorEq, Nat.reduceAdd, Nat.reduceLeDiff, F122, ha]
/-! impl.find -/
def L77_0 : List AStep := [⟨.box 9 (.t 1), (some 3), none, []⟩, ⟨.mov (.c (.int .i64 0)), (some 4), none, []⟩]
theorem v77_0 : VS L77_0.eq_1 := rfl
def L77_1 : List AStep := [⟨.call 121 [(.t 5), (.t 6)], (some 7), none, []⟩, ⟨.mov (.t 7), (some 4), none, []⟩]
theorem v77_1 : VS L77_1.eq_1 := rfl
def L77_2 : List AStep := ⟨.mov (.t 0), (some 5), none, []⟩ :: ⟨.mkfn 122 [(.t 3)], (some 6), none, []⟩ :: L77_1
theorem v77_2 : VS L77_2.eq_1 := rfl
def C77_0 : ACode := .seq (.reg L77_2) .ret
theorem u77_0 : VC C77_0.eq_1 := rfl
def C77_1 : ACode := .seq (.reg L77_0) C77_0
theorem u77_1 : VC C77_1.eq_1 := rfl
def F77 : AFunc := ⟨8, [.tmp 4], C77_1⟩
theorem cF77 : compB Try.prog 77 = some F77 := by kernel_rfl
attribute [local go_sem ↓] u77_0 u77_1 v77_0 v77_1 v77_2
theorem c_find (l : List Param) (v : AV) (s : ByteArray) (h : H) (hl : SlQ h v l) (hn : smQ l) : bm Try.prog 77 [v, .one (.str s)] h = some (ii (paramAt l s), h) := by
  refine bm_eq cF77 ?_
  have e := c_indexQ l v 122 [(h.n, 0)] (fun p => decide (p.name = s)) (h.alloc [.str s] 9) (hl.grow (Grow.alloc _ _ _)) hn.1 (fun i hi x hx => c_find1 x (h.n, 0) s _ (Box.new.one rfl))
  simp +contextual (maxSteps := 2000000) only [go_sem, Nat.reduceEqDiff, reduceCtorEq, Nat.reduceAdd, Nat.reduceLeDiff, F77, e, paramAt]
/-! (impl.Signature).takes$1 -/
def L138_0 : List AStep := [⟨.box 39 (.t 0), (some 1), none, []⟩, ⟨.mov (.c (.bool false)), (some 2), none, []⟩]
theorem v138_0 : VS L138_0.eq_1 := rfl
def L138_1 : List AStep := [⟨.bin .eql (.t 4) (.c (.int .i64 4)), (some 5), none, []⟩, ⟨.mov (.t 5), (some 2), none, []⟩]
theorem v138_1 : VS L138_1.eq_1 := rfl
def L138_2 : List AStep := ⟨.faddr 1 (.t 1), (some 3), none, []⟩ :: ⟨.load 1 false (.t 3), (some 4), none, []⟩ :: L138_1
theorem v138_2 : VS L138_2.eq_1 := rfl
def C138_0 : ACode := .seq (.reg L138_2) .ret
theorem u138_0 : VC C138_0.eq_1 := rfl
def C138_1 : ACode := .seq (.reg L138_0) C138_0
theorem u138_1 : VC C138_1.eq_1 := rfl
def F138 : AFunc := ⟨6, [.tmp 2], C138_1⟩
theorem cF138 : compB Try.prog 138 = some F138 := by kernel_rfl
attribute [local go_sem ↓] u138_0 u138_1 v138_0 v138_1 v138_2
theorem c_takes1 (p : Param) (h : H) : bm Try.prog 138 [.agg (encQ p)] h = some (ib (decide (p.kind = 4)), h) := by
  refine bm_eq cF138 ?_
  simp +contextual (maxSteps := 2000000) only [go_sem, Nat.reduceEqDiff, reduceCtorEq, Nat.reduceAdd, Nat.reduceLeDiff, F138]
/-! (impl.Signature).takes -/
def L112_0 : List AStep := [⟨.box 25 (.t 0), (some 2), none, []⟩, ⟨.mov (.c (.int .i64 0)), (some 4), none, []⟩]
theorem v112_0 : VS L112_0.eq_1 := rfl
def L112_1 : List AStep := [⟨.mov (.t 9), (some 5), none, []⟩]
theorem v112_1 : VS L112_1.eq_1 := rfl
def L112_2 : List AStep := ⟨.mov (.t 1), (some 8), none, []⟩ :: ⟨.call 77 [(.t 7), (.t 8)], (some 9), none, []⟩ :: L112_1
theorem v112_2 : VS L112_2.eq_1 := rfl
def L112_3 : List AStep := ⟨.faddr 0 (.t 2), (some 6), none, []⟩ :: ⟨.load 1 false (.t 6), (some 7), none, []⟩ :: L112_2
theorem v112_3 : VS L112_3.eq_1 := rfl
def L112_4 : List AStep := [⟨.call 63 [(.t 17)], (some 18), (some (12, true)), []⟩, ⟨.pick (.t 12) (.t 18) (.c (.bool false)), (some 19), none, []⟩]
theorem v112_4 : VS L112_4.eq_1 := rfl
def L112_5 : List AStep := ⟨.iaddr 4 (.t 14) (.t 15), (some 16), (some (12, true)), []⟩ :: ⟨.load 4 true (.t 16), (some 17), (some (12, true)), []⟩ :: L112_4
theorem v112_5 : VS L112_5.eq_1 := rfl
def L112_6 : List AStep := ⟨.load 1 false (.t 13), (some 14), (some (12, true)), []⟩ :: ⟨.mov (.t 5), (some 15), (some (12, true)), []⟩ :: L112_5
theorem v112_6 : VS L112_6.eq_1 := rfl
def L112_7 : List AStep := ⟨.mov (.t 11), (some 12), none, []⟩ :: ⟨.faddr 0 (.t 2), (some 13), (some (12, true)), []⟩ :: L112_6
theorem v112_7 : VS L112_7.eq_1 := rfl
def L112_8 : List AStep := ⟨.mov (.t 5), (some 10), none, []⟩ :: ⟨.bin .geq (.t 10) (.c (.int .i64 0)), (some 11), none, []⟩ :: L112_7
theorem v112_8 : VS L112_8.eq_1 := rfl
def L112_9 : List AStep := [⟨.mov (.t 5), (some 20), none, []⟩, ⟨.mov (.t 20), (some 4), none, []⟩]
theorem v112_9 : VS L112_9.eq_1 := rfl
def L112_10 : List AStep := [⟨.call 121 [(.t 22), (.c (.fn 138 []))], (some 23), none, []⟩, ⟨.mov (.t 23), (some 4), none, []⟩]
theorem v112_10 : VS L112_10.eq_1 := rfl
def L112_11 : List AStep := ⟨.faddr 0 (.t 2), (some 21), none, []⟩ :: ⟨.load 1 false (.t 21), (some 22), none, []⟩ :: L112_10
theorem v112_11 : VS L112_11.eq_1 := rfl
def C112_0 : ACode := .seq (.reg L112_9) .ret
theorem u112_0 : VC C112_0.eq_1 := rfl
def C112_1 : ACode := .cond (.t 19) C112_0 .skip
theorem u112_1 : VC C112_1.eq_1 := rfl
def C112_2 : ACode := .seq (.reg L112_8) C112_1
theorem u112_2 : VC C112_2.eq_1 := rfl
def C112_3 : ACode := .seq (.reg L112_3) C112_2
theorem u112_3 : VC C112_3.eq_1 := rfl
def C112_4 : ACode := .seq (.reg L112_11) .ret
theorem u112_4 : VC C112_4.eq_1 := rfl
def C112_5 : ACode := .seq C112_3 C112_4
theorem u112_5 : VC C112_5.eq_1 := rfl
def C112_6 : ACode := .seq (.reg L112_0) C112_5
theorem u112_6 : VC C112_6.eq_1 := rfl
def F112 : AFunc := ⟨24, [.tmp 4], C112_6⟩
theorem cF112 : compB Try.prog 112 = some F112 := by kernel_rfl
attribute [local go_sem ↓] u112_0 u112_1 u112_2 u112_3 u112_4 u112_5 u112_6 v112_0 v112_1 v112_2 v112_3 v112_4 v112_5 v112_6 v112_7 v112_8 v112_9 v112_10 v112_11
theorem c_takes (l : List Param) (pv : CV) (s : ByteArray) (h : H) (hl : SlQ h (.one pv) l) (hn : smQ l) : bm Try.prog 112 [.agg [pv], .one (.str s)] h = some (ii (takes l s), h) := by
  refine bm_eq cF112 ?_
  have e2 := c_indexQ l (.one pv) 138 [] (fun p => decide (p.kind = 4)) h hl hn.1 (fun i hi x hx => c_takes1 x h)
  rw [show idx (fun p : Param => decide (p.kind = 4)) l = kindAt l 4 from rfl] at e2
  rcases idx_cases (fun p : Param => decide (p.name = s)) l with e | ⟨j, hj, e, _⟩ <;> (replace e := (show paramAt l s = _ from e))
  · simp +contextual (maxSteps := 2000000) only [go_sem, Nat.reduceEqDiff, reduceCtorEq, Nat.reduceAdd, Nat.reduceLeDiff, F112, c_find _ _ _ _ hl hn, e, e2, takes_none e]
  · simp +contextual (maxSteps := 2000000) only [go_sem, Nat.reduceEqDiff, reduceCtorEq, Nat.reduceAdd, Nat.reduceLeDiff, F112, c_find _ _ _ _ hl hn, e, e2, takes_some hj e, hl.iaddr hj, hl.whole hj, c_named]
/-! impl.areValues$1 -/
def L124_0 : List AStep := [⟨.mov (.c (.bool false)), (some 2), none, []⟩]
theorem v124_0 : VS L124_0.eq_1 := rfl
def L124_1 : List AStep := [⟨.not (.t 4), (some 5), none, []⟩, ⟨.mov (.t 5), (some 2), none, []⟩]
theorem v124_1 : VS L124_1.eq_1 := rfl
def L124_2 : List AStep := ⟨.mov (.t 0), (some 3), none, []⟩ :: ⟨.call 75 [(.t 3)], (some 4), none, []⟩ :: L124_1
theorem v124_2 : VS L124_2.eq_1 := rfl
def C124_0 : ACode := .seq (.reg L124_2) .ret
theorem u124_0 : VC C124_0.eq_1 := rfl
def C124_1 : ACode := .seq (.reg L124_0) C124_0
theorem u124_1 : VC C124_1.eq_1 := rfl
def F124 : AFunc := ⟨6, [.tmp 2], C124_1⟩
theorem cF124 : compB Try.prog 124 = some F124 := by kernel_rfl
attribute [local go_sem ↓] u124_0 u124_1 v124_0 v124_1 v124_2
theorem c_areValues1 (n : Int) (h : H) : bm Try.prog 124 [.one (.int .i64 n)] h = some (ib (!(okNum n)), h) := by
  refine bm_eq cF124 ?_
  simp +contextual (maxSteps := 2000000) only [go_sem, Nat.reduceEqDiff, reduceCtorEq, Nat.reduceAdd, Nat.reduceLeDiff, F124, c_isValue]
/-! impl.areValues -/
def L79_0 : List AStep := [⟨.mov (.c (.bool false)), (some 2), none, []⟩]
theorem v79_0 : VS L79_0.eq_1 := rfl
def L79_1 : List AStep := [⟨.not (.t 4), (some 5), none, []⟩, ⟨.mov (.t 5), (some 2), none, []⟩]
theorem v79_1 : VS L79_1.eq_1 := rfl
def L79_2 : List AStep := ⟨.mov (.t 0), (some 3), none, []⟩ :: ⟨.call 123 [(.t 3), (.c (.fn 124 []))], (some 4), none, []⟩ :: L79_1
theorem v79_2 : VS L79_2.eq_1 := rfl
def C79_0 : ACode := .seq (.reg L79_2) .ret
theorem u79_0 : VC C79_0.eq_1 := rfl
def C79_1 : ACode := .seq (.reg L79_0) C79_0
theorem u79_1 : VC C79_1.eq_1 := rfl
def F79 : AFunc := ⟨6, [.tmp 2], C79_1⟩
theorem cF79 : compB Try.prog 79 = some F79 := by kernel_rfl
attribute [local go_sem ↓] u79_0 u79_1 v79_0 v79_1 v79_2
theorem c_areValues (l : List Int) (v : AV) (h : H) (hl : SlI h v l) (hn : l.length ≤ big) : bm Try.prog 79 [v] h = some (ib (l.all okNum), h) := by
  refine bm_eq cF79 ?_
  have e := c_hasI l v 124 [] (fun n => !(okNum n)) h hl hn (fun i hi x hx => c_areValues1 x h)
  simp +contextual (maxSteps := 2000000) only [go_sem, Nat.reduceEqDiff, reduceCtorEq, Nat.reduceAdd, Nat.reduceLeDiff, F79, e]
  simp [List.not_any_eq_all_not]
/-! impl.ValidFlat -/
def L32_0 : List AStep := [⟨.box 29 (.t 0), (some 1), none, []⟩, ⟨.mov (.c (.bool false)), (some 2), none, []⟩]
theorem v32_0 : VS L32_0.eq_1 := rfl
def L32_1 : List AStep := [⟨.len (.t 6), (some 7), none, []⟩, ⟨.mov (.c (.int .i64 0)), (some 8), none, []⟩]
theorem v32_1 : VS L32_1.eq_1 := rfl
def L32_2 : List AStep := ⟨.faddr 1 (.t 1), (some 5), none, []⟩ :: ⟨.load 1 false (.t 5), (some 6), none, []⟩ :: L32_1
theorem v32_2 : VS L32_2.eq_1 := rfl
def L32_3 : List AStep := [⟨.bin .lss (.t 8) (.t 7), (some 9), none, []⟩]
theorem v32_3 : VS L32_3.eq_1 := rfl
def L32_4 : List AStep := [⟨.mov (.t 10), (some 3), none, []⟩, ⟨.store 2 (.t 4) (.t 12), none, none, []⟩]
theorem v32_4 : VS L32_4.eq_1 := rfl
def L32_5 : List AStep := ⟨.load 2 true (.t 11), (some 12), none, []⟩ :: ⟨.alloc 64 [(.str (strOfNums [])), (.int .i64 0)], (some 4), none, []⟩ :: L32_4
theorem v32_5 : VS L32_5.eq_1 := rfl
def L32_6 : List AStep := ⟨.mov (.t 8), (some 10), none, []⟩ :: ⟨.iaddr 2 (.t 6) (.t 8), (some 11), none, []⟩ :: L32_5
theorem v32_6 : VS L32_6.eq_1 := rfl
def L32_7 : List AStep := [⟨.pick (.t 16) (.c (.bool true)) (.t 24), (some 25), none, []⟩]
theorem v32_7 : VS L32_7.eq_1 := rfl
def L32_8 : List AStep := ⟨.call 62 [(.t 20), (.t 22)], (some 23), (some (16, false)), []⟩ :: ⟨.bin .geq (.t 23) (.c (.int .i64 0)), (some 24), (some (16, false)), []⟩ :: L32_7
theorem v32_8 : VS L32_8.eq_1 := rfl
def L32_9 : List AStep := ⟨.faddr 0 (.t 4), (some 21), (some (16, false)), []⟩ :: ⟨.load 1 false (.t 21), (some 22), (some (16, false)), []⟩ :: L32_8
theorem v32_9 : VS L32_9.eq_1 := rfl
def L32_10 : List AStep := ⟨.mov (.t 3), (some 19), (some (16, false)), []⟩ :: ⟨.slice 64 2 (.t 18) none (some (.t 19)) none, (some 20), (some (16, false)), []⟩ :: L32_9
theorem v32_10 : VS L32_10.eq_1 := rfl
def L32_11 : List AStep := ⟨.faddr 1 (.t 1), (some 17), (some (16, false)), []⟩ :: ⟨.load 1 false (.t 17), (some 18), (some (16, false)), []⟩ :: L32_10
theorem v32_11 : VS L32_11.eq_1 := rfl
def L32_12 : List AStep := ⟨.not (.t 14), (some 15), none, []⟩ :: ⟨.mov (.t 15), (some 16), none, []⟩ :: L32_11
theorem v32_12 : VS L32_12.eq_1 := rfl
def L32_13 : List AStep := ⟨.load 2 true (.t 4), (some 13), none, []⟩ :: ⟨.call 78 [(.t 13)], (some 14), none, []⟩ :: L32_12
theorem v32_13 : VS L32_13.eq_1 := rfl
def L32_14 : List AStep := [⟨.mov (.c (.bool false)), (some 2), none, []⟩]
theorem v32_14 : VS L32_14.eq_1 := rfl
def L32_15 : List AStep := [⟨.bin .add (.t 8) (.c (.int .i64 1)), (some 26), none, []⟩, ⟨.mov (.t 26), (some 8), none, []⟩]
theorem v32_15 : VS L32_15.eq_1 := rfl
def L32_16 : List AStep := [⟨.pick (.t 37) (.t 40) (.c (.bool false)), (some 41), none, []⟩, ⟨.mov (.t 41), (some 2), none, []⟩]
theorem v32_16 : VS L32_16.eq_1 := rfl
def L32_17 : List AStep := ⟨.load 1 false (.t 38), (some 39), (some (37, true)), []⟩ :: ⟨.call 79 [(.t 39)], (some 40), (some (37, true)), []⟩ :: L32_16
theorem v32_17 : VS L32_17.eq_1 := rfl
def L32_18 : List AStep := ⟨.mov (.t 36), (some 37), none, []⟩ :: ⟨.faddr 0 (.t 1), (some 38), (some (37, true)), []⟩ :: L32_17
theorem v32_18 : VS L32_18.eq_1 := rfl
def L32_19 : List AStep := ⟨.bin .leq (.t 34) (.c (.int .i64 8)), (some 35), (some (31, true)), []⟩ :: ⟨.pick (.t 31) (.t 35) (.c (.bool false)), (some 36), none, []⟩ :: L32_18
theorem v32_19 : VS L32_19.eq_1 := rfl
def L32_20 : List AStep := ⟨.load 1 false (.t 32), (some 33), (some (31, true)), []⟩ :: ⟨.len (.t 33), (some 34), (some (31, true)), []⟩ :: L32_19
theorem v32_20 : VS L32_20.eq_1 := rfl
def L32_21 : List AStep := ⟨.mov (.t 30), (some 31), none, []⟩ :: ⟨.faddr 1 (.t 1), (some 32), (some (31, true)), []⟩ :: L32_20
theorem v32_21 : VS L32_21.eq_1 := rfl
def L32_22 : List AStep := ⟨.len (.t 28), (some 29), none, []⟩ :: ⟨.bin .leq (.t 29) (.c (.int .i64 8)), (some 30), none, []⟩ :: L32_21
theorem v32_22 : VS L32_22.eq_1 := rfl
def L32_23 : List AStep := ⟨.faddr 0 (.t 1), (some 27), none, []⟩ :: ⟨.load 1 false (.t 27), (some 28), none, []⟩ :: L32_22
theorem v32_23 : VS L32_23.eq_1 := rfl
def C32_0 : ACode := .cond (.t 9) .skip (.exit 0)
theorem u32_0 : VC C32_0.eq_1 := rfl
def C32_1 : ACode := .seq (.reg L32_14) .ret
theorem u32_1 : VC C32_1.eq_1 := rfl
def C32_2 : ACode := .cond (.t 25) C32_1 .skip
theorem u32_2 : VC C32_2.eq_1 := rfl
def C32_3 : ACode := .seq (.reg L32_13) C32_2
theorem u32_3 : VC C32_3.eq_1 := rfl
def C32_4 : ACode := .seq (.reg L32_6) C32_3
theorem u32_4 : VC C32_4.eq_1 := rfl
def C32_5 : ACode := .block 1 C32_4
theorem u32_5 : VC C32_5.eq_1 := rfl
def C32_6 : ACode := .seq C32_5 (.reg L32_15)
theorem u32_6 : VC C32_6.eq_1 := rfl
def C32_7 : ACode := .seq C32_0 C32_6
theorem u32_7 : VC C32_7.eq_1 := rfl
def C32_8 : ACode := .seq (.reg L32_3) C32_7
theorem u32_8 : VC C32_8.eq_1 := rfl
def C32_9 : ACode := .block 0 (.loop C32_8)
theorem u32_9 : VC C32_9.eq_1 := rfl
def C32_10 : ACode := .seq (.reg L32_2) C32_9
theorem u32_10 : VC C32_10.eq_1 := rfl
def C32_11 : ACode := .seq (.reg L32_23) .ret
theorem u32_11 : VC C32_11.eq_1 := rfl
def C32_12 : ACode := .seq C32_10 C32_11
theorem u32_12 : VC C32_12.eq_1 := rfl
def C32_13 : ACode := .seq (.reg L32_0) C32_12
theorem u32_13 : VC C32_13.eq_1 := rfl
def F32 : AFunc := ⟨42, [.tmp 2], C32_13⟩
theorem cF32 : compB Try.prog 32 = some F32 := by kernel_rfl
attribute [local go_sem ↓] u32_0 u32_1 u32_2 u32_3 u32_4 u32_5 u32_6 u32_7 u32_8 u32_9 u32_10 u32_11 u32_12 u32_13 v32_0 v32_1 v32_2 v32_3 v32_4 v32_5 v32_6 v32_7 v32_8 v32_9 v32_10 v32_11 v32_12 v32_13 v32_14 v32_15 v32_16 v32_17 v32_18 v32_19 v32_20 v32_21 v32_22 v32_23
theorem c_ValidFlat (f : Flat) (pv nv : CV) (h : H) (hp : SlI h (.one pv) f.pl) (hq : SlP h (.one nv) f.nl) (hn : smF f) : bm Try.prog 32 [.agg [pv, nv]] h = some (ib (okFlat f), h) := by
  refine bm_eq cF32 ?_
  simp +contextual (maxSteps := 2000000) only [go_sem, Nat.reduceEqDiff, reduceCtorEq, Nat.reduceAdd, Nat.reduceLeDiff, F32, hq.len]
  refine wpC_loop (fun i T L h' => h' = h ∧ T 1 = .lp 1 0 ∧ (L 1).2 = [pv, nv] ∧ T 6 = .v (.one nv) ∧ T 7 = .v (.one (.int .i64 f.nl.length)) ∧ T 8 = .v (.one (.int .i64 i)) ∧ Upto (newAt Pair.name f.nl) i ∧ Pre okPair true f.nl i) f.nl.length ?_ ?_ (Nat.zero_le _) ?_
  · rintro i T L h' hi ⟨rfl, t1, l1, t6, t7, t8, hu, hpre⟩
    obtain ⟨v', e1, s1⟩ := hq.takeO (i := i) (by omega) (kd := .i64)
    have e2 : decide (pairAt (f.nl.take i) f.nl[i].name ≥ 0) = !(newAt Pair.name f.nl i) := newAt_ge hi
    simp +contextual (maxSteps := 2000000) only [go_sem, Nat.reduceEqDiff, reduceCtorEq, Nat.reduceAdd, Nat.reduceLeDiff, e2, t1, l1, t6, t7, t8, hq.iaddr hi, hq.whole hi, lt_true hi, e1, c_okPair _ _ (hn.nl.at hi), c_pairAtI _ _ _ _ s1 (hn.nl.take i)]
    (repeat' (first | refine And.intro ?_ ?_ | intro _)) <;> first | rfl | rw [wrap_next hi hn.nl.len] | (refine hu.next ?_; simp_all; done) | (refine hpre.next hi ?_; simp_all; done) | (rw [okFlat, apart_not hi] <;> first | rfl | (simp_all; done)) | (rw [okFlat, all_stop (p := okPair) hi] <;> first | (simp; done) | (simp_all; done))
  · rintro T L h' ⟨rfl, t1, l1, t6, t7, t8, hu, hpre⟩
    simp +contextual (maxSteps := 2000000) only [go_sem, Nat.reduceEqDiff, reduceCtorEq, Nat.reduceAdd, Nat.reduceLeDiff, t1, l1, t6, t7, t8, hq.len, hp.len, lt_false, c_areValues _ _ _ hp hn.pl, okFlat, apart_of hu, hpre.all]
    (repeat' (first | refine And.intro ?_ ?_ | intro _)) <;> first | rfl | simp_all
  · simp +contextual (maxSteps := 2000000) only [go_sem, Nat.reduceEqDiff, reduceCtorEq, Nat.reduceAdd, Nat.reduceLeDiff]
    (repeat' (first | refine And.intro ?_ ?_ | intro _)) <;> first | rfl | exact Upto.zero | exact Pre.zero
end Go.Proofs.Ytekkimfdcbgcoab.Am
