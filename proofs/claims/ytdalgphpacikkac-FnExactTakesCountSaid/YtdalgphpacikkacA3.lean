/- Contracts of the program: numbers, names, pairs, flat calls and signatures that are valid. -/
import Derived.Test.YtdalgphpacikkacDat
namespace Go.Proofs.Ytdalgphpacikkac.Am
open Go
set_option maxRecDepth 100000
set_option maxHeartbeats 4000000
set_option linter.unusedSimpArgs false
set_option linter.unusedVariables false
attribute [local go_sem ↓] bv_t bv_c ev_t ev_c put_same put_ne put_none kill_at pro_at lb_same lb_ne start_zero start_succ wpC_seq wpC_reg wpC_cond wpC_block wpC_skip wpC_exit wpC_ret thenQ_normal thenQ_exit thenQ_ret inBlk_normal inBlk_exit inBlk_ret wpS_nil wpS_step wpS_again wpS_guard wpO_mov wpO_load wpO_faddr wpO_nilCheck wpO_pick wpO_build wpO_bin wpO_eqb wpO_eqst wpO_eqnil wpO_not wpO_conv wpO_bytesStr wpO_iaddr wpO_idxStr wpO_field wpO_extract wpO_len wpO_lenStr wpO_cap wpO_min wpO_slice wpO_sliceStr wpO_alloc wpO_box wpO_store wpO_call wpO_callv wpO_mkfn wpO_buildSlice wpO_mkslice wpO_append wpO_appz proA_nil proA_cons tmpX_nil tmpX_tmp tmpX_cell doneB_normal doneB_ret agK_cons agK_nil agK_guard agG_tt agG_ff agG_tf agG_ft agG_undef pureB_load results_one results_two results_nil resBs_cons resBs_nil resB_tmp resB_cell
attribute [local go_sem] kill_v kill_lp_ne kill_lp_same pro_v pro_lp_same pro_lp_ne av_v av_lp optB_some optX_some valX_eq ldX_lp ldX_v faX_lp faX_v ncX_lp ncX_ptr ncX_fn boxK_one boxK_agg stL_some stK_lp_one stK_lp_agg stK_v_one stK_v_agg proM_v proM_lp callG_mk callVG_mk callvK_fn fnG_mk ptrsA_nil ptrsA_cons callH_some whenA_true whenA_false guardH_tt guardH_ff guardH_tf guardH_ft guardH_undef agV_one agV_agg lenO_sl lenStrO_str notO_bool pickO_bool convO_int eqbO_bool eqnilO_sl extractO_tup capO_sl minO_int loadL_one loadL_all storeL_eq fillA_nil fillA_one fillA_agg nat_ge neg_ge nat_lt neg_lt buildO bin_add bin_sub bin_mul bin_eql bin_neq bin_lss bin_leq bin_gtr bin_geq str_eql str_neq str_lss str_leq str_gtr str_geq retK_some endK_mk gcK_same gcK_int gcK_bool tupO_one tupO_agg rdy_self ib ii Option.map_none Option.map_some Option.some.injEq exists_eq_left' exists_eq_left ne_eq not_false_eq_true if_true if_false List.map_cons List.map_nil List.getElem?_cons_zero List.getElem?_cons_succ List.length_cons List.length_nil List.take_succ_cons List.take_zero List.take_nil List.drop_succ_cons List.drop_zero List.drop_nil List.cons_append List.nil_append List.append_nil List.set_cons_zero List.set_cons_succ Nat.zero_add forall_const true_and and_true and_self Bool.false_eq_true false_implies true_implies implies_true Bool.not_true Bool.not_false Bool.not_eq_true' Bool.not_eq_false' beq_self_eq_true Bool.bne_true Bool.bne_false
attribute [local go_sem] lenI lenS lenP lenQ lenB lenL lenT encI_0 encS_0 encP_0 encP_1 encQ_0 encQ_1 encQ_2 encQ_3 encB_0 encB_1 encL_0 encL_1 encT_0 encT_1
attribute [local go_sem low] whenA_bool guardH_bool
/-! impl.in -/
def L119_0 : List AStep := [⟨.mov (.c (.bool false)), (some 6), none, []⟩]
theorem v119_0 : VS L119_0.eq_1 := rfl
def L119_1 : List AStep := [⟨.mov (.t 14), (some 6), none, []⟩]
theorem v119_1 : VS L119_1.eq_1 := rfl
def L119_2 : List AStep := ⟨.bin .leq (.t 11) (.t 12), (some 13), (some (10, true)), []⟩ :: ⟨.pick (.t 10) (.t 13) (.c (.bool false)), (some 14), none, []⟩ :: L119_1
theorem v119_2 : VS L119_2.eq_1 := rfl
def L119_3 : List AStep := ⟨.mov (.t 0), (some 11), (some (10, true)), []⟩ :: ⟨.mov (.t 2), (some 12), (some (10, true)), []⟩ :: L119_2
theorem v119_3 : VS L119_3.eq_1 := rfl
def L119_4 : List AStep := ⟨.bin .geq (.t 7) (.t 8), (some 9), none, []⟩ :: ⟨.mov (.t 9), (some 10), none, []⟩ :: L119_3
theorem v119_4 : VS L119_4.eq_1 := rfl
def L119_5 : List AStep := ⟨.mov (.t 0), (some 7), none, []⟩ :: ⟨.mov (.t 1), (some 8), none, []⟩ :: L119_4
theorem v119_5 : VS L119_5.eq_1 := rfl
def C119_0 : ACode := .seq (.reg L119_5) .ret
theorem u119_0 : VC C119_0.eq_1 := rfl
def C119_1 : ACode := .seq (.reg L119_0) C119_0
theorem u119_1 : VC C119_1.eq_1 := rfl
def F119 : AFunc := ⟨15, [.tmp 6], C119_1⟩
theorem cF119 : compB Try.prog 119 = some F119 := by kernel_rfl
attribute [local go_sem ↓] u119_0 u119_1 v119_0 v119_1 v119_2 v119_3 v119_4 v119_5
theorem c_in (n lo hi : Int) (h : H) : bm Try.prog 119 [.one (.int .i64 n), .one (.int .i64 lo), .one (.int .i64 hi)] h = some (ib (decide (lo ≤ n) && decide (n ≤ hi)), h) := by
  refine bm_eq cF119 ?_
  simp +contextual (maxSteps := 2000000) only [go_sem, Nat.reduceEqDiff, reduceCtorEq, Nat.reduceAdd, Nat.reduceLeDiff, F119]
  (repeat' (first | refine And.intro ?_ ?_ | intro _)) <;> first | simp_all
/-! impl.isValue -/
def L128_0 : List AStep := [⟨.mov (.c (.bool false)), (some 2), none, []⟩]
theorem v128_0 : VS L128_0.eq_1 := rfl
def L128_1 : List AStep := [⟨.mov (.t 4), (some 2), none, []⟩]
theorem v128_1 : VS L128_1.eq_1 := rfl
def L128_2 : List AStep := ⟨.mov (.t 0), (some 3), none, []⟩ :: ⟨.call 119 [(.t 3), (.c (.int .i64 (-99))), (.c (.int .i64 99))], (some 4), none, []⟩ :: L128_1
theorem v128_2 : VS L128_2.eq_1 := rfl
def C128_0 : ACode := .seq (.reg L128_2) .ret
theorem u128_0 : VC C128_0.eq_1 := rfl
def C128_1 : ACode := .seq (.reg L128_0) C128_0
theorem u128_1 : VC C128_1.eq_1 := rfl
def F128 : AFunc := ⟨5, [.tmp 2], C128_1⟩
theorem cF128 : compB Try.prog 128 = some F128 := by kernel_rfl
attribute [local go_sem ↓] u128_0 u128_1 v128_0 v128_1 v128_2
theorem c_isValue (n : Int) (h : H) : bm Try.prog 128 [.one (.int .i64 n)] h = some (ib (okNum n), h) := by
  refine bm_eq cF128 ?_
  simp +contextual (maxSteps := 2000000) only [go_sem, Nat.reduceEqDiff, reduceCtorEq, Nat.reduceAdd, Nat.reduceLeDiff, F128, c_in, okNum]
/-! impl.isName -/
def L118_0 : List AStep := [⟨.mov (.c (.bool false)), (some 2), none, []⟩]
theorem v118_0 : VS L118_0.eq_1 := rfl
def L118_1 : List AStep := [⟨.mov (.c (.int .i64 0)), (some 3), none, []⟩]
theorem v118_1 : VS L118_1.eq_1 := rfl
def L118_2 : List AStep := [⟨.lenStr (.t 5), (some 6), none, []⟩, ⟨.bin .lss (.t 4) (.t 6), (some 7), none, []⟩]
theorem v118_2 : VS L118_2.eq_1 := rfl
def L118_3 : List AStep := ⟨.mov (.t 3), (some 4), none, []⟩ :: ⟨.mov (.t 0), (some 5), none, []⟩ :: L118_2
theorem v118_3 : VS L118_3.eq_1 := rfl
def L118_4 : List AStep := [⟨.bin .gtr (.t 17) (.c (.int .u8 122)), (some 18), (some (14, false)), []⟩, ⟨.pick (.t 14) (.c (.bool true)) (.t 18), (some 19), none, []⟩]
theorem v118_4 : VS L118_4.eq_1 := rfl
def L118_5 : List AStep := ⟨.mov (.t 3), (some 16), (some (14, false)), []⟩ :: ⟨.idxStr (.t 15) (.t 16), (some 17), (some (14, false)), []⟩ :: L118_4
theorem v118_5 : VS L118_5.eq_1 := rfl
def L118_6 : List AStep := ⟨.mov (.t 13), (some 14), none, []⟩ :: ⟨.mov (.t 0), (some 15), (some (14, false)), []⟩ :: L118_5
theorem v118_6 : VS L118_6.eq_1 := rfl
def L118_7 : List AStep := ⟨.idxStr (.t 10) (.t 11), (some 12), none, []⟩ :: ⟨.bin .lss (.t 12) (.c (.int .u8 97)), (some 13), none, []⟩ :: L118_6
theorem v118_7 : VS L118_7.eq_1 := rfl
def L118_8 : List AStep := ⟨.mov (.t 0), (some 10), none, []⟩ :: ⟨.mov (.t 3), (some 11), none, []⟩ :: L118_7
theorem v118_8 : VS L118_8.eq_1 := rfl
def L118_9 : List AStep := [⟨.mov (.c (.bool false)), (some 2), none, []⟩]
theorem v118_9 : VS L118_9.eq_1 := rfl
def L118_10 : List AStep := [⟨.mov (.t 9), (some 3), none, []⟩]
theorem v118_10 : VS L118_10.eq_1 := rfl
def L118_11 : List AStep := ⟨.mov (.t 3), (some 8), none, []⟩ :: ⟨.bin .add (.t 8) (.c (.int .i64 1)), (some 9), none, []⟩ :: L118_10
theorem v118_11 : VS L118_11.eq_1 := rfl
def L118_12 : List AStep := [⟨.call 119 [(.t 21), (.c (.int .i64 1)), (.c (.int .i64 6))], (some 22), none, []⟩, ⟨.mov (.t 22), (some 2), none, []⟩]
theorem v118_12 : VS L118_12.eq_1 := rfl
def L118_13 : List AStep := ⟨.mov (.t 0), (some 20), none, []⟩ :: ⟨.lenStr (.t 20), (some 21), none, []⟩ :: L118_12
theorem v118_13 : VS L118_13.eq_1 := rfl
def C118_0 : ACode := .cond (.t 7) .skip (.exit 0)
theorem u118_0 : VC C118_0.eq_1 := rfl
def C118_1 : ACode := .seq (.reg L118_3) C118_0
theorem u118_1 : VC C118_1.eq_1 := rfl
def C118_2 : ACode := .seq (.reg L118_9) .ret
theorem u118_2 : VC C118_2.eq_1 := rfl
def C118_3 : ACode := .cond (.t 19) C118_2 .skip
theorem u118_3 : VC C118_3.eq_1 := rfl
def C118_4 : ACode := .seq (.reg L118_8) C118_3
theorem u118_4 : VC C118_4.eq_1 := rfl
def C118_5 : ACode := .block 1 C118_4
theorem u118_5 : VC C118_5.eq_1 := rfl
def C118_6 : ACode := .seq C118_5 (.reg L118_11)
theorem u118_6 : VC C118_6.eq_1 := rfl
def C118_7 : ACode := .seq C118_1 C118_6
theorem u118_7 : VC C118_7.eq_1 := rfl
def C118_8 : ACode := .block 0 (.loop C118_7)
theorem u118_8 : VC C118_8.eq_1 := rfl
def C118_9 : ACode := .seq (.reg L118_1) C118_8
theorem u118_9 : VC C118_9.eq_1 := rfl
def C118_10 : ACode := .seq (.reg L118_13) .ret
theorem u118_10 : VC C118_10.eq_1 := rfl
def C118_11 : ACode := .seq C118_9 C118_10
theorem u118_11 : VC C118_11.eq_1 := rfl
def C118_12 : ACode := .seq (.reg L118_0) C118_11
theorem u118_12 : VC C118_12.eq_1 := rfl
def F118 : AFunc := ⟨23, [.tmp 2], C118_12⟩
theorem cF118 : compB Try.prog 118 = some F118 := by kernel_rfl
attribute [local go_sem ↓] u118_0 u118_1 u118_2 u118_3 u118_4 u118_5 u118_6 u118_7 u118_8 u118_9 u118_10 u118_11 u118_12 v118_0 v118_1 v118_2 v118_3 v118_4 v118_5 v118_6 v118_7 v118_8 v118_9 v118_10 v118_11 v118_12 v118_13
theorem c_isName (s : ByteArray) (h : H) (hn : s.size < 2 ^ 62) : bm Try.prog 118 [.one (.str s)] h = some (ib (okName s), h) := by
  refine bm_eq cF118 ?_
  simp +contextual (maxSteps := 2000000) only [go_sem, Nat.reduceEqDiff, reduceCtorEq, Nat.reduceAdd, Nat.reduceLeDiff, F118]
  have hsz : s.data.toList.length = s.size := Array.length_toList
  refine wpC_loop (fun i T L h' => h' = h ∧ T 0 = .v (.one (.str s)) ∧ T 3 = .v (.one (.int .i64 i)) ∧ Pre isLow true s.data.toList i) s.size ?_ ?_ (Nat.zero_le _) ?_
  · rintro i T L h' hi ⟨rfl, h0, h3, hp⟩
    simp +contextual (maxSteps := 2000000) only [go_sem, Nat.reduceEqDiff, reduceCtorEq, Nat.reduceAdd, Nat.reduceLeDiff, h0, h3, idx_at hi, lt_true hi]
    have e : s.data.toList[i]'(by omega) = s.data[i]'hi := Array.getElem_toList _
    have bad : isLow (s.data[i]'hi) = false → okName s = false := fun hx => by
      unfold okName
      rw [all_stop (l := s.data.toList) (i := i) (by omega) (by rw [e]; exact hx)]
      rfl
    have low : isLow (s.data[i]'hi) = (!(decide ((↑(s.data[i]'hi).toNat : Int) < 97)) && !(decide ((↑(s.data[i]'hi).toNat : Int) > 122))) := by
      unfold isLow
      rw [Bool.eq_iff_iff]
      simp
      omega
    (repeat' (first | refine And.intro ?_ ?_ | intro _)) <;> first | rfl | rw [wrap_next hi hn] | exact hp.next (by omega) (by rw [e, low]; simp_all) | rw [bad (by rw [low]; simp_all)]
  · rintro T L h' ⟨rfl, h0, h3, hp⟩
    rw [← hsz] at hp
    simp +contextual (maxSteps := 2000000) only [go_sem, Nat.reduceEqDiff, reduceCtorEq, Nat.reduceAdd, Nat.reduceLeDiff, h0, h3, lt_false, c_in, okName, hp.all, Bool.true_and]
  · simp +contextual (maxSteps := 2000000) only [go_sem, Nat.reduceEqDiff, reduceCtorEq, Nat.reduceAdd, Nat.reduceLeDiff]
    (repeat' (first | refine And.intro ?_ ?_ | intro _)) <;> first | rfl | exact Pre.zero
/-! (impl.Param).placed -/
def L157_0 : List AStep := [⟨.box 155 (.t 0), (some 1), none, []⟩, ⟨.mov (.c (.bool false)), (some 2), none, []⟩]
theorem v157_0 : VS L157_0.eq_1 := rfl
def L157_1 : List AStep := [⟨.mov (.t 10), (some 2), none, []⟩]
theorem v157_1 : VS L157_1.eq_1 := rfl
def L157_2 : List AStep := ⟨.bin .eql (.t 8) (.c (.int .i64 1)), (some 9), (some (6, false)), []⟩ :: ⟨.pick (.t 6) (.c (.bool true)) (.t 9), (some 10), none, []⟩ :: L157_1
theorem v157_2 : VS L157_2.eq_1 := rfl
def L157_3 : List AStep := ⟨.faddr 1 (.t 1), (some 7), (some (6, false)), []⟩ :: ⟨.load 1 false (.t 7), (some 8), (some (6, false)), []⟩ :: L157_2
theorem v157_3 : VS L157_3.eq_1 := rfl
def L157_4 : List AStep := ⟨.bin .eql (.t 4) (.c (.int .i64 0)), (some 5), none, []⟩ :: ⟨.mov (.t 5), (some 6), none, []⟩ :: L157_3
theorem v157_4 : VS L157_4.eq_1 := rfl
def L157_5 : List AStep := ⟨.faddr 1 (.t 1), (some 3), none, []⟩ :: ⟨.load 1 false (.t 3), (some 4), none, []⟩ :: L157_4
theorem v157_5 : VS L157_5.eq_1 := rfl
def C157_0 : ACode := .seq (.reg L157_5) .ret
theorem u157_0 : VC C157_0.eq_1 := rfl
def C157_1 : ACode := .seq (.reg L157_0) C157_0
theorem u157_1 : VC C157_1.eq_1 := rfl
def F157 : AFunc := ⟨11, [.tmp 2], C157_1⟩
theorem cF157 : compB Try.prog 157 = some F157 := by kernel_rfl
attribute [local go_sem ↓] u157_0 u157_1 v157_0 v157_1 v157_2 v157_3 v157_4 v157_5
theorem c_placed (p : Param) (h : H) : bm Try.prog 157 [.agg (encQ p)] h = some (ib (byPlace p), h) := by
  refine bm_eq cF157 ?_
  simp +contextual (maxSteps := 2000000) only [go_sem, Nat.reduceEqDiff, reduceCtorEq, Nat.reduceAdd, Nat.reduceLeDiff, F157, byPlace]
  (repeat' (first | refine And.intro ?_ ?_ | intro _)) <;> first | simp_all
/-! (impl.Param).single -/
def L156_0 : List AStep := [⟨.box 155 (.t 0), (some 1), none, []⟩, ⟨.mov (.c (.bool false)), (some 2), none, []⟩]
theorem v156_0 : VS L156_0.eq_1 := rfl
def L156_1 : List AStep := [⟨.pick (.t 5) (.c (.bool true)) (.t 8), (some 9), none, []⟩, ⟨.mov (.t 9), (some 2), none, []⟩]
theorem v156_1 : VS L156_1.eq_1 := rfl
def L156_2 : List AStep := ⟨.load 1 false (.t 6), (some 7), (some (5, false)), []⟩ :: ⟨.bin .eql (.t 7) (.c (.int .i64 3)), (some 8), (some (5, false)), []⟩ :: L156_1
theorem v156_2 : VS L156_2.eq_1 := rfl
def L156_3 : List AStep := ⟨.mov (.t 4), (some 5), none, []⟩ :: ⟨.faddr 1 (.t 1), (some 6), (some (5, false)), []⟩ :: L156_2
theorem v156_3 : VS L156_3.eq_1 := rfl
def L156_4 : List AStep := ⟨.load 4 true (.t 1), (some 3), none, []⟩ :: ⟨.call 157 [(.t 3)], (some 4), none, []⟩ :: L156_3
theorem v156_4 : VS L156_4.eq_1 := rfl
def C156_0 : ACode := .seq (.reg L156_4) .ret
theorem u156_0 : VC C156_0.eq_1 := rfl
def C156_1 : ACode := .seq (.reg L156_0) C156_0
theorem u156_1 : VC C156_1.eq_1 := rfl
def F156 : AFunc := ⟨10, [.tmp 2], C156_1⟩
theorem cF156 : compB Try.prog 156 = some F156 := by kernel_rfl
attribute [local go_sem ↓] u156_0 u156_1 v156_0 v156_1 v156_2 v156_3 v156_4
theorem c_single (p : Param) (h : H) : bm Try.prog 156 [.agg (encQ p)] h = some (ib (single p), h) := by
  refine bm_eq cF156 ?_
  simp +contextual (maxSteps := 2000000) only [go_sem, Nat.reduceEqDiff, reduceCtorEq, Nat.reduceAdd, Nat.reduceLeDiff, F156, c_placed, single_eq]
  (repeat' (first | refine And.intro ?_ ?_ | intro _)) <;> first | simp_all
/-! slices.IndexFunc(()impl.Param,impl.Param) -/
def L180_0 : List AStep := [⟨.mov (.c (.int .i64 0)), (some 4), none, []⟩]
theorem v180_0 : VS L180_0.eq_1 := rfl
def L180_1 : List AStep := [⟨.mov (.c (.int .i64 0)), (some 8), none, []⟩]
theorem v180_1 : VS L180_1.eq_1 := rfl
def L180_2 : List AStep := ⟨.mov (.t 0), (some 6), none, []⟩ :: ⟨.len (.t 6), (some 7), none, []⟩ :: L180_1
theorem v180_2 : VS L180_2.eq_1 := rfl
def L180_3 : List AStep := [⟨.bin .lss (.t 8) (.t 7), (some 9), none, []⟩]
theorem v180_3 : VS L180_3.eq_1 := rfl
def L180_4 : List AStep := [⟨.mov (.t 8), (some 10), none, []⟩, ⟨.mov (.t 10), (some 5), none, []⟩]
theorem v180_4 : VS L180_4.eq_1 := rfl
def L180_5 : List AStep := [⟨.load 4 true (.t 14), (some 15), none, []⟩, ⟨.callv (.t 11) [(.t 15)], (some 16), none, []⟩]
theorem v180_5 : VS L180_5.eq_1 := rfl
def L180_6 : List AStep := ⟨.mov (.t 5), (some 13), none, []⟩ :: ⟨.iaddr 4 (.t 12) (.t 13), (some 14), none, []⟩ :: L180_5
theorem v180_6 : VS L180_6.eq_1 := rfl
def L180_7 : List AStep := ⟨.mov (.t 1), (some 11), none, []⟩ :: ⟨.mov (.t 0), (some 12), none, []⟩ :: L180_6
theorem v180_7 : VS L180_7.eq_1 := rfl
def L180_8 : List AStep := [⟨.mov (.t 5), (some 17), none, []⟩, ⟨.mov (.t 17), (some 4), none, []⟩]
theorem v180_8 : VS L180_8.eq_1 := rfl
def L180_9 : List AStep := [⟨.bin .add (.t 8) (.c (.int .i64 1)), (some 18), none, []⟩, ⟨.mov (.t 18), (some 8), none, []⟩]
theorem v180_9 : VS L180_9.eq_1 := rfl
def L180_10 : List AStep := [⟨.mov (.c (.int .i64 (-1))), (some 4), none, []⟩]
theorem v180_10 : VS L180_10.eq_1 := rfl
def C180_0 : ACode := .cond (.t 9) .skip (.exit 0)
theorem u180_0 : VC C180_0.eq_1 := rfl
def C180_1 : ACode := .seq (.reg L180_8) .ret
theorem u180_1 : VC C180_1.eq_1 := rfl
def C180_2 : ACode := .cond (.t 16) C180_1 .skip
theorem u180_2 : VC C180_2.eq_1 := rfl
def C180_3 : ACode := .seq (.reg L180_7) C180_2
theorem u180_3 : VC C180_3.eq_1 := rfl
def C180_4 : ACode := .seq (.reg L180_4) C180_3
theorem u180_4 : VC C180_4.eq_1 := rfl
def C180_5 : ACode := .block 1 C180_4
theorem u180_5 : VC C180_5.eq_1 := rfl
def C180_6 : ACode := .seq C180_5 (.reg L180_9)
theorem u180_6 : VC C180_6.eq_1 := rfl
def C180_7 : ACode := .seq C180_0 C180_6
theorem u180_7 : VC C180_7.eq_1 := rfl
def C180_8 : ACode := .seq (.reg L180_3) C180_7
theorem u180_8 : VC C180_8.eq_1 := rfl
def C180_9 : ACode := .block 0 (.loop C180_8)
theorem u180_9 : VC C180_9.eq_1 := rfl
def C180_10 : ACode := .seq (.reg L180_2) C180_9
theorem u180_10 : VC C180_10.eq_1 := rfl
def C180_11 : ACode := .seq (.reg L180_10) .ret
theorem u180_11 : VC C180_11.eq_1 := rfl
def C180_12 : ACode := .seq C180_10 C180_11
theorem u180_12 : VC C180_12.eq_1 := rfl
def C180_13 : ACode := .seq (.reg L180_0) C180_12
theorem u180_13 : VC C180_13.eq_1 := rfl
def F180 : AFunc := ⟨19, [.tmp 4], C180_13⟩
theorem cF180 : compB Try.prog 180 = some F180 := by kernel_rfl
attribute [local go_sem ↓] u180_0 u180_1 u180_2 u180_3 u180_4 u180_5 u180_6 u180_7 u180_8 u180_9 u180_10 u180_11 u180_12 u180_13 v180_0 v180_1 v180_2 v180_3 v180_4 v180_5 v180_6 v180_7 v180_8 v180_9 v180_10
theorem c_indexQ (l : List Param) (v : AV) (f : Nat) (caps : List (Nat × Nat)) (p : Param → Bool) (h : H) (hl : SlQ h v l) (hn : l.length ≤ big) (hf : ∀ i (hi : i < l.length), ∀ x, x = l[i] → bm Try.prog f (.agg (encQ x) :: caps.map fun a => .one (.ptr (some a))) h = some (ib (p x), h)) :
    bm Try.prog 180 [v, .one (.fn f caps)] h = some (ii (idx p l), h) := by
  refine bm_eq cF180 ?_
  simp +contextual (maxSteps := 2000000) only [go_sem, Nat.reduceEqDiff, reduceCtorEq, Nat.reduceAdd, Nat.reduceLeDiff, F180, hl.len]
  refine wpC_loop (fun i T L h' => h' = h ∧ T 0 = .v v ∧ T 1 = .v (.one (.fn f caps)) ∧ T 7 = .v (.one (.int .i64 l.length)) ∧ T 8 = .v (.one (.int .i64 i)) ∧ Pre p false l i) l.length ?_ ?_ (Nat.zero_le _) ?_
  · rintro i T L h' hi ⟨rfl, h0, h1, h7, h8, hp⟩
    simp +contextual (maxSteps := 2000000) only [go_sem, Nat.reduceEqDiff, reduceCtorEq, Nat.reduceAdd, Nat.reduceLeDiff, h0, h1, h7, h8, hl.iaddr hi, hl.whole hi, hf i hi _ rfl, lt_true hi]
    (repeat' (first | refine And.intro ?_ ?_ | intro _)) <;> first | rfl | rw [wrap_next hi (big_lt hn)] | exact hp.next hi ‹_› | rw [idx_hit hi hp ‹_›]
  · rintro T L h' ⟨rfl, h0, h1, h7, h8, hp⟩
    simp +contextual (maxSteps := 2000000) only [go_sem, Nat.reduceEqDiff, reduceCtorEq, Nat.reduceAdd, Nat.reduceLeDiff, h0, h1, h7, h8, lt_false, idx_none hp]
  · simp +contextual (maxSteps := 2000000) only [go_sem, Nat.reduceEqDiff, reduceCtorEq, Nat.reduceAdd, Nat.reduceLeDiff]
    (repeat' (first | refine And.intro ?_ ?_ | intro _)) <;> first | rfl | exact Pre.zero
/-! slices.ContainsFunc(()impl.Param,impl.Param) -/
def L183_0 : List AStep := [⟨.mov (.c (.bool false)), (some 4), none, []⟩]
theorem v183_0 : VS L183_0.eq_1 := rfl
def L183_1 : List AStep := [⟨.mov (.t 8), (some 4), none, []⟩]
theorem v183_1 : VS L183_1.eq_1 := rfl
def L183_2 : List AStep := ⟨.call 180 [(.t 5), (.t 6)], (some 7), none, []⟩ :: ⟨.bin .geq (.t 7) (.c (.int .i64 0)), (some 8), none, []⟩ :: L183_1
theorem v183_2 : VS L183_2.eq_1 := rfl
def L183_3 : List AStep := ⟨.mov (.t 0), (some 5), none, []⟩ :: ⟨.mov (.t 1), (some 6), none, []⟩ :: L183_2
theorem v183_3 : VS L183_3.eq_1 := rfl
def C183_0 : ACode := .seq (.reg L183_3) .ret
theorem u183_0 : VC C183_0.eq_1 := rfl
def C183_1 : ACode := .seq (.reg L183_0) C183_0
theorem u183_1 : VC C183_1.eq_1 := rfl
def F183 : AFunc := ⟨9, [.tmp 4], C183_1⟩
theorem cF183 : compB Try.prog 183 = some F183 := by kernel_rfl
attribute [local go_sem ↓] u183_0 u183_1 v183_0 v183_1 v183_2 v183_3
theorem c_hasQ (l : List Param) (v : AV) (f : Nat) (caps : List (Nat × Nat)) (p : Param → Bool) (h : H) (hl : SlQ h v l) (hn : l.length ≤ big) (hf : ∀ i (hi : i < l.length), ∀ x, x = l[i] → bm Try.prog f (.agg (encQ x) :: caps.map fun a => .one (.ptr (some a))) h = some (ib (p x), h)) :
    bm Try.prog 183 [v, .one (.fn f caps)] h = some (ib (l.any p), h) := by
  refine bm_eq cF183 ?_
  have e := idx_any (p := p) (l := l)
  simp +contextual (maxSteps := 2000000) only [go_sem, Nat.reduceEqDiff, reduceCtorEq, Nat.reduceAdd, Nat.reduceLeDiff, F183, c_indexQ l v f caps p h hl hn hf, e]
/-! impl.find$1 -/
def L181_0 : List AStep := [⟨.box 155 (.t 0), (some 2), none, []⟩, ⟨.mov (.c (.bool false)), (some 3), none, []⟩]
theorem v181_0 : VS L181_0.eq_1 := rfl
def L181_1 : List AStep := [⟨.mov (.t 7), (some 3), none, []⟩]
theorem v181_1 : VS L181_1.eq_1 := rfl
def L181_2 : List AStep := ⟨.load 1 false (.t 1), (some 6), none, []⟩ :: ⟨.bin .eql (.t 5) (.t 6), (some 7), none, []⟩ :: L181_1
theorem v181_2 : VS L181_2.eq_1 := rfl
def L181_3 : List AStep := ⟨.faddr 0 (.t 2), (some 4), none, []⟩ :: ⟨.load 1 false (.t 4), (some 5), none, []⟩ :: L181_2
theorem v181_3 : VS L181_3.eq_1 := rfl
def C181_0 : ACode := .seq (.reg L181_3) .ret
theorem u181_0 : VC C181_0.eq_1 := rfl
def C181_1 : ACode := .seq (.reg L181_0) C181_0
theorem u181_1 : VC C181_1.eq_1 := rfl
def F181 : AFunc := ⟨8, [.tmp 3], C181_1⟩
theorem cF181 : compB Try.prog 181 = some F181 := by kernel_rfl
attribute [local go_sem ↓] u181_0 u181_1 v181_0 v181_1 v181_2 v181_3
theorem c_find1 (p : Param) (a : Nat × Nat) (s : ByteArray) (h : H) (ha : loadO 1 false h (.one (.ptr (some a))) = some (.one (.str s))) : bm Try.prog 181 [.agg (encQ p), .one (.ptr (some a))] h = some (ib (decide (p.name = s)), h) := by
  refine bm_eq cF181 ?_
  simp +contextual (maxSteps := 2000000) only [go_sem, Nat.reduceEqDiff, reduceCtorEq, Nat.reduceAdd, Nat.reduceLeDiff, F181, ha]
/-! impl.find -/
def L158_0 : List AStep := [⟨.box 9 (.t 1), (some 3), none, []⟩, ⟨.mov (.c (.int .i64 0)), (some 4), none, []⟩]
theorem v158_0 : VS L158_0.eq_1 := rfl
def L158_1 : List AStep := [⟨.call 180 [(.t 5), (.t 6)], (some 7), none, []⟩, ⟨.mov (.t 7), (some 4), none, []⟩]
theorem v158_1 : VS L158_1.eq_1 := rfl
def L158_2 : List AStep := ⟨.mov (.t 0), (some 5), none, []⟩ :: ⟨.mkfn 181 [(.t 3)], (some 6), none, []⟩ :: L158_1
theorem v158_2 : VS L158_2.eq_1 := rfl
def C158_0 : ACode := .seq (.reg L158_2) .ret
theorem u158_0 : VC C158_0.eq_1 := rfl
def C158_1 : ACode := .seq (.reg L158_0) C158_0
theorem u158_1 : VC C158_1.eq_1 := rfl
def F158 : AFunc := ⟨8, [.tmp 4], C158_1⟩
theorem cF158 : compB Try.prog 158 = some F158 := by kernel_rfl
attribute [local go_sem ↓] u158_0 u158_1 v158_0 v158_1 v158_2
theorem c_find (l : List Param) (v : AV) (s : ByteArray) (h : H) (hl : SlQ h v l) (hn : smQ l) : bm Try.prog 158 [v, .one (.str s)] h = some (ii (paramAt l s), h) := by
  refine bm_eq cF158 ?_
  have e := c_indexQ l v 181 [(h.n, 0)] (fun p => decide (p.name = s)) (h.alloc [.str s] 9) (hl.grow (Grow.alloc _ _ _)) hn.1 (fun i hi x hx => c_find1 x (h.n, 0) s _ (Box.new.one rfl))
  simp +contextual (maxSteps := 2000000) only [go_sem, Nat.reduceEqDiff, reduceCtorEq, Nat.reduceAdd, Nat.reduceLeDiff, F158, e, paramAt]
end Go.Proofs.Ytdalgphpacikkac.Am
