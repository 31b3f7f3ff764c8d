/- Contracts of the program: numbers, names, pairs, flat calls and signatures that are valid. -/
import Derived.Test.YtcbnihbilmlokaaDat
namespace Go.Proofs.Ytcbnihbilmlokaa.Am
open Go
set_option maxRecDepth 100000
set_option maxHeartbeats 4000000
set_option linter.unusedSimpArgs false
set_option linter.unusedVariables false
attribute [local go_sem ↓] bv_t bv_c ev_t ev_c put_same put_ne put_none kill_at pro_at lb_same lb_ne start_zero start_succ wpC_seq wpC_reg wpC_cond wpC_block wpC_skip wpC_exit wpC_ret thenQ_normal thenQ_exit thenQ_ret inBlk_normal inBlk_exit inBlk_ret wpS_nil wpS_step wpS_again wpS_guard wpO_mov wpO_load wpO_faddr wpO_nilCheck wpO_pick wpO_build wpO_bin wpO_eqb wpO_eqst wpO_eqnil wpO_not wpO_conv wpO_bytesStr wpO_iaddr wpO_idxStr wpO_field wpO_extract wpO_len wpO_lenStr wpO_cap wpO_min wpO_slice wpO_sliceStr wpO_alloc wpO_box wpO_store wpO_call wpO_callv wpO_mkfn wpO_buildSlice wpO_mkslice wpO_append wpO_appz proA_nil proA_cons tmpX_nil tmpX_tmp tmpX_cell doneB_normal doneB_ret agK_cons agK_nil pureB_load results_one results_two results_nil resBs_cons resBs_nil resB_tmp resB_cell
attribute [local go_sem] kill_v kill_lp_ne kill_lp_same pro_v pro_lp_same pro_lp_ne av_v av_lp optB_some optX_some valX_eq ldX_lp ldX_v faX_lp faX_v ncX_lp ncX_ptr ncX_fn boxK_one boxK_agg stL_some stK_lp_one stK_lp_agg stK_v_one stK_v_agg proM_v proM_lp callG_mk callVG_mk callvK_fn fnG_mk ptrsA_nil ptrsA_cons callH_some whenA_true whenA_false guardH_tt guardH_ff guardH_tf guardH_ft guardH_undef agV_one agV_agg lenO_sl lenStrO_str notO_bool pickO_bool convO_int eqbO_bool eqnilO_sl extractO_tup capO_sl minO_int loadL_one loadL_all storeL_eq fillA_nil fillA_one fillA_agg nat_ge neg_ge nat_lt neg_lt buildO bin_add bin_sub bin_mul bin_eql bin_neq bin_lss bin_leq bin_gtr bin_geq str_eql str_neq str_lss str_leq str_gtr str_geq retK_some endK_mk gcK_same gcK_int gcK_bool tupO_one tupO_agg rdy_self ib ii Option.map_none Option.map_some Option.some.injEq exists_eq_left' exists_eq_left ne_eq not_false_eq_true if_true if_false List.map_cons List.map_nil List.getElem?_cons_zero List.getElem?_cons_succ List.length_cons List.length_nil List.take_succ_cons List.take_zero List.take_nil List.drop_succ_cons List.drop_zero List.drop_nil List.cons_append List.nil_append List.append_nil List.set_cons_zero List.set_cons_succ Nat.zero_add forall_const true_and and_true and_self Bool.false_eq_true false_implies true_implies implies_true Bool.not_true Bool.not_false Bool.not_eq_true' Bool.not_eq_false' beq_self_eq_true Bool.bne_true Bool.bne_false
attribute [local go_sem] lenI lenS lenP lenQ lenB lenL lenT encI_0 encS_0 encP_0 encP_1 encQ_0 encQ_1 encQ_2 encQ_3 encB_0 encB_1 encL_0 encL_1 encT_0 encT_1
attribute [local go_sem low] whenA_bool guardH_bool
section
variable {P : Program} {T : Tb} {L : Lb} {h : H} {Q : PostC} {K : Post}
/-! impl.in -/
def L188_0 : List AStep := [⟨.mov (.c (.bool false)), (some 6), none, []⟩]
theorem v188_0 : wpS P L188_0 T L (rdy h) K = wpS P ([⟨.mov (.c (.bool false)), (some 6), none, []⟩]) T L (rdy h) K := rfl
def L188_1 : List AStep := [⟨.mov (.t 14), (some 6), none, []⟩]
theorem v188_1 : wpS P L188_1 T L (rdy h) K = wpS P ([⟨.mov (.t 14), (some 6), none, []⟩]) T L (rdy h) K := rfl
def L188_2 : List AStep := ⟨.bin .leq (.t 11) (.t 12), (some 13), (some (10, true)), []⟩ :: ⟨.pick (.t 10) (.t 13) (.c (.bool false)), (some 14), none, []⟩ :: L188_1
theorem v188_2 : wpS P L188_2 T L (rdy h) K = wpS P (⟨.bin .leq (.t 11) (.t 12), (some 13), (some (10, true)), []⟩ :: ⟨.pick (.t 10) (.t 13) (.c (.bool false)), (some 14), none, []⟩ :: L188_1) T L (rdy h) K := rfl
def L188_3 : List AStep := ⟨.mov (.t 0), (some 11), (some (10, true)), []⟩ :: ⟨.mov (.t 2), (some 12), (some (10, true)), []⟩ :: L188_2
theorem v188_3 : wpS P L188_3 T L (rdy h) K = wpS P (⟨.mov (.t 0), (some 11), (some (10, true)), []⟩ :: ⟨.mov (.t 2), (some 12), (some (10, true)), []⟩ :: L188_2) T L (rdy h) K := rfl
def L188_4 : List AStep := ⟨.bin .geq (.t 7) (.t 8), (some 9), none, []⟩ :: ⟨.mov (.t 9), (some 10), none, []⟩ :: L188_3
theorem v188_4 : wpS P L188_4 T L (rdy h) K = wpS P (⟨.bin .geq (.t 7) (.t 8), (some 9), none, []⟩ :: ⟨.mov (.t 9), (some 10), none, []⟩ :: L188_3) T L (rdy h) K := rfl
def L188_5 : List AStep := ⟨.mov (.t 0), (some 7), none, []⟩ :: ⟨.mov (.t 1), (some 8), none, []⟩ :: L188_4
theorem v188_5 : wpS P L188_5 T L (rdy h) K = wpS P (⟨.mov (.t 0), (some 7), none, []⟩ :: ⟨.mov (.t 1), (some 8), none, []⟩ :: L188_4) T L (rdy h) K := rfl
def C188_0 : ACode := .seq (.reg L188_5) .ret
theorem u188_0 : wpC P C188_0 T L (rdy h) Q = wpC P (.seq (.reg L188_5) .ret) T L (rdy h) Q := rfl
def C188_1 : ACode := .seq (.reg L188_0) C188_0
theorem u188_1 : wpC P C188_1 T L (rdy h) Q = wpC P (.seq (.reg L188_0) C188_0) T L (rdy h) Q := rfl
def F188 : AFunc := ⟨15, [.tmp 6], C188_1⟩
theorem cF188 : compB Try.prog 188 = some F188 := by kernel_rfl
end
attribute [local go_sem ↓] u188_0 u188_1 v188_0 v188_1 v188_2 v188_3 v188_4 v188_5
theorem c_in (n lo hi : Int) (h : H) : bm Try.prog 188 [.one (.int .i64 n), .one (.int .i64 lo), .one (.int .i64 hi)] h = some (ib (decide (lo ≤ n) && decide (n ≤ hi)), h) := by
  refine bm_eq cF188 ?_
  simp +contextual (maxSteps := 2000000) only [go_sem, Nat.reduceEqDiff, reduceCtorEq, Nat.reduceAdd, Nat.reduceLeDiff, F188]
  (repeat' (first | refine And.intro ?_ ?_ | intro _)) <;> first | simp_all
section
variable {P : Program} {T : Tb} {L : Lb} {h : H} {Q : PostC} {K : Post}
/-! impl.isValue -/
def L189_0 : List AStep := [⟨.mov (.c (.bool false)), (some 2), none, []⟩]
theorem v189_0 : wpS P L189_0 T L (rdy h) K = wpS P ([⟨.mov (.c (.bool false)), (some 2), none, []⟩]) T L (rdy h) K := rfl
def L189_1 : List AStep := [⟨.mov (.t 4), (some 2), none, []⟩]
theorem v189_1 : wpS P L189_1 T L (rdy h) K = wpS P ([⟨.mov (.t 4), (some 2), none, []⟩]) T L (rdy h) K := rfl
def L189_2 : List AStep := ⟨.mov (.t 0), (some 3), none, []⟩ :: ⟨.call 188 [(.t 3), (.c (.int .i64 (-99))), (.c (.int .i64 99))], (some 4), none, []⟩ :: L189_1
theorem v189_2 : wpS P L189_2 T L (rdy h) K = wpS P (⟨.mov (.t 0), (some 3), none, []⟩ :: ⟨.call 188 [(.t 3), (.c (.int .i64 (-99))), (.c (.int .i64 99))], (some 4), none, []⟩ :: L189_1) T L (rdy h) K := rfl
def C189_0 : ACode := .seq (.reg L189_2) .ret
theorem u189_0 : wpC P C189_0 T L (rdy h) Q = wpC P (.seq (.reg L189_2) .ret) T L (rdy h) Q := rfl
def C189_1 : ACode := .seq (.reg L189_0) C189_0
theorem u189_1 : wpC P C189_1 T L (rdy h) Q = wpC P (.seq (.reg L189_0) C189_0) T L (rdy h) Q := rfl
def F189 : AFunc := ⟨5, [.tmp 2], C189_1⟩
theorem cF189 : compB Try.prog 189 = some F189 := by kernel_rfl
end
attribute [local go_sem ↓] u189_0 u189_1 v189_0 v189_1 v189_2
theorem c_isValue (n : Int) (h : H) : bm Try.prog 189 [.one (.int .i64 n)] h = some (ib (okNum n), h) := by
  refine bm_eq cF189 ?_
  simp +contextual (maxSteps := 2000000) only [go_sem, Nat.reduceEqDiff, reduceCtorEq, Nat.reduceAdd, Nat.reduceLeDiff, F189, c_in, okNum]
section
variable {P : Program} {T : Tb} {L : Lb} {h : H} {Q : PostC} {K : Post}
/-! impl.isName -/
def L160_0 : List AStep := [⟨.mov (.c (.bool false)), (some 2), none, []⟩]
theorem v160_0 : wpS P L160_0 T L (rdy h) K = wpS P ([⟨.mov (.c (.bool false)), (some 2), none, []⟩]) T L (rdy h) K := rfl
def L160_1 : List AStep := [⟨.mov (.c (.int .i64 0)), (some 3), none, []⟩]
theorem v160_1 : wpS P L160_1 T L (rdy h) K = wpS P ([⟨.mov (.c (.int .i64 0)), (some 3), none, []⟩]) T L (rdy h) K := rfl
def L160_2 : List AStep := [⟨.lenStr (.t 5), (some 6), none, []⟩, ⟨.bin .lss (.t 4) (.t 6), (some 7), none, []⟩]
theorem v160_2 : wpS P L160_2 T L (rdy h) K = wpS P ([⟨.lenStr (.t 5), (some 6), none, []⟩, ⟨.bin .lss (.t 4) (.t 6), (some 7), none, []⟩]) T L (rdy h) K := rfl
def L160_3 : List AStep := ⟨.mov (.t 3), (some 4), none, []⟩ :: ⟨.mov (.t 0), (some 5), none, []⟩ :: L160_2
theorem v160_3 : wpS P L160_3 T L (rdy h) K = wpS P (⟨.mov (.t 3), (some 4), none, []⟩ :: ⟨.mov (.t 0), (some 5), none, []⟩ :: L160_2) T L (rdy h) K := rfl
def L160_4 : List AStep := [⟨.bin .gtr (.t 17) (.c (.int .u8 122)), (some 18), (some (14, false)), []⟩, ⟨.pick (.t 14) (.c (.bool true)) (.t 18), (some 19), none, []⟩]
theorem v160_4 : wpS P L160_4 T L (rdy h) K = wpS P ([⟨.bin .gtr (.t 17) (.c (.int .u8 122)), (some 18), (some (14, false)), []⟩, ⟨.pick (.t 14) (.c (.bool true)) (.t 18), (some 19), none, []⟩]) T L (rdy h) K := rfl
def L160_5 : List AStep := ⟨.mov (.t 3), (some 16), (some (14, false)), []⟩ :: ⟨.idxStr (.t 15) (.t 16), (some 17), (some (14, false)), []⟩ :: L160_4
theorem v160_5 : wpS P L160_5 T L (rdy h) K = wpS P (⟨.mov (.t 3), (some 16), (some (14, false)), []⟩ :: ⟨.idxStr (.t 15) (.t 16), (some 17), (some (14, false)), []⟩ :: L160_4) T L (rdy h) K := rfl
def L160_6 : List AStep := ⟨.mov (.t 13), (some 14), none, []⟩ :: ⟨.mov (.t 0), (some 15), (some (14, false)), []⟩ :: L160_5
theorem v160_6 : wpS P L160_6 T L (rdy h) K = wpS P (⟨.mov (.t 13), (some 14), none, []⟩ :: ⟨.mov (.t 0), (some 15), (some (14, false)), []⟩ :: L160_5) T L (rdy h) K := rfl
def L160_7 : List AStep := ⟨.idxStr (.t 10) (.t 11), (some 12), none, []⟩ :: ⟨.bin .lss (.t 12) (.c (.int .u8 97)), (some 13), none, []⟩ :: L160_6
theorem v160_7 : wpS P L160_7 T L (rdy h) K = wpS P (⟨.idxStr (.t 10) (.t 11), (some 12), none, []⟩ :: ⟨.bin .lss (.t 12) (.c (.int .u8 97)), (some 13), none, []⟩ :: L160_6) T L (rdy h) K := rfl
def L160_8 : List AStep := ⟨.mov (.t 0), (some 10), none, []⟩ :: ⟨.mov (.t 3), (some 11), none, []⟩ :: L160_7
theorem v160_8 : wpS P L160_8 T L (rdy h) K = wpS P (⟨.mov (.t 0), (some 10), none, []⟩ :: ⟨.mov (.t 3), (some 11), none, []⟩ :: L160_7) T L (rdy h) K := rfl
def L160_9 : List AStep := [⟨.mov (.c (.bool false)), (some 2), none, []⟩]
theorem v160_9 : wpS P L160_9 T L (rdy h) K = wpS P ([⟨.mov (.c (.bool false)), (some 2), none, []⟩]) T L (rdy h) K := rfl
def L160_10 : List AStep := [⟨.mov (.t 9), (some 3), none, []⟩]
theorem v160_10 : wpS P L160_10 T L (rdy h) K = wpS P ([⟨.mov (.t 9), (some 3), none, []⟩]) T L (rdy h) K := rfl
def L160_11 : List AStep := ⟨.mov (.t 3), (some 8), none, []⟩ :: ⟨.bin .add (.t 8) (.c (.int .i64 1)), (some 9), none, []⟩ :: L160_10
theorem v160_11 : wpS P L160_11 T L (rdy h) K = wpS P (⟨.mov (.t 3), (some 8), none, []⟩ :: ⟨.bin .add (.t 8) (.c (.int .i64 1)), (some 9), none, []⟩ :: L160_10) T L (rdy h) K := rfl
def L160_12 : List AStep := [⟨.call 188 [(.t 21), (.c (.int .i64 1)), (.c (.int .i64 6))], (some 22), none, []⟩, ⟨.mov (.t 22), (some 2), none, []⟩]
theorem v160_12 : wpS P L160_12 T L (rdy h) K = wpS P ([⟨.call 188 [(.t 21), (.c (.int .i64 1)), (.c (.int .i64 6))], (some 22), none, []⟩, ⟨.mov (.t 22), (some 2), none, []⟩]) T L (rdy h) K := rfl
def L160_13 : List AStep := ⟨.mov (.t 0), (some 20), none, []⟩ :: ⟨.lenStr (.t 20), (some 21), none, []⟩ :: L160_12
theorem v160_13 : wpS P L160_13 T L (rdy h) K = wpS P (⟨.mov (.t 0), (some 20), none, []⟩ :: ⟨.lenStr (.t 20), (some 21), none, []⟩ :: L160_12) T L (rdy h) K := rfl
def C160_0 : ACode := .cond (.t 7) .skip (.exit 0)
theorem u160_0 : wpC P C160_0 T L (rdy h) Q = wpC P (.cond (.t 7) .skip (.exit 0)) T L (rdy h) Q := rfl
def C160_1 : ACode := .seq (.reg L160_3) C160_0
theorem u160_1 : wpC P C160_1 T L (rdy h) Q = wpC P (.seq (.reg L160_3) C160_0) T L (rdy h) Q := rfl
def C160_2 : ACode := .seq (.reg L160_9) .ret
theorem u160_2 : wpC P C160_2 T L (rdy h) Q = wpC P (.seq (.reg L160_9) .ret) T L (rdy h) Q := rfl
def C160_3 : ACode := .cond (.t 19) C160_2 .skip
theorem u160_3 : wpC P C160_3 T L (rdy h) Q = wpC P (.cond (.t 19) C160_2 .skip) T L (rdy h) Q := rfl
def C160_4 : ACode := .seq (.reg L160_8) C160_3
theorem u160_4 : wpC P C160_4 T L (rdy h) Q = wpC P (.seq (.reg L160_8) C160_3) T L (rdy h) Q := rfl
def C160_5 : ACode := .block 1 C160_4
theorem u160_5 : wpC P C160_5 T L (rdy h) Q = wpC P (.block 1 C160_4) T L (rdy h) Q := rfl
def C160_6 : ACode := .seq C160_5 (.reg L160_11)
theorem u160_6 : wpC P C160_6 T L (rdy h) Q = wpC P (.seq C160_5 (.reg L160_11)) T L (rdy h) Q := rfl
def C160_7 : ACode := .seq C160_1 C160_6
theorem u160_7 : wpC P C160_7 T L (rdy h) Q = wpC P (.seq C160_1 C160_6) T L (rdy h) Q := rfl
def C160_8 : ACode := .block 0 (.loop C160_7)
theorem u160_8 : wpC P C160_8 T L (rdy h) Q = wpC P (.block 0 (.loop C160_7)) T L (rdy h) Q := rfl
def C160_9 : ACode := .seq (.reg L160_1) C160_8
theorem u160_9 : wpC P C160_9 T L (rdy h) Q = wpC P (.seq (.reg L160_1) C160_8) T L (rdy h) Q := rfl
def C160_10 : ACode := .seq (.reg L160_13) .ret
theorem u160_10 : wpC P C160_10 T L (rdy h) Q = wpC P (.seq (.reg L160_13) .ret) T L (rdy h) Q := rfl
def C160_11 : ACode := .seq C160_9 C160_10
theorem u160_11 : wpC P C160_11 T L (rdy h) Q = wpC P (.seq C160_9 C160_10) T L (rdy h) Q := rfl
def C160_12 : ACode := .seq (.reg L160_0) C160_11
theorem u160_12 : wpC P C160_12 T L (rdy h) Q = wpC P (.seq (.reg L160_0) C160_11) T L (rdy h) Q := rfl
def F160 : AFunc := ⟨23, [.tmp 2], C160_12⟩
theorem cF160 : compB Try.prog 160 = some F160 := by kernel_rfl
end
attribute [local go_sem ↓] u160_0 u160_1 u160_2 u160_3 u160_4 u160_5 u160_6 u160_7 u160_8 u160_9 u160_10 u160_11 u160_12 v160_0 v160_1 v160_2 v160_3 v160_4 v160_5 v160_6 v160_7 v160_8 v160_9 v160_10 v160_11 v160_12 v160_13
theorem c_isName (s : ByteArray) (h : H) (hn : s.size < 2 ^ 62) : bm Try.prog 160 [.one (.str s)] h = some (ib (okName s), h) := by
  refine bm_eq cF160 ?_
  simp +contextual (maxSteps := 2000000) only [go_sem, Nat.reduceEqDiff, reduceCtorEq, Nat.reduceAdd, Nat.reduceLeDiff, F160]
  have hsz : s.data.toList.length = s.size := Array.length_toList
  refine wpC_loop (fun i T L h' => h' = h ∧ T 0 = .v (.one (.str s)) ∧ T 3 = .v (.one (.int .i64 i)) ∧ Pre isLow true s.data.toList i) s.size ?_ ?_ (Nat.zero_le _) ?_
  · rintro i T L h' hi ⟨rfl, h0, h3, hp⟩
    simp +contextual (maxSteps := 2000000) only [go_sem, Nat.reduceEqDiff, reduceCtorEq, Nat.reduceAdd, Nat.reduceLeDiff, h0, h3, idx_at hi, lt_true hi]
    have e : s.data.toList[i]'(by omega) = s.data[i]'hi := Array.getElem_toList _
    have bad : isLow (s.data[i]'hi) = false → okName s = false := fun hx => by
      unfold okName
      rw [all_stop (l := s.data.toList) (i := i) (by omega) (by rw [e]; exact hx)]
      rfl
    have low : isLow (s.data[i]'hi) = (!(decide ((↑(s.data[i]'hi).toNat : Int) < 97)) && !(decide ((↑(s.data[i]'hi).toNat : Int) > 122))) := by
      unfold isLow
      rw [Bool.eq_iff_iff]
      simp
      omega
    (repeat' (first | refine And.intro ?_ ?_ | intro _)) <;> first | rfl | rw [wrap_next hi hn] | exact hp.next (by omega) (by rw [e, low]; simp_all) | rw [bad (by rw [low]; simp_all)]
  · rintro T L h' ⟨rfl, h0, h3, hp⟩
    rw [← hsz] at hp
    simp +contextual (maxSteps := 2000000) only [go_sem, Nat.reduceEqDiff, reduceCtorEq, Nat.reduceAdd, Nat.reduceLeDiff, h0, h3, lt_false, c_in, okName, hp.all, Bool.true_and]
  · simp +contextual (maxSteps := 2000000) only [go_sem, Nat.reduceEqDiff, reduceCtorEq, Nat.reduceAdd, Nat.reduceLeDiff]
    (repeat' (first | refine And.intro ?_ ?_ | intro _)) <;> first | rfl | exact Pre.zero
section
variable {P : Program} {T : Tb} {L : Lb} {h : H} {Q : PostC} {K : Post}
/-! (impl.Pair).valid -/
def L155_0 : List AStep := [⟨.box 133 (.t 0), (some 1), none, []⟩, ⟨.mov (.c (.bool false)), (some 2), none, []⟩]
theorem v155_0 : wpS P L155_0 T L (rdy h) K = wpS P ([⟨.box 133 (.t 0), (some 1), none, []⟩, ⟨.mov (.c (.bool false)), (some 2), none, []⟩]) T L (rdy h) K := rfl
def L155_1 : List AStep := [⟨.mov (.t 10), (some 2), none, []⟩]
theorem v155_1 : wpS P L155_1 T L (rdy h) K = wpS P ([⟨.mov (.t 10), (some 2), none, []⟩]) T L (rdy h) K := rfl
def L155_2 : List AStep := ⟨.call 189 [(.t 8)], (some 9), (some (6, true)), []⟩ :: ⟨.pick (.t 6) (.t 9) (.c (.bool false)), (some 10), none, []⟩ :: L155_1
theorem v155_2 : wpS P L155_2 T L (rdy h) K = wpS P (⟨.call 189 [(.t 8)], (some 9), (some (6, true)), []⟩ :: ⟨.pick (.t 6) (.t 9) (.c (.bool false)), (some 10), none, []⟩ :: L155_1) T L (rdy h) K := rfl
def L155_3 : List AStep := ⟨.faddr 1 (.t 1), (some 7), (some (6, true)), []⟩ :: ⟨.load 1 false (.t 7), (some 8), (some (6, true)), []⟩ :: L155_2
theorem v155_3 : wpS P L155_3 T L (rdy h) K = wpS P (⟨.faddr 1 (.t 1), (some 7), (some (6, true)), []⟩ :: ⟨.load 1 false (.t 7), (some 8), (some (6, true)), []⟩ :: L155_2) T L (rdy h) K := rfl
def L155_4 : List AStep := ⟨.call 160 [(.t 4)], (some 5), none, []⟩ :: ⟨.mov (.t 5), (some 6), none, []⟩ :: L155_3
theorem v155_4 : wpS P L155_4 T L (rdy h) K = wpS P (⟨.call 160 [(.t 4)], (some 5), none, []⟩ :: ⟨.mov (.t 5), (some 6), none, []⟩ :: L155_3) T L (rdy h) K := rfl
def L155_5 : List AStep := ⟨.faddr 0 (.t 1), (some 3), none, []⟩ :: ⟨.load 1 false (.t 3), (some 4), none, []⟩ :: L155_4
theorem v155_5 : wpS P L155_5 T L (rdy h) K = wpS P (⟨.faddr 0 (.t 1), (some 3), none, []⟩ :: ⟨.load 1 false (.t 3), (some 4), none, []⟩ :: L155_4) T L (rdy h) K := rfl
def C155_0 : ACode := .seq (.reg L155_5) .ret
theorem u155_0 : wpC P C155_0 T L (rdy h) Q = wpC P (.seq (.reg L155_5) .ret) T L (rdy h) Q := rfl
def C155_1 : ACode := .seq (.reg L155_0) C155_0
theorem u155_1 : wpC P C155_1 T L (rdy h) Q = wpC P (.seq (.reg L155_0) C155_0) T L (rdy h) Q := rfl
def F155 : AFunc := ⟨11, [.tmp 2], C155_1⟩
theorem cF155 : compB Try.prog 155 = some F155 := by kernel_rfl
end
attribute [local go_sem ↓] u155_0 u155_1 v155_0 v155_1 v155_2 v155_3 v155_4 v155_5
theorem c_okPair (p : Pair) (h : H) (hn : p.name.size < 2 ^ 62) : bm Try.prog 155 [.agg (encP p)] h = some (ib (okPair p), h) := by
  refine bm_eq cF155 ?_
  simp +contextual (maxSteps := 2000000) only [go_sem, Nat.reduceEqDiff, reduceCtorEq, Nat.reduceAdd, Nat.reduceLeDiff, F155, c_isName _ _ hn, c_isValue, okPair]
  (repeat' (first | refine And.intro ?_ ?_ | intro _)) <;> first | simp_all
section
variable {P : Program} {T : Tb} {L : Lb} {h : H} {Q : PostC} {K : Post}
/-! slices.IndexFunc(()impl.Pair,impl.Pair) -/
def L216_0 : List AStep := [⟨.mov (.c (.int .i64 0)), (some 4), none, []⟩]
theorem v216_0 : wpS P L216_0 T L (rdy h) K = wpS P ([⟨.mov (.c (.int .i64 0)), (some 4), none, []⟩]) T L (rdy h) K := rfl
def L216_1 : List AStep := [⟨.mov (.c (.int .i64 0)), (some 8), none, []⟩]
theorem v216_1 : wpS P L216_1 T L (rdy h) K = wpS P ([⟨.mov (.c (.int .i64 0)), (some 8), none, []⟩]) T L (rdy h) K := rfl
def L216_2 : List AStep := ⟨.mov (.t 0), (some 6), none, []⟩ :: ⟨.len (.t 6), (some 7), none, []⟩ :: L216_1
theorem v216_2 : wpS P L216_2 T L (rdy h) K = wpS P (⟨.mov (.t 0), (some 6), none, []⟩ :: ⟨.len (.t 6), (some 7), none, []⟩ :: L216_1) T L (rdy h) K := rfl
def L216_3 : List AStep := [⟨.bin .lss (.t 8) (.t 7), (some 9), none, []⟩]
theorem v216_3 : wpS P L216_3 T L (rdy h) K = wpS P ([⟨.bin .lss (.t 8) (.t 7), (some 9), none, []⟩]) T L (rdy h) K := rfl
def L216_4 : List AStep := [⟨.mov (.t 8), (some 10), none, []⟩, ⟨.mov (.t 10), (some 5), none, []⟩]
theorem v216_4 : wpS P L216_4 T L (rdy h) K = wpS P ([⟨.mov (.t 8), (some 10), none, []⟩, ⟨.mov (.t 10), (some 5), none, []⟩]) T L (rdy h) K := rfl
def L216_5 : List AStep := [⟨.load 2 true (.t 14), (some 15), none, []⟩, ⟨.callv (.t 11) [(.t 15)], (some 16), none, []⟩]
theorem v216_5 : wpS P L216_5 T L (rdy h) K = wpS P ([⟨.load 2 true (.t 14), (some 15), none, []⟩, ⟨.callv (.t 11) [(.t 15)], (some 16), none, []⟩]) T L (rdy h) K := rfl
def L216_6 : List AStep := ⟨.mov (.t 5), (some 13), none, []⟩ :: ⟨.iaddr 2 (.t 12) (.t 13), (some 14), none, []⟩ :: L216_5
theorem v216_6 : wpS P L216_6 T L (rdy h) K = wpS P (⟨.mov (.t 5), (some 13), none, []⟩ :: ⟨.iaddr 2 (.t 12) (.t 13), (some 14), none, []⟩ :: L216_5) T L (rdy h) K := rfl
def L216_7 : List AStep := ⟨.mov (.t 1), (some 11), none, []⟩ :: ⟨.mov (.t 0), (some 12), none, []⟩ :: L216_6
theorem v216_7 : wpS P L216_7 T L (rdy h) K = wpS P (⟨.mov (.t 1), (some 11), none, []⟩ :: ⟨.mov (.t 0), (some 12), none, []⟩ :: L216_6) T L (rdy h) K := rfl
def L216_8 : List AStep := [⟨.mov (.t 5), (some 17), none, []⟩, ⟨.mov (.t 17), (some 4), none, []⟩]
theorem v216_8 : wpS P L216_8 T L (rdy h) K = wpS P ([⟨.mov (.t 5), (some 17), none, []⟩, ⟨.mov (.t 17), (some 4), none, []⟩]) T L (rdy h) K := rfl
def L216_9 : List AStep := [⟨.bin .add (.t 8) (.c (.int .i64 1)), (some 18), none, []⟩, ⟨.mov (.t 18), (some 8), none, []⟩]
theorem v216_9 : wpS P L216_9 T L (rdy h) K = wpS P ([⟨.bin .add (.t 8) (.c (.int .i64 1)), (some 18), none, []⟩, ⟨.mov (.t 18), (some 8), none, []⟩]) T L (rdy h) K := rfl
def L216_10 : List AStep := [⟨.mov (.c (.int .i64 (-1))), (some 4), none, []⟩]
theorem v216_10 : wpS P L216_10 T L (rdy h) K = wpS P ([⟨.mov (.c (.int .i64 (-1))), (some 4), none, []⟩]) T L (rdy h) K := rfl
def C216_0 : ACode := .cond (.t 9) .skip (.exit 0)
theorem u216_0 : wpC P C216_0 T L (rdy h) Q = wpC P (.cond (.t 9) .skip (.exit 0)) T L (rdy h) Q := rfl
def C216_1 : ACode := .seq (.reg L216_8) .ret
theorem u216_1 : wpC P C216_1 T L (rdy h) Q = wpC P (.seq (.reg L216_8) .ret) T L (rdy h) Q := rfl
def C216_2 : ACode := .cond (.t 16) C216_1 .skip
theorem u216_2 : wpC P C216_2 T L (rdy h) Q = wpC P (.cond (.t 16) C216_1 .skip) T L (rdy h) Q := rfl
def C216_3 : ACode := .seq (.reg L216_7) C216_2
theorem u216_3 : wpC P C216_3 T L (rdy h) Q = wpC P (.seq (.reg L216_7) C216_2) T L (rdy h) Q := rfl
def C216_4 : ACode := .seq (.reg L216_4) C216_3
theorem u216_4 : wpC P C216_4 T L (rdy h) Q = wpC P (.seq (.reg L216_4) C216_3) T L (rdy h) Q := rfl
def C216_5 : ACode := .block 1 C216_4
theorem u216_5 : wpC P C216_5 T L (rdy h) Q = wpC P (.block 1 C216_4) T L (rdy h) Q := rfl
def C216_6 : ACode := .seq C216_5 (.reg L216_9)
theorem u216_6 : wpC P C216_6 T L (rdy h) Q = wpC P (.seq C216_5 (.reg L216_9)) T L (rdy h) Q := rfl
def C216_7 : ACode := .seq C216_0 C216_6
theorem u216_7 : wpC P C216_7 T L (rdy h) Q = wpC P (.seq C216_0 C216_6) T L (rdy h) Q := rfl
def C216_8 : ACode := .seq (.reg L216_3) C216_7
theorem u216_8 : wpC P C216_8 T L (rdy h) Q = wpC P (.seq (.reg L216_3) C216_7) T L (rdy h) Q := rfl
def C216_9 : ACode := .block 0 (.loop C216_8)
theorem u216_9 : wpC P C216_9 T L (rdy h) Q = wpC P (.block 0 (.loop C216_8)) T L (rdy h) Q := rfl
def C216_10 : ACode := .seq (.reg L216_2) C216_9
theorem u216_10 : wpC P C216_10 T L (rdy h) Q = wpC P (.seq (.reg L216_2) C216_9) T L (rdy h) Q := rfl
def C216_11 : ACode := .seq (.reg L216_10) .ret
theorem u216_11 : wpC P C216_11 T L (rdy h) Q = wpC P (.seq (.reg L216_10) .ret) T L (rdy h) Q := rfl
def C216_12 : ACode := .seq C216_10 C216_11
theorem u216_12 : wpC P C216_12 T L (rdy h) Q = wpC P (.seq C216_10 C216_11) T L (rdy h) Q := rfl
def C216_13 : ACode := .seq (.reg L216_0) C216_12
theorem u216_13 : wpC P C216_13 T L (rdy h) Q = wpC P (.seq (.reg L216_0) C216_12) T L (rdy h) Q := rfl
def F216 : AFunc := ⟨19, [.tmp 4], C216_13⟩
theorem cF216 : compB Try.prog 216 = some F216 := by kernel_rfl
end
attribute [local go_sem ↓] u216_0 u216_1 u216_2 u216_3 u216_4 u216_5 u216_6 u216_7 u216_8 u216_9 u216_10 u216_11 u216_12 u216_13 v216_0 v216_1 v216_2 v216_3 v216_4 v216_5 v216_6 v216_7 v216_8 v216_9 v216_10
theorem c_indexP (l : List Pair) (v : AV) (f : Nat) (caps : List (Nat × Nat)) (p : Pair → Bool) (h : H) (hl : SlP h v l) (hn : l.length ≤ big) (hf : ∀ i (hi : i < l.length), ∀ x, x = l[i] → bm Try.prog f (.agg (encP x) :: caps.map fun a => .one (.ptr (some a))) h = some (ib (p x), h)) :
    bm Try.prog 216 [v, .one (.fn f caps)] h = some (ii (idx p l), h) := by
  refine bm_eq cF216 ?_
  simp +contextual (maxSteps := 2000000) only [go_sem, Nat.reduceEqDiff, reduceCtorEq, Nat.reduceAdd, Nat.reduceLeDiff, F216, hl.len]
  refine wpC_loop (fun i T L h' => h' = h ∧ T 0 = .v v ∧ T 1 = .v (.one (.fn f caps)) ∧ T 7 = .v (.one (.int .i64 l.length)) ∧ T 8 = .v (.one (.int .i64 i)) ∧ Pre p false l i) l.length ?_ ?_ (Nat.zero_le _) ?_
  · rintro i T L h' hi ⟨rfl, h0, h1, h7, h8, hp⟩
    simp +contextual (maxSteps := 2000000) only [go_sem, Nat.reduceEqDiff, reduceCtorEq, Nat.reduceAdd, Nat.reduceLeDiff, h0, h1, h7, h8, hl.iaddr hi, hl.whole hi, hf i hi _ rfl, lt_true hi]
    (repeat' (first | refine And.intro ?_ ?_ | intro _)) <;> first | rfl | rw [wrap_next hi (big_lt hn)] | exact hp.next hi ‹_› | rw [idx_hit hi hp ‹_›]
  · rintro T L h' ⟨rfl, h0, h1, h7, h8, hp⟩
    simp +contextual (maxSteps := 2000000) only [go_sem, Nat.reduceEqDiff, reduceCtorEq, Nat.reduceAdd, Nat.reduceLeDiff, h0, h1, h7, h8, lt_false, idx_none hp]
  · simp +contextual (maxSteps := 2000000) only [go_sem, Nat.reduceEqDiff, reduceCtorEq, Nat.reduceAdd, Nat.reduceLeDiff]
    (repeat' (first | refine And.intro ?_ ?_ | intro _)) <;> first | rfl | exact Pre.zero
section
variable {P : Program} {T : Tb} {L : Lb} {h : H} {Q : PostC} {K : Post}
/-! slices.IndexFunc(()int,int) -/
def L242_0 : List AStep := [⟨.mov (.c (.int .i64 0)), (some 4), none, []⟩]
theorem v242_0 : wpS P L242_0 T L (rdy h) K = wpS P ([⟨.mov (.c (.int .i64 0)), (some 4), none, []⟩]) T L (rdy h) K := rfl
def L242_1 : List AStep := [⟨.mov (.c (.int .i64 0)), (some 8), none, []⟩]
theorem v242_1 : wpS P L242_1 T L (rdy h) K = wpS P ([⟨.mov (.c (.int .i64 0)), (some 8), none, []⟩]) T L (rdy h) K := rfl
def L242_2 : List AStep := ⟨.mov (.t 0), (some 6), none, []⟩ :: ⟨.len (.t 6), (some 7), none, []⟩ :: L242_1
theorem v242_2 : wpS P L242_2 T L (rdy h) K = wpS P (⟨.mov (.t 0), (some 6), none, []⟩ :: ⟨.len (.t 6), (some 7), none, []⟩ :: L242_1) T L (rdy h) K := rfl
def L242_3 : List AStep := [⟨.bin .lss (.t 8) (.t 7), (some 9), none, []⟩]
theorem v242_3 : wpS P L242_3 T L (rdy h) K = wpS P ([⟨.bin .lss (.t 8) (.t 7), (some 9), none, []⟩]) T L (rdy h) K := rfl
def L242_4 : List AStep := [⟨.mov (.t 8), (some 10), none, []⟩, ⟨.mov (.t 10), (some 5), none, []⟩]
theorem v242_4 : wpS P L242_4 T L (rdy h) K = wpS P ([⟨.mov (.t 8), (some 10), none, []⟩, ⟨.mov (.t 10), (some 5), none, []⟩]) T L (rdy h) K := rfl
def L242_5 : List AStep := [⟨.load 1 false (.t 14), (some 15), none, []⟩, ⟨.callv (.t 11) [(.t 15)], (some 16), none, []⟩]
theorem v242_5 : wpS P L242_5 T L (rdy h) K = wpS P ([⟨.load 1 false (.t 14), (some 15), none, []⟩, ⟨.callv (.t 11) [(.t 15)], (some 16), none, []⟩]) T L (rdy h) K := rfl
def L242_6 : List AStep := ⟨.mov (.t 5), (some 13), none, []⟩ :: ⟨.iaddr 1 (.t 12) (.t 13), (some 14), none, []⟩ :: L242_5
theorem v242_6 : wpS P L242_6 T L (rdy h) K = wpS P (⟨.mov (.t 5), (some 13), none, []⟩ :: ⟨.iaddr 1 (.t 12) (.t 13), (some 14), none, []⟩ :: L242_5) T L (rdy h) K := rfl
def L242_7 : List AStep := ⟨.mov (.t 1), (some 11), none, []⟩ :: ⟨.mov (.t 0), (some 12), none, []⟩ :: L242_6
theorem v242_7 : wpS P L242_7 T L (rdy h) K = wpS P (⟨.mov (.t 1), (some 11), none, []⟩ :: ⟨.mov (.t 0), (some 12), none, []⟩ :: L242_6) T L (rdy h) K := rfl
def L242_8 : List AStep := [⟨.mov (.t 5), (some 17), none, []⟩, ⟨.mov (.t 17), (some 4), none, []⟩]
theorem v242_8 : wpS P L242_8 T L (rdy h) K = wpS P ([⟨.mov (.t 5), (some 17), none, []⟩, ⟨.mov (.t 17), (some 4), none, []⟩]) T L (rdy h) K := rfl
def L242_9 : List AStep := [⟨.bin .add (.t 8) (.c (.int .i64 1)), (some 18), none, []⟩, ⟨.mov (.t 18), (some 8), none, []⟩]
theorem v242_9 : wpS P L242_9 T L (rdy h) K = wpS P ([⟨.bin .add (.t 8) (.c (.int .i64 1)), (some 18), none, []⟩, ⟨.mov (.t 18), (some 8), none, []⟩]) T L (rdy h) K := rfl
def L242_10 : List AStep := [⟨.mov (.c (.int .i64 (-1))), (some 4), none, []⟩]
theorem v242_10 : wpS P L242_10 T L (rdy h) K = wpS P ([⟨.mov (.c (.int .i64 (-1))), (some 4), none, []⟩]) T L (rdy h) K := rfl
def C242_0 : ACode := .cond (.t 9) .skip (.exit 0)
theorem u242_0 : wpC P C242_0 T L (rdy h) Q = wpC P (.cond (.t 9) .skip (.exit 0)) T L (rdy h) Q := rfl
def C242_1 : ACode := .seq (.reg L242_8) .ret
theorem u242_1 : wpC P C242_1 T L (rdy h) Q = wpC P (.seq (.reg L242_8) .ret) T L (rdy h) Q := rfl
def C242_2 : ACode := .cond (.t 16) C242_1 .skip
theorem u242_2 : wpC P C242_2 T L (rdy h) Q = wpC P (.cond (.t 16) C242_1 .skip) T L (rdy h) Q := rfl
def C242_3 : ACode := .seq (.reg L242_7) C242_2
theorem u242_3 : wpC P C242_3 T L (rdy h) Q = wpC P (.seq (.reg L242_7) C242_2) T L (rdy h) Q := rfl
def C242_4 : ACode := .seq (.reg L242_4) C242_3
theorem u242_4 : wpC P C242_4 T L (rdy h) Q = wpC P (.seq (.reg L242_4) C242_3) T L (rdy h) Q := rfl
def C242_5 : ACode := .block 1 C242_4
theorem u242_5 : wpC P C242_5 T L (rdy h) Q = wpC P (.block 1 C242_4) T L (rdy h) Q := rfl
def C242_6 : ACode := .seq C242_5 (.reg L242_9)
theorem u242_6 : wpC P C242_6 T L (rdy h) Q = wpC P (.seq C242_5 (.reg L242_9)) T L (rdy h) Q := rfl
def C242_7 : ACode := .seq C242_0 C242_6
theorem u242_7 : wpC P C242_7 T L (rdy h) Q = wpC P (.seq C242_0 C242_6) T L (rdy h) Q := rfl
def C242_8 : ACode := .seq (.reg L242_3) C242_7
theorem u242_8 : wpC P C242_8 T L (rdy h) Q = wpC P (.seq (.reg L242_3) C242_7) T L (rdy h) Q := rfl
def C242_9 : ACode := .block 0 (.loop C242_8)
theorem u242_9 : wpC P C242_9 T L (rdy h) Q = wpC P (.block 0 (.loop C242_8)) T L (rdy h) Q := rfl
def C242_10 : ACode := .seq (.reg L242_2) C242_9
theorem u242_10 : wpC P C242_10 T L (rdy h) Q = wpC P (.seq (.reg L242_2) C242_9) T L (rdy h) Q := rfl
def C242_11 : ACode := .seq (.reg L242_10) .ret
theorem u242_11 : wpC P C242_11 T L (rdy h) Q = wpC P (.seq (.reg L242_10) .ret) T L (rdy h) Q := rfl
def C242_12 : ACode := .seq C242_10 C242_11
theorem u242_12 : wpC P C242_12 T L (rdy h) Q = wpC P (.seq C242_10 C242_11) T L (rdy h) Q := rfl
def C242_13 : ACode := .seq (.reg L242_0) C242_12
theorem u242_13 : wpC P C242_13 T L (rdy h) Q = wpC P (.seq (.reg L242_0) C242_12) T L (rdy h) Q := rfl
def F242 : AFunc := ⟨19, [.tmp 4], C242_13⟩
theorem cF242 : compB Try.prog 242 = some F242 := by kernel_rfl
end
attribute [local go_sem ↓] u242_0 u242_1 u242_2 u242_3 u242_4 u242_5 u242_6 u242_7 u242_8 u242_9 u242_10 u242_11 u242_12 u242_13 v242_0 v242_1 v242_2 v242_3 v242_4 v242_5 v242_6 v242_7 v242_8 v242_9 v242_10
theorem c_indexI (l : List Int) (v : AV) (f : Nat) (caps : List (Nat × Nat)) (p : Int → Bool) (h : H) (hl : SlI h v l) (hn : l.length ≤ big) (hf : ∀ i (hi : i < l.length), ∀ x, x = l[i] → bm Try.prog f (.one (.int .i64 x) :: caps.map fun a => .one (.ptr (some a))) h = some (ib (p x), h)) :
    bm Try.prog 242 [v, .one (.fn f caps)] h = some (ii (idx p l), h) := by
  refine bm_eq cF242 ?_
  simp +contextual (maxSteps := 2000000) only [go_sem, Nat.reduceEqDiff, reduceCtorEq, Nat.reduceAdd, Nat.reduceLeDiff, F242, hl.len]
  refine wpC_loop (fun i T L h' => h' = h ∧ T 0 = .v v ∧ T 1 = .v (.one (.fn f caps)) ∧ T 7 = .v (.one (.int .i64 l.length)) ∧ T 8 = .v (.one (.int .i64 i)) ∧ Pre p false l i) l.length ?_ ?_ (Nat.zero_le _) ?_
  · rintro i T L h' hi ⟨rfl, h0, h1, h7, h8, hp⟩
    simp +contextual (maxSteps := 2000000) only [go_sem, Nat.reduceEqDiff, reduceCtorEq, Nat.reduceAdd, Nat.reduceLeDiff, h0, h1, h7, h8, hl.iaddr hi, hl.oneO hi, hf i hi _ rfl, lt_true hi]
    (repeat' (first | refine And.intro ?_ ?_ | intro _)) <;> first | rfl | rw [wrap_next hi (big_lt hn)] | exact hp.next hi ‹_› | rw [idx_hit hi hp ‹_›]
  · rintro T L h' ⟨rfl, h0, h1, h7, h8, hp⟩
    simp +contextual (maxSteps := 2000000) only [go_sem, Nat.reduceEqDiff, reduceCtorEq, Nat.reduceAdd, Nat.reduceLeDiff, h0, h1, h7, h8, lt_false, idx_none hp]
  · simp +contextual (maxSteps := 2000000) only [go_sem, Nat.reduceEqDiff, reduceCtorEq, Nat.reduceAdd, Nat.reduceLeDiff]
    (repeat' (first | refine And.intro ?_ ?_ | intro _)) <;> first | rfl | exact Pre.zero
section
variable {P : Program} {T : Tb} {L : Lb} {h : H} {Q : PostC} {K : Post}
/-! slices.ContainsFunc(()int,int) -/
def L218_0 : List AStep := [⟨.mov (.c (.bool false)), (some 4), none, []⟩]
theorem v218_0 : wpS P L218_0 T L (rdy h) K = wpS P ([⟨.mov (.c (.bool false)), (some 4), none, []⟩]) T L (rdy h) K := rfl
def L218_1 : List AStep := [⟨.mov (.t 8), (some 4), none, []⟩]
theorem v218_1 : wpS P L218_1 T L (rdy h) K = wpS P ([⟨.mov (.t 8), (some 4), none, []⟩]) T L (rdy h) K := rfl
def L218_2 : List AStep := ⟨.call 242 [(.t 5), (.t 6)], (some 7), none, []⟩ :: ⟨.bin .geq (.t 7) (.c (.int .i64 0)), (some 8), none, []⟩ :: L218_1
theorem v218_2 : wpS P L218_2 T L (rdy h) K = wpS P (⟨.call 242 [(.t 5), (.t 6)], (some 7), none, []⟩ :: ⟨.bin .geq (.t 7) (.c (.int .i64 0)), (some 8), none, []⟩ :: L218_1) T L (rdy h) K := rfl
def L218_3 : List AStep := ⟨.mov (.t 0), (some 5), none, []⟩ :: ⟨.mov (.t 1), (some 6), none, []⟩ :: L218_2
theorem v218_3 : wpS P L218_3 T L (rdy h) K = wpS P (⟨.mov (.t 0), (some 5), none, []⟩ :: ⟨.mov (.t 1), (some 6), none, []⟩ :: L218_2) T L (rdy h) K := rfl
def C218_0 : ACode := .seq (.reg L218_3) .ret
theorem u218_0 : wpC P C218_0 T L (rdy h) Q = wpC P (.seq (.reg L218_3) .ret) T L (rdy h) Q := rfl
def C218_1 : ACode := .seq (.reg L218_0) C218_0
theorem u218_1 : wpC P C218_1 T L (rdy h) Q = wpC P (.seq (.reg L218_0) C218_0) T L (rdy h) Q := rfl
def F218 : AFunc := ⟨9, [.tmp 4], C218_1⟩
theorem cF218 : compB Try.prog 218 = some F218 := by kernel_rfl
end
attribute [local go_sem ↓] u218_0 u218_1 v218_0 v218_1 v218_2 v218_3
theorem c_hasI (l : List Int) (v : AV) (f : Nat) (caps : List (Nat × Nat)) (p : Int → Bool) (h : H) (hl : SlI h v l) (hn : l.length ≤ big) (hf : ∀ i (hi : i < l.length), ∀ x, x = l[i] → bm Try.prog f (.one (.int .i64 x) :: caps.map fun a => .one (.ptr (some a))) h = some (ib (p x), h)) :
    bm Try.prog 218 [v, .one (.fn f caps)] h = some (ib (l.any p), h) := by
  refine bm_eq cF218 ?_
  have e := idx_any (p := p) (l := l)
  simp +contextual (maxSteps := 2000000) only [go_sem, Nat.reduceEqDiff, reduceCtorEq, Nat.reduceAdd, Nat.reduceLeDiff, F218, c_indexI l v f caps p h hl hn hf, e]
section
variable {P : Program} {T : Tb} {L : Lb} {h : H} {Q : PostC} {K : Post}
/-! slices.IndexFunc(()impl.Turn,impl.Turn) -/
def L223_0 : List AStep := [⟨.mov (.c (.int .i64 0)), (some 4), none, []⟩]
theorem v223_0 : wpS P L223_0 T L (rdy h) K = wpS P ([⟨.mov (.c (.int .i64 0)), (some 4), none, []⟩]) T L (rdy h) K := rfl
def L223_1 : List AStep := [⟨.mov (.c (.int .i64 0)), (some 8), none, []⟩]
theorem v223_1 : wpS P L223_1 T L (rdy h) K = wpS P ([⟨.mov (.c (.int .i64 0)), (some 8), none, []⟩]) T L (rdy h) K := rfl
def L223_2 : List AStep := ⟨.mov (.t 0), (some 6), none, []⟩ :: ⟨.len (.t 6), (some 7), none, []⟩ :: L223_1
theorem v223_2 : wpS P L223_2 T L (rdy h) K = wpS P (⟨.mov (.t 0), (some 6), none, []⟩ :: ⟨.len (.t 6), (some 7), none, []⟩ :: L223_1) T L (rdy h) K := rfl
def L223_3 : List AStep := [⟨.bin .lss (.t 8) (.t 7), (some 9), none, []⟩]
theorem v223_3 : wpS P L223_3 T L (rdy h) K = wpS P ([⟨.bin .lss (.t 8) (.t 7), (some 9), none, []⟩]) T L (rdy h) K := rfl
def L223_4 : List AStep := [⟨.mov (.t 8), (some 10), none, []⟩, ⟨.mov (.t 10), (some 5), none, []⟩]
theorem v223_4 : wpS P L223_4 T L (rdy h) K = wpS P ([⟨.mov (.t 8), (some 10), none, []⟩, ⟨.mov (.t 10), (some 5), none, []⟩]) T L (rdy h) K := rfl
def L223_5 : List AStep := [⟨.load 2 true (.t 14), (some 15), none, []⟩, ⟨.callv (.t 11) [(.t 15)], (some 16), none, []⟩]
theorem v223_5 : wpS P L223_5 T L (rdy h) K = wpS P ([⟨.load 2 true (.t 14), (some 15), none, []⟩, ⟨.callv (.t 11) [(.t 15)], (some 16), none, []⟩]) T L (rdy h) K := rfl
def L223_6 : List AStep := ⟨.mov (.t 5), (some 13), none, []⟩ :: ⟨.iaddr 2 (.t 12) (.t 13), (some 14), none, []⟩ :: L223_5
theorem v223_6 : wpS P L223_6 T L (rdy h) K = wpS P (⟨.mov (.t 5), (some 13), none, []⟩ :: ⟨.iaddr 2 (.t 12) (.t 13), (some 14), none, []⟩ :: L223_5) T L (rdy h) K := rfl
def L223_7 : List AStep := ⟨.mov (.t 1), (some 11), none, []⟩ :: ⟨.mov (.t 0), (some 12), none, []⟩ :: L223_6
theorem v223_7 : wpS P L223_7 T L (rdy h) K = wpS P (⟨.mov (.t 1), (some 11), none, []⟩ :: ⟨.mov (.t 0), (some 12), none, []⟩ :: L223_6) T L (rdy h) K := rfl
def L223_8 : List AStep := [⟨.mov (.t 5), (some 17), none, []⟩, ⟨.mov (.t 17), (some 4), none, []⟩]
theorem v223_8 : wpS P L223_8 T L (rdy h) K = wpS P ([⟨.mov (.t 5), (some 17), none, []⟩, ⟨.mov (.t 17), (some 4), none, []⟩]) T L (rdy h) K := rfl
def L223_9 : List AStep := [⟨.bin .add (.t 8) (.c (.int .i64 1)), (some 18), none, []⟩, ⟨.mov (.t 18), (some 8), none, []⟩]
theorem v223_9 : wpS P L223_9 T L (rdy h) K = wpS P ([⟨.bin .add (.t 8) (.c (.int .i64 1)), (some 18), none, []⟩, ⟨.mov (.t 18), (some 8), none, []⟩]) T L (rdy h) K := rfl
def L223_10 : List AStep := [⟨.mov (.c (.int .i64 (-1))), (some 4), none, []⟩]
theorem v223_10 : wpS P L223_10 T L (rdy h) K = wpS P ([⟨.mov (.c (.int .i64 (-1))), (some 4), none, []⟩]) T L (rdy h) K := rfl
def C223_0 : ACode := .cond (.t 9) .skip (.exit 0)
theorem u223_0 : wpC P C223_0 T L (rdy h) Q = wpC P (.cond (.t 9) .skip (.exit 0)) T L (rdy h) Q := rfl
def C223_1 : ACode := .seq (.reg L223_8) .ret
theorem u223_1 : wpC P C223_1 T L (rdy h) Q = wpC P (.seq (.reg L223_8) .ret) T L (rdy h) Q := rfl
def C223_2 : ACode := .cond (.t 16) C223_1 .skip
theorem u223_2 : wpC P C223_2 T L (rdy h) Q = wpC P (.cond (.t 16) C223_1 .skip) T L (rdy h) Q := rfl
def C223_3 : ACode := .seq (.reg L223_7) C223_2
theorem u223_3 : wpC P C223_3 T L (rdy h) Q = wpC P (.seq (.reg L223_7) C223_2) T L (rdy h) Q := rfl
def C223_4 : ACode := .seq (.reg L223_4) C223_3
theorem u223_4 : wpC P C223_4 T L (rdy h) Q = wpC P (.seq (.reg L223_4) C223_3) T L (rdy h) Q := rfl
def C223_5 : ACode := .block 1 C223_4
theorem u223_5 : wpC P C223_5 T L (rdy h) Q = wpC P (.block 1 C223_4) T L (rdy h) Q := rfl
def C223_6 : ACode := .seq C223_5 (.reg L223_9)
theorem u223_6 : wpC P C223_6 T L (rdy h) Q = wpC P (.seq C223_5 (.reg L223_9)) T L (rdy h) Q := rfl
def C223_7 : ACode := .seq C223_0 C223_6
theorem u223_7 : wpC P C223_7 T L (rdy h) Q = wpC P (.seq C223_0 C223_6) T L (rdy h) Q := rfl
def C223_8 : ACode := .seq (.reg L223_3) C223_7
theorem u223_8 : wpC P C223_8 T L (rdy h) Q = wpC P (.seq (.reg L223_3) C223_7) T L (rdy h) Q := rfl
def C223_9 : ACode := .block 0 (.loop C223_8)
theorem u223_9 : wpC P C223_9 T L (rdy h) Q = wpC P (.block 0 (.loop C223_8)) T L (rdy h) Q := rfl
def C223_10 : ACode := .seq (.reg L223_2) C223_9
theorem u223_10 : wpC P C223_10 T L (rdy h) Q = wpC P (.seq (.reg L223_2) C223_9) T L (rdy h) Q := rfl
def C223_11 : ACode := .seq (.reg L223_10) .ret
theorem u223_11 : wpC P C223_11 T L (rdy h) Q = wpC P (.seq (.reg L223_10) .ret) T L (rdy h) Q := rfl
def C223_12 : ACode := .seq C223_10 C223_11
theorem u223_12 : wpC P C223_12 T L (rdy h) Q = wpC P (.seq C223_10 C223_11) T L (rdy h) Q := rfl
def C223_13 : ACode := .seq (.reg L223_0) C223_12
theorem u223_13 : wpC P C223_13 T L (rdy h) Q = wpC P (.seq (.reg L223_0) C223_12) T L (rdy h) Q := rfl
def F223 : AFunc := ⟨19, [.tmp 4], C223_13⟩
theorem cF223 : compB Try.prog 223 = some F223 := by kernel_rfl
end
attribute [local go_sem ↓] u223_0 u223_1 u223_2 u223_3 u223_4 u223_5 u223_6 u223_7 u223_8 u223_9 u223_10 u223_11 u223_12 u223_13 v223_0 v223_1 v223_2 v223_3 v223_4 v223_5 v223_6 v223_7 v223_8 v223_9 v223_10
theorem c_indexT (l : List Turn) (v : AV) (f : Nat) (caps : List (Nat × Nat)) (p : Turn → Bool) (h : H) (hl : SlT h v l) (hn : l.length ≤ big) (hf : ∀ i (hi : i < l.length), ∀ x, x = l[i] → bm Try.prog f (.agg (encT x) :: caps.map fun a => .one (.ptr (some a))) h = some (ib (p x), h)) :
    bm Try.prog 223 [v, .one (.fn f caps)] h = some (ii (idx p l), h) := by
  refine bm_eq cF223 ?_
  simp +contextual (maxSteps := 2000000) only [go_sem, Nat.reduceEqDiff, reduceCtorEq, Nat.reduceAdd, Nat.reduceLeDiff, F223, hl.len]
  refine wpC_loop (fun i T L h' => h' = h ∧ T 0 = .v v ∧ T 1 = .v (.one (.fn f caps)) ∧ T 7 = .v (.one (.int .i64 l.length)) ∧ T 8 = .v (.one (.int .i64 i)) ∧ Pre p false l i) l.length ?_ ?_ (Nat.zero_le _) ?_
  · rintro i T L h' hi ⟨rfl, h0, h1, h7, h8, hp⟩
    simp +contextual (maxSteps := 2000000) only [go_sem, Nat.reduceEqDiff, reduceCtorEq, Nat.reduceAdd, Nat.reduceLeDiff, h0, h1, h7, h8, hl.iaddr hi, hl.whole hi, hf i hi _ rfl, lt_true hi]
    (repeat' (first | refine And.intro ?_ ?_ | intro _)) <;> first | rfl | rw [wrap_next hi (big_lt hn)] | exact hp.next hi ‹_› | rw [idx_hit hi hp ‹_›]
  · rintro T L h' ⟨rfl, h0, h1, h7, h8, hp⟩
    simp +contextual (maxSteps := 2000000) only [go_sem, Nat.reduceEqDiff, reduceCtorEq, Nat.reduceAdd, Nat.reduceLeDiff, h0, h1, h7, h8, lt_false, idx_none hp]
  · simp +contextual (maxSteps := 2000000) only [go_sem, Nat.reduceEqDiff, reduceCtorEq, Nat.reduceAdd, Nat.reduceLeDiff]
    (repeat' (first | refine And.intro ?_ ?_ | intro _)) <;> first | rfl | exact Pre.zero
section
variable {P : Program} {T : Tb} {L : Lb} {h : H} {Q : PostC} {K : Post}
/-! slices.ContainsFunc(()impl.Turn,impl.Turn) -/
def L170_0 : List AStep := [⟨.mov (.c (.bool false)), (some 4), none, []⟩]
theorem v170_0 : wpS P L170_0 T L (rdy h) K = wpS P ([⟨.mov (.c (.bool false)), (some 4), none, []⟩]) T L (rdy h) K := rfl
def L170_1 : List AStep := [⟨.mov (.t 8), (some 4), none, []⟩]
theorem v170_1 : wpS P L170_1 T L (rdy h) K = wpS P ([⟨.mov (.t 8), (some 4), none, []⟩]) T L (rdy h) K := rfl
def L170_2 : List AStep := ⟨.call 223 [(.t 5), (.t 6)], (some 7), none, []⟩ :: ⟨.bin .geq (.t 7) (.c (.int .i64 0)), (some 8), none, []⟩ :: L170_1
theorem v170_2 : wpS P L170_2 T L (rdy h) K = wpS P (⟨.call 223 [(.t 5), (.t 6)], (some 7), none, []⟩ :: ⟨.bin .geq (.t 7) (.c (.int .i64 0)), (some 8), none, []⟩ :: L170_1) T L (rdy h) K := rfl
def L170_3 : List AStep := ⟨.mov (.t 0), (some 5), none, []⟩ :: ⟨.mov (.t 1), (some 6), none, []⟩ :: L170_2
theorem v170_3 : wpS P L170_3 T L (rdy h) K = wpS P (⟨.mov (.t 0), (some 5), none, []⟩ :: ⟨.mov (.t 1), (some 6), none, []⟩ :: L170_2) T L (rdy h) K := rfl
def C170_0 : ACode := .seq (.reg L170_3) .ret
theorem u170_0 : wpC P C170_0 T L (rdy h) Q = wpC P (.seq (.reg L170_3) .ret) T L (rdy h) Q := rfl
def C170_1 : ACode := .seq (.reg L170_0) C170_0
theorem u170_1 : wpC P C170_1 T L (rdy h) Q = wpC P (.seq (.reg L170_0) C170_0) T L (rdy h) Q := rfl
def F170 : AFunc := ⟨9, [.tmp 4], C170_1⟩
theorem cF170 : compB Try.prog 170 = some F170 := by kernel_rfl
end
attribute [local go_sem ↓] u170_0 u170_1 v170_0 v170_1 v170_2 v170_3
theorem c_hasT (l : List Turn) (v : AV) (f : Nat) (caps : List (Nat × Nat)) (p : Turn → Bool) (h : H) (hl : SlT h v l) (hn : l.length ≤ big) (hf : ∀ i (hi : i < l.length), ∀ x, x = l[i] → bm Try.prog f (.agg (encT x) :: caps.map fun a => .one (.ptr (some a))) h = some (ib (p x), h)) :
    bm Try.prog 170 [v, .one (.fn f caps)] h = some (ib (l.any p), h) := by
  refine bm_eq cF170 ?_
  have e := idx_any (p := p) (l := l)
  simp +contextual (maxSteps := 2000000) only [go_sem, Nat.reduceEqDiff, reduceCtorEq, Nat.reduceAdd, Nat.reduceLeDiff, F170, c_indexT l v f caps p h hl hn hf, e]
section
variable {P : Program} {T : Tb} {L : Lb} {h : H} {Q : PostC} {K : Post}
/-! impl.pairAt$1 -/
def L217_0 : List AStep := [⟨.box 133 (.t 0), (some 2), none, []⟩, ⟨.mov (.c (.bool false)), (some 3), none, []⟩]
theorem v217_0 : wpS P L217_0 T L (rdy h) K = wpS P ([⟨.box 133 (.t 0), (some 2), none, []⟩, ⟨.mov (.c (.bool false)), (some 3), none, []⟩]) T L (rdy h) K := rfl
def L217_1 : List AStep := [⟨.mov (.t 7), (some 3), none, []⟩]
theorem v217_1 : wpS P L217_1 T L (rdy h) K = wpS P ([⟨.mov (.t 7), (some 3), none, []⟩]) T L (rdy h) K := rfl
def L217_2 : List AStep := ⟨.load 1 false (.t 1), (some 6), none, []⟩ :: ⟨.bin .eql (.t 5) (.t 6), (some 7), none, []⟩ :: L217_1
theorem v217_2 : wpS P L217_2 T L (rdy h) K = wpS P (⟨.load 1 false (.t 1), (some 6), none, []⟩ :: ⟨.bin .eql (.t 5) (.t 6), (some 7), none, []⟩ :: L217_1) T L (rdy h) K := rfl
def L217_3 : List AStep := ⟨.faddr 0 (.t 2), (some 4), none, []⟩ :: ⟨.load 1 false (.t 4), (some 5), none, []⟩ :: L217_2
theorem v217_3 : wpS P L217_3 T L (rdy h) K = wpS P (⟨.faddr 0 (.t 2), (some 4), none, []⟩ :: ⟨.load 1 false (.t 4), (some 5), none, []⟩ :: L217_2) T L (rdy h) K := rfl
def C217_0 : ACode := .seq (.reg L217_3) .ret
theorem u217_0 : wpC P C217_0 T L (rdy h) Q = wpC P (.seq (.reg L217_3) .ret) T L (rdy h) Q := rfl
def C217_1 : ACode := .seq (.reg L217_0) C217_0
theorem u217_1 : wpC P C217_1 T L (rdy h) Q = wpC P (.seq (.reg L217_0) C217_0) T L (rdy h) Q := rfl
def F217 : AFunc := ⟨8, [.tmp 3], C217_1⟩
theorem cF217 : compB Try.prog 217 = some F217 := by kernel_rfl
end
attribute [local go_sem ↓] u217_0 u217_1 v217_0 v217_1 v217_2 v217_3
theorem c_pairAt1 (p : Pair) (a : Nat × Nat) (s : ByteArray) (h : H) (ha : loadO 1 false h (.one (.ptr (some a))) = some (.one (.str s))) : bm Try.prog 217 [.agg (encP p), .one (.ptr (some a))] h = some (ib (decide (p.name = s)), h) := by
  refine bm_eq cF217 ?_
  simp +contextual (maxSteps := 2000000) only [go_sem, Nat.reduceEqDiff, reduceCtorEq, Nat.reduceAdd, Nat.reduceLeDiff, F217, ha]
section
variable {P : Program} {T : Tb} {L : Lb} {h : H} {Q : PostC} {K : Post}
/-! impl.pairAt -/
def L156_0 : List AStep := [⟨.box 9 (.t 1), (some 3), none, []⟩, ⟨.mov (.c (.int .i64 0)), (some 4), none, []⟩]
theorem v156_0 : wpS P L156_0 T L (rdy h) K = wpS P ([⟨.box 9 (.t 1), (some 3), none, []⟩, ⟨.mov (.c (.int .i64 0)), (some 4), none, []⟩]) T L (rdy h) K := rfl
def L156_1 : List AStep := [⟨.call 216 [(.t 5), (.t 6)], (some 7), none, []⟩, ⟨.mov (.t 7), (some 4), none, []⟩]
theorem v156_1 : wpS P L156_1 T L (rdy h) K = wpS P ([⟨.call 216 [(.t 5), (.t 6)], (some 7), none, []⟩, ⟨.mov (.t 7), (some 4), none, []⟩]) T L (rdy h) K := rfl
def L156_2 : List AStep := ⟨.mov (.t 0), (some 5), none, []⟩ :: ⟨.mkfn 217 [(.t 3)], (some 6), none, []⟩ :: L156_1
theorem v156_2 : wpS P L156_2 T L (rdy h) K = wpS P (⟨.mov (.t 0), (some 5), none, []⟩ :: ⟨.mkfn 217 [(.t 3)], (some 6), none, []⟩ :: L156_1) T L (rdy h) K := rfl
def C156_0 : ACode := .seq (.reg L156_2) .ret
theorem u156_0 : wpC P C156_0 T L (rdy h) Q = wpC P (.seq (.reg L156_2) .ret) T L (rdy h) Q := rfl
def C156_1 : ACode := .seq (.reg L156_0) C156_0
theorem u156_1 : wpC P C156_1 T L (rdy h) Q = wpC P (.seq (.reg L156_0) C156_0) T L (rdy h) Q := rfl
def F156 : AFunc := ⟨8, [.tmp 4], C156_1⟩
theorem cF156 : compB Try.prog 156 = some F156 := by kernel_rfl
end
attribute [local go_sem ↓] u156_0 u156_1 v156_0 v156_1 v156_2
theorem c_pairAtI (l : List Pair) (v : AV) (s : ByteArray) (h : H) (hl : SlP h v l) (hn : smP l) : bm Try.prog 156 [v, .one (.str s)] h = some (ii (pairAt l s), h) := by
  refine bm_eq cF156 ?_
  have e := c_indexP l v 217 [(h.n, 0)] (fun p => decide (p.name = s)) (h.alloc [.str s] 9) (hl.grow (Grow.alloc _ _ _)) hn.1 (fun i hi x hx => c_pairAt1 x (h.n, 0) s _ (Box.new.one rfl))
  simp +contextual (maxSteps := 2000000) only [go_sem, Nat.reduceEqDiff, reduceCtorEq, Nat.reduceAdd, Nat.reduceLeDiff, F156, e, pairAt]
section
variable {P : Program} {T : Tb} {L : Lb} {h : H} {Q : PostC} {K : Post}
/-! impl.areValues$1 -/
def L219_0 : List AStep := [⟨.mov (.c (.bool false)), (some 2), none, []⟩]
theorem v219_0 : wpS P L219_0 T L (rdy h) K = wpS P ([⟨.mov (.c (.bool false)), (some 2), none, []⟩]) T L (rdy h) K := rfl
def L219_1 : List AStep := [⟨.not (.t 4), (some 5), none, []⟩, ⟨.mov (.t 5), (some 2), none, []⟩]
theorem v219_1 : wpS P L219_1 T L (rdy h) K = wpS P ([⟨.not (.t 4), (some 5), none, []⟩, ⟨.mov (.t 5), (some 2), none, []⟩]) T L (rdy h) K := rfl
def L219_2 : List AStep := ⟨.mov (.t 0), (some 3), none, []⟩ :: ⟨.call 189 [(.t 3)], (some 4), none, []⟩ :: L219_1
theorem v219_2 : wpS P L219_2 T L (rdy h) K = wpS P (⟨.mov (.t 0), (some 3), none, []⟩ :: ⟨.call 189 [(.t 3)], (some 4), none, []⟩ :: L219_1) T L (rdy h) K := rfl
def C219_0 : ACode := .seq (.reg L219_2) .ret
theorem u219_0 : wpC P C219_0 T L (rdy h) Q = wpC P (.seq (.reg L219_2) .ret) T L (rdy h) Q := rfl
def C219_1 : ACode := .seq (.reg L219_0) C219_0
theorem u219_1 : wpC P C219_1 T L (rdy h) Q = wpC P (.seq (.reg L219_0) C219_0) T L (rdy h) Q := rfl
def F219 : AFunc := ⟨6, [.tmp 2], C219_1⟩
theorem cF219 : compB Try.prog 219 = some F219 := by kernel_rfl
end
attribute [local go_sem ↓] u219_0 u219_1 v219_0 v219_1 v219_2
theorem c_areValues1 (n : Int) (h : H) : bm Try.prog 219 [.one (.int .i64 n)] h = some (ib (!(okNum n)), h) := by
  refine bm_eq cF219 ?_
  simp +contextual (maxSteps := 2000000) only [go_sem, Nat.reduceEqDiff, reduceCtorEq, Nat.reduceAdd, Nat.reduceLeDiff, F219, c_isValue]
section
variable {P : Program} {T : Tb} {L : Lb} {h : H} {Q : PostC} {K : Post}
/-! impl.areValues -/
def L157_0 : List AStep := [⟨.mov (.c (.bool false)), (some 2), none, []⟩]
theorem v157_0 : wpS P L157_0 T L (rdy h) K = wpS P ([⟨.mov (.c (.bool false)), (some 2), none, []⟩]) T L (rdy h) K := rfl
def L157_1 : List AStep := [⟨.not (.t 4), (some 5), none, []⟩, ⟨.mov (.t 5), (some 2), none, []⟩]
theorem v157_1 : wpS P L157_1 T L (rdy h) K = wpS P ([⟨.not (.t 4), (some 5), none, []⟩, ⟨.mov (.t 5), (some 2), none, []⟩]) T L (rdy h) K := rfl
def L157_2 : List AStep := ⟨.mov (.t 0), (some 3), none, []⟩ :: ⟨.call 218 [(.t 3), (.c (.fn 219 []))], (some 4), none, []⟩ :: L157_1
theorem v157_2 : wpS P L157_2 T L (rdy h) K = wpS P (⟨.mov (.t 0), (some 3), none, []⟩ :: ⟨.call 218 [(.t 3), (.c (.fn 219 []))], (some 4), none, []⟩ :: L157_1) T L (rdy h) K := rfl
def C157_0 : ACode := .seq (.reg L157_2) .ret
theorem u157_0 : wpC P C157_0 T L (rdy h) Q = wpC P (.seq (.reg L157_2) .ret) T L (rdy h) Q := rfl
def C157_1 : ACode := .seq (.reg L157_0) C157_0
theorem u157_1 : wpC P C157_1 T L (rdy h) Q = wpC P (.seq (.reg L157_0) C157_0) T L (rdy h) Q := rfl
def F157 : AFunc := ⟨6, [.tmp 2], C157_1⟩
theorem cF157 : compB Try.prog 157 = some F157 := by kernel_rfl
end
attribute [local go_sem ↓] u157_0 u157_1 v157_0 v157_1 v157_2
theorem c_areValues (l : List Int) (v : AV) (h : H) (hl : SlI h v l) (hn : l.length ≤ big) : bm Try.prog 157 [v] h = some (ib (l.all okNum), h) := by
  refine bm_eq cF157 ?_
  have e := c_hasI l v 219 [] (fun n => !(okNum n)) h hl hn (fun i hi x hx => c_areValues1 x h)
  simp +contextual (maxSteps := 2000000) only [go_sem, Nat.reduceEqDiff, reduceCtorEq, Nat.reduceAdd, Nat.reduceLeDiff, F157, e]
  simp [List.not_any_eq_all_not]
section
variable {P : Program} {T : Tb} {L : Lb} {h : H} {Q : PostC} {K : Post}
/-! impl.ValidFlat -/
def L60_0 : List AStep := [⟨.box 31 (.t 0), (some 1), none, []⟩, ⟨.mov (.c (.bool false)), (some 2), none, []⟩]
theorem v60_0 : wpS P L60_0 T L (rdy h) K = wpS P ([⟨.box 31 (.t 0), (some 1), none, []⟩, ⟨.mov (.c (.bool false)), (some 2), none, []⟩]) T L (rdy h) K := rfl
def L60_1 : List AStep := [⟨.len (.t 6), (some 7), none, []⟩, ⟨.mov (.c (.int .i64 0)), (some 8), none, []⟩]
theorem v60_1 : wpS P L60_1 T L (rdy h) K = wpS P ([⟨.len (.t 6), (some 7), none, []⟩, ⟨.mov (.c (.int .i64 0)), (some 8), none, []⟩]) T L (rdy h) K := rfl
def L60_2 : List AStep := ⟨.faddr 1 (.t 1), (some 5), none, []⟩ :: ⟨.load 1 false (.t 5), (some 6), none, []⟩ :: L60_1
theorem v60_2 : wpS P L60_2 T L (rdy h) K = wpS P (⟨.faddr 1 (.t 1), (some 5), none, []⟩ :: ⟨.load 1 false (.t 5), (some 6), none, []⟩ :: L60_1) T L (rdy h) K := rfl
def L60_3 : List AStep := [⟨.bin .lss (.t 8) (.t 7), (some 9), none, []⟩]
theorem v60_3 : wpS P L60_3 T L (rdy h) K = wpS P ([⟨.bin .lss (.t 8) (.t 7), (some 9), none, []⟩]) T L (rdy h) K := rfl
def L60_4 : List AStep := [⟨.mov (.t 10), (some 3), none, []⟩, ⟨.store 2 (.t 4) (.t 12), none, none, []⟩]
theorem v60_4 : wpS P L60_4 T L (rdy h) K = wpS P ([⟨.mov (.t 10), (some 3), none, []⟩, ⟨.store 2 (.t 4) (.t 12), none, none, []⟩]) T L (rdy h) K := rfl
def L60_5 : List AStep := ⟨.load 2 true (.t 11), (some 12), none, []⟩ :: ⟨.alloc 133 [(.str (strOfNums [])), (.int .i64 0)], (some 4), none, []⟩ :: L60_4
theorem v60_5 : wpS P L60_5 T L (rdy h) K = wpS P (⟨.load 2 true (.t 11), (some 12), none, []⟩ :: ⟨.alloc 133 [(.str (strOfNums [])), (.int .i64 0)], (some 4), none, []⟩ :: L60_4) T L (rdy h) K := rfl
def L60_6 : List AStep := ⟨.mov (.t 8), (some 10), none, []⟩ :: ⟨.iaddr 2 (.t 6) (.t 8), (some 11), none, []⟩ :: L60_5
theorem v60_6 : wpS P L60_6 T L (rdy h) K = wpS P (⟨.mov (.t 8), (some 10), none, []⟩ :: ⟨.iaddr 2 (.t 6) (.t 8), (some 11), none, []⟩ :: L60_5) T L (rdy h) K := rfl
def L60_7 : List AStep := [⟨.pick (.t 16) (.c (.bool true)) (.t 24), (some 25), none, []⟩]
theorem v60_7 : wpS P L60_7 T L (rdy h) K = wpS P ([⟨.pick (.t 16) (.c (.bool true)) (.t 24), (some 25), none, []⟩]) T L (rdy h) K := rfl
def L60_8 : List AStep := ⟨.call 156 [(.t 20), (.t 22)], (some 23), (some (16, false)), []⟩ :: ⟨.bin .geq (.t 23) (.c (.int .i64 0)), (some 24), (some (16, false)), []⟩ :: L60_7
theorem v60_8 : wpS P L60_8 T L (rdy h) K = wpS P (⟨.call 156 [(.t 20), (.t 22)], (some 23), (some (16, false)), []⟩ :: ⟨.bin .geq (.t 23) (.c (.int .i64 0)), (some 24), (some (16, false)), []⟩ :: L60_7) T L (rdy h) K := rfl
def L60_9 : List AStep := ⟨.faddr 0 (.t 4), (some 21), (some (16, false)), []⟩ :: ⟨.load 1 false (.t 21), (some 22), (some (16, false)), []⟩ :: L60_8
theorem v60_9 : wpS P L60_9 T L (rdy h) K = wpS P (⟨.faddr 0 (.t 4), (some 21), (some (16, false)), []⟩ :: ⟨.load 1 false (.t 21), (some 22), (some (16, false)), []⟩ :: L60_8) T L (rdy h) K := rfl
def L60_10 : List AStep := ⟨.mov (.t 3), (some 19), (some (16, false)), []⟩ :: ⟨.slice 133 2 (.t 18) none (some (.t 19)) none, (some 20), (some (16, false)), []⟩ :: L60_9
theorem v60_10 : wpS P L60_10 T L (rdy h) K = wpS P (⟨.mov (.t 3), (some 19), (some (16, false)), []⟩ :: ⟨.slice 133 2 (.t 18) none (some (.t 19)) none, (some 20), (some (16, false)), []⟩ :: L60_9) T L (rdy h) K := rfl
def L60_11 : List AStep := ⟨.faddr 1 (.t 1), (some 17), (some (16, false)), []⟩ :: ⟨.load 1 false (.t 17), (some 18), (some (16, false)), []⟩ :: L60_10
theorem v60_11 : wpS P L60_11 T L (rdy h) K = wpS P (⟨.faddr 1 (.t 1), (some 17), (some (16, false)), []⟩ :: ⟨.load 1 false (.t 17), (some 18), (some (16, false)), []⟩ :: L60_10) T L (rdy h) K := rfl
def L60_12 : List AStep := ⟨.not (.t 14), (some 15), none, []⟩ :: ⟨.mov (.t 15), (some 16), none, []⟩ :: L60_11
theorem v60_12 : wpS P L60_12 T L (rdy h) K = wpS P (⟨.not (.t 14), (some 15), none, []⟩ :: ⟨.mov (.t 15), (some 16), none, []⟩ :: L60_11) T L (rdy h) K := rfl
def L60_13 : List AStep := ⟨.load 2 true (.t 4), (some 13), none, []⟩ :: ⟨.call 155 [(.t 13)], (some 14), none, []⟩ :: L60_12
theorem v60_13 : wpS P L60_13 T L (rdy h) K = wpS P (⟨.load 2 true (.t 4), (some 13), none, []⟩ :: ⟨.call 155 [(.t 13)], (some 14), none, []⟩ :: L60_12) T L (rdy h) K := rfl
def L60_14 : List AStep := [⟨.mov (.c (.bool false)), (some 2), none, []⟩]
theorem v60_14 : wpS P L60_14 T L (rdy h) K = wpS P ([⟨.mov (.c (.bool false)), (some 2), none, []⟩]) T L (rdy h) K := rfl
def L60_15 : List AStep := [⟨.bin .add (.t 8) (.c (.int .i64 1)), (some 26), none, []⟩, ⟨.mov (.t 26), (some 8), none, []⟩]
theorem v60_15 : wpS P L60_15 T L (rdy h) K = wpS P ([⟨.bin .add (.t 8) (.c (.int .i64 1)), (some 26), none, []⟩, ⟨.mov (.t 26), (some 8), none, []⟩]) T L (rdy h) K := rfl
def L60_16 : List AStep := [⟨.pick (.t 37) (.t 40) (.c (.bool false)), (some 41), none, []⟩, ⟨.mov (.t 41), (some 2), none, []⟩]
theorem v60_16 : wpS P L60_16 T L (rdy h) K = wpS P ([⟨.pick (.t 37) (.t 40) (.c (.bool false)), (some 41), none, []⟩, ⟨.mov (.t 41), (some 2), none, []⟩]) T L (rdy h) K := rfl
def L60_17 : List AStep := ⟨.load 1 false (.t 38), (some 39), (some (37, true)), []⟩ :: ⟨.call 157 [(.t 39)], (some 40), (some (37, true)), []⟩ :: L60_16
theorem v60_17 : wpS P L60_17 T L (rdy h) K = wpS P (⟨.load 1 false (.t 38), (some 39), (some (37, true)), []⟩ :: ⟨.call 157 [(.t 39)], (some 40), (some (37, true)), []⟩ :: L60_16) T L (rdy h) K := rfl
def L60_18 : List AStep := ⟨.mov (.t 36), (some 37), none, []⟩ :: ⟨.faddr 0 (.t 1), (some 38), (some (37, true)), []⟩ :: L60_17
theorem v60_18 : wpS P L60_18 T L (rdy h) K = wpS P (⟨.mov (.t 36), (some 37), none, []⟩ :: ⟨.faddr 0 (.t 1), (some 38), (some (37, true)), []⟩ :: L60_17) T L (rdy h) K := rfl
def L60_19 : List AStep := ⟨.bin .leq (.t 34) (.c (.int .i64 8)), (some 35), (some (31, true)), []⟩ :: ⟨.pick (.t 31) (.t 35) (.c (.bool false)), (some 36), none, []⟩ :: L60_18
theorem v60_19 : wpS P L60_19 T L (rdy h) K = wpS P (⟨.bin .leq (.t 34) (.c (.int .i64 8)), (some 35), (some (31, true)), []⟩ :: ⟨.pick (.t 31) (.t 35) (.c (.bool false)), (some 36), none, []⟩ :: L60_18) T L (rdy h) K := rfl
def L60_20 : List AStep := ⟨.load 1 false (.t 32), (some 33), (some (31, true)), []⟩ :: ⟨.len (.t 33), (some 34), (some (31, true)), []⟩ :: L60_19
theorem v60_20 : wpS P L60_20 T L (rdy h) K = wpS P (⟨.load 1 false (.t 32), (some 33), (some (31, true)), []⟩ :: ⟨.len (.t 33), (some 34), (some (31, true)), []⟩ :: L60_19) T L (rdy h) K := rfl
def L60_21 : List AStep := ⟨.mov (.t 30), (some 31), none, []⟩ :: ⟨.faddr 1 (.t 1), (some 32), (some (31, true)), []⟩ :: L60_20
theorem v60_21 : wpS P L60_21 T L (rdy h) K = wpS P (⟨.mov (.t 30), (some 31), none, []⟩ :: ⟨.faddr 1 (.t 1), (some 32), (some (31, true)), []⟩ :: L60_20) T L (rdy h) K := rfl
def L60_22 : List AStep := ⟨.len (.t 28), (some 29), none, []⟩ :: ⟨.bin .leq (.t 29) (.c (.int .i64 8)), (some 30), none, []⟩ :: L60_21
theorem v60_22 : wpS P L60_22 T L (rdy h) K = wpS P (⟨.len (.t 28), (some 29), none, []⟩ :: ⟨.bin .leq (.t 29) (.c (.int .i64 8)), (some 30), none, []⟩ :: L60_21) T L (rdy h) K := rfl
def L60_23 : List AStep := ⟨.faddr 0 (.t 1), (some 27), none, []⟩ :: ⟨.load 1 false (.t 27), (some 28), none, []⟩ :: L60_22
theorem v60_23 : wpS P L60_23 T L (rdy h) K = wpS P (⟨.faddr 0 (.t 1), (some 27), none, []⟩ :: ⟨.load 1 false (.t 27), (some 28), none, []⟩ :: L60_22) T L (rdy h) K := rfl
def C60_0 : ACode := .cond (.t 9) .skip (.exit 0)
theorem u60_0 : wpC P C60_0 T L (rdy h) Q = wpC P (.cond (.t 9) .skip (.exit 0)) T L (rdy h) Q := rfl
def C60_1 : ACode := .seq (.reg L60_14) .ret
theorem u60_1 : wpC P C60_1 T L (rdy h) Q = wpC P (.seq (.reg L60_14) .ret) T L (rdy h) Q := rfl
def C60_2 : ACode := .cond (.t 25) C60_1 .skip
theorem u60_2 : wpC P C60_2 T L (rdy h) Q = wpC P (.cond (.t 25) C60_1 .skip) T L (rdy h) Q := rfl
def C60_3 : ACode := .seq (.reg L60_13) C60_2
theorem u60_3 : wpC P C60_3 T L (rdy h) Q = wpC P (.seq (.reg L60_13) C60_2) T L (rdy h) Q := rfl
def C60_4 : ACode := .seq (.reg L60_6) C60_3
theorem u60_4 : wpC P C60_4 T L (rdy h) Q = wpC P (.seq (.reg L60_6) C60_3) T L (rdy h) Q := rfl
def C60_5 : ACode := .block 1 C60_4
theorem u60_5 : wpC P C60_5 T L (rdy h) Q = wpC P (.block 1 C60_4) T L (rdy h) Q := rfl
def C60_6 : ACode := .seq C60_5 (.reg L60_15)
theorem u60_6 : wpC P C60_6 T L (rdy h) Q = wpC P (.seq C60_5 (.reg L60_15)) T L (rdy h) Q := rfl
def C60_7 : ACode := .seq C60_0 C60_6
theorem u60_7 : wpC P C60_7 T L (rdy h) Q = wpC P (.seq C60_0 C60_6) T L (rdy h) Q := rfl
def C60_8 : ACode := .seq (.reg L60_3) C60_7
theorem u60_8 : wpC P C60_8 T L (rdy h) Q = wpC P (.seq (.reg L60_3) C60_7) T L (rdy h) Q := rfl
def C60_9 : ACode := .block 0 (.loop C60_8)
theorem u60_9 : wpC P C60_9 T L (rdy h) Q = wpC P (.block 0 (.loop C60_8)) T L (rdy h) Q := rfl
def C60_10 : ACode := .seq (.reg L60_2) C60_9
theorem u60_10 : wpC P C60_10 T L (rdy h) Q = wpC P (.seq (.reg L60_2) C60_9) T L (rdy h) Q := rfl
def C60_11 : ACode := .seq (.reg L60_23) .ret
theorem u60_11 : wpC P C60_11 T L (rdy h) Q = wpC P (.seq (.reg L60_23) .ret) T L (rdy h) Q := rfl
def C60_12 : ACode := .seq C60_10 C60_11
theorem u60_12 : wpC P C60_12 T L (rdy h) Q = wpC P (.seq C60_10 C60_11) T L (rdy h) Q := rfl
def C60_13 : ACode := .seq (.reg L60_0) C60_12
theorem u60_13 : wpC P C60_13 T L (rdy h) Q = wpC P (.seq (.reg L60_0) C60_12) T L (rdy h) Q := rfl
def F60 : AFunc := ⟨42, [.tmp 2], C60_13⟩
theorem cF60 : compB Try.prog 60 = some F60 := by kernel_rfl
end
attribute [local go_sem ↓] u60_0 u60_1 u60_2 u60_3 u60_4 u60_5 u60_6 u60_7 u60_8 u60_9 u60_10 u60_11 u60_12 u60_13 v60_0 v60_1 v60_2 v60_3 v60_4 v60_5 v60_6 v60_7 v60_8 v60_9 v60_10 v60_11 v60_12 v60_13 v60_14 v60_15 v60_16 v60_17 v60_18 v60_19 v60_20 v60_21 v60_22 v60_23
theorem c_ValidFlat (f : Flat) (pv nv : CV) (h : H) (hp : SlI h (.one pv) f.pl) (hq : SlP h (.one nv) f.nl) (hn : smF f) : bm Try.prog 60 [.agg [pv, nv]] h = some (ib (okFlat f), h) := by
  refine bm_eq cF60 ?_
  simp +contextual (maxSteps := 2000000) only [go_sem, Nat.reduceEqDiff, reduceCtorEq, Nat.reduceAdd, Nat.reduceLeDiff, F60, hq.len]
  refine wpC_loop (fun i T L h' => h' = h ∧ T 1 = .lp 1 0 ∧ (L 1).2 = [pv, nv] ∧ T 6 = .v (.one nv) ∧ T 7 = .v (.one (.int .i64 f.nl.length)) ∧ T 8 = .v (.one (.int .i64 i)) ∧ Upto (newAt Pair.name f.nl) i ∧ Pre okPair true f.nl i) f.nl.length ?_ ?_ (Nat.zero_le _) ?_
  · rintro i T L h' hi ⟨rfl, t1, l1, t6, t7, t8, hu, hpre⟩
    obtain ⟨v', e1, s1⟩ := hq.takeO (i := i) (by omega) (kd := .i64)
    have e2 : decide (pairAt (f.nl.take i) f.nl[i].name ≥ 0) = !(newAt Pair.name f.nl i) := newAt_ge hi
    simp +contextual (maxSteps := 2000000) only [go_sem, Nat.reduceEqDiff, reduceCtorEq, Nat.reduceAdd, Nat.reduceLeDiff, e2, t1, l1, t6, t7, t8, hq.iaddr hi, hq.whole hi, lt_true hi, e1, c_okPair _ _ (hn.nl.at hi), c_pairAtI _ _ _ _ s1 (hn.nl.take i)]
    (repeat' (first | refine And.intro ?_ ?_ | intro _)) <;> first | rfl | rw [wrap_next hi hn.nl.len] | (refine hu.next ?_; simp_all; done) | (refine hpre.next hi ?_; simp_all; done) | (rw [okFlat, apart_not hi] <;> first | rfl | (simp_all; done)) | (rw [okFlat, all_stop (p := okPair) hi] <;> first | (simp; done) | (simp_all; done))
  · rintro T L h' ⟨rfl, t1, l1, t6, t7, t8, hu, hpre⟩
    simp +contextual (maxSteps := 2000000) only [go_sem, Nat.reduceEqDiff, reduceCtorEq, Nat.reduceAdd, Nat.reduceLeDiff, t1, l1, t6, t7, t8, hq.len, hp.len, lt_false, c_areValues _ _ _ hp hn.pl, okFlat, apart_of hu, hpre.all]
    (repeat' (first | refine And.intro ?_ ?_ | intro _)) <;> first | rfl | simp_all
  · simp +contextual (maxSteps := 2000000) only [go_sem, Nat.reduceEqDiff, reduceCtorEq, Nat.reduceAdd, Nat.reduceLeDiff]
    (repeat' (first | refine And.intro ?_ ?_ | intro _)) <;> first | rfl | exact Upto.zero | exact Pre.zero
end Go.Proofs.Ytcbnihbilmlokaa.Am
