/- Contracts of the program: numbers, names, pairs, flat calls and signatures that are valid. -/
import Derived.Test.YtnphlonhogcedaaDat
namespace Go.Proofs.Ytnphlonhogcedaa.Am
open Go
set_option maxRecDepth 100000
set_option maxHeartbeats 4000000
set_option linter.unusedSimpArgs false
set_option linter.unusedVariables false
attribute [local go_sem ↓] bv_t bv_c ev_t ev_c put_same put_ne put_none kill_at pro_at lb_same lb_ne start_zero start_succ wpC_seq wpC_reg wpC_cond wpC_block wpC_skip wpC_exit wpC_ret thenQ_normal thenQ_exit thenQ_ret inBlk_normal inBlk_exit inBlk_ret wpS_nil wpS_step wpS_again wpS_guard wpO_mov wpO_load wpO_faddr wpO_nilCheck wpO_pick wpO_build wpO_bin wpO_eqb wpO_eqst wpO_eqnil wpO_not wpO_conv wpO_bytesStr wpO_iaddr wpO_idxStr wpO_field wpO_extract wpO_len wpO_lenStr wpO_cap wpO_min wpO_slice wpO_sliceStr wpO_alloc wpO_box wpO_store wpO_call wpO_callv wpO_mkfn wpO_buildSlice wpO_mkslice wpO_append wpO_appz proA_nil proA_cons tmpX_nil tmpX_tmp tmpX_cell doneB_normal doneB_ret agK_cons agK_nil pureB_load results_one results_two results_nil resBs_cons resBs_nil resB_tmp resB_cell
attribute [local go_sem] kill_v kill_lp_ne kill_lp_same pro_v pro_lp_same pro_lp_ne av_v av_lp optB_some optX_some valX_eq ldX_lp ldX_v faX_lp faX_v ncX_lp ncX_ptr ncX_fn boxK_one boxK_agg stL_some stK_lp_one stK_lp_agg stK_v_one stK_v_agg proM_v proM_lp callG_mk callVG_mk callvK_fn fnG_mk ptrsA_nil ptrsA_cons callH_some whenA_true whenA_false guardH_tt guardH_ff guardH_tf guardH_ft guardH_undef agV_one agV_agg lenO_sl lenStrO_str notO_bool pickO_bool convO_int eqbO_bool eqnilO_sl extractO_tup capO_sl minO_int loadL_one loadL_all storeL_eq fillA_nil fillA_one fillA_agg nat_ge neg_ge nat_lt neg_lt buildO bin_add bin_sub bin_mul bin_eql bin_neq bin_lss bin_leq bin_gtr bin_geq str_eql str_neq str_lss str_leq str_gtr str_geq retK_some endK_mk gcK_same gcK_int gcK_bool tupO_one tupO_agg rdy_self ib ii Option.map_none Option.map_some Option.some.injEq exists_eq_left' exists_eq_left ne_eq not_false_eq_true if_true if_false List.map_cons List.map_nil List.getElem?_cons_zero List.getElem?_cons_succ List.length_cons List.length_nil List.take_succ_cons List.take_zero List.take_nil List.drop_succ_cons List.drop_zero List.drop_nil List.cons_append List.nil_append List.append_nil List.set_cons_zero List.set_cons_succ Nat.zero_add forall_const true_and and_true and_self Bool.false_eq_true false_implies true_implies implies_true Bool.not_true Bool.not_false Bool.not_eq_true' Bool.not_eq_false' beq_self_eq_true Bool.bne_true Bool.bne_false
attribute [local go_sem] lenI lenS lenP lenQ lenB lenL lenT encI_0 encS_0 encP_0 encP_1 encQ_0 encQ_1 encQ_2 encQ_3 encB_0 encB_1 encL_0 encL_1 encT_0 encT_1
attribute [local go_sem low] whenA_bool guardH_bool
section
variable {P : Program} {T : Tb} {L : Lb} {h : H} {Q : PostC} {K : Post}
/-! impl.in -/
def L171_0 : List AStep := [⟨.mov (.c (.bool false)), (some 6), none, []⟩]
theorem v171_0 : wpS P L171_0 T L (rdy h) K = wpS P ([⟨.mov (.c (.bool false)), (some 6), none, []⟩]) T L (rdy h) K := rfl
def L171_1 : List AStep := [⟨.mov (.t 14), (some 6), none, []⟩]
theorem v171_1 : wpS P L171_1 T L (rdy h) K = wpS P ([⟨.mov (.t 14), (some 6), none, []⟩]) T L (rdy h) K := rfl
def L171_2 : List AStep := ⟨.bin .leq (.t 11) (.t 12), (some 13), (some (10, true)), []⟩ :: ⟨.pick (.t 10) (.t 13) (.c (.bool false)), (some 14), none, []⟩ :: L171_1
theorem v171_2 : wpS P L171_2 T L (rdy h) K = wpS P (⟨.bin .leq (.t 11) (.t 12), (some 13), (some (10, true)), []⟩ :: ⟨.pick (.t 10) (.t 13) (.c (.bool false)), (some 14), none, []⟩ :: L171_1) T L (rdy h) K := rfl
def L171_3 : List AStep := ⟨.mov (.t 0), (some 11), (some (10, true)), []⟩ :: ⟨.mov (.t 2), (some 12), (some (10, true)), []⟩ :: L171_2
theorem v171_3 : wpS P L171_3 T L (rdy h) K = wpS P (⟨.mov (.t 0), (some 11), (some (10, true)), []⟩ :: ⟨.mov (.t 2), (some 12), (some (10, true)), []⟩ :: L171_2) T L (rdy h) K := rfl
def L171_4 : List AStep := ⟨.bin .geq (.t 7) (.t 8), (some 9), none, []⟩ :: ⟨.mov (.t 9), (some 10), none, []⟩ :: L171_3
theorem v171_4 : wpS P L171_4 T L (rdy h) K = wpS P (⟨.bin .geq (.t 7) (.t 8), (some 9), none, []⟩ :: ⟨.mov (.t 9), (some 10), none, []⟩ :: L171_3) T L (rdy h) K := rfl
def L171_5 : List AStep := ⟨.mov (.t 0), (some 7), none, []⟩ :: ⟨.mov (.t 1), (some 8), none, []⟩ :: L171_4
theorem v171_5 : wpS P L171_5 T L (rdy h) K = wpS P (⟨.mov (.t 0), (some 7), none, []⟩ :: ⟨.mov (.t 1), (some 8), none, []⟩ :: L171_4) T L (rdy h) K := rfl
def C171_0 : ACode := .seq (.reg L171_5) .ret
theorem u171_0 : wpC P C171_0 T L (rdy h) Q = wpC P (.seq (.reg L171_5) .ret) T L (rdy h) Q := rfl
def C171_1 : ACode := .seq (.reg L171_0) C171_0
theorem u171_1 : wpC P C171_1 T L (rdy h) Q = wpC P (.seq (.reg L171_0) C171_0) T L (rdy h) Q := rfl
def F171 : AFunc := ⟨15, [.tmp 6], C171_1⟩
theorem cF171 : compB Try.prog 171 = some F171 := by kernel_rfl
end
attribute [local go_sem ↓] u171_0 u171_1 v171_0 v171_1 v171_2 v171_3 v171_4 v171_5
theorem c_in (n lo hi : Int) (h : H) : bm Try.prog 171 [.one (.int .i64 n), .one (.int .i64 lo), .one (.int .i64 hi)] h = some (ib (decide (lo ≤ n) && decide (n ≤ hi)), h) := by
  refine bm_eq cF171 ?_
  simp +contextual (maxSteps := 2000000) only [go_sem, Nat.reduceEqDiff, reduceCtorEq, Nat.reduceAdd, Nat.reduceLeDiff, F171]
  (repeat' (first | refine And.intro ?_ ?_ | intro _)) <;> first | simp_all
section
variable {P : Program} {T : Tb} {L : Lb} {h : H} {Q : PostC} {K : Post}
/-! impl.isValue -/
def L163_0 : List AStep := [⟨.mov (.c (.bool false)), (some 2), none, []⟩]
theorem v163_0 : wpS P L163_0 T L (rdy h) K = wpS P ([⟨.mov (.c (.bool false)), (some 2), none, []⟩]) T L (rdy h) K := rfl
def L163_1 : List AStep := [⟨.mov (.t 4), (some 2), none, []⟩]
theorem v163_1 : wpS P L163_1 T L (rdy h) K = wpS P ([⟨.mov (.t 4), (some 2), none, []⟩]) T L (rdy h) K := rfl
def L163_2 : List AStep := ⟨.mov (.t 0), (some 3), none, []⟩ :: ⟨.call 171 [(.t 3), (.c (.int .i64 (-99))), (.c (.int .i64 99))], (some 4), none, []⟩ :: L163_1
theorem v163_2 : wpS P L163_2 T L (rdy h) K = wpS P (⟨.mov (.t 0), (some 3), none, []⟩ :: ⟨.call 171 [(.t 3), (.c (.int .i64 (-99))), (.c (.int .i64 99))], (some 4), none, []⟩ :: L163_1) T L (rdy h) K := rfl
def C163_0 : ACode := .seq (.reg L163_2) .ret
theorem u163_0 : wpC P C163_0 T L (rdy h) Q = wpC P (.seq (.reg L163_2) .ret) T L (rdy h) Q := rfl
def C163_1 : ACode := .seq (.reg L163_0) C163_0
theorem u163_1 : wpC P C163_1 T L (rdy h) Q = wpC P (.seq (.reg L163_0) C163_0) T L (rdy h) Q := rfl
def F163 : AFunc := ⟨5, [.tmp 2], C163_1⟩
theorem cF163 : compB Try.prog 163 = some F163 := by kernel_rfl
end
attribute [local go_sem ↓] u163_0 u163_1 v163_0 v163_1 v163_2
theorem c_isValue (n : Int) (h : H) : bm Try.prog 163 [.one (.int .i64 n)] h = some (ib (okNum n), h) := by
  refine bm_eq cF163 ?_
  simp +contextual (maxSteps := 2000000) only [go_sem, Nat.reduceEqDiff, reduceCtorEq, Nat.reduceAdd, Nat.reduceLeDiff, F163, c_in, okNum]
section
variable {P : Program} {T : Tb} {L : Lb} {h : H} {Q : PostC} {K : Post}
/-! impl.isName -/
def L147_0 : List AStep := [⟨.mov (.c (.bool false)), (some 2), none, []⟩]
theorem v147_0 : wpS P L147_0 T L (rdy h) K = wpS P ([⟨.mov (.c (.bool false)), (some 2), none, []⟩]) T L (rdy h) K := rfl
def L147_1 : List AStep := [⟨.mov (.c (.int .i64 0)), (some 3), none, []⟩]
theorem v147_1 : wpS P L147_1 T L (rdy h) K = wpS P ([⟨.mov (.c (.int .i64 0)), (some 3), none, []⟩]) T L (rdy h) K := rfl
def L147_2 : List AStep := [⟨.lenStr (.t 5), (some 6), none, []⟩, ⟨.bin .lss (.t 4) (.t 6), (some 7), none, []⟩]
theorem v147_2 : wpS P L147_2 T L (rdy h) K = wpS P ([⟨.lenStr (.t 5), (some 6), none, []⟩, ⟨.bin .lss (.t 4) (.t 6), (some 7), none, []⟩]) T L (rdy h) K := rfl
def L147_3 : List AStep := ⟨.mov (.t 3), (some 4), none, []⟩ :: ⟨.mov (.t 0), (some 5), none, []⟩ :: L147_2
theorem v147_3 : wpS P L147_3 T L (rdy h) K = wpS P (⟨.mov (.t 3), (some 4), none, []⟩ :: ⟨.mov (.t 0), (some 5), none, []⟩ :: L147_2) T L (rdy h) K := rfl
def L147_4 : List AStep := [⟨.bin .gtr (.t 17) (.c (.int .u8 122)), (some 18), (some (14, false)), []⟩, ⟨.pick (.t 14) (.c (.bool true)) (.t 18), (some 19), none, []⟩]
theorem v147_4 : wpS P L147_4 T L (rdy h) K = wpS P ([⟨.bin .gtr (.t 17) (.c (.int .u8 122)), (some 18), (some (14, false)), []⟩, ⟨.pick (.t 14) (.c (.bool true)) (.t 18), (some 19), none, []⟩]) T L (rdy h) K := rfl
def L147_5 : List AStep := ⟨.mov (.t 3), (some 16), (some (14, false)), []⟩ :: ⟨.idxStr (.t 15) (.t 16), (some 17), (some (14, false)), []⟩ :: L147_4
theorem v147_5 : wpS P L147_5 T L (rdy h) K = wpS P (⟨.mov (.t 3), (some 16), (some (14, false)), []⟩ :: ⟨.idxStr (.t 15) (.t 16), (some 17), (some (14, false)), []⟩ :: L147_4) T L (rdy h) K := rfl
def L147_6 : List AStep := ⟨.mov (.t 13), (some 14), none, []⟩ :: ⟨.mov (.t 0), (some 15), (some (14, false)), []⟩ :: L147_5
theorem v147_6 : wpS P L147_6 T L (rdy h) K = wpS P (⟨.mov (.t 13), (some 14), none, []⟩ :: ⟨.mov (.t 0), (some 15), (some (14, false)), []⟩ :: L147_5) T L (rdy h) K := rfl
def L147_7 : List AStep := ⟨.idxStr (.t 10) (.t 11), (some 12), none, []⟩ :: ⟨.bin .lss (.t 12) (.c (.int .u8 97)), (some 13), none, []⟩ :: L147_6
theorem v147_7 : wpS P L147_7 T L (rdy h) K = wpS P (⟨.idxStr (.t 10) (.t 11), (some 12), none, []⟩ :: ⟨.bin .lss (.t 12) (.c (.int .u8 97)), (some 13), none, []⟩ :: L147_6) T L (rdy h) K := rfl
def L147_8 : List AStep := ⟨.mov (.t 0), (some 10), none, []⟩ :: ⟨.mov (.t 3), (some 11), none, []⟩ :: L147_7
theorem v147_8 : wpS P L147_8 T L (rdy h) K = wpS P (⟨.mov (.t 0), (some 10), none, []⟩ :: ⟨.mov (.t 3), (some 11), none, []⟩ :: L147_7) T L (rdy h) K := rfl
def L147_9 : List AStep := [⟨.mov (.c (.bool false)), (some 2), none, []⟩]
theorem v147_9 : wpS P L147_9 T L (rdy h) K = wpS P ([⟨.mov (.c (.bool false)), (some 2), none, []⟩]) T L (rdy h) K := rfl
def L147_10 : List AStep := [⟨.mov (.t 9), (some 3), none, []⟩]
theorem v147_10 : wpS P L147_10 T L (rdy h) K = wpS P ([⟨.mov (.t 9), (some 3), none, []⟩]) T L (rdy h) K := rfl
def L147_11 : List AStep := ⟨.mov (.t 3), (some 8), none, []⟩ :: ⟨.bin .add (.t 8) (.c (.int .i64 1)), (some 9), none, []⟩ :: L147_10
theorem v147_11 : wpS P L147_11 T L (rdy h) K = wpS P (⟨.mov (.t 3), (some 8), none, []⟩ :: ⟨.bin .add (.t 8) (.c (.int .i64 1)), (some 9), none, []⟩ :: L147_10) T L (rdy h) K := rfl
def L147_12 : List AStep := [⟨.call 171 [(.t 21), (.c (.int .i64 1)), (.c (.int .i64 6))], (some 22), none, []⟩, ⟨.mov (.t 22), (some 2), none, []⟩]
theorem v147_12 : wpS P L147_12 T L (rdy h) K = wpS P ([⟨.call 171 [(.t 21), (.c (.int .i64 1)), (.c (.int .i64 6))], (some 22), none, []⟩, ⟨.mov (.t 22), (some 2), none, []⟩]) T L (rdy h) K := rfl
def L147_13 : List AStep := ⟨.mov (.t 0), (some 20), none, []⟩ :: ⟨.lenStr (.t 20), (some 21), none, []⟩ :: L147_12
theorem v147_13 : wpS P L147_13 T L (rdy h) K = wpS P (⟨.mov (.t 0), (some 20), none, []⟩ :: ⟨.lenStr (.t 20), (some 21), none, []⟩ :: L147_12) T L (rdy h) K := rfl
def C147_0 : ACode := .cond (.t 7) .skip (.exit 0)
theorem u147_0 : wpC P C147_0 T L (rdy h) Q = wpC P (.cond (.t 7) .skip (.exit 0)) T L (rdy h) Q := rfl
def C147_1 : ACode := .seq (.reg L147_3) C147_0
theorem u147_1 : wpC P C147_1 T L (rdy h) Q = wpC P (.seq (.reg L147_3) C147_0) T L (rdy h) Q := rfl
def C147_2 : ACode := .seq (.reg L147_9) .ret
theorem u147_2 : wpC P C147_2 T L (rdy h) Q = wpC P (.seq (.reg L147_9) .ret) T L (rdy h) Q := rfl
def C147_3 : ACode := .cond (.t 19) C147_2 .skip
theorem u147_3 : wpC P C147_3 T L (rdy h) Q = wpC P (.cond (.t 19) C147_2 .skip) T L (rdy h) Q := rfl
def C147_4 : ACode := .seq (.reg L147_8) C147_3
theorem u147_4 : wpC P C147_4 T L (rdy h) Q = wpC P (.seq (.reg L147_8) C147_3) T L (rdy h) Q := rfl
def C147_5 : ACode := .block 1 C147_4
theorem u147_5 : wpC P C147_5 T L (rdy h) Q = wpC P (.block 1 C147_4) T L (rdy h) Q := rfl
def C147_6 : ACode := .seq C147_5 (.reg L147_11)
theorem u147_6 : wpC P C147_6 T L (rdy h) Q = wpC P (.seq C147_5 (.reg L147_11)) T L (rdy h) Q := rfl
def C147_7 : ACode := .seq C147_1 C147_6
theorem u147_7 : wpC P C147_7 T L (rdy h) Q = wpC P (.seq C147_1 C147_6) T L (rdy h) Q := rfl
def C147_8 : ACode := .block 0 (.loop C147_7)
theorem u147_8 : wpC P C147_8 T L (rdy h) Q = wpC P (.block 0 (.loop C147_7)) T L (rdy h) Q := rfl
def C147_9 : ACode := .seq (.reg L147_1) C147_8
theorem u147_9 : wpC P C147_9 T L (rdy h) Q = wpC P (.seq (.reg L147_1) C147_8) T L (rdy h) Q := rfl
def C147_10 : ACode := .seq (.reg L147_13) .ret
theorem u147_10 : wpC P C147_10 T L (rdy h) Q = wpC P (.seq (.reg L147_13) .ret) T L (rdy h) Q := rfl
def C147_11 : ACode := .seq C147_9 C147_10
theorem u147_11 : wpC P C147_11 T L (rdy h) Q = wpC P (.seq C147_9 C147_10) T L (rdy h) Q := rfl
def C147_12 : ACode := .seq (.reg L147_0) C147_11
theorem u147_12 : wpC P C147_12 T L (rdy h) Q = wpC P (.seq (.reg L147_0) C147_11) T L (rdy h) Q := rfl
def F147 : AFunc := ⟨23, [.tmp 2], C147_12⟩
theorem cF147 : compB Try.prog 147 = some F147 := by kernel_rfl
end
attribute [local go_sem ↓] u147_0 u147_1 u147_2 u147_3 u147_4 u147_5 u147_6 u147_7 u147_8 u147_9 u147_10 u147_11 u147_12 v147_0 v147_1 v147_2 v147_3 v147_4 v147_5 v147_6 v147_7 v147_8 v147_9 v147_10 v147_11 v147_12 v147_13
theorem c_isName (s : ByteArray) (h : H) (hn : s.size < 2 ^ 62) : bm Try.prog 147 [.one (.str s)] h = some (ib (okName s), h) := by
  refine bm_eq cF147 ?_
  simp +contextual (maxSteps := 2000000) only [go_sem, Nat.reduceEqDiff, reduceCtorEq, Nat.reduceAdd, Nat.reduceLeDiff, F147]
  have hsz : s.data.toList.length = s.size := Array.length_toList
  refine wpC_loop (fun i T L h' => h' = h ∧ T 0 = .v (.one (.str s)) ∧ T 3 = .v (.one (.int .i64 i)) ∧ Pre isLow true s.data.toList i) s.size ?_ ?_ (Nat.zero_le _) ?_
  · rintro i T L h' hi ⟨rfl, h0, h3, hp⟩
    simp +contextual (maxSteps := 2000000) only [go_sem, Nat.reduceEqDiff, reduceCtorEq, Nat.reduceAdd, Nat.reduceLeDiff, h0, h3, idx_at hi, lt_true hi]
    have e : s.data.toList[i]'(by omega) = s.data[i]'hi := Array.getElem_toList _
    have bad : isLow (s.data[i]'hi) = false → okName s = false := fun hx => by
      unfold okName
      rw [all_stop (l := s.data.toList) (i := i) (by omega) (by rw [e]; exact hx)]
      rfl
    have low : isLow (s.data[i]'hi) = (!(decide ((↑(s.data[i]'hi).toNat : Int) < 97)) && !(decide ((↑(s.data[i]'hi).toNat : Int) > 122))) := by
      unfold isLow
      rw [Bool.eq_iff_iff]
      simp
      omega
    (repeat' (first | refine And.intro ?_ ?_ | intro _)) <;> first | rfl | rw [wrap_next hi hn] | exact hp.next (by omega) (by rw [e, low]; simp_all) | rw [bad (by rw [low]; simp_all)]
  · rintro T L h' ⟨rfl, h0, h3, hp⟩
    rw [← hsz] at hp
    simp +contextual (maxSteps := 2000000) only [go_sem, Nat.reduceEqDiff, reduceCtorEq, Nat.reduceAdd, Nat.reduceLeDiff, h0, h3, lt_false, c_in, okName, hp.all, Bool.true_and]
  · simp +contextual (maxSteps := 2000000) only [go_sem, Nat.reduceEqDiff, reduceCtorEq, Nat.reduceAdd, Nat.reduceLeDiff]
    (repeat' (first | refine And.intro ?_ ?_ | intro _)) <;> first | rfl | exact Pre.zero
section
variable {P : Program} {T : Tb} {L : Lb} {h : H} {Q : PostC} {K : Post}
/-! (impl.Param).placed -/
def L94_0 : List AStep := [⟨.box 108 (.t 0), (some 1), none, []⟩, ⟨.mov (.c (.bool false)), (some 2), none, []⟩]
theorem v94_0 : wpS P L94_0 T L (rdy h) K = wpS P ([⟨.box 108 (.t 0), (some 1), none, []⟩, ⟨.mov (.c (.bool false)), (some 2), none, []⟩]) T L (rdy h) K := rfl
def L94_1 : List AStep := [⟨.mov (.t 10), (some 2), none, []⟩]
theorem v94_1 : wpS P L94_1 T L (rdy h) K = wpS P ([⟨.mov (.t 10), (some 2), none, []⟩]) T L (rdy h) K := rfl
def L94_2 : List AStep := ⟨.bin .eql (.t 8) (.c (.int .i64 1)), (some 9), (some (6, false)), []⟩ :: ⟨.pick (.t 6) (.c (.bool true)) (.t 9), (some 10), none, []⟩ :: L94_1
theorem v94_2 : wpS P L94_2 T L (rdy h) K = wpS P (⟨.bin .eql (.t 8) (.c (.int .i64 1)), (some 9), (some (6, false)), []⟩ :: ⟨.pick (.t 6) (.c (.bool true)) (.t 9), (some 10), none, []⟩ :: L94_1) T L (rdy h) K := rfl
def L94_3 : List AStep := ⟨.faddr 1 (.t 1), (some 7), (some (6, false)), []⟩ :: ⟨.load 1 false (.t 7), (some 8), (some (6, false)), []⟩ :: L94_2
theorem v94_3 : wpS P L94_3 T L (rdy h) K = wpS P (⟨.faddr 1 (.t 1), (some 7), (some (6, false)), []⟩ :: ⟨.load 1 false (.t 7), (some 8), (some (6, false)), []⟩ :: L94_2) T L (rdy h) K := rfl
def L94_4 : List AStep := ⟨.bin .eql (.t 4) (.c (.int .i64 0)), (some 5), none, []⟩ :: ⟨.mov (.t 5), (some 6), none, []⟩ :: L94_3
theorem v94_4 : wpS P L94_4 T L (rdy h) K = wpS P (⟨.bin .eql (.t 4) (.c (.int .i64 0)), (some 5), none, []⟩ :: ⟨.mov (.t 5), (some 6), none, []⟩ :: L94_3) T L (rdy h) K := rfl
def L94_5 : List AStep := ⟨.faddr 1 (.t 1), (some 3), none, []⟩ :: ⟨.load 1 false (.t 3), (some 4), none, []⟩ :: L94_4
theorem v94_5 : wpS P L94_5 T L (rdy h) K = wpS P (⟨.faddr 1 (.t 1), (some 3), none, []⟩ :: ⟨.load 1 false (.t 3), (some 4), none, []⟩ :: L94_4) T L (rdy h) K := rfl
def C94_0 : ACode := .seq (.reg L94_5) .ret
theorem u94_0 : wpC P C94_0 T L (rdy h) Q = wpC P (.seq (.reg L94_5) .ret) T L (rdy h) Q := rfl
def C94_1 : ACode := .seq (.reg L94_0) C94_0
theorem u94_1 : wpC P C94_1 T L (rdy h) Q = wpC P (.seq (.reg L94_0) C94_0) T L (rdy h) Q := rfl
def F94 : AFunc := ⟨11, [.tmp 2], C94_1⟩
theorem cF94 : compB Try.prog 94 = some F94 := by kernel_rfl
end
attribute [local go_sem ↓] u94_0 u94_1 v94_0 v94_1 v94_2 v94_3 v94_4 v94_5
theorem c_placed (p : Param) (h : H) : bm Try.prog 94 [.agg (encQ p)] h = some (ib (byPlace p), h) := by
  refine bm_eq cF94 ?_
  simp +contextual (maxSteps := 2000000) only [go_sem, Nat.reduceEqDiff, reduceCtorEq, Nat.reduceAdd, Nat.reduceLeDiff, F94, byPlace]
  (repeat' (first | refine And.intro ?_ ?_ | intro _)) <;> first | simp_all
section
variable {P : Program} {T : Tb} {L : Lb} {h : H} {Q : PostC} {K : Post}
/-! (impl.Param).named -/
def L102_0 : List AStep := [⟨.box 108 (.t 0), (some 1), none, []⟩, ⟨.mov (.c (.bool false)), (some 2), none, []⟩]
theorem v102_0 : wpS P L102_0 T L (rdy h) K = wpS P ([⟨.box 108 (.t 0), (some 1), none, []⟩, ⟨.mov (.c (.bool false)), (some 2), none, []⟩]) T L (rdy h) K := rfl
def L102_1 : List AStep := [⟨.mov (.t 10), (some 2), none, []⟩]
theorem v102_1 : wpS P L102_1 T L (rdy h) K = wpS P ([⟨.mov (.t 10), (some 2), none, []⟩]) T L (rdy h) K := rfl
def L102_2 : List AStep := ⟨.bin .eql (.t 8) (.c (.int .i64 3)), (some 9), (some (6, false)), []⟩ :: ⟨.pick (.t 6) (.c (.bool true)) (.t 9), (some 10), none, []⟩ :: L102_1
theorem v102_2 : wpS P L102_2 T L (rdy h) K = wpS P (⟨.bin .eql (.t 8) (.c (.int .i64 3)), (some 9), (some (6, false)), []⟩ :: ⟨.pick (.t 6) (.c (.bool true)) (.t 9), (some 10), none, []⟩ :: L102_1) T L (rdy h) K := rfl
def L102_3 : List AStep := ⟨.faddr 1 (.t 1), (some 7), (some (6, false)), []⟩ :: ⟨.load 1 false (.t 7), (some 8), (some (6, false)), []⟩ :: L102_2
theorem v102_3 : wpS P L102_3 T L (rdy h) K = wpS P (⟨.faddr 1 (.t 1), (some 7), (some (6, false)), []⟩ :: ⟨.load 1 false (.t 7), (some 8), (some (6, false)), []⟩ :: L102_2) T L (rdy h) K := rfl
def L102_4 : List AStep := ⟨.bin .eql (.t 4) (.c (.int .i64 1)), (some 5), none, []⟩ :: ⟨.mov (.t 5), (some 6), none, []⟩ :: L102_3
theorem v102_4 : wpS P L102_4 T L (rdy h) K = wpS P (⟨.bin .eql (.t 4) (.c (.int .i64 1)), (some 5), none, []⟩ :: ⟨.mov (.t 5), (some 6), none, []⟩ :: L102_3) T L (rdy h) K := rfl
def L102_5 : List AStep := ⟨.faddr 1 (.t 1), (some 3), none, []⟩ :: ⟨.load 1 false (.t 3), (some 4), none, []⟩ :: L102_4
theorem v102_5 : wpS P L102_5 T L (rdy h) K = wpS P (⟨.faddr 1 (.t 1), (some 3), none, []⟩ :: ⟨.load 1 false (.t 3), (some 4), none, []⟩ :: L102_4) T L (rdy h) K := rfl
def C102_0 : ACode := .seq (.reg L102_5) .ret
theorem u102_0 : wpC P C102_0 T L (rdy h) Q = wpC P (.seq (.reg L102_5) .ret) T L (rdy h) Q := rfl
def C102_1 : ACode := .seq (.reg L102_0) C102_0
theorem u102_1 : wpC P C102_1 T L (rdy h) Q = wpC P (.seq (.reg L102_0) C102_0) T L (rdy h) Q := rfl
def F102 : AFunc := ⟨11, [.tmp 2], C102_1⟩
theorem cF102 : compB Try.prog 102 = some F102 := by kernel_rfl
end
attribute [local go_sem ↓] u102_0 u102_1 v102_0 v102_1 v102_2 v102_3 v102_4 v102_5
theorem c_named (p : Param) (h : H) : bm Try.prog 102 [.agg (encQ p)] h = some (ib (byName p), h) := by
  refine bm_eq cF102 ?_
  simp +contextual (maxSteps := 2000000) only [go_sem, Nat.reduceEqDiff, reduceCtorEq, Nat.reduceAdd, Nat.reduceLeDiff, F102, byName]
  (repeat' (first | refine And.intro ?_ ?_ | intro _)) <;> first | simp_all
section
variable {P : Program} {T : Tb} {L : Lb} {h : H} {Q : PostC} {K : Post}
/-! (impl.Param).single -/
def L172_0 : List AStep := [⟨.box 108 (.t 0), (some 1), none, []⟩, ⟨.mov (.c (.bool false)), (some 2), none, []⟩]
theorem v172_0 : wpS P L172_0 T L (rdy h) K = wpS P ([⟨.box 108 (.t 0), (some 1), none, []⟩, ⟨.mov (.c (.bool false)), (some 2), none, []⟩]) T L (rdy h) K := rfl
def L172_1 : List AStep := [⟨.pick (.t 5) (.c (.bool true)) (.t 8), (some 9), none, []⟩, ⟨.mov (.t 9), (some 2), none, []⟩]
theorem v172_1 : wpS P L172_1 T L (rdy h) K = wpS P ([⟨.pick (.t 5) (.c (.bool true)) (.t 8), (some 9), none, []⟩, ⟨.mov (.t 9), (some 2), none, []⟩]) T L (rdy h) K := rfl
def L172_2 : List AStep := ⟨.load 1 false (.t 6), (some 7), (some (5, false)), []⟩ :: ⟨.bin .eql (.t 7) (.c (.int .i64 3)), (some 8), (some (5, false)), []⟩ :: L172_1
theorem v172_2 : wpS P L172_2 T L (rdy h) K = wpS P (⟨.load 1 false (.t 6), (some 7), (some (5, false)), []⟩ :: ⟨.bin .eql (.t 7) (.c (.int .i64 3)), (some 8), (some (5, false)), []⟩ :: L172_1) T L (rdy h) K := rfl
def L172_3 : List AStep := ⟨.mov (.t 4), (some 5), none, []⟩ :: ⟨.faddr 1 (.t 1), (some 6), (some (5, false)), []⟩ :: L172_2
theorem v172_3 : wpS P L172_3 T L (rdy h) K = wpS P (⟨.mov (.t 4), (some 5), none, []⟩ :: ⟨.faddr 1 (.t 1), (some 6), (some (5, false)), []⟩ :: L172_2) T L (rdy h) K := rfl
def L172_4 : List AStep := ⟨.load 4 true (.t 1), (some 3), none, []⟩ :: ⟨.call 94 [(.t 3)], (some 4), none, []⟩ :: L172_3
theorem v172_4 : wpS P L172_4 T L (rdy h) K = wpS P (⟨.load 4 true (.t 1), (some 3), none, []⟩ :: ⟨.call 94 [(.t 3)], (some 4), none, []⟩ :: L172_3) T L (rdy h) K := rfl
def C172_0 : ACode := .seq (.reg L172_4) .ret
theorem u172_0 : wpC P C172_0 T L (rdy h) Q = wpC P (.seq (.reg L172_4) .ret) T L (rdy h) Q := rfl
def C172_1 : ACode := .seq (.reg L172_0) C172_0
theorem u172_1 : wpC P C172_1 T L (rdy h) Q = wpC P (.seq (.reg L172_0) C172_0) T L (rdy h) Q := rfl
def F172 : AFunc := ⟨10, [.tmp 2], C172_1⟩
theorem cF172 : compB Try.prog 172 = some F172 := by kernel_rfl
end
attribute [local go_sem ↓] u172_0 u172_1 v172_0 v172_1 v172_2 v172_3 v172_4
theorem c_single (p : Param) (h : H) : bm Try.prog 172 [.agg (encQ p)] h = some (ib (single p), h) := by
  refine bm_eq cF172 ?_
  simp +contextual (maxSteps := 2000000) only [go_sem, Nat.reduceEqDiff, reduceCtorEq, Nat.reduceAdd, Nat.reduceLeDiff, F172, c_placed, single_eq]
  (repeat' (first | refine And.intro ?_ ?_ | intro _)) <;> first | simp_all
section
variable {P : Program} {T : Tb} {L : Lb} {h : H} {Q : PostC} {K : Post}
/-! (impl.Pair).valid -/
def L135_0 : List AStep := [⟨.box 86 (.t 0), (some 1), none, []⟩, ⟨.mov (.c (.bool false)), (some 2), none, []⟩]
theorem v135_0 : wpS P L135_0 T L (rdy h) K = wpS P ([⟨.box 86 (.t 0), (some 1), none, []⟩, ⟨.mov (.c (.bool false)), (some 2), none, []⟩]) T L (rdy h) K := rfl
def L135_1 : List AStep := [⟨.mov (.t 10), (some 2), none, []⟩]
theorem v135_1 : wpS P L135_1 T L (rdy h) K = wpS P ([⟨.mov (.t 10), (some 2), none, []⟩]) T L (rdy h) K := rfl
def L135_2 : List AStep := ⟨.call 163 [(.t 8)], (some 9), (some (6, true)), []⟩ :: ⟨.pick (.t 6) (.t 9) (.c (.bool false)), (some 10), none, []⟩ :: L135_1
theorem v135_2 : wpS P L135_2 T L (rdy h) K = wpS P (⟨.call 163 [(.t 8)], (some 9), (some (6, true)), []⟩ :: ⟨.pick (.t 6) (.t 9) (.c (.bool false)), (some 10), none, []⟩ :: L135_1) T L (rdy h) K := rfl
def L135_3 : List AStep := ⟨.faddr 1 (.t 1), (some 7), (some (6, true)), []⟩ :: ⟨.load 1 false (.t 7), (some 8), (some (6, true)), []⟩ :: L135_2
theorem v135_3 : wpS P L135_3 T L (rdy h) K = wpS P (⟨.faddr 1 (.t 1), (some 7), (some (6, true)), []⟩ :: ⟨.load 1 false (.t 7), (some 8), (some (6, true)), []⟩ :: L135_2) T L (rdy h) K := rfl
def L135_4 : List AStep := ⟨.call 147 [(.t 4)], (some 5), none, []⟩ :: ⟨.mov (.t 5), (some 6), none, []⟩ :: L135_3
theorem v135_4 : wpS P L135_4 T L (rdy h) K = wpS P (⟨.call 147 [(.t 4)], (some 5), none, []⟩ :: ⟨.mov (.t 5), (some 6), none, []⟩ :: L135_3) T L (rdy h) K := rfl
def L135_5 : List AStep := ⟨.faddr 0 (.t 1), (some 3), none, []⟩ :: ⟨.load 1 false (.t 3), (some 4), none, []⟩ :: L135_4
theorem v135_5 : wpS P L135_5 T L (rdy h) K = wpS P (⟨.faddr 0 (.t 1), (some 3), none, []⟩ :: ⟨.load 1 false (.t 3), (some 4), none, []⟩ :: L135_4) T L (rdy h) K := rfl
def C135_0 : ACode := .seq (.reg L135_5) .ret
theorem u135_0 : wpC P C135_0 T L (rdy h) Q = wpC P (.seq (.reg L135_5) .ret) T L (rdy h) Q := rfl
def C135_1 : ACode := .seq (.reg L135_0) C135_0
theorem u135_1 : wpC P C135_1 T L (rdy h) Q = wpC P (.seq (.reg L135_0) C135_0) T L (rdy h) Q := rfl
def F135 : AFunc := ⟨11, [.tmp 2], C135_1⟩
theorem cF135 : compB Try.prog 135 = some F135 := by kernel_rfl
end
attribute [local go_sem ↓] u135_0 u135_1 v135_0 v135_1 v135_2 v135_3 v135_4 v135_5
theorem c_okPair (p : Pair) (h : H) (hn : p.name.size < 2 ^ 62) : bm Try.prog 135 [.agg (encP p)] h = some (ib (okPair p), h) := by
  refine bm_eq cF135 ?_
  simp +contextual (maxSteps := 2000000) only [go_sem, Nat.reduceEqDiff, reduceCtorEq, Nat.reduceAdd, Nat.reduceLeDiff, F135, c_isName _ _ hn, c_isValue, okPair]
  (repeat' (first | refine And.intro ?_ ?_ | intro _)) <;> first | simp_all
section
variable {P : Program} {T : Tb} {L : Lb} {h : H} {Q : PostC} {K : Post}
/-! slices.IndexFunc(()impl.Pair,impl.Pair) -/
def L179_0 : List AStep := [⟨.mov (.c (.int .i64 0)), (some 4), none, []⟩]
theorem v179_0 : wpS P L179_0 T L (rdy h) K = wpS P ([⟨.mov (.c (.int .i64 0)), (some 4), none, []⟩]) T L (rdy h) K := rfl
def L179_1 : List AStep := [⟨.mov (.c (.int .i64 0)), (some 8), none, []⟩]
theorem v179_1 : wpS P L179_1 T L (rdy h) K = wpS P ([⟨.mov (.c (.int .i64 0)), (some 8), none, []⟩]) T L (rdy h) K := rfl
def L179_2 : List AStep := ⟨.mov (.t 0), (some 6), none, []⟩ :: ⟨.len (.t 6), (some 7), none, []⟩ :: L179_1
theorem v179_2 : wpS P L179_2 T L (rdy h) K = wpS P (⟨.mov (.t 0), (some 6), none, []⟩ :: ⟨.len (.t 6), (some 7), none, []⟩ :: L179_1) T L (rdy h) K := rfl
def L179_3 : List AStep := [⟨.bin .lss (.t 8) (.t 7), (some 9), none, []⟩]
theorem v179_3 : wpS P L179_3 T L (rdy h) K = wpS P ([⟨.bin .lss (.t 8) (.t 7), (some 9), none, []⟩]) T L (rdy h) K := rfl
def L179_4 : List AStep := [⟨.mov (.t 8), (some 10), none, []⟩, ⟨.mov (.t 10), (some 5), none, []⟩]
theorem v179_4 : wpS P L179_4 T L (rdy h) K = wpS P ([⟨.mov (.t 8), (some 10), none, []⟩, ⟨.mov (.t 10), (some 5), none, []⟩]) T L (rdy h) K := rfl
def L179_5 : List AStep := [⟨.load 2 true (.t 14), (some 15), none, []⟩, ⟨.callv (.t 11) [(.t 15)], (some 16), none, []⟩]
theorem v179_5 : wpS P L179_5 T L (rdy h) K = wpS P ([⟨.load 2 true (.t 14), (some 15), none, []⟩, ⟨.callv (.t 11) [(.t 15)], (some 16), none, []⟩]) T L (rdy h) K := rfl
def L179_6 : List AStep := ⟨.mov (.t 5), (some 13), none, []⟩ :: ⟨.iaddr 2 (.t 12) (.t 13), (some 14), none, []⟩ :: L179_5
theorem v179_6 : wpS P L179_6 T L (rdy h) K = wpS P (⟨.mov (.t 5), (some 13), none, []⟩ :: ⟨.iaddr 2 (.t 12) (.t 13), (some 14), none, []⟩ :: L179_5) T L (rdy h) K := rfl
def L179_7 : List AStep := ⟨.mov (.t 1), (some 11), none, []⟩ :: ⟨.mov (.t 0), (some 12), none, []⟩ :: L179_6
theorem v179_7 : wpS P L179_7 T L (rdy h) K = wpS P (⟨.mov (.t 1), (some 11), none, []⟩ :: ⟨.mov (.t 0), (some 12), none, []⟩ :: L179_6) T L (rdy h) K := rfl
def L179_8 : List AStep := [⟨.mov (.t 5), (some 17), none, []⟩, ⟨.mov (.t 17), (some 4), none, []⟩]
theorem v179_8 : wpS P L179_8 T L (rdy h) K = wpS P ([⟨.mov (.t 5), (some 17), none, []⟩, ⟨.mov (.t 17), (some 4), none, []⟩]) T L (rdy h) K := rfl
def L179_9 : List AStep := [⟨.bin .add (.t 8) (.c (.int .i64 1)), (some 18), none, []⟩, ⟨.mov (.t 18), (some 8), none, []⟩]
theorem v179_9 : wpS P L179_9 T L (rdy h) K = wpS P ([⟨.bin .add (.t 8) (.c (.int .i64 1)), (some 18), none, []⟩, ⟨.mov (.t 18), (some 8), none, []⟩]) T L (rdy h) K := rfl
def L179_10 : List AStep := [⟨.mov (.c (.int .i64 (-1))), (some 4), none, []⟩]
theorem v179_10 : wpS P L179_10 T L (rdy h) K = wpS P ([⟨.mov (.c (.int .i64 (-1))), (some 4), none, []⟩]) T L (rdy h) K := rfl
def C179_0 : ACode := .cond (.t 9) .skip (.exit 0)
theorem u179_0 : wpC P C179_0 T L (rdy h) Q = wpC P (.cond (.t 9) .skip (.exit 0)) T L (rdy h) Q := rfl
def C179_1 : ACode := .seq (.reg L179_8) .ret
theorem u179_1 : wpC P C179_1 T L (rdy h) Q = wpC P (.seq (.reg L179_8) .ret) T L (rdy h) Q := rfl
def C179_2 : ACode := .cond (.t 16) C179_1 .skip
theorem u179_2 : wpC P C179_2 T L (rdy h) Q = wpC P (.cond (.t 16) C179_1 .skip) T L (rdy h) Q := rfl
def C179_3 : ACode := .seq (.reg L179_7) C179_2
theorem u179_3 : wpC P C179_3 T L (rdy h) Q = wpC P (.seq (.reg L179_7) C179_2) T L (rdy h) Q := rfl
def C179_4 : ACode := .seq (.reg L179_4) C179_3
theorem u179_4 : wpC P C179_4 T L (rdy h) Q = wpC P (.seq (.reg L179_4) C179_3) T L (rdy h) Q := rfl
def C179_5 : ACode := .block 1 C179_4
theorem u179_5 : wpC P C179_5 T L (rdy h) Q = wpC P (.block 1 C179_4) T L (rdy h) Q := rfl
def C179_6 : ACode := .seq C179_5 (.reg L179_9)
theorem u179_6 : wpC P C179_6 T L (rdy h) Q = wpC P (.seq C179_5 (.reg L179_9)) T L (rdy h) Q := rfl
def C179_7 : ACode := .seq C179_0 C179_6
theorem u179_7 : wpC P C179_7 T L (rdy h) Q = wpC P (.seq C179_0 C179_6) T L (rdy h) Q := rfl
def C179_8 : ACode := .seq (.reg L179_3) C179_7
theorem u179_8 : wpC P C179_8 T L (rdy h) Q = wpC P (.seq (.reg L179_3) C179_7) T L (rdy h) Q := rfl
def C179_9 : ACode := .block 0 (.loop C179_8)
theorem u179_9 : wpC P C179_9 T L (rdy h) Q = wpC P (.block 0 (.loop C179_8)) T L (rdy h) Q := rfl
def C179_10 : ACode := .seq (.reg L179_2) C179_9
theorem u179_10 : wpC P C179_10 T L (rdy h) Q = wpC P (.seq (.reg L179_2) C179_9) T L (rdy h) Q := rfl
def C179_11 : ACode := .seq (.reg L179_10) .ret
theorem u179_11 : wpC P C179_11 T L (rdy h) Q = wpC P (.seq (.reg L179_10) .ret) T L (rdy h) Q := rfl
def C179_12 : ACode := .seq C179_10 C179_11
theorem u179_12 : wpC P C179_12 T L (rdy h) Q = wpC P (.seq C179_10 C179_11) T L (rdy h) Q := rfl
def C179_13 : ACode := .seq (.reg L179_0) C179_12
theorem u179_13 : wpC P C179_13 T L (rdy h) Q = wpC P (.seq (.reg L179_0) C179_12) T L (rdy h) Q := rfl
def F179 : AFunc := ⟨19, [.tmp 4], C179_13⟩
theorem cF179 : compB Try.prog 179 = some F179 := by kernel_rfl
end
attribute [local go_sem ↓] u179_0 u179_1 u179_2 u179_3 u179_4 u179_5 u179_6 u179_7 u179_8 u179_9 u179_10 u179_11 u179_12 u179_13 v179_0 v179_1 v179_2 v179_3 v179_4 v179_5 v179_6 v179_7 v179_8 v179_9 v179_10
theorem c_indexP (l : List Pair) (v : AV) (f : Nat) (caps : List (Nat × Nat)) (p : Pair → Bool) (h : H) (hl : SlP h v l) (hn : l.length ≤ big) (hf : ∀ i (hi : i < l.length), ∀ x, x = l[i] → bm Try.prog f (.agg (encP x) :: caps.map fun a => .one (.ptr (some a))) h = some (ib (p x), h)) :
    bm Try.prog 179 [v, .one (.fn f caps)] h = some (ii (idx p l), h) := by
  refine bm_eq cF179 ?_
  simp +contextual (maxSteps := 2000000) only [go_sem, Nat.reduceEqDiff, reduceCtorEq, Nat.reduceAdd, Nat.reduceLeDiff, F179, hl.len]
  refine wpC_loop (fun i T L h' => h' = h ∧ T 0 = .v v ∧ T 1 = .v (.one (.fn f caps)) ∧ T 7 = .v (.one (.int .i64 l.length)) ∧ T 8 = .v (.one (.int .i64 i)) ∧ Pre p false l i) l.length ?_ ?_ (Nat.zero_le _) ?_
  · rintro i T L h' hi ⟨rfl, h0, h1, h7, h8, hp⟩
    simp +contextual (maxSteps := 2000000) only [go_sem, Nat.reduceEqDiff, reduceCtorEq, Nat.reduceAdd, Nat.reduceLeDiff, h0, h1, h7, h8, hl.iaddr hi, hl.whole hi, hf i hi _ rfl, lt_true hi]
    (repeat' (first | refine And.intro ?_ ?_ | intro _)) <;> first | rfl | rw [wrap_next hi (big_lt hn)] | exact hp.next hi ‹_› | rw [idx_hit hi hp ‹_›]
  · rintro T L h' ⟨rfl, h0, h1, h7, h8, hp⟩
    simp +contextual (maxSteps := 2000000) only [go_sem, Nat.reduceEqDiff, reduceCtorEq, Nat.reduceAdd, Nat.reduceLeDiff, h0, h1, h7, h8, lt_false, idx_none hp]
  · simp +contextual (maxSteps := 2000000) only [go_sem, Nat.reduceEqDiff, reduceCtorEq, Nat.reduceAdd, Nat.reduceLeDiff]
    (repeat' (first | refine And.intro ?_ ?_ | intro _)) <;> first | rfl | exact Pre.zero
section
variable {P : Program} {T : Tb} {L : Lb} {h : H} {Q : PostC} {K : Post}
/-! slices.IndexFunc(()impl.Param,impl.Param) -/
def L215_0 : List AStep := [⟨.mov (.c (.int .i64 0)), (some 4), none, []⟩]
theorem v215_0 : wpS P L215_0 T L (rdy h) K = wpS P ([⟨.mov (.c (.int .i64 0)), (some 4), none, []⟩]) T L (rdy h) K := rfl
def L215_1 : List AStep := [⟨.mov (.c (.int .i64 0)), (some 8), none, []⟩]
theorem v215_1 : wpS P L215_1 T L (rdy h) K = wpS P ([⟨.mov (.c (.int .i64 0)), (some 8), none, []⟩]) T L (rdy h) K := rfl
def L215_2 : List AStep := ⟨.mov (.t 0), (some 6), none, []⟩ :: ⟨.len (.t 6), (some 7), none, []⟩ :: L215_1
theorem v215_2 : wpS P L215_2 T L (rdy h) K = wpS P (⟨.mov (.t 0), (some 6), none, []⟩ :: ⟨.len (.t 6), (some 7), none, []⟩ :: L215_1) T L (rdy h) K := rfl
def L215_3 : List AStep := [⟨.bin .lss (.t 8) (.t 7), (some 9), none, []⟩]
theorem v215_3 : wpS P L215_3 T L (rdy h) K = wpS P ([⟨.bin .lss (.t 8) (.t 7), (some 9), none, []⟩]) T L (rdy h) K := rfl
def L215_4 : List AStep := [⟨.mov (.t 8), (some 10), none, []⟩, ⟨.mov (.t 10), (some 5), none, []⟩]
theorem v215_4 : wpS P L215_4 T L (rdy h) K = wpS P ([⟨.mov (.t 8), (some 10), none, []⟩, ⟨.mov (.t 10), (some 5), none, []⟩]) T L (rdy h) K := rfl
def L215_5 : List AStep := [⟨.load 4 true (.t 14), (some 15), none, []⟩, ⟨.callv (.t 11) [(.t 15)], (some 16), none, []⟩]
theorem v215_5 : wpS P L215_5 T L (rdy h) K = wpS P ([⟨.load 4 true (.t 14), (some 15), none, []⟩, ⟨.callv (.t 11) [(.t 15)], (some 16), none, []⟩]) T L (rdy h) K := rfl
def L215_6 : List AStep := ⟨.mov (.t 5), (some 13), none, []⟩ :: ⟨.iaddr 4 (.t 12) (.t 13), (some 14), none, []⟩ :: L215_5
theorem v215_6 : wpS P L215_6 T L (rdy h) K = wpS P (⟨.mov (.t 5), (some 13), none, []⟩ :: ⟨.iaddr 4 (.t 12) (.t 13), (some 14), none, []⟩ :: L215_5) T L (rdy h) K := rfl
def L215_7 : List AStep := ⟨.mov (.t 1), (some 11), none, []⟩ :: ⟨.mov (.t 0), (some 12), none, []⟩ :: L215_6
theorem v215_7 : wpS P L215_7 T L (rdy h) K = wpS P (⟨.mov (.t 1), (some 11), none, []⟩ :: ⟨.mov (.t 0), (some 12), none, []⟩ :: L215_6) T L (rdy h) K := rfl
def L215_8 : List AStep := [⟨.mov (.t 5), (some 17), none, []⟩, ⟨.mov (.t 17), (some 4), none, []⟩]
theorem v215_8 : wpS P L215_8 T L (rdy h) K = wpS P ([⟨.mov (.t 5), (some 17), none, []⟩, ⟨.mov (.t 17), (some 4), none, []⟩]) T L (rdy h) K := rfl
def L215_9 : List AStep := [⟨.bin .add (.t 8) (.c (.int .i64 1)), (some 18), none, []⟩, ⟨.mov (.t 18), (some 8), none, []⟩]
theorem v215_9 : wpS P L215_9 T L (rdy h) K = wpS P ([⟨.bin .add (.t 8) (.c (.int .i64 1)), (some 18), none, []⟩, ⟨.mov (.t 18), (some 8), none, []⟩]) T L (rdy h) K := rfl
def L215_10 : List AStep := [⟨.mov (.c (.int .i64 (-1))), (some 4), none, []⟩]
theorem v215_10 : wpS P L215_10 T L (rdy h) K = wpS P ([⟨.mov (.c (.int .i64 (-1))), (some 4), none, []⟩]) T L (rdy h) K := rfl
def C215_0 : ACode := .cond (.t 9) .skip (.exit 0)
theorem u215_0 : wpC P C215_0 T L (rdy h) Q = wpC P (.cond (.t 9) .skip (.exit 0)) T L (rdy h) Q := rfl
def C215_1 : ACode := .seq (.reg L215_8) .ret
theorem u215_1 : wpC P C215_1 T L (rdy h) Q = wpC P (.seq (.reg L215_8) .ret) T L (rdy h) Q := rfl
def C215_2 : ACode := .cond (.t 16) C215_1 .skip
theorem u215_2 : wpC P C215_2 T L (rdy h) Q = wpC P (.cond (.t 16) C215_1 .skip) T L (rdy h) Q := rfl
def C215_3 : ACode := .seq (.reg L215_7) C215_2
theorem u215_3 : wpC P C215_3 T L (rdy h) Q = wpC P (.seq (.reg L215_7) C215_2) T L (rdy h) Q := rfl
def C215_4 : ACode := .seq (.reg L215_4) C215_3
theorem u215_4 : wpC P C215_4 T L (rdy h) Q = wpC P (.seq (.reg L215_4) C215_3) T L (rdy h) Q := rfl
def C215_5 : ACode := .block 1 C215_4
theorem u215_5 : wpC P C215_5 T L (rdy h) Q = wpC P (.block 1 C215_4) T L (rdy h) Q := rfl
def C215_6 : ACode := .seq C215_5 (.reg L215_9)
theorem u215_6 : wpC P C215_6 T L (rdy h) Q = wpC P (.seq C215_5 (.reg L215_9)) T L (rdy h) Q := rfl
def C215_7 : ACode := .seq C215_0 C215_6
theorem u215_7 : wpC P C215_7 T L (rdy h) Q = wpC P (.seq C215_0 C215_6) T L (rdy h) Q := rfl
def C215_8 : ACode := .seq (.reg L215_3) C215_7
theorem u215_8 : wpC P C215_8 T L (rdy h) Q = wpC P (.seq (.reg L215_3) C215_7) T L (rdy h) Q := rfl
def C215_9 : ACode := .block 0 (.loop C215_8)
theorem u215_9 : wpC P C215_9 T L (rdy h) Q = wpC P (.block 0 (.loop C215_8)) T L (rdy h) Q := rfl
def C215_10 : ACode := .seq (.reg L215_2) C215_9
theorem u215_10 : wpC P C215_10 T L (rdy h) Q = wpC P (.seq (.reg L215_2) C215_9) T L (rdy h) Q := rfl
def C215_11 : ACode := .seq (.reg L215_10) .ret
theorem u215_11 : wpC P C215_11 T L (rdy h) Q = wpC P (.seq (.reg L215_10) .ret) T L (rdy h) Q := rfl
def C215_12 : ACode := .seq C215_10 C215_11
theorem u215_12 : wpC P C215_12 T L (rdy h) Q = wpC P (.seq C215_10 C215_11) T L (rdy h) Q := rfl
def C215_13 : ACode := .seq (.reg L215_0) C215_12
theorem u215_13 : wpC P C215_13 T L (rdy h) Q = wpC P (.seq (.reg L215_0) C215_12) T L (rdy h) Q := rfl
def F215 : AFunc := ⟨19, [.tmp 4], C215_13⟩
theorem cF215 : compB Try.prog 215 = some F215 := by kernel_rfl
end
attribute [local go_sem ↓] u215_0 u215_1 u215_2 u215_3 u215_4 u215_5 u215_6 u215_7 u215_8 u215_9 u215_10 u215_11 u215_12 u215_13 v215_0 v215_1 v215_2 v215_3 v215_4 v215_5 v215_6 v215_7 v215_8 v215_9 v215_10
theorem c_indexQ (l : List Param) (v : AV) (f : Nat) (caps : List (Nat × Nat)) (p : Param → Bool) (h : H) (hl : SlQ h v l) (hn : l.length ≤ big) (hf : ∀ i (hi : i < l.length), ∀ x, x = l[i] → bm Try.prog f (.agg (encQ x) :: caps.map fun a => .one (.ptr (some a))) h = some (ib (p x), h)) :
    bm Try.prog 215 [v, .one (.fn f caps)] h = some (ii (idx p l), h) := by
  refine bm_eq cF215 ?_
  simp +contextual (maxSteps := 2000000) only [go_sem, Nat.reduceEqDiff, reduceCtorEq, Nat.reduceAdd, Nat.reduceLeDiff, F215, hl.len]
  refine wpC_loop (fun i T L h' => h' = h ∧ T 0 = .v v ∧ T 1 = .v (.one (.fn f caps)) ∧ T 7 = .v (.one (.int .i64 l.length)) ∧ T 8 = .v (.one (.int .i64 i)) ∧ Pre p false l i) l.length ?_ ?_ (Nat.zero_le _) ?_
  · rintro i T L h' hi ⟨rfl, h0, h1, h7, h8, hp⟩
    simp +contextual (maxSteps := 2000000) only [go_sem, Nat.reduceEqDiff, reduceCtorEq, Nat.reduceAdd, Nat.reduceLeDiff, h0, h1, h7, h8, hl.iaddr hi, hl.whole hi, hf i hi _ rfl, lt_true hi]
    (repeat' (first | refine And.intro ?_ ?_ | intro _)) <;> first | rfl | rw [wrap_next hi (big_lt hn)] | exact hp.next hi ‹_› | rw [idx_hit hi hp ‹_›]
  · rintro T L h' ⟨rfl, h0, h1, h7, h8, hp⟩
    simp +contextual (maxSteps := 2000000) only [go_sem, Nat.reduceEqDiff, reduceCtorEq, Nat.reduceAdd, Nat.reduceLeDiff, h0, h1, h7, h8, lt_false, idx_none hp]
  · simp +contextual (maxSteps := 2000000) only [go_sem, Nat.reduceEqDiff, reduceCtorEq, Nat.reduceAdd, Nat.reduceLeDiff]
    (repeat' (first | refine And.intro ?_ ?_ | intro _)) <;> first | rfl | exact Pre.zero
section
variable {P : Program} {T : Tb} {L : Lb} {h : H} {Q : PostC} {K : Post}
/-! slices.IndexFunc(()int,int) -/
def L225_0 : List AStep := [⟨.mov (.c (.int .i64 0)), (some 4), none, []⟩]
theorem v225_0 : wpS P L225_0 T L (rdy h) K = wpS P ([⟨.mov (.c (.int .i64 0)), (some 4), none, []⟩]) T L (rdy h) K := rfl
def L225_1 : List AStep := [⟨.mov (.c (.int .i64 0)), (some 8), none, []⟩]
theorem v225_1 : wpS P L225_1 T L (rdy h) K = wpS P ([⟨.mov (.c (.int .i64 0)), (some 8), none, []⟩]) T L (rdy h) K := rfl
def L225_2 : List AStep := ⟨.mov (.t 0), (some 6), none, []⟩ :: ⟨.len (.t 6), (some 7), none, []⟩ :: L225_1
theorem v225_2 : wpS P L225_2 T L (rdy h) K = wpS P (⟨.mov (.t 0), (some 6), none, []⟩ :: ⟨.len (.t 6), (some 7), none, []⟩ :: L225_1) T L (rdy h) K := rfl
def L225_3 : List AStep := [⟨.bin .lss (.t 8) (.t 7), (some 9), none, []⟩]
theorem v225_3 : wpS P L225_3 T L (rdy h) K = wpS P ([⟨.bin .lss (.t 8) (.t 7), (some 9), none, []⟩]) T L (rdy h) K := rfl
def L225_4 : List AStep := [⟨.mov (.t 8), (some 10), none, []⟩, ⟨.mov (.t 10), (some 5), none, []⟩]
theorem v225_4 : wpS P L225_4 T L (rdy h) K = wpS P ([⟨.mov (.t 8), (some 10), none, []⟩, ⟨.mov (.t 10), (some 5), none, []⟩]) T L (rdy h) K := rfl
def L225_5 : List AStep := [⟨.load 1 false (.t 14), (some 15), none, []⟩, ⟨.callv (.t 11) [(.t 15)], (some 16), none, []⟩]
theorem v225_5 : wpS P L225_5 T L (rdy h) K = wpS P ([⟨.load 1 false (.t 14), (some 15), none, []⟩, ⟨.callv (.t 11) [(.t 15)], (some 16), none, []⟩]) T L (rdy h) K := rfl
def L225_6 : List AStep := ⟨.mov (.t 5), (some 13), none, []⟩ :: ⟨.iaddr 1 (.t 12) (.t 13), (some 14), none, []⟩ :: L225_5
theorem v225_6 : wpS P L225_6 T L (rdy h) K = wpS P (⟨.mov (.t 5), (some 13), none, []⟩ :: ⟨.iaddr 1 (.t 12) (.t 13), (some 14), none, []⟩ :: L225_5) T L (rdy h) K := rfl
def L225_7 : List AStep := ⟨.mov (.t 1), (some 11), none, []⟩ :: ⟨.mov (.t 0), (some 12), none, []⟩ :: L225_6
theorem v225_7 : wpS P L225_7 T L (rdy h) K = wpS P (⟨.mov (.t 1), (some 11), none, []⟩ :: ⟨.mov (.t 0), (some 12), none, []⟩ :: L225_6) T L (rdy h) K := rfl
def L225_8 : List AStep := [⟨.mov (.t 5), (some 17), none, []⟩, ⟨.mov (.t 17), (some 4), none, []⟩]
theorem v225_8 : wpS P L225_8 T L (rdy h) K = wpS P ([⟨.mov (.t 5), (some 17), none, []⟩, ⟨.mov (.t 17), (some 4), none, []⟩]) T L (rdy h) K := rfl
def L225_9 : List AStep := [⟨.bin .add (.t 8) (.c (.int .i64 1)), (some 18), none, []⟩, ⟨.mov (.t 18), (some 8), none, []⟩]
theorem v225_9 : wpS P L225_9 T L (rdy h) K = wpS P ([⟨.bin .add (.t 8) (.c (.int .i64 1)), (some 18), none, []⟩, ⟨.mov (.t 18), (some 8), none, []⟩]) T L (rdy h) K := rfl
def L225_10 : List AStep := [⟨.mov (.c (.int .i64 (-1))), (some 4), none, []⟩]
theorem v225_10 : wpS P L225_10 T L (rdy h) K = wpS P ([⟨.mov (.c (.int .i64 (-1))), (some 4), none, []⟩]) T L (rdy h) K := rfl
def C225_0 : ACode := .cond (.t 9) .skip (.exit 0)
theorem u225_0 : wpC P C225_0 T L (rdy h) Q = wpC P (.cond (.t 9) .skip (.exit 0)) T L (rdy h) Q := rfl
def C225_1 : ACode := .seq (.reg L225_8) .ret
theorem u225_1 : wpC P C225_1 T L (rdy h) Q = wpC P (.seq (.reg L225_8) .ret) T L (rdy h) Q := rfl
def C225_2 : ACode := .cond (.t 16) C225_1 .skip
theorem u225_2 : wpC P C225_2 T L (rdy h) Q = wpC P (.cond (.t 16) C225_1 .skip) T L (rdy h) Q := rfl
def C225_3 : ACode := .seq (.reg L225_7) C225_2
theorem u225_3 : wpC P C225_3 T L (rdy h) Q = wpC P (.seq (.reg L225_7) C225_2) T L (rdy h) Q := rfl
def C225_4 : ACode := .seq (.reg L225_4) C225_3
theorem u225_4 : wpC P C225_4 T L (rdy h) Q = wpC P (.seq (.reg L225_4) C225_3) T L (rdy h) Q := rfl
def C225_5 : ACode := .block 1 C225_4
theorem u225_5 : wpC P C225_5 T L (rdy h) Q = wpC P (.block 1 C225_4) T L (rdy h) Q := rfl
def C225_6 : ACode := .seq C225_5 (.reg L225_9)
theorem u225_6 : wpC P C225_6 T L (rdy h) Q = wpC P (.seq C225_5 (.reg L225_9)) T L (rdy h) Q := rfl
def C225_7 : ACode := .seq C225_0 C225_6
theorem u225_7 : wpC P C225_7 T L (rdy h) Q = wpC P (.seq C225_0 C225_6) T L (rdy h) Q := rfl
def C225_8 : ACode := .seq (.reg L225_3) C225_7
theorem u225_8 : wpC P C225_8 T L (rdy h) Q = wpC P (.seq (.reg L225_3) C225_7) T L (rdy h) Q := rfl
def C225_9 : ACode := .block 0 (.loop C225_8)
theorem u225_9 : wpC P C225_9 T L (rdy h) Q = wpC P (.block 0 (.loop C225_8)) T L (rdy h) Q := rfl
def C225_10 : ACode := .seq (.reg L225_2) C225_9
theorem u225_10 : wpC P C225_10 T L (rdy h) Q = wpC P (.seq (.reg L225_2) C225_9) T L (rdy h) Q := rfl
def C225_11 : ACode := .seq (.reg L225_10) .ret
theorem u225_11 : wpC P C225_11 T L (rdy h) Q = wpC P (.seq (.reg L225_10) .ret) T L (rdy h) Q := rfl
def C225_12 : ACode := .seq C225_10 C225_11
theorem u225_12 : wpC P C225_12 T L (rdy h) Q = wpC P (.seq C225_10 C225_11) T L (rdy h) Q := rfl
def C225_13 : ACode := .seq (.reg L225_0) C225_12
theorem u225_13 : wpC P C225_13 T L (rdy h) Q = wpC P (.seq (.reg L225_0) C225_12) T L (rdy h) Q := rfl
def F225 : AFunc := ⟨19, [.tmp 4], C225_13⟩
theorem cF225 : compB Try.prog 225 = some F225 := by kernel_rfl
end
attribute [local go_sem ↓] u225_0 u225_1 u225_2 u225_3 u225_4 u225_5 u225_6 u225_7 u225_8 u225_9 u225_10 u225_11 u225_12 u225_13 v225_0 v225_1 v225_2 v225_3 v225_4 v225_5 v225_6 v225_7 v225_8 v225_9 v225_10
theorem c_indexI (l : List Int) (v : AV) (f : Nat) (caps : List (Nat × Nat)) (p : Int → Bool) (h : H) (hl : SlI h v l) (hn : l.length ≤ big) (hf : ∀ i (hi : i < l.length), ∀ x, x = l[i] → bm Try.prog f (.one (.int .i64 x) :: caps.map fun a => .one (.ptr (some a))) h = some (ib (p x), h)) :
    bm Try.prog 225 [v, .one (.fn f caps)] h = some (ii (idx p l), h) := by
  refine bm_eq cF225 ?_
  simp +contextual (maxSteps := 2000000) only [go_sem, Nat.reduceEqDiff, reduceCtorEq, Nat.reduceAdd, Nat.reduceLeDiff, F225, hl.len]
  refine wpC_loop (fun i T L h' => h' = h ∧ T 0 = .v v ∧ T 1 = .v (.one (.fn f caps)) ∧ T 7 = .v (.one (.int .i64 l.length)) ∧ T 8 = .v (.one (.int .i64 i)) ∧ Pre p false l i) l.length ?_ ?_ (Nat.zero_le _) ?_
  · rintro i T L h' hi ⟨rfl, h0, h1, h7, h8, hp⟩
    simp +contextual (maxSteps := 2000000) only [go_sem, Nat.reduceEqDiff, reduceCtorEq, Nat.reduceAdd, Nat.reduceLeDiff, h0, h1, h7, h8, hl.iaddr hi, hl.oneO hi, hf i hi _ rfl, lt_true hi]
    (repeat' (first | refine And.intro ?_ ?_ | intro _)) <;> first | rfl | rw [wrap_next hi (big_lt hn)] | exact hp.next hi ‹_› | rw [idx_hit hi hp ‹_›]
  · rintro T L h' ⟨rfl, h0, h1, h7, h8, hp⟩
    simp +contextual (maxSteps := 2000000) only [go_sem, Nat.reduceEqDiff, reduceCtorEq, Nat.reduceAdd, Nat.reduceLeDiff, h0, h1, h7, h8, lt_false, idx_none hp]
  · simp +contextual (maxSteps := 2000000) only [go_sem, Nat.reduceEqDiff, reduceCtorEq, Nat.reduceAdd, Nat.reduceLeDiff]
    (repeat' (first | refine And.intro ?_ ?_ | intro _)) <;> first | rfl | exact Pre.zero
section
variable {P : Program} {T : Tb} {L : Lb} {h : H} {Q : PostC} {K : Post}
/-! slices.ContainsFunc(()int,int) -/
def L199_0 : List AStep := [⟨.mov (.c (.bool false)), (some 4), none, []⟩]
theorem v199_0 : wpS P L199_0 T L (rdy h) K = wpS P ([⟨.mov (.c (.bool false)), (some 4), none, []⟩]) T L (rdy h) K := rfl
def L199_1 : List AStep := [⟨.mov (.t 8), (some 4), none, []⟩]
theorem v199_1 : wpS P L199_1 T L (rdy h) K = wpS P ([⟨.mov (.t 8), (some 4), none, []⟩]) T L (rdy h) K := rfl
def L199_2 : List AStep := ⟨.call 225 [(.t 5), (.t 6)], (some 7), none, []⟩ :: ⟨.bin .geq (.t 7) (.c (.int .i64 0)), (some 8), none, []⟩ :: L199_1
theorem v199_2 : wpS P L199_2 T L (rdy h) K = wpS P (⟨.call 225 [(.t 5), (.t 6)], (some 7), none, []⟩ :: ⟨.bin .geq (.t 7) (.c (.int .i64 0)), (some 8), none, []⟩ :: L199_1) T L (rdy h) K := rfl
def L199_3 : List AStep := ⟨.mov (.t 0), (some 5), none, []⟩ :: ⟨.mov (.t 1), (some 6), none, []⟩ :: L199_2
theorem v199_3 : wpS P L199_3 T L (rdy h) K = wpS P (⟨.mov (.t 0), (some 5), none, []⟩ :: ⟨.mov (.t 1), (some 6), none, []⟩ :: L199_2) T L (rdy h) K := rfl
def C199_0 : ACode := .seq (.reg L199_3) .ret
theorem u199_0 : wpC P C199_0 T L (rdy h) Q = wpC P (.seq (.reg L199_3) .ret) T L (rdy h) Q := rfl
def C199_1 : ACode := .seq (.reg L199_0) C199_0
theorem u199_1 : wpC P C199_1 T L (rdy h) Q = wpC P (.seq (.reg L199_0) C199_0) T L (rdy h) Q := rfl
def F199 : AFunc := ⟨9, [.tmp 4], C199_1⟩
theorem cF199 : compB Try.prog 199 = some F199 := by kernel_rfl
end
attribute [local go_sem ↓] u199_0 u199_1 v199_0 v199_1 v199_2 v199_3
theorem c_hasI (l : List Int) (v : AV) (f : Nat) (caps : List (Nat × Nat)) (p : Int → Bool) (h : H) (hl : SlI h v l) (hn : l.length ≤ big) (hf : ∀ i (hi : i < l.length), ∀ x, x = l[i] → bm Try.prog f (.one (.int .i64 x) :: caps.map fun a => .one (.ptr (some a))) h = some (ib (p x), h)) :
    bm Try.prog 199 [v, .one (.fn f caps)] h = some (ib (l.any p), h) := by
  refine bm_eq cF199 ?_
  have e := idx_any (p := p) (l := l)
  simp +contextual (maxSteps := 2000000) only [go_sem, Nat.reduceEqDiff, reduceCtorEq, Nat.reduceAdd, Nat.reduceLeDiff, F199, c_indexI l v f caps p h hl hn hf, e]
section
variable {P : Program} {T : Tb} {L : Lb} {h : H} {Q : PostC} {K : Post}
/-! impl.pairAt$1 -/
def L180_0 : List AStep := [⟨.box 86 (.t 0), (some 2), none, []⟩, ⟨.mov (.c (.bool false)), (some 3), none, []⟩]
theorem v180_0 : wpS P L180_0 T L (rdy h) K = wpS P ([⟨.box 86 (.t 0), (some 2), none, []⟩, ⟨.mov (.c (.bool false)), (some 3), none, []⟩]) T L (rdy h) K := rfl
def L180_1 : List AStep := [⟨.mov (.t 7), (some 3), none, []⟩]
theorem v180_1 : wpS P L180_1 T L (rdy h) K = wpS P ([⟨.mov (.t 7), (some 3), none, []⟩]) T L (rdy h) K := rfl
def L180_2 : List AStep := ⟨.load 1 false (.t 1), (some 6), none, []⟩ :: ⟨.bin .eql (.t 5) (.t 6), (some 7), none, []⟩ :: L180_1
theorem v180_2 : wpS P L180_2 T L (rdy h) K = wpS P (⟨.load 1 false (.t 1), (some 6), none, []⟩ :: ⟨.bin .eql (.t 5) (.t 6), (some 7), none, []⟩ :: L180_1) T L (rdy h) K := rfl
def L180_3 : List AStep := ⟨.faddr 0 (.t 2), (some 4), none, []⟩ :: ⟨.load 1 false (.t 4), (some 5), none, []⟩ :: L180_2
theorem v180_3 : wpS P L180_3 T L (rdy h) K = wpS P (⟨.faddr 0 (.t 2), (some 4), none, []⟩ :: ⟨.load 1 false (.t 4), (some 5), none, []⟩ :: L180_2) T L (rdy h) K := rfl
def C180_0 : ACode := .seq (.reg L180_3) .ret
theorem u180_0 : wpC P C180_0 T L (rdy h) Q = wpC P (.seq (.reg L180_3) .ret) T L (rdy h) Q := rfl
def C180_1 : ACode := .seq (.reg L180_0) C180_0
theorem u180_1 : wpC P C180_1 T L (rdy h) Q = wpC P (.seq (.reg L180_0) C180_0) T L (rdy h) Q := rfl
def F180 : AFunc := ⟨8, [.tmp 3], C180_1⟩
theorem cF180 : compB Try.prog 180 = some F180 := by kernel_rfl
end
attribute [local go_sem ↓] u180_0 u180_1 v180_0 v180_1 v180_2 v180_3
theorem c_pairAt1 (p : Pair) (a : Nat × Nat) (s : ByteArray) (h : H) (ha : loadO 1 false h (.one (.ptr (some a))) = some (.one (.str s))) : bm Try.prog 180 [.agg (encP p), .one (.ptr (some a))] h = some (ib (decide (p.name = s)), h) := by
  refine bm_eq cF180 ?_
  simp +contextual (maxSteps := 2000000) only [go_sem, Nat.reduceEqDiff, reduceCtorEq, Nat.reduceAdd, Nat.reduceLeDiff, F180, ha]
section
variable {P : Program} {T : Tb} {L : Lb} {h : H} {Q : PostC} {K : Post}
/-! impl.pairAt -/
def L101_0 : List AStep := [⟨.box 9 (.t 1), (some 3), none, []⟩, ⟨.mov (.c (.int .i64 0)), (some 4), none, []⟩]
theorem v101_0 : wpS P L101_0 T L (rdy h) K = wpS P ([⟨.box 9 (.t 1), (some 3), none, []⟩, ⟨.mov (.c (.int .i64 0)), (some 4), none, []⟩]) T L (rdy h) K := rfl
def L101_1 : List AStep := [⟨.call 179 [(.t 5), (.t 6)], (some 7), none, []⟩, ⟨.mov (.t 7), (some 4), none, []⟩]
theorem v101_1 : wpS P L101_1 T L (rdy h) K = wpS P ([⟨.call 179 [(.t 5), (.t 6)], (some 7), none, []⟩, ⟨.mov (.t 7), (some 4), none, []⟩]) T L (rdy h) K := rfl
def L101_2 : List AStep := ⟨.mov (.t 0), (some 5), none, []⟩ :: ⟨.mkfn 180 [(.t 3)], (some 6), none, []⟩ :: L101_1
theorem v101_2 : wpS P L101_2 T L (rdy h) K = wpS P (⟨.mov (.t 0), (some 5), none, []⟩ :: ⟨.mkfn 180 [(.t 3)], (some 6), none, []⟩ :: L101_1) T L (rdy h) K := rfl
def C101_0 : ACode := .seq (.reg L101_2) .ret
theorem u101_0 : wpC P C101_0 T L (rdy h) Q = wpC P (.seq (.reg L101_2) .ret) T L (rdy h) Q := rfl
def C101_1 : ACode := .seq (.reg L101_0) C101_0
theorem u101_1 : wpC P C101_1 T L (rdy h) Q = wpC P (.seq (.reg L101_0) C101_0) T L (rdy h) Q := rfl
def F101 : AFunc := ⟨8, [.tmp 4], C101_1⟩
theorem cF101 : compB Try.prog 101 = some F101 := by kernel_rfl
end
attribute [local go_sem ↓] u101_0 u101_1 v101_0 v101_1 v101_2
theorem c_pairAtI (l : List Pair) (v : AV) (s : ByteArray) (h : H) (hl : SlP h v l) (hn : smP l) : bm Try.prog 101 [v, .one (.str s)] h = some (ii (pairAt l s), h) := by
  refine bm_eq cF101 ?_
  have e := c_indexP l v 180 [(h.n, 0)] (fun p => decide (p.name = s)) (h.alloc [.str s] 9) (hl.grow (Grow.alloc _ _ _)) hn.1 (fun i hi x hx => c_pairAt1 x (h.n, 0) s _ (Box.new.one rfl))
  simp +contextual (maxSteps := 2000000) only [go_sem, Nat.reduceEqDiff, reduceCtorEq, Nat.reduceAdd, Nat.reduceLeDiff, F101, e, pairAt]
section
variable {P : Program} {T : Tb} {L : Lb} {h : H} {Q : PostC} {K : Post}
/-! impl.find$1 -/
def L216_0 : List AStep := [⟨.box 108 (.t 0), (some 2), none, []⟩, ⟨.mov (.c (.bool false)), (some 3), none, []⟩]
theorem v216_0 : wpS P L216_0 T L (rdy h) K = wpS P ([⟨.box 108 (.t 0), (some 2), none, []⟩, ⟨.mov (.c (.bool false)), (some 3), none, []⟩]) T L (rdy h) K := rfl
def L216_1 : List AStep := [⟨.mov (.t 7), (some 3), none, []⟩]
theorem v216_1 : wpS P L216_1 T L (rdy h) K = wpS P ([⟨.mov (.t 7), (some 3), none, []⟩]) T L (rdy h) K := rfl
def L216_2 : List AStep := ⟨.load 1 false (.t 1), (some 6), none, []⟩ :: ⟨.bin .eql (.t 5) (.t 6), (some 7), none, []⟩ :: L216_1
theorem v216_2 : wpS P L216_2 T L (rdy h) K = wpS P (⟨.load 1 false (.t 1), (some 6), none, []⟩ :: ⟨.bin .eql (.t 5) (.t 6), (some 7), none, []⟩ :: L216_1) T L (rdy h) K := rfl
def L216_3 : List AStep := ⟨.faddr 0 (.t 2), (some 4), none, []⟩ :: ⟨.load 1 false (.t 4), (some 5), none, []⟩ :: L216_2
theorem v216_3 : wpS P L216_3 T L (rdy h) K = wpS P (⟨.faddr 0 (.t 2), (some 4), none, []⟩ :: ⟨.load 1 false (.t 4), (some 5), none, []⟩ :: L216_2) T L (rdy h) K := rfl
def C216_0 : ACode := .seq (.reg L216_3) .ret
theorem u216_0 : wpC P C216_0 T L (rdy h) Q = wpC P (.seq (.reg L216_3) .ret) T L (rdy h) Q := rfl
def C216_1 : ACode := .seq (.reg L216_0) C216_0
theorem u216_1 : wpC P C216_1 T L (rdy h) Q = wpC P (.seq (.reg L216_0) C216_0) T L (rdy h) Q := rfl
def F216 : AFunc := ⟨8, [.tmp 3], C216_1⟩
theorem cF216 : compB Try.prog 216 = some F216 := by kernel_rfl
end
attribute [local go_sem ↓] u216_0 u216_1 v216_0 v216_1 v216_2 v216_3
theorem c_find1 (p : Param) (a : Nat × Nat) (s : ByteArray) (h : H) (ha : loadO 1 false h (.one (.ptr (some a))) = some (.one (.str s))) : bm Try.prog 216 [.agg (encQ p), .one (.ptr (some a))] h = some (ib (decide (p.name = s)), h) := by
  refine bm_eq cF216 ?_
  simp +contextual (maxSteps := 2000000) only [go_sem, Nat.reduceEqDiff, reduceCtorEq, Nat.reduceAdd, Nat.reduceLeDiff, F216, ha]
section
variable {P : Program} {T : Tb} {L : Lb} {h : H} {Q : PostC} {K : Post}
/-! impl.find -/
def L173_0 : List AStep := [⟨.box 9 (.t 1), (some 3), none, []⟩, ⟨.mov (.c (.int .i64 0)), (some 4), none, []⟩]
theorem v173_0 : wpS P L173_0 T L (rdy h) K = wpS P ([⟨.box 9 (.t 1), (some 3), none, []⟩, ⟨.mov (.c (.int .i64 0)), (some 4), none, []⟩]) T L (rdy h) K := rfl
def L173_1 : List AStep := [⟨.call 215 [(.t 5), (.t 6)], (some 7), none, []⟩, ⟨.mov (.t 7), (some 4), none, []⟩]
theorem v173_1 : wpS P L173_1 T L (rdy h) K = wpS P ([⟨.call 215 [(.t 5), (.t 6)], (some 7), none, []⟩, ⟨.mov (.t 7), (some 4), none, []⟩]) T L (rdy h) K := rfl
def L173_2 : List AStep := ⟨.mov (.t 0), (some 5), none, []⟩ :: ⟨.mkfn 216 [(.t 3)], (some 6), none, []⟩ :: L173_1
theorem v173_2 : wpS P L173_2 T L (rdy h) K = wpS P (⟨.mov (.t 0), (some 5), none, []⟩ :: ⟨.mkfn 216 [(.t 3)], (some 6), none, []⟩ :: L173_1) T L (rdy h) K := rfl
def C173_0 : ACode := .seq (.reg L173_2) .ret
theorem u173_0 : wpC P C173_0 T L (rdy h) Q = wpC P (.seq (.reg L173_2) .ret) T L (rdy h) Q := rfl
def C173_1 : ACode := .seq (.reg L173_0) C173_0
theorem u173_1 : wpC P C173_1 T L (rdy h) Q = wpC P (.seq (.reg L173_0) C173_0) T L (rdy h) Q := rfl
def F173 : AFunc := ⟨8, [.tmp 4], C173_1⟩
theorem cF173 : compB Try.prog 173 = some F173 := by kernel_rfl
end
attribute [local go_sem ↓] u173_0 u173_1 v173_0 v173_1 v173_2
theorem c_find (l : List Param) (v : AV) (s : ByteArray) (h : H) (hl : SlQ h v l) (hn : smQ l) : bm Try.prog 173 [v, .one (.str s)] h = some (ii (paramAt l s), h) := by
  refine bm_eq cF173 ?_
  have e := c_indexQ l v 216 [(h.n, 0)] (fun p => decide (p.name = s)) (h.alloc [.str s] 9) (hl.grow (Grow.alloc _ _ _)) hn.1 (fun i hi x hx => c_find1 x (h.n, 0) s _ (Box.new.one rfl))
  simp +contextual (maxSteps := 2000000) only [go_sem, Nat.reduceEqDiff, reduceCtorEq, Nat.reduceAdd, Nat.reduceLeDiff, F173, e, paramAt]
section
variable {P : Program} {T : Tb} {L : Lb} {h : H} {Q : PostC} {K : Post}
/-! (impl.Signature).takes$1 -/
def L226_0 : List AStep := [⟨.box 108 (.t 0), (some 1), none, []⟩, ⟨.mov (.c (.bool false)), (some 2), none, []⟩]
theorem v226_0 : wpS P L226_0 T L (rdy h) K = wpS P ([⟨.box 108 (.t 0), (some 1), none, []⟩, ⟨.mov (.c (.bool false)), (some 2), none, []⟩]) T L (rdy h) K := rfl
def L226_1 : List AStep := [⟨.bin .eql (.t 4) (.c (.int .i64 4)), (some 5), none, []⟩, ⟨.mov (.t 5), (some 2), none, []⟩]
theorem v226_1 : wpS P L226_1 T L (rdy h) K = wpS P ([⟨.bin .eql (.t 4) (.c (.int .i64 4)), (some 5), none, []⟩, ⟨.mov (.t 5), (some 2), none, []⟩]) T L (rdy h) K := rfl
def L226_2 : List AStep := ⟨.faddr 1 (.t 1), (some 3), none, []⟩ :: ⟨.load 1 false (.t 3), (some 4), none, []⟩ :: L226_1
theorem v226_2 : wpS P L226_2 T L (rdy h) K = wpS P (⟨.faddr 1 (.t 1), (some 3), none, []⟩ :: ⟨.load 1 false (.t 3), (some 4), none, []⟩ :: L226_1) T L (rdy h) K := rfl
def C226_0 : ACode := .seq (.reg L226_2) .ret
theorem u226_0 : wpC P C226_0 T L (rdy h) Q = wpC P (.seq (.reg L226_2) .ret) T L (rdy h) Q := rfl
def C226_1 : ACode := .seq (.reg L226_0) C226_0
theorem u226_1 : wpC P C226_1 T L (rdy h) Q = wpC P (.seq (.reg L226_0) C226_0) T L (rdy h) Q := rfl
def F226 : AFunc := ⟨6, [.tmp 2], C226_1⟩
theorem cF226 : compB Try.prog 226 = some F226 := by kernel_rfl
end
attribute [local go_sem ↓] u226_0 u226_1 v226_0 v226_1 v226_2
theorem c_takes1 (p : Param) (h : H) : bm Try.prog 226 [.agg (encQ p)] h = some (ib (decide (p.kind = 4)), h) := by
  refine bm_eq cF226 ?_
  simp +contextual (maxSteps := 2000000) only [go_sem, Nat.reduceEqDiff, reduceCtorEq, Nat.reduceAdd, Nat.reduceLeDiff, F226]
section
variable {P : Program} {T : Tb} {L : Lb} {h : H} {Q : PostC} {K : Post}
/-! (impl.Signature).takes -/
def L205_0 : List AStep := [⟨.box 51 (.t 0), (some 2), none, []⟩, ⟨.mov (.c (.int .i64 0)), (some 4), none, []⟩]
theorem v205_0 : wpS P L205_0 T L (rdy h) K = wpS P ([⟨.box 51 (.t 0), (some 2), none, []⟩, ⟨.mov (.c (.int .i64 0)), (some 4), none, []⟩]) T L (rdy h) K := rfl
def L205_1 : List AStep := [⟨.mov (.t 9), (some 5), none, []⟩]
theorem v205_1 : wpS P L205_1 T L (rdy h) K = wpS P ([⟨.mov (.t 9), (some 5), none, []⟩]) T L (rdy h) K := rfl
def L205_2 : List AStep := ⟨.mov (.t 1), (some 8), none, []⟩ :: ⟨.call 173 [(.t 7), (.t 8)], (some 9), none, []⟩ :: L205_1
theorem v205_2 : wpS P L205_2 T L (rdy h) K = wpS P (⟨.mov (.t 1), (some 8), none, []⟩ :: ⟨.call 173 [(.t 7), (.t 8)], (some 9), none, []⟩ :: L205_1) T L (rdy h) K := rfl
def L205_3 : List AStep := ⟨.faddr 0 (.t 2), (some 6), none, []⟩ :: ⟨.load 1 false (.t 6), (some 7), none, []⟩ :: L205_2
theorem v205_3 : wpS P L205_3 T L (rdy h) K = wpS P (⟨.faddr 0 (.t 2), (some 6), none, []⟩ :: ⟨.load 1 false (.t 6), (some 7), none, []⟩ :: L205_2) T L (rdy h) K := rfl
def L205_4 : List AStep := [⟨.call 102 [(.t 17)], (some 18), (some (12, true)), []⟩, ⟨.pick (.t 12) (.t 18) (.c (.bool false)), (some 19), none, []⟩]
theorem v205_4 : wpS P L205_4 T L (rdy h) K = wpS P ([⟨.call 102 [(.t 17)], (some 18), (some (12, true)), []⟩, ⟨.pick (.t 12) (.t 18) (.c (.bool false)), (some 19), none, []⟩]) T L (rdy h) K := rfl
def L205_5 : List AStep := ⟨.iaddr 4 (.t 14) (.t 15), (some 16), (some (12, true)), []⟩ :: ⟨.load 4 true (.t 16), (some 17), (some (12, true)), []⟩ :: L205_4
theorem v205_5 : wpS P L205_5 T L (rdy h) K = wpS P (⟨.iaddr 4 (.t 14) (.t 15), (some 16), (some (12, true)), []⟩ :: ⟨.load 4 true (.t 16), (some 17), (some (12, true)), []⟩ :: L205_4) T L (rdy h) K := rfl
def L205_6 : List AStep := ⟨.load 1 false (.t 13), (some 14), (some (12, true)), []⟩ :: ⟨.mov (.t 5), (some 15), (some (12, true)), []⟩ :: L205_5
theorem v205_6 : wpS P L205_6 T L (rdy h) K = wpS P (⟨.load 1 false (.t 13), (some 14), (some (12, true)), []⟩ :: ⟨.mov (.t 5), (some 15), (some (12, true)), []⟩ :: L205_5) T L (rdy h) K := rfl
def L205_7 : List AStep := ⟨.mov (.t 11), (some 12), none, []⟩ :: ⟨.faddr 0 (.t 2), (some 13), (some (12, true)), []⟩ :: L205_6
theorem v205_7 : wpS P L205_7 T L (rdy h) K = wpS P (⟨.mov (.t 11), (some 12), none, []⟩ :: ⟨.faddr 0 (.t 2), (some 13), (some (12, true)), []⟩ :: L205_6) T L (rdy h) K := rfl
def L205_8 : List AStep := ⟨.mov (.t 5), (some 10), none, []⟩ :: ⟨.bin .geq (.t 10) (.c (.int .i64 0)), (some 11), none, []⟩ :: L205_7
theorem v205_8 : wpS P L205_8 T L (rdy h) K = wpS P (⟨.mov (.t 5), (some 10), none, []⟩ :: ⟨.bin .geq (.t 10) (.c (.int .i64 0)), (some 11), none, []⟩ :: L205_7) T L (rdy h) K := rfl
def L205_9 : List AStep := [⟨.mov (.t 5), (some 20), none, []⟩, ⟨.mov (.t 20), (some 4), none, []⟩]
theorem v205_9 : wpS P L205_9 T L (rdy h) K = wpS P ([⟨.mov (.t 5), (some 20), none, []⟩, ⟨.mov (.t 20), (some 4), none, []⟩]) T L (rdy h) K := rfl
def L205_10 : List AStep := [⟨.call 215 [(.t 22), (.c (.fn 226 []))], (some 23), none, []⟩, ⟨.mov (.t 23), (some 4), none, []⟩]
theorem v205_10 : wpS P L205_10 T L (rdy h) K = wpS P ([⟨.call 215 [(.t 22), (.c (.fn 226 []))], (some 23), none, []⟩, ⟨.mov (.t 23), (some 4), none, []⟩]) T L (rdy h) K := rfl
def L205_11 : List AStep := ⟨.faddr 0 (.t 2), (some 21), none, []⟩ :: ⟨.load 1 false (.t 21), (some 22), none, []⟩ :: L205_10
theorem v205_11 : wpS P L205_11 T L (rdy h) K = wpS P (⟨.faddr 0 (.t 2), (some 21), none, []⟩ :: ⟨.load 1 false (.t 21), (some 22), none, []⟩ :: L205_10) T L (rdy h) K := rfl
def C205_0 : ACode := .seq (.reg L205_9) .ret
theorem u205_0 : wpC P C205_0 T L (rdy h) Q = wpC P (.seq (.reg L205_9) .ret) T L (rdy h) Q := rfl
def C205_1 : ACode := .cond (.t 19) C205_0 .skip
theorem u205_1 : wpC P C205_1 T L (rdy h) Q = wpC P (.cond (.t 19) C205_0 .skip) T L (rdy h) Q := rfl
def C205_2 : ACode := .seq (.reg L205_8) C205_1
theorem u205_2 : wpC P C205_2 T L (rdy h) Q = wpC P (.seq (.reg L205_8) C205_1) T L (rdy h) Q := rfl
def C205_3 : ACode := .seq (.reg L205_3) C205_2
theorem u205_3 : wpC P C205_3 T L (rdy h) Q = wpC P (.seq (.reg L205_3) C205_2) T L (rdy h) Q := rfl
def C205_4 : ACode := .seq (.reg L205_11) .ret
theorem u205_4 : wpC P C205_4 T L (rdy h) Q = wpC P (.seq (.reg L205_11) .ret) T L (rdy h) Q := rfl
def C205_5 : ACode := .seq C205_3 C205_4
theorem u205_5 : wpC P C205_5 T L (rdy h) Q = wpC P (.seq C205_3 C205_4) T L (rdy h) Q := rfl
def C205_6 : ACode := .seq (.reg L205_0) C205_5
theorem u205_6 : wpC P C205_6 T L (rdy h) Q = wpC P (.seq (.reg L205_0) C205_5) T L (rdy h) Q := rfl
def F205 : AFunc := ⟨24, [.tmp 4], C205_6⟩
theorem cF205 : compB Try.prog 205 = some F205 := by kernel_rfl
end
attribute [local go_sem ↓] u205_0 u205_1 u205_2 u205_3 u205_4 u205_5 u205_6 v205_0 v205_1 v205_2 v205_3 v205_4 v205_5 v205_6 v205_7 v205_8 v205_9 v205_10 v205_11
theorem c_takes (l : List Param) (pv : CV) (s : ByteArray) (h : H) (hl : SlQ h (.one pv) l) (hn : smQ l) : bm Try.prog 205 [.agg [pv], .one (.str s)] h = some (ii (takes l s), h) := by
  refine bm_eq cF205 ?_
  have e2 := c_indexQ l (.one pv) 226 [] (fun p => decide (p.kind = 4)) h hl hn.1 (fun i hi x hx => c_takes1 x h)
  rw [show idx (fun p : Param => decide (p.kind = 4)) l = kindAt l 4 from rfl] at e2
  rcases idx_cases (fun p : Param => decide (p.name = s)) l with e | ⟨j, hj, e, _⟩ <;> (replace e := (show paramAt l s = _ from e))
  · simp +contextual (maxSteps := 2000000) only [go_sem, Nat.reduceEqDiff, reduceCtorEq, Nat.reduceAdd, Nat.reduceLeDiff, F205, c_find _ _ _ _ hl hn, e, e2, takes_none e]
  · simp +contextual (maxSteps := 2000000) only [go_sem, Nat.reduceEqDiff, reduceCtorEq, Nat.reduceAdd, Nat.reduceLeDiff, F205, c_find _ _ _ _ hl hn, e, e2, takes_some hj e, hl.iaddr hj, hl.whole hj, c_named]
section
variable {P : Program} {T : Tb} {L : Lb} {h : H} {Q : PostC} {K : Post}
/-! impl.areValues$1 -/
def L200_0 : List AStep := [⟨.mov (.c (.bool false)), (some 2), none, []⟩]
theorem v200_0 : wpS P L200_0 T L (rdy h) K = wpS P ([⟨.mov (.c (.bool false)), (some 2), none, []⟩]) T L (rdy h) K := rfl
def L200_1 : List AStep := [⟨.not (.t 4), (some 5), none, []⟩, ⟨.mov (.t 5), (some 2), none, []⟩]
theorem v200_1 : wpS P L200_1 T L (rdy h) K = wpS P ([⟨.not (.t 4), (some 5), none, []⟩, ⟨.mov (.t 5), (some 2), none, []⟩]) T L (rdy h) K := rfl
def L200_2 : List AStep := ⟨.mov (.t 0), (some 3), none, []⟩ :: ⟨.call 163 [(.t 3)], (some 4), none, []⟩ :: L200_1
theorem v200_2 : wpS P L200_2 T L (rdy h) K = wpS P (⟨.mov (.t 0), (some 3), none, []⟩ :: ⟨.call 163 [(.t 3)], (some 4), none, []⟩ :: L200_1) T L (rdy h) K := rfl
def C200_0 : ACode := .seq (.reg L200_2) .ret
theorem u200_0 : wpC P C200_0 T L (rdy h) Q = wpC P (.seq (.reg L200_2) .ret) T L (rdy h) Q := rfl
def C200_1 : ACode := .seq (.reg L200_0) C200_0
theorem u200_1 : wpC P C200_1 T L (rdy h) Q = wpC P (.seq (.reg L200_0) C200_0) T L (rdy h) Q := rfl
def F200 : AFunc := ⟨6, [.tmp 2], C200_1⟩
theorem cF200 : compB Try.prog 200 = some F200 := by kernel_rfl
end
attribute [local go_sem ↓] u200_0 u200_1 v200_0 v200_1 v200_2
theorem c_areValues1 (n : Int) (h : H) : bm Try.prog 200 [.one (.int .i64 n)] h = some (ib (!(okNum n)), h) := by
  refine bm_eq cF200 ?_
  simp +contextual (maxSteps := 2000000) only [go_sem, Nat.reduceEqDiff, reduceCtorEq, Nat.reduceAdd, Nat.reduceLeDiff, F200, c_isValue]
section
variable {P : Program} {T : Tb} {L : Lb} {h : H} {Q : PostC} {K : Post}
/-! impl.areValues -/
def L136_0 : List AStep := [⟨.mov (.c (.bool false)), (some 2), none, []⟩]
theorem v136_0 : wpS P L136_0 T L (rdy h) K = wpS P ([⟨.mov (.c (.bool false)), (some 2), none, []⟩]) T L (rdy h) K := rfl
def L136_1 : List AStep := [⟨.not (.t 4), (some 5), none, []⟩, ⟨.mov (.t 5), (some 2), none, []⟩]
theorem v136_1 : wpS P L136_1 T L (rdy h) K = wpS P ([⟨.not (.t 4), (some 5), none, []⟩, ⟨.mov (.t 5), (some 2), none, []⟩]) T L (rdy h) K := rfl
def L136_2 : List AStep := ⟨.mov (.t 0), (some 3), none, []⟩ :: ⟨.call 199 [(.t 3), (.c (.fn 200 []))], (some 4), none, []⟩ :: L136_1
theorem v136_2 : wpS P L136_2 T L (rdy h) K = wpS P (⟨.mov (.t 0), (some 3), none, []⟩ :: ⟨.call 199 [(.t 3), (.c (.fn 200 []))], (some 4), none, []⟩ :: L136_1) T L (rdy h) K := rfl
def C136_0 : ACode := .seq (.reg L136_2) .ret
theorem u136_0 : wpC P C136_0 T L (rdy h) Q = wpC P (.seq (.reg L136_2) .ret) T L (rdy h) Q := rfl
def C136_1 : ACode := .seq (.reg L136_0) C136_0
theorem u136_1 : wpC P C136_1 T L (rdy h) Q = wpC P (.seq (.reg L136_0) C136_0) T L (rdy h) Q := rfl
def F136 : AFunc := ⟨6, [.tmp 2], C136_1⟩
theorem cF136 : compB Try.prog 136 = some F136 := by kernel_rfl
end
attribute [local go_sem ↓] u136_0 u136_1 v136_0 v136_1 v136_2
theorem c_areValues (l : List Int) (v : AV) (h : H) (hl : SlI h v l) (hn : l.length ≤ big) : bm Try.prog 136 [v] h = some (ib (l.all okNum), h) := by
  refine bm_eq cF136 ?_
  have e := c_hasI l v 200 [] (fun n => !(okNum n)) h hl hn (fun i hi x hx => c_areValues1 x h)
  simp +contextual (maxSteps := 2000000) only [go_sem, Nat.reduceEqDiff, reduceCtorEq, Nat.reduceAdd, Nat.reduceLeDiff, F136, e]
  simp [List.not_any_eq_all_not]
section
variable {P : Program} {T : Tb} {L : Lb} {h : H} {Q : PostC} {K : Post}
/-! impl.ValidFlat -/
def L60_0 : List AStep := [⟨.box 30 (.t 0), (some 1), none, []⟩, ⟨.mov (.c (.bool false)), (some 2), none, []⟩]
theorem v60_0 : wpS P L60_0 T L (rdy h) K = wpS P ([⟨.box 30 (.t 0), (some 1), none, []⟩, ⟨.mov (.c (.bool false)), (some 2), none, []⟩]) T L (rdy h) K := rfl
def L60_1 : List AStep := [⟨.len (.t 6), (some 7), none, []⟩, ⟨.mov (.c (.int .i64 0)), (some 8), none, []⟩]
theorem v60_1 : wpS P L60_1 T L (rdy h) K = wpS P ([⟨.len (.t 6), (some 7), none, []⟩, ⟨.mov (.c (.int .i64 0)), (some 8), none, []⟩]) T L (rdy h) K := rfl
def L60_2 : List AStep := ⟨.faddr 1 (.t 1), (some 5), none, []⟩ :: ⟨.load 1 false (.t 5), (some 6), none, []⟩ :: L60_1
theorem v60_2 : wpS P L60_2 T L (rdy h) K = wpS P (⟨.faddr 1 (.t 1), (some 5), none, []⟩ :: ⟨.load 1 false (.t 5), (some 6), none, []⟩ :: L60_1) T L (rdy h) K := rfl
def L60_3 : List AStep := [⟨.bin .lss (.t 8) (.t 7), (some 9), none, []⟩]
theorem v60_3 : wpS P L60_3 T L (rdy h) K = wpS P ([⟨.bin .lss (.t 8) (.t 7), (some 9), none, []⟩]) T L (rdy h) K := rfl
def L60_4 : List AStep := [⟨.mov (.t 10), (some 3), none, []⟩, ⟨.store 2 (.t 4) (.t 12), none, none, []⟩]
theorem v60_4 : wpS P L60_4 T L (rdy h) K = wpS P ([⟨.mov (.t 10), (some 3), none, []⟩, ⟨.store 2 (.t 4) (.t 12), none, none, []⟩]) T L (rdy h) K := rfl
def L60_5 : List AStep := ⟨.load 2 true (.t 11), (some 12), none, []⟩ :: ⟨.alloc 86 [(.str (strOfNums [])), (.int .i64 0)], (some 4), none, []⟩ :: L60_4
theorem v60_5 : wpS P L60_5 T L (rdy h) K = wpS P (⟨.load 2 true (.t 11), (some 12), none, []⟩ :: ⟨.alloc 86 [(.str (strOfNums [])), (.int .i64 0)], (some 4), none, []⟩ :: L60_4) T L (rdy h) K := rfl
def L60_6 : List AStep := ⟨.mov (.t 8), (some 10), none, []⟩ :: ⟨.iaddr 2 (.t 6) (.t 8), (some 11), none, []⟩ :: L60_5
theorem v60_6 : wpS P L60_6 T L (rdy h) K = wpS P (⟨.mov (.t 8), (some 10), none, []⟩ :: ⟨.iaddr 2 (.t 6) (.t 8), (some 11), none, []⟩ :: L60_5) T L (rdy h) K := rfl
def L60_7 : List AStep := [⟨.pick (.t 16) (.c (.bool true)) (.t 24), (some 25), none, []⟩]
theorem v60_7 : wpS P L60_7 T L (rdy h) K = wpS P ([⟨.pick (.t 16) (.c (.bool true)) (.t 24), (some 25), none, []⟩]) T L (rdy h) K := rfl
def L60_8 : List AStep := ⟨.call 101 [(.t 20), (.t 22)], (some 23), (some (16, false)), []⟩ :: ⟨.bin .geq (.t 23) (.c (.int .i64 0)), (some 24), (some (16, false)), []⟩ :: L60_7
theorem v60_8 : wpS P L60_8 T L (rdy h) K = wpS P (⟨.call 101 [(.t 20), (.t 22)], (some 23), (some (16, false)), []⟩ :: ⟨.bin .geq (.t 23) (.c (.int .i64 0)), (some 24), (some (16, false)), []⟩ :: L60_7) T L (rdy h) K := rfl
def L60_9 : List AStep := ⟨.faddr 0 (.t 4), (some 21), (some (16, false)), []⟩ :: ⟨.load 1 false (.t 21), (some 22), (some (16, false)), []⟩ :: L60_8
theorem v60_9 : wpS P L60_9 T L (rdy h) K = wpS P (⟨.faddr 0 (.t 4), (some 21), (some (16, false)), []⟩ :: ⟨.load 1 false (.t 21), (some 22), (some (16, false)), []⟩ :: L60_8) T L (rdy h) K := rfl
def L60_10 : List AStep := ⟨.mov (.t 3), (some 19), (some (16, false)), []⟩ :: ⟨.slice 86 2 (.t 18) none (some (.t 19)) none, (some 20), (some (16, false)), []⟩ :: L60_9
theorem v60_10 : wpS P L60_10 T L (rdy h) K = wpS P (⟨.mov (.t 3), (some 19), (some (16, false)), []⟩ :: ⟨.slice 86 2 (.t 18) none (some (.t 19)) none, (some 20), (some (16, false)), []⟩ :: L60_9) T L (rdy h) K := rfl
def L60_11 : List AStep := ⟨.faddr 1 (.t 1), (some 17), (some (16, false)), []⟩ :: ⟨.load 1 false (.t 17), (some 18), (some (16, false)), []⟩ :: L60_10
theorem v60_11 : wpS P L60_11 T L (rdy h) K = wpS P (⟨.faddr 1 (.t 1), (some 17), (some (16, false)), []⟩ :: ⟨.load 1 false (.t 17), (some 18), (some (16, false)), []⟩ :: L60_10) T L (rdy h) K := rfl
def L60_12 : List AStep := ⟨.not (.t 14), (some 15), none, []⟩ :: ⟨.mov (.t 15), (some 16), none, []⟩ :: L60_11
theorem v60_12 : wpS P L60_12 T L (rdy h) K = wpS P (⟨.not (.t 14), (some 15), none, []⟩ :: ⟨.mov (.t 15), (some 16), none, []⟩ :: L60_11) T L (rdy h) K := rfl
def L60_13 : List AStep := ⟨.load 2 true (.t 4), (some 13), none, []⟩ :: ⟨.call 135 [(.t 13)], (some 14), none, []⟩ :: L60_12
theorem v60_13 : wpS P L60_13 T L (rdy h) K = wpS P (⟨.load 2 true (.t 4), (some 13), none, []⟩ :: ⟨.call 135 [(.t 13)], (some 14), none, []⟩ :: L60_12) T L (rdy h) K := rfl
def L60_14 : List AStep := [⟨.mov (.c (.bool false)), (some 2), none, []⟩]
theorem v60_14 : wpS P L60_14 T L (rdy h) K = wpS P ([⟨.mov (.c (.bool false)), (some 2), none, []⟩]) T L (rdy h) K := rfl
def L60_15 : List AStep := [⟨.bin .add (.t 8) (.c (.int .i64 1)), (some 26), none, []⟩, ⟨.mov (.t 26), (some 8), none, []⟩]
theorem v60_15 : wpS P L60_15 T L (rdy h) K = wpS P ([⟨.bin .add (.t 8) (.c (.int .i64 1)), (some 26), none, []⟩, ⟨.mov (.t 26), (some 8), none, []⟩]) T L (rdy h) K := rfl
def L60_16 : List AStep := [⟨.pick (.t 37) (.t 40) (.c (.bool false)), (some 41), none, []⟩, ⟨.mov (.t 41), (some 2), none, []⟩]
theorem v60_16 : wpS P L60_16 T L (rdy h) K = wpS P ([⟨.pick (.t 37) (.t 40) (.c (.bool false)), (some 41), none, []⟩, ⟨.mov (.t 41), (some 2), none, []⟩]) T L (rdy h) K := rfl
def L60_17 : List AStep := ⟨.load 1 false (.t 38), (some 39), (some (37, true)), []⟩ :: ⟨.call 136 [(.t 39)], (some 40), (some (37, true)), []⟩ :: L60_16
theorem v60_17 : wpS P L60_17 T L (rdy h) K = wpS P (⟨.load 1 false (.t 38), (some 39), (some (37, true)), []⟩ :: ⟨.call 136 [(.t 39)], (some 40), (some (37, true)), []⟩ :: L60_16) T L (rdy h) K := rfl
def L60_18 : List AStep := ⟨.mov (.t 36), (some 37), none, []⟩ :: ⟨.faddr 0 (.t 1), (some 38), (some (37, true)), []⟩ :: L60_17
theorem v60_18 : wpS P L60_18 T L (rdy h) K = wpS P (⟨.mov (.t 36), (some 37), none, []⟩ :: ⟨.faddr 0 (.t 1), (some 38), (some (37, true)), []⟩ :: L60_17) T L (rdy h) K := rfl
def L60_19 : List AStep := ⟨.bin .leq (.t 34) (.c (.int .i64 8)), (some 35), (some (31, true)), []⟩ :: ⟨.pick (.t 31) (.t 35) (.c (.bool false)), (some 36), none, []⟩ :: L60_18
theorem v60_19 : wpS P L60_19 T L (rdy h) K = wpS P (⟨.bin .leq (.t 34) (.c (.int .i64 8)), (some 35), (some (31, true)), []⟩ :: ⟨.pick (.t 31) (.t 35) (.c (.bool false)), (some 36), none, []⟩ :: L60_18) T L (rdy h) K := rfl
def L60_20 : List AStep := ⟨.load 1 false (.t 32), (some 33), (some (31, true)), []⟩ :: ⟨.len (.t 33), (some 34), (some (31, true)), []⟩ :: L60_19
theorem v60_20 : wpS P L60_20 T L (rdy h) K = wpS P (⟨.load 1 false (.t 32), (some 33), (some (31, true)), []⟩ :: ⟨.len (.t 33), (some 34), (some (31, true)), []⟩ :: L60_19) T L (rdy h) K := rfl
def L60_21 : List AStep := ⟨.mov (.t 30), (some 31), none, []⟩ :: ⟨.faddr 1 (.t 1), (some 32), (some (31, true)), []⟩ :: L60_20
theorem v60_21 : wpS P L60_21 T L (rdy h) K = wpS P (⟨.mov (.t 30), (some 31), none, []⟩ :: ⟨.faddr 1 (.t 1), (some 32), (some (31, true)), []⟩ :: L60_20) T L (rdy h) K := rfl
def L60_22 : List AStep := ⟨.len (.t 28), (some 29), none, []⟩ :: ⟨.bin .leq (.t 29) (.c (.int .i64 8)), (some 30), none, []⟩ :: L60_21
theorem v60_22 : wpS P L60_22 T L (rdy h) K = wpS P (⟨.len (.t 28), (some 29), none, []⟩ :: ⟨.bin .leq (.t 29) (.c (.int .i64 8)), (some 30), none, []⟩ :: L60_21) T L (rdy h) K := rfl
def L60_23 : List AStep := ⟨.faddr 0 (.t 1), (some 27), none, []⟩ :: ⟨.load 1 false (.t 27), (some 28), none, []⟩ :: L60_22
theorem v60_23 : wpS P L60_23 T L (rdy h) K = wpS P (⟨.faddr 0 (.t 1), (some 27), none, []⟩ :: ⟨.load 1 false (.t 27), (some 28), none, []⟩ :: L60_22) T L (rdy h) K := rfl
def C60_0 : ACode := .cond (.t 9) .skip (.exit 0)
theorem u60_0 : wpC P C60_0 T L (rdy h) Q = wpC P (.cond (.t 9) .skip (.exit 0)) T L (rdy h) Q := rfl
def C60_1 : ACode := .seq (.reg L60_14) .ret
theorem u60_1 : wpC P C60_1 T L (rdy h) Q = wpC P (.seq (.reg L60_14) .ret) T L (rdy h) Q := rfl
def C60_2 : ACode := .cond (.t 25) C60_1 .skip
theorem u60_2 : wpC P C60_2 T L (rdy h) Q = wpC P (.cond (.t 25) C60_1 .skip) T L (rdy h) Q := rfl
def C60_3 : ACode := .seq (.reg L60_13) C60_2
theorem u60_3 : wpC P C60_3 T L (rdy h) Q = wpC P (.seq (.reg L60_13) C60_2) T L (rdy h) Q := rfl
def C60_4 : ACode := .seq (.reg L60_6) C60_3
theorem u60_4 : wpC P C60_4 T L (rdy h) Q = wpC P (.seq (.reg L60_6) C60_3) T L (rdy h) Q := rfl
def C60_5 : ACode := .block 1 C60_4
theorem u60_5 : wpC P C60_5 T L (rdy h) Q = wpC P (.block 1 C60_4) T L (rdy h) Q := rfl
def C60_6 : ACode := .seq C60_5 (.reg L60_15)
theorem u60_6 : wpC P C60_6 T L (rdy h) Q = wpC P (.seq C60_5 (.reg L60_15)) T L (rdy h) Q := rfl
def C60_7 : ACode := .seq C60_0 C60_6
theorem u60_7 : wpC P C60_7 T L (rdy h) Q = wpC P (.seq C60_0 C60_6) T L (rdy h) Q := rfl
def C60_8 : ACode := .seq (.reg L60_3) C60_7
theorem u60_8 : wpC P C60_8 T L (rdy h) Q = wpC P (.seq (.reg L60_3) C60_7) T L (rdy h) Q := rfl
def C60_9 : ACode := .block 0 (.loop C60_8)
theorem u60_9 : wpC P C60_9 T L (rdy h) Q = wpC P (.block 0 (.loop C60_8)) T L (rdy h) Q := rfl
def C60_10 : ACode := .seq (.reg L60_2) C60_9
theorem u60_10 : wpC P C60_10 T L (rdy h) Q = wpC P (.seq (.reg L60_2) C60_9) T L (rdy h) Q := rfl
def C60_11 : ACode := .seq (.reg L60_23) .ret
theorem u60_11 : wpC P C60_11 T L (rdy h) Q = wpC P (.seq (.reg L60_23) .ret) T L (rdy h) Q := rfl
def C60_12 : ACode := .seq C60_10 C60_11
theorem u60_12 : wpC P C60_12 T L (rdy h) Q = wpC P (.seq C60_10 C60_11) T L (rdy h) Q := rfl
def C60_13 : ACode := .seq (.reg L60_0) C60_12
theorem u60_13 : wpC P C60_13 T L (rdy h) Q = wpC P (.seq (.reg L60_0) C60_12) T L (rdy h) Q := rfl
def F60 : AFunc := ⟨42, [.tmp 2], C60_13⟩
theorem cF60 : compB Try.prog 60 = some F60 := by kernel_rfl
end
attribute [local go_sem ↓] u60_0 u60_1 u60_2 u60_3 u60_4 u60_5 u60_6 u60_7 u60_8 u60_9 u60_10 u60_11 u60_12 u60_13 v60_0 v60_1 v60_2 v60_3 v60_4 v60_5 v60_6 v60_7 v60_8 v60_9 v60_10 v60_11 v60_12 v60_13 v60_14 v60_15 v60_16 v60_17 v60_18 v60_19 v60_20 v60_21 v60_22 v60_23
theorem c_ValidFlat (f : Flat) (pv nv : CV) (h : H) (hp : SlI h (.one pv) f.pl) (hq : SlP h (.one nv) f.nl) (hn : smF f) : bm Try.prog 60 [.agg [pv, nv]] h = some (ib (okFlat f), h) := by
  refine bm_eq cF60 ?_
  simp +contextual (maxSteps := 2000000) only [go_sem, Nat.reduceEqDiff, reduceCtorEq, Nat.reduceAdd, Nat.reduceLeDiff, F60, hq.len]
  refine wpC_loop (fun i T L h' => h' = h ∧ T 1 = .lp 1 0 ∧ (L 1).2 = [pv, nv] ∧ T 6 = .v (.one nv) ∧ T 7 = .v (.one (.int .i64 f.nl.length)) ∧ T 8 = .v (.one (.int .i64 i)) ∧ Upto (newAt Pair.name f.nl) i ∧ Pre okPair true f.nl i) f.nl.length ?_ ?_ (Nat.zero_le _) ?_
  · rintro i T L h' hi ⟨rfl, t1, l1, t6, t7, t8, hu, hpre⟩
    obtain ⟨v', e1, s1⟩ := hq.takeO (i := i) (by omega) (kd := .i64)
    have e2 : decide (pairAt (f.nl.take i) f.nl[i].name ≥ 0) = !(newAt Pair.name f.nl i) := newAt_ge hi
    simp +contextual (maxSteps := 2000000) only [go_sem, Nat.reduceEqDiff, reduceCtorEq, Nat.reduceAdd, Nat.reduceLeDiff, e2, t1, l1, t6, t7, t8, hq.iaddr hi, hq.whole hi, lt_true hi, e1, c_okPair _ _ (hn.nl.at hi), c_pairAtI _ _ _ _ s1 (hn.nl.take i)]
    (repeat' (first | refine And.intro ?_ ?_ | intro _)) <;> first | rfl | rw [wrap_next hi hn.nl.len] | (refine hu.next ?_; simp_all; done) | (refine hpre.next hi ?_; simp_all; done) | (rw [okFlat, apart_not hi] <;> first | rfl | (simp_all; done)) | (rw [okFlat, all_stop (p := okPair) hi] <;> first | (simp; done) | (simp_all; done))
  · rintro T L h' ⟨rfl, t1, l1, t6, t7, t8, hu, hpre⟩
    simp +contextual (maxSteps := 2000000) only [go_sem, Nat.reduceEqDiff, reduceCtorEq, Nat.reduceAdd, Nat.reduceLeDiff, t1, l1, t6, t7, t8, hq.len, hp.len, lt_false, c_areValues _ _ _ hp hn.pl, okFlat, apart_of hu, hpre.all]
    (repeat' (first | refine And.intro ?_ ?_ | intro _)) <;> first | rfl | simp_all
  · simp +contextual (maxSteps := 2000000) only [go_sem, Nat.reduceEqDiff, reduceCtorEq, Nat.reduceAdd, Nat.reduceLeDiff]
    (repeat' (first | refine And.intro ?_ ?_ | intro _)) <;> first | rfl | exact Upto.zero | exact Pre.zero
end Go.Proofs.Ytnphlonhogcedaa.Am
