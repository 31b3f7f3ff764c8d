/- Contracts of the program: numbers, names, pairs, flat calls and signatures that are valid. -/
import Derived.Test.YtnphlonhogcedaaDat
namespace Go.Proofs.Ytnphlonhogcedaa.Am
open Go
set_option maxRecDepth 100000
set_option maxHeartbeats 4000000
set_option linter.unusedSimpArgs false
set_option linter.unusedVariables false
attribute [local go_sem ↓] bv_t bv_c ev_t ev_c put_same put_ne put_none kill_at pro_at lb_same lb_ne start_zero start_succ wpC_seq wpC_reg wpC_cond wpC_block wpC_skip wpC_exit wpC_ret thenQ_normal thenQ_exit thenQ_ret inBlk_normal inBlk_exit inBlk_ret wpS_nil wpS_step wpS_again wpS_guard wpO_mov wpO_load wpO_faddr wpO_nilCheck wpO_pick wpO_build wpO_bin wpO_eqb wpO_eqst wpO_eqnil wpO_not wpO_conv wpO_bytesStr wpO_iaddr wpO_idxStr wpO_field wpO_extract wpO_len wpO_lenStr wpO_cap wpO_min wpO_slice wpO_sliceStr wpO_alloc wpO_box wpO_store wpO_call wpO_callv wpO_mkfn wpO_buildSlice wpO_mkslice wpO_append wpO_appz proA_nil proA_cons tmpX_nil tmpX_tmp tmpX_cell doneB_normal doneB_ret agK_cons agK_nil pureB_load results_one results_two results_nil resBs_cons resBs_nil resB_tmp resB_cell
attribute [local go_sem] kill_v kill_lp_ne kill_lp_same pro_v pro_lp_same pro_lp_ne av_v av_lp optB_some optX_some valX_eq ldX_lp ldX_v faX_lp faX_v ncX_lp ncX_ptr ncX_fn boxK_one boxK_agg stL_some stK_lp_one stK_lp_agg stK_v_one stK_v_agg proM_v proM_lp callG_mk callVG_mk callvK_fn fnG_mk ptrsA_nil ptrsA_cons callH_some whenA_true whenA_false guardH_tt guardH_ff guardH_tf guardH_ft guardH_undef agV_one agV_agg lenO_sl lenStrO_str notO_bool pickO_bool convO_int eqbO_bool eqnilO_sl extractO_tup capO_sl minO_int loadL_one loadL_all storeL_eq fillA_nil fillA_one fillA_agg nat_ge neg_ge nat_lt neg_lt buildO bin_add bin_sub bin_mul bin_eql bin_neq bin_lss bin_leq bin_gtr bin_geq str_eql str_neq str_lss str_leq str_gtr str_geq retK_some endK_mk gcK_same gcK_int gcK_bool tupO_one tupO_agg rdy_self ib ii Option.map_none Option.map_some Option.some.injEq exists_eq_left' exists_eq_left ne_eq not_false_eq_true if_true if_false List.map_cons List.map_nil List.getElem?_cons_zero List.getElem?_cons_succ List.length_cons List.length_nil List.take_succ_cons List.take_zero List.take_nil List.drop_succ_cons List.drop_zero List.drop_nil List.cons_append List.nil_append List.append_nil List.set_cons_zero List.set_cons_succ Nat.zero_add forall_const true_and and_true and_self Bool.false_eq_true false_implies true_implies implies_true Bool.not_true Bool.not_false Bool.not_eq_true' Bool.not_eq_false' beq_self_eq_true Bool.bne_true Bool.bne_false
attribute [local go_sem] lenI lenS lenP lenQ lenB lenL lenT encI_0 encS_0 encP_0 encP_1 encQ_0 encQ_1 encQ_2 encQ_3 encB_0 encB_1 encL_0 encL_1 encT_0 encT_1
attribute [local go_sem low] whenA_bool guardH_bool
section
variable {P : Program} {T : Tb} {L : Lb} {h : H} {Q : PostC} {K : Post}
/-! impl.in -/
def L171_0 : List AStep := [⟨.mov (.c (.bool false)), (some 6), none, []⟩]
theorem v171_0 : wpS P L171_0 T L (rdy h) K = wpS P ([⟨.mov (.c (.bool false)), (some 6), none, []⟩]) T L (rdy h) K := rfl
def L171_1 : List AStep := [⟨.mov (.t 14), (some 6), none, []⟩]
theorem v171_1 : wpS P L171_1 T L (rdy h) K = wpS P ([⟨.mov (.t 14), (some 6), none, []⟩]) T L (rdy h) K := rfl
def L171_2 : List AStep := ⟨.bin .leq (.t 11) (.t 12), (some 13), (some (10, true)), []⟩ :: ⟨.pick (.t 10) (.t 13) (.c (.bool false)), (some 14), none, []⟩ :: L171_1
theorem v171_2 : wpS P L171_2 T L (rdy h) K = wpS P (⟨.bin .leq (.t 11) (.t 12), (some 13), (some (10, true)), []⟩ :: ⟨.pick (.t 10) (.t 13) (.c (.bool false)), (some 14), none, []⟩ :: L171_1) T L (rdy h) K := rfl
def L171_3 : List AStep := ⟨.mov (.t 0), (some 11), (some (10, true)), []⟩ :: ⟨.mov (.t 2), (some 12), (some (10, true)), []⟩ :: L171_2
theorem v171_3 : wpS P L171_3 T L (rdy h) K = wpS P (⟨.mov (.t 0), (some 11), (some (10, true)), []⟩ :: ⟨.mov (.t 2), (some 12), (some (10, true)), []⟩ :: L171_2) T L (rdy h) K := rfl
def L171_4 : List AStep := ⟨.bin .geq (.t 7) (.t 8), (some 9), none, []⟩ :: ⟨.mov (.t 9), (some 10), none, []⟩ :: L171_3
theorem v171_4 : wpS P L171_4 T L (rdy h) K = wpS P (⟨.bin .geq (.t 7) (.t 8), (some 9), none, []⟩ :: ⟨.mov (.t 9), (some 10), none, []⟩ :: L171_3) T L (rdy h) K := rfl
def L171_5 : List AStep := ⟨.mov (.t 0), (some 7), none, []⟩ :: ⟨.mov (.t 1), (some 8), none, []⟩ :: L171_4
theorem v171_5 : wpS P L171_5 T L (rdy h) K = wpS P (⟨.mov (.t 0), (some 7), none, []⟩ :: ⟨.mov (.t 1), (some 8), none, []⟩ :: L171_4) T L (rdy h) K := rfl
def C171_0 : ACode := .seq (.reg L171_5) .ret
theorem u171_0 : wpC P C171_0 T L (rdy h) Q = wpC P (.seq (.reg L171_5) .ret) T L (rdy h) Q := rfl
def C171_1 : ACode := .seq (.reg L171_0) C171_0
theorem u171_1 : wpC P C171_1 T L (rdy h) Q = wpC P (.seq (.reg L171_0) C171_0) T L (rdy h) Q := rfl
def F171 : AFunc := ⟨15, [.tmp 6], C171_1⟩
theorem cF171 : compB Try.prog 171 = some F171 := by kernel_rfl
end
attribute [local go_sem ↓] u171_0 u171_1 v171_0 v171_1 v171_2 v171_3 v171_4 v171_5
theorem c_in (n lo hi : Int) (h : H) : bm Try.prog 171 [.one (.int .i64 n), .one (.int .i64 lo), .one (.int .i64 hi)] h = some (ib (decide (lo ≤ n) && decide (n ≤ hi)), h) := by
  refine bm_eq cF171 ?_
  simp +contextual (maxSteps := 2000000) only [go_sem, Nat.reduceEqDiff, reduceCtorEq, Nat.reduceAdd, Nat.reduceLeDiff, F171]
  (repeat' (first | refine And.intro ?_ ?_ | intro _)) <;> first | simp_all
section
variable {P : Program} {T : Tb} {L : Lb} {h : H} {Q : PostC} {K : Post}
/-! impl.isValue -/
def L163_0 : List AStep := [⟨.mov (.c (.bool false)), (some 2), none, []⟩]
theorem v163_0 : wpS P L163_0 T L (rdy h) K = wpS P ([⟨.mov (.c (.bool false)), (some 2), none, []⟩]) T L (rdy h) K := rfl
def L163_1 : List AStep := [⟨.mov (.t 4), (some 2), none, []⟩]
theorem v163_1 : wpS P L163_1 T L (rdy h) K = wpS P ([⟨.mov (.t 4), (some 2), none, []⟩]) T L (rdy h) K := rfl
def L163_2 : List AStep := ⟨.mov (.t 0), (some 3), none, []⟩ :: ⟨.call 171 [(.t 3), (.c (.int .i64 (-99))), (.c (.int .i64 99))], (some 4), none, []⟩ :: L163_1
theorem v163_2 : wpS P L163_2 T L (rdy h) K = wpS P (⟨.mov (.t 0), (some 3), none, []⟩ :: ⟨.call 171 [(.t 3), (.c (.int .i64 (-99))), (.c (.int .i64 99))], (some 4), none, []⟩ :: L163_1) T L (rdy h) K := rfl
def C163_0 : ACode := .seq (.reg L163_2) .ret
theorem u163_0 : wpC P C163_0 T L (rdy h) Q = wpC P (.seq (.reg L163_2) .ret) T L (rdy h) Q := rfl
def C163_1 : ACode := .seq (.reg L163_0) C163_0
theorem u163_1 : wpC P C163_1 T L (rdy h) Q = wpC P (.seq (.reg L163_0) C163_0) T L (rdy h) Q := rfl
def F163 : AFunc := ⟨5, [.tmp 2], C163_1⟩
theorem cF163 : compB Try.prog 163 = some F163 := by kernel_rfl
end
attribute [local go_sem ↓] u163_0 u163_1 v163_0 v163_1 v163_2
theorem c_isValue (n : Int) (h : H) : bm Try.prog 163 [.one (.int .i64 n)] h = some (ib (okNum n), h) := by
  refine bm_eq cF163 ?_
  simp +contextual (maxSteps := 2000000) only [go_sem, Nat.reduceEqDiff, reduceCtorEq, Nat.reduceAdd, Nat.reduceLeDiff, F163, c_in, okNum]
section
variable {P : Program} {T : Tb} {L : Lb} {h : H} {Q : PostC} {K : Post}
/-! impl.isName -/
def L147_0 : List AStep := [⟨.mov (.c (.bool false)), (some 2), none, []⟩]
theorem v147_0 : wpS P L147_0 T L (rdy h) K = wpS P ([⟨.mov (.c (.bool false)), (some 2), none, []⟩]) T L (rdy h) K := rfl
def L147_1 : List AStep := [⟨.mov (.c (.int .i64 0)), (some 3), none, []⟩]
theorem v147_1 : wpS P L147_1 T L (rdy h) K = wpS P ([⟨.mov (.c (.int .i64 0)), (some 3), none, []⟩]) T L (rdy h) K := rfl
def L147_2 : List AStep := [⟨.lenStr (.t 5), (some 6), none, []⟩, ⟨.bin .lss (.t 4) (.t 6), (some 7), none, []⟩]
theorem v147_2 : wpS P L147_2 T L (rdy h) K = wpS P ([⟨.lenStr (.t 5), (some 6), none, []⟩, ⟨.bin .lss (.t 4) (.t 6), (some 7), none, []⟩]) T L (rdy h) K := rfl
def L147_3 : List AStep := ⟨.mov (.t 3), (some 4), none, []⟩ :: ⟨.mov (.t 0), (some 5), none, []⟩ :: L147_2
theorem v147_3 : wpS P L147_3 T L (rdy h) K = wpS P (⟨.mov (.t 3), (some 4), none, []⟩ :: ⟨.mov (.t 0), (some 5), none, []⟩ :: L147_2) T L (rdy h) K := rfl
def L147_4 : List AStep := [⟨.bin .gtr (.t 17) (.c (.int .u8 122)), (some 18), (some (14, false)), []⟩, ⟨.pick (.t 14) (.c (.bool true)) (.t 18), (some 19), none, []⟩]
theorem v147_4 : wpS P L147_4 T L (rdy h) K = wpS P ([⟨.bin .gtr (.t 17) (.c (.int .u8 122)), (some 18), (some (14, false)), []⟩, ⟨.pick (.t 14) (.c (.bool true)) (.t 18), (some 19), none, []⟩]) T L (rdy h) K := rfl
def L147_5 : List AStep := ⟨.mov (.t 3), (some 16), (some (14, false)), []⟩ :: ⟨.idxStr (.t 15) (.t 16), (some 17), (some (14, false)), []⟩ :: L147_4
theorem v147_5 : wpS P L147_5 T L (rdy h) K = wpS P (⟨.mov (.t 3), (some 16), (some (14, false)), []⟩ :: ⟨.idxStr (.t 15) (.t 16), (some 17), (some (14, false)), []⟩ :: L147_4) T L (rdy h) K := rfl
def L147_6 : List AStep := ⟨.mov (.t 13), (some 14), none, []⟩ :: ⟨.mov (.t 0), (some 15), (some (14, false)), []⟩ :: L147_5
theorem v147_6 : wpS P L147_6 T L (rdy h) K = wpS P (⟨.mov (.t 13), (some 14), none, []⟩ :: ⟨.mov (.t 0), (some 15), (some (14, false)), []⟩ :: L147_5) T L (rdy h) K := rfl
def L147_7 : List AStep := ⟨.idxStr (.t 10) (.t 11), (some 12), none, []⟩ :: ⟨.bin .lss (.t 12) (.c (.int .u8 97)), (some 13), none, []⟩ :: L147_6
theorem v147_7 : wpS P L147_7 T L (rdy h) K = wpS P (⟨.idxStr (.t 10) (.t 11), (some 12), none, []⟩ :: ⟨.bin .lss (.t 12) (.c (.int .u8 97)), (some 13), none, []⟩ :: L147_6) T L (rdy h) K := rfl
def L147_8 : List AStep := ⟨.mov (.t 0), (some 10), none, []⟩ :: ⟨.mov (.t 3), (some 11), none, []⟩ :: L147_7
theorem v147_8 : wpS P L147_8 T L (rdy h) K = wpS P (⟨.mov (.t 0), (some 10), none, []⟩ :: ⟨.mov (.t 3), (some 11), none, []⟩ :: L147_7) T L (rdy h) K := rfl
def L147_9 : List AStep := [⟨.mov (.c (.bool false)), (some 2), none, []⟩]
theorem v147_9 : wpS P L147_9 T L (rdy h) K = wpS P ([⟨.mov (.c (.bool false)), (some 2), none, []⟩]) T L (rdy h) K := rfl
def L147_10 : List AStep := [⟨.mov (.t 9), (some 3), none, []⟩]
theorem v147_10 : wpS P L147_10 T L (rdy h) K = wpS P ([⟨.mov (.t 9), (some 3), none, []⟩]) T L (rdy h) K := rfl
def L147_11 : List AStep := ⟨.mov (.t 3), (some 8), none, []⟩ :: ⟨.bin .add (.t 8) (.c (.int .i64 1)), (some 9), none, []⟩ :: L147_10
theorem v147_11 : wpS P L147_11 T L (rdy h) K = wpS P (⟨.mov (.t 3), (some 8), none, []⟩ :: ⟨.bin .add (.t 8) (.c (.int .i64 1)), (some 9), none, []⟩ :: L147_10) T L (rdy h) K := rfl
def L147_12 : List AStep := [⟨.call 171 [(.t 21), (.c (.int .i64 1)), (.c (.int .i64 6))], (some 22), none, []⟩, ⟨.mov (.t 22), (some 2), none, []⟩]
theorem v147_12 : wpS P L147_12 T L (rdy h) K = wpS P ([⟨.call 171 [(.t 21), (.c (.int .i64 1)), (.c (.int .i64 6))], (some 22), none, []⟩, ⟨.mov (.t 22), (some 2), none, []⟩]) T L (rdy h) K := rfl
def L147_13 : List AStep := ⟨.mov (.t 0), (some 20), none, []⟩ :: ⟨.lenStr (.t 20), (some 21), none, []⟩ :: L147_12
theorem v147_13 : wpS P L147_13 T L (rdy h) K = wpS P (⟨.mov (.t 0), (some 20), none, []⟩ :: ⟨.lenStr (.t 20), (some 21), none, []⟩ :: L147_12) T L (rdy h) K := rfl
def C147_0 : ACode := .cond (.t 7) .skip (.exit 0)
theorem u147_0 : wpC P C147_0 T L (rdy h) Q = wpC P (.cond (.t 7) .skip (.exit 0)) T L (rdy h) Q := rfl
def C147_1 : ACode := .seq (.reg L147_3) C147_0
theorem u147_1 : wpC P C147_1 T L (rdy h) Q = wpC P (.seq (.reg L147_3) C147_0) T L (rdy h) Q := rfl
def C147_2 : ACode := .seq (.reg L147_9) .ret
theorem u147_2 : wpC P C147_2 T L (rdy h) Q = wpC P (.seq (.reg L147_9) .ret) T L (rdy h) Q := rfl
def C147_3 : ACode := .cond (.t 19) C147_2 .skip
theorem u147_3 : wpC P C147_3 T L (rdy h) Q = wpC P (.cond (.t 19) C147_2 .skip) T L (rdy h) Q := rfl
def C147_4 : ACode := .seq (.reg L147_8) C147_3
theorem u147_4 : wpC P C147_4 T L (rdy h) Q = wpC P (.seq (.reg L147_8) C147_3) T L (rdy h) Q := rfl
def C147_5 : ACode := .block 1 C147_4
theorem u147_5 : wpC P C147_5 T L (rdy h) Q = wpC P (.block 1 C147_4) T L (rdy h) Q := rfl
def C147_6 : ACode := .seq C147_5 (.reg L147_11)
theorem u147_6 : wpC P C147_6 T L (rdy h) Q = wpC P (.seq C147_5 (.reg L147_11)) T L (rdy h) Q := rfl
def C147_7 : ACode := .seq C147_1 C147_6
theorem u147_7 : wpC P C147_7 T L (rdy h) Q = wpC P (.seq C147_1 C147_6) T L (rdy h) Q := rfl
def C147_8 : ACode := .block 0 (.loop C147_7)
theorem u147_8 : wpC P C147_8 T L (rdy h) Q = wpC P (.block 0 (.loop C147_7)) T L (rdy h) Q := rfl
def C147_9 : ACode := .seq (.reg L147_1) C147_8
theorem u147_9 : wpC P C147_9 T L (rdy h) Q = wpC P (.seq (.reg L147_1) C147_8) T L (rdy h) Q := rfl
def C147_10 : ACode := .seq (.reg L147_13) .ret
theorem u147_10 : wpC P C147_10 T L (rdy h) Q = wpC P (.seq (.reg L147_13) .ret) T L (rdy h) Q := rfl
def C147_11 : ACode := .seq C147_9 C147_10
theorem u147_11 : wpC P C147_11 T L (rdy h) Q = wpC P (.seq C147_9 C147_10) T L (rdy h) Q := rfl
def C147_12 : ACode := .seq (.reg L147_0) C147_11
theorem u147_12 : wpC P C147_12 T L (rdy h) Q = wpC P (.seq (.reg L147_0) C147_11) T L (rdy h) Q := rfl
def F147 : AFunc := ⟨23, [.tmp 2], C147_12⟩
theorem cF147 : compB Try.prog 147 = some F147 := by kernel_rfl
end
attribute [local go_sem ↓] u147_0 u147_1 u147_2 u147_3 u147_4 u147_5 u147_6 u147_7 u147_8 u147_9 u147_10 u147_11 u147_12 v147_0 v147_1 v147_2 v147_3 v147_4 v147_5 v147_6 v147_7 v147_8 v147_9 v147_10 v147_11 v147_12 v147_13
theorem c_isName (s : ByteArray) (h : H) (hn : s.size < 2 ^ 62) : bm Try.prog 147 [.one (.str s)] h = some (ib (okName s), h) := by
  refine bm_eq cF147 ?_
  simp +contextual (maxSteps := 2000000) only [go_sem, Nat.reduceEqDiff, reduceCtorEq, Nat.reduceAdd, Nat.reduceLeDiff, F147]
  have hsz : s.data.toList.length = s.size := Array.length_toList
  refine wpC_loop (fun i T L h' => h' = h ∧ T 0 = .v (.one (.str s)) ∧ T 3 = .v (.one (.int .i64 i)) ∧ Pre isLow true s.data.toList i) s.size ?_ ?_ (Nat.zero_le _) ?_
  · rintro i T L h' hi ⟨rfl, h0, h3, hp⟩
    simp +contextual (maxSteps := 2000000) only [go_sem, Nat.reduceEqDiff, reduceCtorEq, Nat.reduceAdd, Nat.reduceLeDiff, h0, h3, idx_at hi, lt_true hi]
    have e : s.data.toList[i]'(by omega) = s.data[i]'hi := Array.getElem_toList _
    have bad : isLow (s.data[i]'hi) = false → okName s = false := fun hx => by
      unfold okName
      rw [all_stop (l := s.data.toList) (i := i) (by omega) (by rw [e]; exact hx)]
      rfl
    have low : isLow (s.data[i]'hi) = (!(decide ((↑(s.data[i]'hi).toNat : Int) < 97)) && !(decide ((↑(s.data[i]'hi).toNat : Int) > 122))) := by
      unfold isLow
      rw [Bool.eq_iff_iff]
      simp
      omega
    (repeat' (first | refine And.intro ?_ ?_ | intro _)) <;> first | rfl | rw [wrap_next hi hn] | exact hp.next (by omega) (by rw [e, low]; simp_all) | rw [bad (by rw [low]; simp_all)]
  · rintro T L h' ⟨rfl, h0, h3, hp⟩
    rw [← hsz] at hp
    simp +contextual (maxSteps := 2000000) only [go_sem, Nat.reduceEqDiff, reduceCtorEq, Nat.reduceAdd, Nat.reduceLeDiff, h0, h3, lt_false, c_in, okName, hp.all, Bool.true_and]
  · simp +contextual (maxSteps := 2000000) only [go_sem, Nat.reduceEqDiff, reduceCtorEq, Nat.reduceAdd, Nat.reduceLeDiff]
    (repeat' (first | refine And.intro ?_ ?_ | intro _)) <;> first | rfl | exact Pre.zero
section
variable {P : Program} {T : Tb} {L : Lb} {h : H} {Q : PostC} {K : Post}
/-! (impl.Param).placed -/
def L94_0 : List AStep := [⟨.box 108 (.t 0), (some 1), none, []⟩, ⟨.mov (.c (.bool false)), (some 2), none, []⟩]
theorem v94_0 : wpS P L94_0 T L (rdy h) K = wpS P ([⟨.box 108 (.t 0), (some 1), none, []⟩, ⟨.mov (.c (.bool false)), (some 2), none, []⟩]) T L (rdy h) K := rfl
def L94_1 : List AStep := [⟨.mov (.t 10), (some 2), none, []⟩]
theorem v94_1 : wpS P L94_1 T L (rdy h) K = wpS P ([⟨.mov (.t 10), (some 2), none, []⟩]) T L (rdy h) K := rfl
def L94_2 : List AStep := ⟨.bin .eql (.t 8) (.c (.int .i64 1)), (some 9), (some (6, false)), []⟩ :: ⟨.pick (.t 6) (.c (.bool true)) (.t 9), (some 10), none, []⟩ :: L94_1
theorem v94_2 : wpS P L94_2 T L (rdy h) K = wpS P (⟨.bin .eql (.t 8) (.c (.int .i64 1)), (some 9), (some (6, false)), []⟩ :: ⟨.pick (.t 6) (.c (.bool true)) (.t 9), (some 10), none, []⟩ :: L94_1) T L (rdy h) K := rfl
def L94_3 : List AStep := ⟨.faddr 1 (.t 1), (some 7), (some (6, false)), []⟩ :: ⟨.load 1 false (.t 7), (some 8), (some (6, false)), []⟩ :: L94_2
theorem v94_3 : wpS P L94_3 T L (rdy h) K = wpS P (⟨.faddr 1 (.t 1), (some 7), (some (6, false)), []⟩ :: ⟨.load 1 false (.t 7), (some 8), (some (6, false)), []⟩ :: L94_2) T L (rdy h) K := rfl
def L94_4 : List AStep := ⟨.bin .eql (.t 4) (.c (.int .i64 0)), (some 5), none, []⟩ :: ⟨.mov (.t 5), (some 6), none, []⟩ :: L94_3
theorem v94_4 : wpS P L94_4 T L (rdy h) K = wpS P (⟨.bin .eql (.t 4) (.c (.int .i64 0)), (some 5), none, []⟩ :: ⟨.mov (.t 5), (some 6), none, []⟩ :: L94_3) T L (rdy h) K := rfl
def L94_5 : List AStep := ⟨.faddr 1 (.t 1), (some 3), none, []⟩ :: ⟨.load 1 false (.t 3), (some 4), none, []⟩ :: L94_4
theorem v94_5 : wpS P L94_5 T L (rdy h) K = wpS P (⟨.faddr 1 (.t 1), (some 3), none, []⟩ :: ⟨.load 1 false (.t 3), (some 4), none, []⟩ :: L94_4) T L (rdy h) K := rfl
def C94_0 : ACode := .seq (.reg L94_5) .ret
theorem u94_0 : wpC P C94_0 T L (rdy h) Q = wpC P (.seq (.reg L94_5) .ret) T L (rdy h) Q := rfl
def C94_1 : ACode := .seq (.reg L94_0) C94_0
theorem u94_1 : wpC P C94_1 T L (rdy h) Q = wpC P (.seq (.reg L94_0) C94_0) T L (rdy h) Q := rfl
def F94 : AFunc := ⟨11, [.tmp 2], C94_1⟩
theorem cF94 : compB Try.prog 94 = some F94 := by kernel_rfl
end
attribute [local go_sem ↓] u94_0 u94_1 v94_0 v94_1 v94_2 v94_3 v94_4 v94_5
theorem c_placed (p : Param) (h : H) : bm Try.prog 94 [.agg (encQ p)] h = some (ib (byPlace p), h) := by
  refine bm_eq cF94 ?_
  simp +contextual (maxSteps := 2000000) only [go_sem, Nat.reduceEqDiff, reduceCtorEq, Nat.reduceAdd, Nat.reduceLeDiff, F94, byPlace]
  (repeat' (first | refine And.intro ?_ ?_ | intro _)) <;> first | simp_all
section
variable {P : Program} {T : Tb} {L : Lb} {h : H} {Q : PostC} {K : Post}
/-! (impl.Param).single -/
def L172_0 : List AStep := [⟨.box 108 (.t 0), (some 1), none, []⟩, ⟨.mov (.c (.bool false)), (some 2), none, []⟩]
theorem v172_0 : wpS P L172_0 T L (rdy h) K = wpS P ([⟨.box 108 (.t 0), (some 1), none, []⟩, ⟨.mov (.c (.bool false)), (some 2), none, []⟩]) T L (rdy h) K := rfl
def L172_1 : List AStep := [⟨.pick (.t 5) (.c (.bool true)) (.t 8), (some 9), none, []⟩, ⟨.mov (.t 9), (some 2), none, []⟩]
theorem v172_1 : wpS P L172_1 T L (rdy h) K = wpS P ([⟨.pick (.t 5) (.c (.bool true)) (.t 8), (some 9), none, []⟩, ⟨.mov (.t 9), (some 2), none, []⟩]) T L (rdy h) K := rfl
def L172_2 : List AStep := ⟨.load 1 false (.t 6), (some 7), (some (5, false)), []⟩ :: ⟨.bin .eql (.t 7) (.c (.int .i64 3)), (some 8), (some (5, false)), []⟩ :: L172_1
theorem v172_2 : wpS P L172_2 T L (rdy h) K = wpS P (⟨.load 1 false (.t 6), (some 7), (some (5, false)), []⟩ :: ⟨.bin .eql (.t 7) (.c (.int .i64 3)), (some 8), (some (5, false)), []⟩ :: L172_1) T L (rdy h) K := rfl
def L172_3 : List AStep := ⟨.mov (.t 4), (some 5), none, []⟩ :: ⟨.faddr 1 (.t 1), (some 6), (some (5, false)), []⟩ :: L172_2
theorem v172_3 : wpS P L172_3 T L (rdy h) K = wpS P (⟨.mov (.t 4), (some 5), none, []⟩ :: ⟨.faddr 1 (.t 1), (some 6), (some (5, false)), []⟩ :: L172_2) T L (rdy h) K := rfl
def L172_4 : List AStep := ⟨.load 4 true (.t 1), (some 3), none, []⟩ :: ⟨.call 94 [(.t 3)], (some 4), none, []⟩ :: L172_3
theorem v172_4 : wpS P L172_4 T L (rdy h) K = wpS P (⟨.load 4 true (.t 1), (some 3), none, []⟩ :: ⟨.call 94 [(.t 3)], (some 4), none, []⟩ :: L172_3) T L (rdy h) K := rfl
def C172_0 : ACode := .seq (.reg L172_4) .ret
theorem u172_0 : wpC P C172_0 T L (rdy h) Q = wpC P (.seq (.reg L172_4) .ret) T L (rdy h) Q := rfl
def C172_1 : ACode := .seq (.reg L172_0) C172_0
theorem u172_1 : wpC P C172_1 T L (rdy h) Q = wpC P (.seq (.reg L172_0) C172_0) T L (rdy h) Q := rfl
def F172 : AFunc := ⟨10, [.tmp 2], C172_1⟩
theorem cF172 : compB Try.prog 172 = some F172 := by kernel_rfl
end
attribute [local go_sem ↓] u172_0 u172_1 v172_0 v172_1 v172_2 v172_3 v172_4
theorem c_single (p : Param) (h : H) : bm Try.prog 172 [.agg (encQ p)] h = some (ib (single p), h) := by
  refine bm_eq cF172 ?_
  simp +contextual (maxSteps := 2000000) only [go_sem, Nat.reduceEqDiff, reduceCtorEq, Nat.reduceAdd, Nat.reduceLeDiff, F172, c_placed, single_eq]
  (repeat' (first | refine And.intro ?_ ?_ | intro _)) <;> first | simp_all
section
variable {P : Program} {T : Tb} {L : Lb} {h : H} {Q : PostC} {K : Post}
/-! slices.IndexFunc(()impl.Param,impl.Param) -/
def L215_0 : List AStep := [⟨.mov (.c (.int .i64 0)), (some 4), none, []⟩]
theorem v215_0 : wpS P L215_0 T L (rdy h) K = wpS P ([⟨.mov (.c (.int .i64 0)), (some 4), none, []⟩]) T L (rdy h) K := rfl
def L215_1 : List AStep := [⟨.mov (.c (.int .i64 0)), (some 8), none, []⟩]
theorem v215_1 : wpS P L215_1 T L (rdy h) K = wpS P ([⟨.mov (.c (.int .i64 0)), (some 8), none, []⟩]) T L (rdy h) K := rfl
def L215_2 : List AStep := ⟨.mov (.t 0), (some 6), none, []⟩ :: ⟨.len (.t 6), (some 7), none, []⟩ :: L215_1
theorem v215_2 : wpS P L215_2 T L (rdy h) K = wpS P (⟨.mov (.t 0), (some 6), none, []⟩ :: ⟨.len (.t 6), (some 7), none, []⟩ :: L215_1) T L (rdy h) K := rfl
def L215_3 : List AStep := [⟨.bin .lss (.t 8) (.t 7), (some 9), none, []⟩]
theorem v215_3 : wpS P L215_3 T L (rdy h) K = wpS P ([⟨.bin .lss (.t 8) (.t 7), (some 9), none, []⟩]) T L (rdy h) K := rfl
def L215_4 : List AStep := [⟨.mov (.t 8), (some 10), none, []⟩, ⟨.mov (.t 10), (some 5), none, []⟩]
theorem v215_4 : wpS P L215_4 T L (rdy h) K = wpS P ([⟨.mov (.t 8), (some 10), none, []⟩, ⟨.mov (.t 10), (some 5), none, []⟩]) T L (rdy h) K := rfl
def L215_5 : List AStep := [⟨.load 4 true (.t 14), (some 15), none, []⟩, ⟨.callv (.t 11) [(.t 15)], (some 16), none, []⟩]
theorem v215_5 : wpS P L215_5 T L (rdy h) K = wpS P ([⟨.load 4 true (.t 14), (some 15), none, []⟩, ⟨.callv (.t 11) [(.t 15)], (some 16), none, []⟩]) T L (rdy h) K := rfl
def L215_6 : List AStep := ⟨.mov (.t 5), (some 13), none, []⟩ :: ⟨.iaddr 4 (.t 12) (.t 13), (some 14), none, []⟩ :: L215_5
theorem v215_6 : wpS P L215_6 T L (rdy h) K = wpS P (⟨.mov (.t 5), (some 13), none, []⟩ :: ⟨.iaddr 4 (.t 12) (.t 13), (some 14), none, []⟩ :: L215_5) T L (rdy h) K := rfl
def L215_7 : List AStep := ⟨.mov (.t 1), (some 11), none, []⟩ :: ⟨.mov (.t 0), (some 12), none, []⟩ :: L215_6
theorem v215_7 : wpS P L215_7 T L (rdy h) K = wpS P (⟨.mov (.t 1), (some 11), none, []⟩ :: ⟨.mov (.t 0), (some 12), none, []⟩ :: L215_6) T L (rdy h) K := rfl
def L215_8 : List AStep := [⟨.mov (.t 5), (some 17), none, []⟩, ⟨.mov (.t 17), (some 4), none, []⟩]
theorem v215_8 : wpS P L215_8 T L (rdy h) K = wpS P ([⟨.mov (.t 5), (some 17), none, []⟩, ⟨.mov (.t 17), (some 4), none, []⟩]) T L (rdy h) K := rfl
def L215_9 : List AStep := [⟨.bin .add (.t 8) (.c (.int .i64 1)), (some 18), none, []⟩, ⟨.mov (.t 18), (some 8), none, []⟩]
theorem v215_9 : wpS P L215_9 T L (rdy h) K = wpS P ([⟨.bin .add (.t 8) (.c (.int .i64 1)), (some 18), none, []⟩, ⟨.mov (.t 18), (some 8), none, []⟩]) T L (rdy h) K := rfl
def L215_10 : List AStep := [⟨.mov (.c (.int .i64 (-1))), (some 4), none, []⟩]
theorem v215_10 : wpS P L215_10 T L (rdy h) K = wpS P ([⟨.mov (.c (.int .i64 (-1))), (some 4), none, []⟩]) T L (rdy h) K := rfl
def C215_0 : ACode := .cond (.t 9) .skip (.exit 0)
theorem u215_0 : wpC P C215_0 T L (rdy h) Q = wpC P (.cond (.t 9) .skip (.exit 0)) T L (rdy h) Q := rfl
def C215_1 : ACode := .seq (.reg L215_8) .ret
theorem u215_1 : wpC P C215_1 T L (rdy h) Q = wpC P (.seq (.reg L215_8) .ret) T L (rdy h) Q := rfl
def C215_2 : ACode := .cond (.t 16) C215_1 .skip
theorem u215_2 : wpC P C215_2 T L (rdy h) Q = wpC P (.cond (.t 16) C215_1 .skip) T L (rdy h) Q := rfl
def C215_3 : ACode := .seq (.reg L215_7) C215_2
theorem u215_3 : wpC P C215_3 T L (rdy h) Q = wpC P (.seq (.reg L215_7) C215_2) T L (rdy h) Q := rfl
def C215_4 : ACode := .seq (.reg L215_4) C215_3
theorem u215_4 : wpC P C215_4 T L (rdy h) Q = wpC P (.seq (.reg L215_4) C215_3) T L (rdy h) Q := rfl
def C215_5 : ACode := .block 1 C215_4
theorem u215_5 : wpC P C215_5 T L (rdy h) Q = wpC P (.block 1 C215_4) T L (rdy h) Q := rfl
def C215_6 : ACode := .seq C215_5 (.reg L215_9)
theorem u215_6 : wpC P C215_6 T L (rdy h) Q = wpC P (.seq C215_5 (.reg L215_9)) T L (rdy h) Q := rfl
def C215_7 : ACode := .seq C215_0 C215_6
theorem u215_7 : wpC P C215_7 T L (rdy h) Q = wpC P (.seq C215_0 C215_6) T L (rdy h) Q := rfl
def C215_8 : ACode := .seq (.reg L215_3) C215_7
theorem u215_8 : wpC P C215_8 T L (rdy h) Q = wpC P (.seq (.reg L215_3) C215_7) T L (rdy h) Q := rfl
def C215_9 : ACode := .block 0 (.loop C215_8)
theorem u215_9 : wpC P C215_9 T L (rdy h) Q = wpC P (.block 0 (.loop C215_8)) T L (rdy h) Q := rfl
def C215_10 : ACode := .seq (.reg L215_2) C215_9
theorem u215_10 : wpC P C215_10 T L (rdy h) Q = wpC P (.seq (.reg L215_2) C215_9) T L (rdy h) Q := rfl
def C215_11 : ACode := .seq (.reg L215_10) .ret
theorem u215_11 : wpC P C215_11 T L (rdy h) Q = wpC P (.seq (.reg L215_10) .ret) T L (rdy h) Q := rfl
def C215_12 : ACode := .seq C215_10 C215_11
theorem u215_12 : wpC P C215_12 T L (rdy h) Q = wpC P (.seq C215_10 C215_11) T L (rdy h) Q := rfl
def C215_13 : ACode := .seq (.reg L215_0) C215_12
theorem u215_13 : wpC P C215_13 T L (rdy h) Q = wpC P (.seq (.reg L215_0) C215_12) T L (rdy h) Q := rfl
def F215 : AFunc := ⟨19, [.tmp 4], C215_13⟩
theorem cF215 : compB Try.prog 215 = some F215 := by kernel_rfl
end
attribute [local go_sem ↓] u215_0 u215_1 u215_2 u215_3 u215_4 u215_5 u215_6 u215_7 u215_8 u215_9 u215_10 u215_11 u215_12 u215_13 v215_0 v215_1 v215_2 v215_3 v215_4 v215_5 v215_6 v215_7 v215_8 v215_9 v215_10
theorem c_indexQ (l : List Param) (v : AV) (f : Nat) (caps : List (Nat × Nat)) (p : Param → Bool) (h : H) (hl : SlQ h v l) (hn : l.length ≤ big) (hf : ∀ i (hi : i < l.length), ∀ x, x = l[i] → bm Try.prog f (.agg (encQ x) :: caps.map fun a => .one (.ptr (some a))) h = some (ib (p x), h)) :
    bm Try.prog 215 [v, .one (.fn f caps)] h = some (ii (idx p l), h) := by
  refine bm_eq cF215 ?_
  simp +contextual (maxSteps := 2000000) only [go_sem, Nat.reduceEqDiff, reduceCtorEq, Nat.reduceAdd, Nat.reduceLeDiff, F215, hl.len]
  refine wpC_loop (fun i T L h' => h' = h ∧ T 0 = .v v ∧ T 1 = .v (.one (.fn f caps)) ∧ T 7 = .v (.one (.int .i64 l.length)) ∧ T 8 = .v (.one (.int .i64 i)) ∧ Pre p false l i) l.length ?_ ?_ (Nat.zero_le _) ?_
  · rintro i T L h' hi ⟨rfl, h0, h1, h7, h8, hp⟩
    simp +contextual (maxSteps := 2000000) only [go_sem, Nat.reduceEqDiff, reduceCtorEq, Nat.reduceAdd, Nat.reduceLeDiff, h0, h1, h7, h8, hl.iaddr hi, hl.whole hi, hf i hi _ rfl, lt_true hi]
    (repeat' (first | refine And.intro ?_ ?_ | intro _)) <;> first | rfl | rw [wrap_next hi (big_lt hn)] | exact hp.next hi ‹_› | rw [idx_hit hi hp ‹_›]
  · rintro T L h' ⟨rfl, h0, h1, h7, h8, hp⟩
    simp +contextual (maxSteps := 2000000) only [go_sem, Nat.reduceEqDiff, reduceCtorEq, Nat.reduceAdd, Nat.reduceLeDiff, h0, h1, h7, h8, lt_false, idx_none hp]
  · simp +contextual (maxSteps := 2000000) only [go_sem, Nat.reduceEqDiff, reduceCtorEq, Nat.reduceAdd, Nat.reduceLeDiff]
    (repeat' (first | refine And.intro ?_ ?_ | intro _)) <;> first | rfl | exact Pre.zero
section
variable {P : Program} {T : Tb} {L : Lb} {h : H} {Q : PostC} {K : Post}
/-! slices.IndexFunc(()impl.Turn,impl.Turn) -/
def L204_0 : List AStep := [⟨.mov (.c (.int .i64 0)), (some 4), none, []⟩]
theorem v204_0 : wpS P L204_0 T L (rdy h) K = wpS P ([⟨.mov (.c (.int .i64 0)), (some 4), none, []⟩]) T L (rdy h) K := rfl
def L204_1 : List AStep := [⟨.mov (.c (.int .i64 0)), (some 8), none, []⟩]
theorem v204_1 : wpS P L204_1 T L (rdy h) K = wpS P ([⟨.mov (.c (.int .i64 0)), (some 8), none, []⟩]) T L (rdy h) K := rfl
def L204_2 : List AStep := ⟨.mov (.t 0), (some 6), none, []⟩ :: ⟨.len (.t 6), (some 7), none, []⟩ :: L204_1
theorem v204_2 : wpS P L204_2 T L (rdy h) K = wpS P (⟨.mov (.t 0), (some 6), none, []⟩ :: ⟨.len (.t 6), (some 7), none, []⟩ :: L204_1) T L (rdy h) K := rfl
def L204_3 : List AStep := [⟨.bin .lss (.t 8) (.t 7), (some 9), none, []⟩]
theorem v204_3 : wpS P L204_3 T L (rdy h) K = wpS P ([⟨.bin .lss (.t 8) (.t 7), (some 9), none, []⟩]) T L (rdy h) K := rfl
def L204_4 : List AStep := [⟨.mov (.t 8), (some 10), none, []⟩, ⟨.mov (.t 10), (some 5), none, []⟩]
theorem v204_4 : wpS P L204_4 T L (rdy h) K = wpS P ([⟨.mov (.t 8), (some 10), none, []⟩, ⟨.mov (.t 10), (some 5), none, []⟩]) T L (rdy h) K := rfl
def L204_5 : List AStep := [⟨.load 2 true (.t 14), (some 15), none, []⟩, ⟨.callv (.t 11) [(.t 15)], (some 16), none, []⟩]
theorem v204_5 : wpS P L204_5 T L (rdy h) K = wpS P ([⟨.load 2 true (.t 14), (some 15), none, []⟩, ⟨.callv (.t 11) [(.t 15)], (some 16), none, []⟩]) T L (rdy h) K := rfl
def L204_6 : List AStep := ⟨.mov (.t 5), (some 13), none, []⟩ :: ⟨.iaddr 2 (.t 12) (.t 13), (some 14), none, []⟩ :: L204_5
theorem v204_6 : wpS P L204_6 T L (rdy h) K = wpS P (⟨.mov (.t 5), (some 13), none, []⟩ :: ⟨.iaddr 2 (.t 12) (.t 13), (some 14), none, []⟩ :: L204_5) T L (rdy h) K := rfl
def L204_7 : List AStep := ⟨.mov (.t 1), (some 11), none, []⟩ :: ⟨.mov (.t 0), (some 12), none, []⟩ :: L204_6
theorem v204_7 : wpS P L204_7 T L (rdy h) K = wpS P (⟨.mov (.t 1), (some 11), none, []⟩ :: ⟨.mov (.t 0), (some 12), none, []⟩ :: L204_6) T L (rdy h) K := rfl
def L204_8 : List AStep := [⟨.mov (.t 5), (some 17), none, []⟩, ⟨.mov (.t 17), (some 4), none, []⟩]
theorem v204_8 : wpS P L204_8 T L (rdy h) K = wpS P ([⟨.mov (.t 5), (some 17), none, []⟩, ⟨.mov (.t 17), (some 4), none, []⟩]) T L (rdy h) K := rfl
def L204_9 : List AStep := [⟨.bin .add (.t 8) (.c (.int .i64 1)), (some 18), none, []⟩, ⟨.mov (.t 18), (some 8), none, []⟩]
theorem v204_9 : wpS P L204_9 T L (rdy h) K = wpS P ([⟨.bin .add (.t 8) (.c (.int .i64 1)), (some 18), none, []⟩, ⟨.mov (.t 18), (some 8), none, []⟩]) T L (rdy h) K := rfl
def L204_10 : List AStep := [⟨.mov (.c (.int .i64 (-1))), (some 4), none, []⟩]
theorem v204_10 : wpS P L204_10 T L (rdy h) K = wpS P ([⟨.mov (.c (.int .i64 (-1))), (some 4), none, []⟩]) T L (rdy h) K := rfl
def C204_0 : ACode := .cond (.t 9) .skip (.exit 0)
theorem u204_0 : wpC P C204_0 T L (rdy h) Q = wpC P (.cond (.t 9) .skip (.exit 0)) T L (rdy h) Q := rfl
def C204_1 : ACode := .seq (.reg L204_8) .ret
theorem u204_1 : wpC P C204_1 T L (rdy h) Q = wpC P (.seq (.reg L204_8) .ret) T L (rdy h) Q := rfl
def C204_2 : ACode := .cond (.t 16) C204_1 .skip
theorem u204_2 : wpC P C204_2 T L (rdy h) Q = wpC P (.cond (.t 16) C204_1 .skip) T L (rdy h) Q := rfl
def C204_3 : ACode := .seq (.reg L204_7) C204_2
theorem u204_3 : wpC P C204_3 T L (rdy h) Q = wpC P (.seq (.reg L204_7) C204_2) T L (rdy h) Q := rfl
def C204_4 : ACode := .seq (.reg L204_4) C204_3
theorem u204_4 : wpC P C204_4 T L (rdy h) Q = wpC P (.seq (.reg L204_4) C204_3) T L (rdy h) Q := rfl
def C204_5 : ACode := .block 1 C204_4
theorem u204_5 : wpC P C204_5 T L (rdy h) Q = wpC P (.block 1 C204_4) T L (rdy h) Q := rfl
def C204_6 : ACode := .seq C204_5 (.reg L204_9)
theorem u204_6 : wpC P C204_6 T L (rdy h) Q = wpC P (.seq C204_5 (.reg L204_9)) T L (rdy h) Q := rfl
def C204_7 : ACode := .seq C204_0 C204_6
theorem u204_7 : wpC P C204_7 T L (rdy h) Q = wpC P (.seq C204_0 C204_6) T L (rdy h) Q := rfl
def C204_8 : ACode := .seq (.reg L204_3) C204_7
theorem u204_8 : wpC P C204_8 T L (rdy h) Q = wpC P (.seq (.reg L204_3) C204_7) T L (rdy h) Q := rfl
def C204_9 : ACode := .block 0 (.loop C204_8)
theorem u204_9 : wpC P C204_9 T L (rdy h) Q = wpC P (.block 0 (.loop C204_8)) T L (rdy h) Q := rfl
def C204_10 : ACode := .seq (.reg L204_2) C204_9
theorem u204_10 : wpC P C204_10 T L (rdy h) Q = wpC P (.seq (.reg L204_2) C204_9) T L (rdy h) Q := rfl
def C204_11 : ACode := .seq (.reg L204_10) .ret
theorem u204_11 : wpC P C204_11 T L (rdy h) Q = wpC P (.seq (.reg L204_10) .ret) T L (rdy h) Q := rfl
def C204_12 : ACode := .seq C204_10 C204_11
theorem u204_12 : wpC P C204_12 T L (rdy h) Q = wpC P (.seq C204_10 C204_11) T L (rdy h) Q := rfl
def C204_13 : ACode := .seq (.reg L204_0) C204_12
theorem u204_13 : wpC P C204_13 T L (rdy h) Q = wpC P (.seq (.reg L204_0) C204_12) T L (rdy h) Q := rfl
def F204 : AFunc := ⟨19, [.tmp 4], C204_13⟩
theorem cF204 : compB Try.prog 204 = some F204 := by kernel_rfl
end
attribute [local go_sem ↓] u204_0 u204_1 u204_2 u204_3 u204_4 u204_5 u204_6 u204_7 u204_8 u204_9 u204_10 u204_11 u204_12 u204_13 v204_0 v204_1 v204_2 v204_3 v204_4 v204_5 v204_6 v204_7 v204_8 v204_9 v204_10
theorem c_indexT (l : List Turn) (v : AV) (f : Nat) (caps : List (Nat × Nat)) (p : Turn → Bool) (h : H) (hl : SlT h v l) (hn : l.length ≤ big) (hf : ∀ i (hi : i < l.length), ∀ x, x = l[i] → bm Try.prog f (.agg (encT x) :: caps.map fun a => .one (.ptr (some a))) h = some (ib (p x), h)) :
    bm Try.prog 204 [v, .one (.fn f caps)] h = some (ii (idx p l), h) := by
  refine bm_eq cF204 ?_
  simp +contextual (maxSteps := 2000000) only [go_sem, Nat.reduceEqDiff, reduceCtorEq, Nat.reduceAdd, Nat.reduceLeDiff, F204, hl.len]
  refine wpC_loop (fun i T L h' => h' = h ∧ T 0 = .v v ∧ T 1 = .v (.one (.fn f caps)) ∧ T 7 = .v (.one (.int .i64 l.length)) ∧ T 8 = .v (.one (.int .i64 i)) ∧ Pre p false l i) l.length ?_ ?_ (Nat.zero_le _) ?_
  · rintro i T L h' hi ⟨rfl, h0, h1, h7, h8, hp⟩
    simp +contextual (maxSteps := 2000000) only [go_sem, Nat.reduceEqDiff, reduceCtorEq, Nat.reduceAdd, Nat.reduceLeDiff, h0, h1, h7, h8, hl.iaddr hi, hl.whole hi, hf i hi _ rfl, lt_true hi]
    (repeat' (first | refine And.intro ?_ ?_ | intro _)) <;> first | rfl | rw [wrap_next hi (big_lt hn)] | exact hp.next hi ‹_› | rw [idx_hit hi hp ‹_›]
  · rintro T L h' ⟨rfl, h0, h1, h7, h8, hp⟩
    simp +contextual (maxSteps := 2000000) only [go_sem, Nat.reduceEqDiff, reduceCtorEq, Nat.reduceAdd, Nat.reduceLeDiff, h0, h1, h7, h8, lt_false, idx_none hp]
  · simp +contextual (maxSteps := 2000000) only [go_sem, Nat.reduceEqDiff, reduceCtorEq, Nat.reduceAdd, Nat.reduceLeDiff]
    (repeat' (first | refine And.intro ?_ ?_ | intro _)) <;> first | rfl | exact Pre.zero
section
variable {P : Program} {T : Tb} {L : Lb} {h : H} {Q : PostC} {K : Post}
/-! slices.ContainsFunc(()impl.Turn,impl.Turn) -/
def L148_0 : List AStep := [⟨.mov (.c (.bool false)), (some 4), none, []⟩]
theorem v148_0 : wpS P L148_0 T L (rdy h) K = wpS P ([⟨.mov (.c (.bool false)), (some 4), none, []⟩]) T L (rdy h) K := rfl
def L148_1 : List AStep := [⟨.mov (.t 8), (some 4), none, []⟩]
theorem v148_1 : wpS P L148_1 T L (rdy h) K = wpS P ([⟨.mov (.t 8), (some 4), none, []⟩]) T L (rdy h) K := rfl
def L148_2 : List AStep := ⟨.call 204 [(.t 5), (.t 6)], (some 7), none, []⟩ :: ⟨.bin .geq (.t 7) (.c (.int .i64 0)), (some 8), none, []⟩ :: L148_1
theorem v148_2 : wpS P L148_2 T L (rdy h) K = wpS P (⟨.call 204 [(.t 5), (.t 6)], (some 7), none, []⟩ :: ⟨.bin .geq (.t 7) (.c (.int .i64 0)), (some 8), none, []⟩ :: L148_1) T L (rdy h) K := rfl
def L148_3 : List AStep := ⟨.mov (.t 0), (some 5), none, []⟩ :: ⟨.mov (.t 1), (some 6), none, []⟩ :: L148_2
theorem v148_3 : wpS P L148_3 T L (rdy h) K = wpS P (⟨.mov (.t 0), (some 5), none, []⟩ :: ⟨.mov (.t 1), (some 6), none, []⟩ :: L148_2) T L (rdy h) K := rfl
def C148_0 : ACode := .seq (.reg L148_3) .ret
theorem u148_0 : wpC P C148_0 T L (rdy h) Q = wpC P (.seq (.reg L148_3) .ret) T L (rdy h) Q := rfl
def C148_1 : ACode := .seq (.reg L148_0) C148_0
theorem u148_1 : wpC P C148_1 T L (rdy h) Q = wpC P (.seq (.reg L148_0) C148_0) T L (rdy h) Q := rfl
def F148 : AFunc := ⟨9, [.tmp 4], C148_1⟩
theorem cF148 : compB Try.prog 148 = some F148 := by kernel_rfl
end
attribute [local go_sem ↓] u148_0 u148_1 v148_0 v148_1 v148_2 v148_3
theorem c_hasT (l : List Turn) (v : AV) (f : Nat) (caps : List (Nat × Nat)) (p : Turn → Bool) (h : H) (hl : SlT h v l) (hn : l.length ≤ big) (hf : ∀ i (hi : i < l.length), ∀ x, x = l[i] → bm Try.prog f (.agg (encT x) :: caps.map fun a => .one (.ptr (some a))) h = some (ib (p x), h)) :
    bm Try.prog 148 [v, .one (.fn f caps)] h = some (ib (l.any p), h) := by
  refine bm_eq cF148 ?_
  have e := idx_any (p := p) (l := l)
  simp +contextual (maxSteps := 2000000) only [go_sem, Nat.reduceEqDiff, reduceCtorEq, Nat.reduceAdd, Nat.reduceLeDiff, F148, c_indexT l v f caps p h hl hn hf, e]
section
variable {P : Program} {T : Tb} {L : Lb} {h : H} {Q : PostC} {K : Post}
/-! impl.find$1 -/
def L216_0 : List AStep := [⟨.box 108 (.t 0), (some 2), none, []⟩, ⟨.mov (.c (.bool false)), (some 3), none, []⟩]
theorem v216_0 : wpS P L216_0 T L (rdy h) K = wpS P ([⟨.box 108 (.t 0), (some 2), none, []⟩, ⟨.mov (.c (.bool false)), (some 3), none, []⟩]) T L (rdy h) K := rfl
def L216_1 : List AStep := [⟨.mov (.t 7), (some 3), none, []⟩]
theorem v216_1 : wpS P L216_1 T L (rdy h) K = wpS P ([⟨.mov (.t 7), (some 3), none, []⟩]) T L (rdy h) K := rfl
def L216_2 : List AStep := ⟨.load 1 false (.t 1), (some 6), none, []⟩ :: ⟨.bin .eql (.t 5) (.t 6), (some 7), none, []⟩ :: L216_1
theorem v216_2 : wpS P L216_2 T L (rdy h) K = wpS P (⟨.load 1 false (.t 1), (some 6), none, []⟩ :: ⟨.bin .eql (.t 5) (.t 6), (some 7), none, []⟩ :: L216_1) T L (rdy h) K := rfl
def L216_3 : List AStep := ⟨.faddr 0 (.t 2), (some 4), none, []⟩ :: ⟨.load 1 false (.t 4), (some 5), none, []⟩ :: L216_2
theorem v216_3 : wpS P L216_3 T L (rdy h) K = wpS P (⟨.faddr 0 (.t 2), (some 4), none, []⟩ :: ⟨.load 1 false (.t 4), (some 5), none, []⟩ :: L216_2) T L (rdy h) K := rfl
def C216_0 : ACode := .seq (.reg L216_3) .ret
theorem u216_0 : wpC P C216_0 T L (rdy h) Q = wpC P (.seq (.reg L216_3) .ret) T L (rdy h) Q := rfl
def C216_1 : ACode := .seq (.reg L216_0) C216_0
theorem u216_1 : wpC P C216_1 T L (rdy h) Q = wpC P (.seq (.reg L216_0) C216_0) T L (rdy h) Q := rfl
def F216 : AFunc := ⟨8, [.tmp 3], C216_1⟩
theorem cF216 : compB Try.prog 216 = some F216 := by kernel_rfl
end
attribute [local go_sem ↓] u216_0 u216_1 v216_0 v216_1 v216_2 v216_3
theorem c_find1 (p : Param) (a : Nat × Nat) (s : ByteArray) (h : H) (ha : loadO 1 false h (.one (.ptr (some a))) = some (.one (.str s))) : bm Try.prog 216 [.agg (encQ p), .one (.ptr (some a))] h = some (ib (decide (p.name = s)), h) := by
  refine bm_eq cF216 ?_
  simp +contextual (maxSteps := 2000000) only [go_sem, Nat.reduceEqDiff, reduceCtorEq, Nat.reduceAdd, Nat.reduceLeDiff, F216, ha]
section
variable {P : Program} {T : Tb} {L : Lb} {h : H} {Q : PostC} {K : Post}
/-! impl.find -/
def L173_0 : List AStep := [⟨.box 9 (.t 1), (some 3), none, []⟩, ⟨.mov (.c (.int .i64 0)), (some 4), none, []⟩]
theorem v173_0 : wpS P L173_0 T L (rdy h) K = wpS P ([⟨.box 9 (.t 1), (some 3), none, []⟩, ⟨.mov (.c (.int .i64 0)), (some 4), none, []⟩]) T L (rdy h) K := rfl
def L173_1 : List AStep := [⟨.call 215 [(.t 5), (.t 6)], (some 7), none, []⟩, ⟨.mov (.t 7), (some 4), none, []⟩]
theorem v173_1 : wpS P L173_1 T L (rdy h) K = wpS P ([⟨.call 215 [(.t 5), (.t 6)], (some 7), none, []⟩, ⟨.mov (.t 7), (some 4), none, []⟩]) T L (rdy h) K := rfl
def L173_2 : List AStep := ⟨.mov (.t 0), (some 5), none, []⟩ :: ⟨.mkfn 216 [(.t 3)], (some 6), none, []⟩ :: L173_1
theorem v173_2 : wpS P L173_2 T L (rdy h) K = wpS P (⟨.mov (.t 0), (some 5), none, []⟩ :: ⟨.mkfn 216 [(.t 3)], (some 6), none, []⟩ :: L173_1) T L (rdy h) K := rfl
def C173_0 : ACode := .seq (.reg L173_2) .ret
theorem u173_0 : wpC P C173_0 T L (rdy h) Q = wpC P (.seq (.reg L173_2) .ret) T L (rdy h) Q := rfl
def C173_1 : ACode := .seq (.reg L173_0) C173_0
theorem u173_1 : wpC P C173_1 T L (rdy h) Q = wpC P (.seq (.reg L173_0) C173_0) T L (rdy h) Q := rfl
def F173 : AFunc := ⟨8, [.tmp 4], C173_1⟩
theorem cF173 : compB Try.prog 173 = some F173 := by kernel_rfl
end
attribute [local go_sem ↓] u173_0 u173_1 v173_0 v173_1 v173_2
theorem c_find (l : List Param) (v : AV) (s : ByteArray) (h : H) (hl : SlQ h v l) (hn : smQ l) : bm Try.prog 173 [v, .one (.str s)] h = some (ii (paramAt l s), h) := by
  refine bm_eq cF173 ?_
  have e := c_indexQ l v 216 [(h.n, 0)] (fun p => decide (p.name = s)) (h.alloc [.str s] 9) (hl.grow (Grow.alloc _ _ _)) hn.1 (fun i hi x hx => c_find1 x (h.n, 0) s _ (Box.new.one rfl))
  simp +contextual (maxSteps := 2000000) only [go_sem, Nat.reduceEqDiff, reduceCtorEq, Nat.reduceAdd, Nat.reduceLeDiff, F173, e, paramAt]
end Go.Proofs.Ytnphlonhogcedaa.Am
