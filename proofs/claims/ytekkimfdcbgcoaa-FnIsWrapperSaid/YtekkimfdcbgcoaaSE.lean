/- Contracts: the same flat calls, of both sides. -/
import Derived.Test.YtekkimfdcbgcoaaA1
import Derived.Test.YtekkimfdcbgcoaaA3
import Derived.Test.YtekkimfdcbgcoaaB1
import Derived.Test.YtekkimfdcbgcoaaSD
namespace Go.Proofs.Ytekkimfdcbgcoaa.Am
open Go
set_option maxRecDepth 100000
set_option maxHeartbeats 4000000
set_option linter.unusedSimpArgs false
set_option linter.unusedVariables false
attribute [local go_sem ↓] bv_t bv_c ev_t ev_c put_same put_ne put_none kill_at pro_at lb_same lb_ne start_zero start_succ wpC_seq wpC_reg wpC_cond wpC_block wpC_skip wpC_exit wpC_ret thenQ_normal thenQ_exit thenQ_ret inBlk_normal inBlk_exit inBlk_ret wpS_nil wpS_step wpS_again wpS_guard wpO_mov wpO_load wpO_faddr wpO_nilCheck wpO_pick wpO_build wpO_bin wpO_eqb wpO_eqst wpO_eqnil wpO_not wpO_conv wpO_bytesStr wpO_iaddr wpO_idxStr wpO_field wpO_extract wpO_len wpO_lenStr wpO_cap wpO_min wpO_slice wpO_sliceStr wpO_alloc wpO_box wpO_store wpO_call wpO_callv wpO_mkfn wpO_buildSlice wpO_mkslice wpO_append wpO_appz proA_nil proA_cons tmpX_nil tmpX_tmp tmpX_cell doneB_normal doneB_ret agK_cons agK_nil agK_guard agG_tt agG_ff agG_tf agG_ft agG_undef pureB_load results_one results_two results_nil resBs_cons resBs_nil resB_tmp resB_cell
attribute [local go_sem] kill_v kill_lp_ne kill_lp_same pro_v pro_lp_same pro_lp_ne av_v av_lp optB_some optX_some valX_eq ldX_lp ldX_v faX_lp faX_v ncX_lp ncX_ptr ncX_fn boxK_one boxK_agg stL_some stK_lp_one stK_lp_agg stK_v_one stK_v_agg proM_v proM_lp callG_mk callVG_mk callvK_fn fnG_mk ptrsA_nil ptrsA_cons callH_some whenA_true whenA_false guardH_tt guardH_ff guardH_tf guardH_ft guardH_undef agV_one agV_agg lenO_sl lenStrO_str notO_bool pickO_bool convO_int eqbO_bool eqnilO_sl extractO_tup capO_sl minO_int loadL_one loadL_all storeL_eq fillA_nil fillA_one fillA_agg nat_ge neg_ge nat_lt neg_lt buildO bin_add bin_sub bin_mul bin_eql bin_neq bin_lss bin_leq bin_gtr bin_geq str_eql str_neq str_lss str_leq str_gtr str_geq retK_some endK_mk gcK_same gcK_int gcK_bool tupO_one tupO_agg rdy_self ib ii Option.map_none Option.map_some Option.some.injEq exists_eq_left' exists_eq_left ne_eq not_false_eq_true if_true if_false List.map_cons List.map_nil List.getElem?_cons_zero List.getElem?_cons_succ List.length_cons List.length_nil List.take_succ_cons List.take_zero List.take_nil List.drop_succ_cons List.drop_zero List.drop_nil List.cons_append List.nil_append List.append_nil List.set_cons_zero List.set_cons_succ Nat.zero_add forall_const true_and and_true and_self Bool.false_eq_true false_implies true_implies implies_true Bool.not_true Bool.not_false Bool.not_eq_true' Bool.not_eq_false' beq_self_eq_true Bool.bne_true Bool.bne_false
attribute [local go_sem] lenI lenS lenP lenQ lenB lenL lenT encI_0 encS_0 encP_0 encP_1 encQ_0 encQ_1 encQ_2 encQ_3 encB_0 encB_1 encL_0 encL_1 encT_0 encT_1
attribute [local go_sem low] whenA_bool guardH_bool
/-- Up to i two lists are the same. -/
def Alike {α : Type} (l m : List α) (i : Nat) : Prop := ∀ j, j < i → l[j]? = m[j]?
theorem Alike.zero {α : Type} {l m : List α} : Alike l m 0 := fun j hj => absurd hj (by omega)
theorem Alike.next {α : Type} [DecidableEq α] {l m : List α} {i : Nat} (h : Alike l m i) (hi : i < l.length) (hj : i < m.length) (e : decide (l[i] = m[i]) = true) : Alike l m (i + 1) := fun j hj' => by
  by_cases e2 : j = i
  · subst e2
    rw [List.getElem?_eq_getElem hi, List.getElem?_eq_getElem hj, of_decide_eq_true e]
  · exact h j (by omega)
theorem Alike.eq {α : Type} {l m : List α} (h : Alike l m l.length) (e : l.length = m.length) : l = m := by
  refine List.ext_getElem? fun j => ?_
  by_cases hj : j < l.length
  · exact h j hj
  · rw [List.getElem?_eq_none (by omega), List.getElem?_eq_none (by omega)]
theorem not_alike {α : Type} [DecidableEq α] {l m : List α} {i : Nat} (hi : i < l.length) (hj : i < m.length) (e : decide (l[i] = m[i]) = false) : ¬ l = m := by
  rintro rfl
  simp at e
theorem len_ne {α : Type} {l m : List α} (e : decide ((l.length : Int) = (m.length : Int)) = false) : ¬ l = m := by
  rintro rfl
  simp at e
theorem len_eq {α : Type} {l m : List α} (e : decide ((l.length : Int) = (m.length : Int)) = true) : l.length = m.length := by have := of_decide_eq_true e; omega
def cmpS (s t : ByteArray) : Int := if sLess s t = true then -1 else if s = t then 0 else 1
theorem cmpS_neg {s t : ByteArray} : decide (cmpS s t < 0) = sLess s t := by
  unfold cmpS
  cases sLess s t with
  | true => rfl
  | false =>
    simp only [Bool.false_eq_true, if_false]
    split <;> rfl
/-! cmp.isNaN(string) -/
def L156_0 : List AStep := [⟨.mov (.c (.bool false)), (some 2), none, []⟩]
theorem v156_0 : VS L156_0.eq_1 := rfl
def L156_1 : List AStep := [⟨.bin .neq (.t 3) (.t 4), (some 5), none, []⟩, ⟨.mov (.t 5), (some 2), none, []⟩]
theorem v156_1 : VS L156_1.eq_1 := rfl
def L156_2 : List AStep := ⟨.mov (.t 0), (some 3), none, []⟩ :: ⟨.mov (.t 0), (some 4), none, []⟩ :: L156_1
theorem v156_2 : VS L156_2.eq_1 := rfl
def C156_0 : ACode := .seq (.reg L156_2) .ret
theorem u156_0 : VC C156_0.eq_1 := rfl
def C156_1 : ACode := .seq (.reg L156_0) C156_0
theorem u156_1 : VC C156_1.eq_1 := rfl
def F156 : AFunc := ⟨6, [.tmp 2], C156_1⟩
theorem cF156 : compB Try.prog 156 = some F156 := by kernel_rfl
attribute [local go_sem ↓] u156_0 u156_1 v156_0 v156_1 v156_2
theorem c_isNaN (s : ByteArray) (h : H) : bm Try.prog 156 [.one (.str s)] h = some (ib false, h) := by
  refine bm_eq cF156 ?_
  simp +contextual (maxSteps := 2000000) only [go_sem, Nat.reduceEqDiff, reduceCtorEq, Nat.reduceAdd, Nat.reduceLeDiff, F156, decide_true]
theorem optB_idx {s : ByteArray} {j : Nat} {k : IntKind} {d : Option Nat} {T : Tb} {L : Lb} {h : H} {K : Post} (hj : j < s.size) (hk : ∀ b : Int, K (T.put d (.v (.one (.int .u8 b)))) L (rdy h)) : optB (idxStrO (.one (.str s)) (.one (.int k (j : Int)))) d T L h K := by
  have e : idxStrO (.one (.str s)) (.one (.int k (j : Int))) = some (.one (.int .u8 (s[j].toNat : Int))) := by
    simp only [idxStrO, Int.toNat_natCast]
    rw [if_pos (by omega), getElem?_pos s j hj]
  rw [e, optB_some]
  exact hk _
theorem u64_nat {n : Nat} (hn : n ≤ 12) : IntKind.u64.wrap (n : Int) = n := by
  simp [IntKind.wrap, IntKind.bits, IntKind.signed]
  omega
theorem u8_nat {n : Nat} (hn : n ≤ 12) : IntKind.u8.wrap (n : Int) = n := by
  simp [IntKind.wrap, IntKind.bits, IntKind.signed]
  omega
/-! math/bits.Len64 -/
def L173_0 : List AStep := [⟨.mov (.c (.int .i64 0)), (some 2), none, []⟩]
theorem v173_0 : VS L173_0.eq_1 := rfl
def L173_1 : List AStep := [⟨.mov (.t 0), (some 3), none, []⟩, ⟨.bin .geq (.t 3) (.c (.int .u64 4294967296)), (some 4), none, []⟩]
theorem v173_1 : VS L173_1.eq_1 := rfl
def L173_2 : List AStep := [⟨.mov (.t 6), (some 0), none, []⟩]
theorem v173_2 : VS L173_2.eq_1 := rfl
def L173_3 : List AStep := ⟨.mov (.t 0), (some 5), none, []⟩ :: ⟨.bin .shr (.t 5) (.c (.int .u64 32)), (some 6), none, []⟩ :: L173_2
theorem v173_3 : VS L173_3.eq_1 := rfl
def L173_4 : List AStep := [⟨.mov (.c (.int .i64 32)), (some 2), none, []⟩]
theorem v173_4 : VS L173_4.eq_1 := rfl
def L173_5 : List AStep := [⟨.mov (.t 0), (some 7), none, []⟩, ⟨.bin .geq (.t 7) (.c (.int .u64 65536)), (some 8), none, []⟩]
theorem v173_5 : VS L173_5.eq_1 := rfl
def L173_6 : List AStep := [⟨.mov (.t 10), (some 0), none, []⟩]
theorem v173_6 : VS L173_6.eq_1 := rfl
def L173_7 : List AStep := ⟨.mov (.t 0), (some 9), none, []⟩ :: ⟨.bin .shr (.t 9) (.c (.int .u64 16)), (some 10), none, []⟩ :: L173_6
theorem v173_7 : VS L173_7.eq_1 := rfl
def L173_8 : List AStep := [⟨.mov (.t 12), (some 2), none, []⟩]
theorem v173_8 : VS L173_8.eq_1 := rfl
def L173_9 : List AStep := ⟨.mov (.t 2), (some 11), none, []⟩ :: ⟨.bin .add (.t 11) (.c (.int .i64 16)), (some 12), none, []⟩ :: L173_8
theorem v173_9 : VS L173_9.eq_1 := rfl
def L173_10 : List AStep := [⟨.mov (.t 0), (some 13), none, []⟩, ⟨.bin .geq (.t 13) (.c (.int .u64 256)), (some 14), none, []⟩]
theorem v173_10 : VS L173_10.eq_1 := rfl
def L173_11 : List AStep := [⟨.mov (.t 16), (some 0), none, []⟩]
theorem v173_11 : VS L173_11.eq_1 := rfl
def L173_12 : List AStep := ⟨.mov (.t 0), (some 15), none, []⟩ :: ⟨.bin .shr (.t 15) (.c (.int .u64 8)), (some 16), none, []⟩ :: L173_11
theorem v173_12 : VS L173_12.eq_1 := rfl
def L173_13 : List AStep := [⟨.mov (.t 18), (some 2), none, []⟩]
theorem v173_13 : VS L173_13.eq_1 := rfl
def L173_14 : List AStep := ⟨.mov (.t 2), (some 17), none, []⟩ :: ⟨.bin .add (.t 17) (.c (.int .i64 8)), (some 18), none, []⟩ :: L173_13
theorem v173_14 : VS L173_14.eq_1 := rfl
def L173_15 : List AStep := [⟨.mov (.t 24), (some 2), none, []⟩]
theorem v173_15 : VS L173_15.eq_1 := rfl
def L173_16 : List AStep := ⟨.conv .i64 (.t 22), (some 23), none, []⟩ :: ⟨.bin .add (.t 19) (.t 23), (some 24), none, []⟩ :: L173_15
theorem v173_16 : VS L173_16.eq_1 := rfl
def L173_17 : List AStep := ⟨.conv .u8 (.t 20), (some 21), none, []⟩ :: ⟨.idxStr (.c (.str (strOfNums [0, 1, 2, 2, 3, 3, 3, 3, 4, 4, 4, 4, 4, 4, 4, 4, 5, 5, 5, 5, 5, 5, 5, 5, 5, 5, 5, 5, 5, 5, 5, 5, 6, 6, 6, 6, 6, 6, 6, 6, 6, 6, 6, 6, 6, 6, 6, 6, 6, 6, 6, 6, 6, 6, 6, 6, 6, 6, 6, 6, 6, 6, 6, 6, 7, 7, 7, 7, 7, 7, 7, 7, 7, 7, 7, 7, 7, 7, 7, 7, 7, 7, 7, 7, 7, 7, 7, 7, 7, 7, 7, 7, 7, 7, 7, 7, 7, 7, 7, 7, 7, 7, 7, 7, 7, 7, 7, 7, 7, 7, 7, 7, 7, 7, 7, 7, 7, 7, 7, 7, 7, 7, 7, 7, 7, 7, 7, 7, 8, 8, 8, 8, 8, 8, 8, 8, 8, 8, 8, 8, 8, 8, 8, 8, 8, 8, 8, 8, 8, 8, 8, 8, 8, 8, 8, 8, 8, 8, 8, 8, 8, 8, 8, 8, 8, 8, 8, 8, 8, 8, 8, 8, 8, 8, 8, 8, 8, 8, 8, 8, 8, 8, 8, 8, 8, 8, 8, 8, 8, 8, 8, 8, 8, 8, 8, 8, 8, 8, 8, 8, 8, 8, 8, 8, 8, 8, 8, 8, 8, 8, 8, 8, 8, 8, 8, 8, 8, 8, 8, 8, 8, 8, 8, 8, 8, 8, 8, 8, 8, 8, 8, 8, 8, 8, 8, 8, 8, 8, 8, 8, 8, 8, 8, 8, 8, 8, 8, 8, 8, 8, 8, 8, 8, 8, 8, 8]))) (.t 21), (some 22), none, []⟩ :: L173_16
theorem v173_17 : VS L173_17.eq_1 := rfl
def L173_18 : List AStep := ⟨.mov (.t 2), (some 19), none, []⟩ :: ⟨.mov (.t 0), (some 20), none, []⟩ :: L173_17
theorem v173_18 : VS L173_18.eq_1 := rfl
def C173_0 : ACode := .seq (.reg L173_3) (.reg L173_4)
theorem u173_0 : VC C173_0.eq_1 := rfl
def C173_1 : ACode := .cond (.t 4) C173_0 .skip
theorem u173_1 : VC C173_1.eq_1 := rfl
def C173_2 : ACode := .seq (.reg L173_1) C173_1
theorem u173_2 : VC C173_2.eq_1 := rfl
def C173_3 : ACode := .seq (.reg L173_7) (.reg L173_9)
theorem u173_3 : VC C173_3.eq_1 := rfl
def C173_4 : ACode := .cond (.t 8) C173_3 .skip
theorem u173_4 : VC C173_4.eq_1 := rfl
def C173_5 : ACode := .seq (.reg L173_5) C173_4
theorem u173_5 : VC C173_5.eq_1 := rfl
def C173_6 : ACode := .seq (.reg L173_12) (.reg L173_14)
theorem u173_6 : VC C173_6.eq_1 := rfl
def C173_7 : ACode := .cond (.t 14) C173_6 .skip
theorem u173_7 : VC C173_7.eq_1 := rfl
def C173_8 : ACode := .seq (.reg L173_10) C173_7
theorem u173_8 : VC C173_8.eq_1 := rfl
def C173_9 : ACode := .seq (.reg L173_18) .ret
theorem u173_9 : VC C173_9.eq_1 := rfl
def C173_10 : ACode := .seq C173_8 C173_9
theorem u173_10 : VC C173_10.eq_1 := rfl
def C173_11 : ACode := .seq C173_5 C173_10
theorem u173_11 : VC C173_11.eq_1 := rfl
def C173_12 : ACode := .seq C173_2 C173_11
theorem u173_12 : VC C173_12.eq_1 := rfl
def C173_13 : ACode := .seq (.reg L173_0) C173_12
theorem u173_13 : VC C173_13.eq_1 := rfl
def F173 : AFunc := ⟨25, [.tmp 2], C173_13⟩
theorem cF173 : compB Try.prog 173 = some F173 := by kernel_rfl
attribute [local go_sem ↓] u173_0 u173_1 u173_2 u173_3 u173_4 u173_5 u173_6 u173_7 u173_8 u173_9 u173_10 u173_11 u173_12 u173_13 v173_0 v173_1 v173_2 v173_3 v173_4 v173_5 v173_6 v173_7 v173_8 v173_9 v173_10 v173_11 v173_12 v173_13 v173_14 v173_15 v173_16 v173_17 v173_18
theorem c_len64 (n : Nat) (h : H) (hn : n ≤ 12) : callK (bm Try.prog 173 [.one (.int .u64 n)] h) fun r h' => h' = h ∧ ∃ m, r = ii m := by
  refine bm_of cF173 ?_
  have e1 : decide ((n : Int) ≥ 4294967296) = false := decide_eq_false (by omega)
  have e2 : decide ((n : Int) ≥ 65536) = false := decide_eq_false (by omega)
  have e3 : decide ((n : Int) ≥ 256) = false := decide_eq_false (by omega)
  have e4 := u8_nat hn
  simp +contextual (maxSteps := 2000000) only [go_sem, Nat.reduceEqDiff, reduceCtorEq, Nat.reduceAdd, Nat.reduceLeDiff, F173, e1, e2, e3, e4]
  refine optB_idx (Nat.lt_of_le_of_lt hn (by decide)) fun b => ?_
  simp +contextual (maxSteps := 2000000) only [go_sem, Nat.reduceEqDiff, reduceCtorEq, Nat.reduceAdd, Nat.reduceLeDiff]
  exact ⟨_, rfl⟩
/-! math/bits.Len -/
def L155_0 : List AStep := [⟨.mov (.c (.int .i64 0)), (some 2), none, []⟩]
theorem v155_0 : VS L155_0.eq_1 := rfl
def L155_1 : List AStep := [⟨.call 172 [(.t 4)], (some 5), none, []⟩, ⟨.mov (.t 5), (some 2), none, []⟩]
theorem v155_1 : VS L155_1.eq_1 := rfl
def L155_2 : List AStep := ⟨.mov (.t 0), (some 3), none, []⟩ :: ⟨.conv .u32 (.t 3), (some 4), none, []⟩ :: L155_1
theorem v155_2 : VS L155_2.eq_1 := rfl
def L155_3 : List AStep := [⟨.mov (.t 7), (some 2), none, []⟩]
theorem v155_3 : VS L155_3.eq_1 := rfl
def L155_4 : List AStep := ⟨.mov (.t 0), (some 6), none, []⟩ :: ⟨.call 173 [(.t 6)], (some 7), none, []⟩ :: L155_3
theorem v155_4 : VS L155_4.eq_1 := rfl
def C155_0 : ACode := .seq (.reg L155_2) .ret
theorem u155_0 : VC C155_0.eq_1 := rfl
def C155_1 : ACode := .cond (.c (.bool false)) C155_0 .skip
theorem u155_1 : VC C155_1.eq_1 := rfl
def C155_2 : ACode := .seq (.reg L155_4) .ret
theorem u155_2 : VC C155_2.eq_1 := rfl
def C155_3 : ACode := .seq C155_1 C155_2
theorem u155_3 : VC C155_3.eq_1 := rfl
def C155_4 : ACode := .seq (.reg L155_0) C155_3
theorem u155_4 : VC C155_4.eq_1 := rfl
def F155 : AFunc := ⟨8, [.tmp 2], C155_4⟩
theorem cF155 : compB Try.prog 155 = some F155 := by kernel_rfl
attribute [local go_sem ↓] u155_0 u155_1 u155_2 u155_3 u155_4 v155_0 v155_1 v155_2 v155_3 v155_4
theorem c_bitsLen (n : Nat) (h : H) (hn : n ≤ 12) : callK (bm Try.prog 155 [.one (.int .u64 n)] h) fun r h' => h' = h ∧ ∃ m, r = ii m := by
  refine bm_of cF155 ?_
  simp +contextual (maxSteps := 2000000) only [go_sem, Nat.reduceEqDiff, reduceCtorEq, Nat.reduceAdd, Nat.reduceLeDiff, F155]
  refine wp_call (c_len64 n h hn) ?_
  rintro r h1 ⟨rfl, m, rfl⟩
  simp +contextual (maxSteps := 2000000) only [go_sem, Nat.reduceEqDiff, reduceCtorEq, Nat.reduceAdd, Nat.reduceLeDiff]
  exact ⟨_, rfl⟩
end Go.Proofs.Ytekkimfdcbgcoaa.Am
