/- Contracts: partial calls that are called, and small functions of the laws. -/
import Derived.Test.YtekkimfdcbgcoacLQ
import Derived.Test.YtekkimfdcbgcoacPA
import Derived.Test.YtekkimfdcbgcoacB3
import Derived.Test.YtekkimfdcbgcoacPM
namespace Go.Proofs.Ytekkimfdcbgcoac.Am
open Go
attribute [local go_sem] loadL_agg
set_option maxRecDepth 100000
set_option maxHeartbeats 4000000
set_option linter.unusedSimpArgs false
set_option linter.unusedVariables false
attribute [local go_sem ↓] bv_t bv_c ev_t ev_c put_same put_ne put_none kill_at pro_at lb_same lb_ne start_zero start_succ wpC_seq wpC_reg wpC_cond wpC_block wpC_skip wpC_exit wpC_ret thenQ_normal thenQ_exit thenQ_ret inBlk_normal inBlk_exit inBlk_ret wpS_nil wpS_step wpS_again wpS_guard wpO_mov wpO_load wpO_faddr wpO_nilCheck wpO_pick wpO_build wpO_bin wpO_eqb wpO_eqst wpO_eqnil wpO_not wpO_conv wpO_bytesStr wpO_iaddr wpO_idxStr wpO_field wpO_extract wpO_len wpO_lenStr wpO_cap wpO_min wpO_slice wpO_sliceStr wpO_alloc wpO_box wpO_store wpO_call wpO_callv wpO_mkfn wpO_buildSlice wpO_mkslice wpO_append wpO_appz proA_nil proA_cons tmpX_nil tmpX_tmp tmpX_cell doneB_normal doneB_ret agK_cons agK_nil agK_guard agG_tt agG_ff agG_tf agG_ft agG_undef pureB_load results_one results_two results_nil resBs_cons resBs_nil resB_tmp resB_cell
attribute [local go_sem] kill_v kill_lp_ne kill_lp_same pro_v pro_lp_same pro_lp_ne av_v av_lp optB_some optX_some valX_eq ldX_lp ldX_v faX_lp faX_v ncX_lp ncX_ptr ncX_fn boxK_one boxK_agg stL_some stK_lp_one stK_lp_agg stK_v_one stK_v_agg proM_v proM_lp callG_mk callVG_mk callvK_fn fnG_mk ptrsA_nil ptrsA_cons callH_some whenA_true whenA_false guardH_tt guardH_ff guardH_tf guardH_ft guardH_undef agV_one agV_agg lenO_sl lenStrO_str notO_bool pickO_bool convO_int eqbO_bool eqnilO_sl extractO_tup capO_sl minO_int loadL_one loadL_all storeL_eq fillA_nil fillA_one fillA_agg nat_ge neg_ge nat_lt neg_lt buildO bin_add bin_sub bin_mul bin_eql bin_neq bin_lss bin_leq bin_gtr bin_geq str_eql str_neq str_lss str_leq str_gtr str_geq retK_some endK_mk gcK_same gcK_int gcK_bool tupO_one tupO_agg rdy_self ib ii Option.map_none Option.map_some Option.some.injEq exists_eq_left' exists_eq_left ne_eq not_false_eq_true if_true if_false List.map_cons List.map_nil List.getElem?_cons_zero List.getElem?_cons_succ List.length_cons List.length_nil List.take_succ_cons List.take_zero List.take_nil List.drop_succ_cons List.drop_zero List.drop_nil List.cons_append List.nil_append List.append_nil List.set_cons_zero List.set_cons_succ Nat.zero_add forall_const true_and and_true and_self Bool.false_eq_true false_implies true_implies implies_true Bool.not_true Bool.not_false Bool.not_eq_true' Bool.not_eq_false' beq_self_eq_true Bool.bne_true Bool.bne_false
attribute [local go_sem] lenI lenS lenP lenQ lenB lenL lenT encI_0 encS_0 encP_0 encP_1 encQ_0 encQ_1 encQ_2 encQ_3 encB_0 encB_1 encL_0 encL_1 encT_0 encT_1
attribute [local go_sem low] whenA_bool guardH_bool
def FullF (l : List Param) (f g : Flat) : Option Flat := if partOk l f = true then OverFlat f g else none
theorem miniF.full {l : List Param} {f g : Flat} : miniF (orF (FullF l f g)) := by
  unfold FullF
  split
  · exact .over
  · exact .nil
theorem full_nil {l : List Param} {f : Flat} (h : partOk l f = true) : FullF l f ⟨[], []⟩ = some f := by
  unfold FullF
  rw [if_pos h, over_nil (part_fits h).2]
/-! laws.hasText -/
def L16_0 : List AStep := [⟨.mov (.c (.bool false)), (some 4), none, []⟩]
theorem v16_0 : VS L16_0.eq_1 := rfl
def L16_1 : List AStep := [⟨.mov (.c (.int .i64 0)), (some 5), none, []⟩]
theorem v16_1 : VS L16_1.eq_1 := rfl
def L16_2 : List AStep := [⟨.len (.t 7), (some 8), none, []⟩, ⟨.bin .lss (.t 6) (.t 8), (some 9), none, []⟩]
theorem v16_2 : VS L16_2.eq_1 := rfl
def L16_3 : List AStep := ⟨.mov (.t 5), (some 6), none, []⟩ :: ⟨.mov (.t 0), (some 7), none, []⟩ :: L16_2
theorem v16_3 : VS L16_3.eq_1 := rfl
def L16_4 : List AStep := [⟨.mov (.t 1), (some 16), none, []⟩, ⟨.bin .eql (.t 15) (.t 16), (some 17), none, []⟩]
theorem v16_4 : VS L16_4.eq_1 := rfl
def L16_5 : List AStep := ⟨.iaddr 1 (.t 12) (.t 13), (some 14), none, []⟩ :: ⟨.load 1 false (.t 14), (some 15), none, []⟩ :: L16_4
theorem v16_5 : VS L16_5.eq_1 := rfl
def L16_6 : List AStep := ⟨.mov (.t 0), (some 12), none, []⟩ :: ⟨.mov (.t 5), (some 13), none, []⟩ :: L16_5
theorem v16_6 : VS L16_6.eq_1 := rfl
def L16_7 : List AStep := [⟨.mov (.c (.bool true)), (some 4), none, []⟩]
theorem v16_7 : VS L16_7.eq_1 := rfl
def L16_8 : List AStep := [⟨.mov (.t 11), (some 5), none, []⟩]
theorem v16_8 : VS L16_8.eq_1 := rfl
def L16_9 : List AStep := ⟨.mov (.t 5), (some 10), none, []⟩ :: ⟨.bin .add (.t 10) (.c (.int .i64 1)), (some 11), none, []⟩ :: L16_8
theorem v16_9 : VS L16_9.eq_1 := rfl
def L16_10 : List AStep := [⟨.mov (.c (.bool false)), (some 4), none, []⟩]
theorem v16_10 : VS L16_10.eq_1 := rfl
def C16_0 : ACode := .cond (.t 9) .skip (.exit 0)
theorem u16_0 : VC C16_0.eq_1 := rfl
def C16_1 : ACode := .seq (.reg L16_3) C16_0
theorem u16_1 : VC C16_1.eq_1 := rfl
def C16_2 : ACode := .seq (.reg L16_7) .ret
theorem u16_2 : VC C16_2.eq_1 := rfl
def C16_3 : ACode := .cond (.t 17) C16_2 .skip
theorem u16_3 : VC C16_3.eq_1 := rfl
def C16_4 : ACode := .seq (.reg L16_6) C16_3
theorem u16_4 : VC C16_4.eq_1 := rfl
def C16_5 : ACode := .block 1 C16_4
theorem u16_5 : VC C16_5.eq_1 := rfl
def C16_6 : ACode := .seq C16_5 (.reg L16_9)
theorem u16_6 : VC C16_6.eq_1 := rfl
def C16_7 : ACode := .seq C16_1 C16_6
theorem u16_7 : VC C16_7.eq_1 := rfl
def C16_8 : ACode := .block 0 (.loop C16_7)
theorem u16_8 : VC C16_8.eq_1 := rfl
def C16_9 : ACode := .seq (.reg L16_1) C16_8
theorem u16_9 : VC C16_9.eq_1 := rfl
def C16_10 : ACode := .seq (.reg L16_10) .ret
theorem u16_10 : VC C16_10.eq_1 := rfl
def C16_11 : ACode := .seq C16_9 C16_10
theorem u16_11 : VC C16_11.eq_1 := rfl
def C16_12 : ACode := .seq (.reg L16_0) C16_11
theorem u16_12 : VC C16_12.eq_1 := rfl
def F16 : AFunc := ⟨18, [.tmp 4], C16_12⟩
theorem cF16 : compB Try.prog 16 = some F16 := by kernel_rfl
attribute [local go_sem ↓] u16_0 u16_1 u16_2 u16_3 u16_4 u16_5 u16_6 u16_7 u16_8 u16_9 u16_10 u16_11 u16_12 v16_0 v16_1 v16_2 v16_3 v16_4 v16_5 v16_6 v16_7 v16_8 v16_9 v16_10
theorem c_hasText (l : List ByteArray) (v : AV) (s : ByteArray) (h : H) (hl : SlS h v l) (hn : l.length ≤ big) : bm Try.prog 16 [v, .one (.str s)] h = some (ib (hasT l s), h) := by
  refine bm_eq cF16 ?_
  simp +contextual (maxSteps := 2000000) only [go_sem, Nat.reduceEqDiff, reduceCtorEq, Nat.reduceAdd, Nat.reduceLeDiff, F16]
  refine wpC_loop (fun i T L h' => h' = h ∧ T 0 = .v v ∧ T 1 = .v (.one (.str s)) ∧ T 5 = .v (.one (.int .i64 i)) ∧ Pre (fun x => decide (x = s)) false l i) l.length ?_ ?_ (Nat.zero_le _) ?_
  · rintro i T L h' hi ⟨rfl, t0, t1, t5, hp⟩
    cases b : decide (l[i] = s) with
    | true =>
      have e : hasT l s = true := List.any_eq_true.2 ⟨_, List.getElem_mem hi, b⟩
      simp +contextual (maxSteps := 2000000) only [go_sem, Nat.reduceEqDiff, reduceCtorEq, Nat.reduceAdd, Nat.reduceLeDiff, t0, t1, t5, hl.len, hl.iaddr hi, hl.oneO hi, lt_true hi, b, e]
    | false =>
      simp +contextual (maxSteps := 2000000) only [go_sem, Nat.reduceEqDiff, reduceCtorEq, Nat.reduceAdd, Nat.reduceLeDiff, t0, t1, t5, hl.len, hl.iaddr hi, hl.oneO hi, lt_true hi, b]
      exact ⟨by rw [wrap_next hi (big_lt hn)], hp.next hi b⟩
  · rintro T L h' ⟨rfl, t0, t1, t5, hp⟩
    have e : hasT l s = false := List.any_eq_false.2 fun x hx => by
      have := hp.out x (by rw [List.take_length]; exact hx)
      simpa using this
    simp +contextual (maxSteps := 2000000) only [go_sem, Nat.reduceEqDiff, reduceCtorEq, Nat.reduceAdd, Nat.reduceLeDiff, t0, t1, t5, hl.len, lt_false, e]
  · simp +contextual (maxSteps := 2000000) only [go_sem, Nat.reduceEqDiff, reduceCtorEq, Nat.reduceAdd, Nat.reduceLeDiff]
    exact ⟨rfl, Pre.zero⟩
/-! impl.FindParam -/
def L20_0 : List AStep := [⟨.box 25 (.t 0), (some 2), none, []⟩, ⟨.mov (.c (.int .i64 0)), (some 4), none, []⟩]
theorem v20_0 : VS L20_0.eq_1 := rfl
def L20_1 : List AStep := [⟨.not (.t 6), (some 7), none, []⟩]
theorem v20_1 : VS L20_1.eq_1 := rfl
def L20_2 : List AStep := ⟨.load 1 true (.t 2), (some 5), none, []⟩ :: ⟨.call 27 [(.t 5)], (some 6), none, []⟩ :: L20_1
theorem v20_2 : VS L20_2.eq_1 := rfl
def L20_3 : List AStep := [⟨.mov (.c (.int .i64 (-1))), (some 4), none, []⟩]
theorem v20_3 : VS L20_3.eq_1 := rfl
def L20_4 : List AStep := [⟨.mov (.t 11), (some 4), none, []⟩]
theorem v20_4 : VS L20_4.eq_1 := rfl
def L20_5 : List AStep := ⟨.mov (.t 1), (some 10), none, []⟩ :: ⟨.call 60 [(.t 9), (.t 10)], (some 11), none, []⟩ :: L20_4
theorem v20_5 : VS L20_5.eq_1 := rfl
def L20_6 : List AStep := ⟨.faddr 0 (.t 2), (some 8), none, []⟩ :: ⟨.load 1 false (.t 8), (some 9), none, []⟩ :: L20_5
theorem v20_6 : VS L20_6.eq_1 := rfl
def C20_0 : ACode := .seq (.reg L20_3) .ret
theorem u20_0 : VC C20_0.eq_1 := rfl
def C20_1 : ACode := .cond (.t 7) C20_0 .skip
theorem u20_1 : VC C20_1.eq_1 := rfl
def C20_2 : ACode := .seq (.reg L20_2) C20_1
theorem u20_2 : VC C20_2.eq_1 := rfl
def C20_3 : ACode := .seq (.reg L20_6) .ret
theorem u20_3 : VC C20_3.eq_1 := rfl
def C20_4 : ACode := .seq C20_2 C20_3
theorem u20_4 : VC C20_4.eq_1 := rfl
def C20_5 : ACode := .seq (.reg L20_0) C20_4
theorem u20_5 : VC C20_5.eq_1 := rfl
def F20 : AFunc := ⟨12, [.tmp 4], C20_5⟩
theorem cF20 : compB Try.prog 20 = some F20 := by kernel_rfl
attribute [local go_sem ↓] u20_0 u20_1 u20_2 u20_3 u20_4 u20_5 v20_0 v20_1 v20_2 v20_3 v20_4 v20_5 v20_6
theorem c_FindParam (l : List Param) (q : CV) (s : ByteArray) (h : H) (hl : SlG h q l) (hn : miniG l) (ok : okSig l = true) : bm Try.prog 20 [.agg [q], .one (.str s)] h = some (ii (paramAt l s), h) := by
  refine bm_eq cF20 ?_
  simp +contextual (maxSteps := 2000000) only [go_sem, Nat.reduceEqDiff, reduceCtorEq, Nat.reduceAdd, Nat.reduceLeDiff, F20, c_ValidSignature _ _ _ hl.out hn.sm, ok, c_find _ _ _ _ hl.out hn.sm]
theorem miniZ.all {q : Param → Bool} {l : List Param} {f : Flat} : (freeF q l f).length ≤ big := Nat.le_trans miniZ.free.len (by decide)
end Go.Proofs.Ytekkimfdcbgcoac.Am
