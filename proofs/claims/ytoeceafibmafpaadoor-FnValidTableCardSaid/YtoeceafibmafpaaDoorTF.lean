/- Contracts: the texts of functions, of both sides. -/
import Derived.Test.YtoeceafibmafpaaDoorTI
import Derived.Test.YtoeceafibmafpaaDoorM1
import Derived.Test.YtoeceafibmafpaaDoorN1
namespace Go.Proofs.YtoeceafibmafpaaDoor.Am
open Go
set_option maxRecDepth 100000
set_option maxHeartbeats 4000000
set_option linter.unusedSimpArgs false
set_option linter.unusedVariables false
attribute [local go_sem ↓] bv_t bv_c ev_t ev_c put_same put_ne put_none kill_at pro_at lb_same lb_ne start_zero start_succ wpC_seq wpC_reg wpC_cond wpC_block wpC_skip wpC_exit wpC_ret thenQ_normal thenQ_exit thenQ_ret inBlk_normal inBlk_exit inBlk_ret wpS_nil wpS_step wpS_again wpS_guard wpO_mov wpO_load wpO_faddr wpO_nilCheck wpO_pick wpO_build wpO_bin wpO_eqb wpO_eqst wpO_eqnil wpO_not wpO_conv wpO_bytesStr wpO_iaddr wpO_idxStr wpO_field wpO_extract wpO_len wpO_lenStr wpO_cap wpO_min wpO_slice wpO_sliceStr wpO_alloc wpO_box wpO_store wpO_call wpO_callv wpO_mkfn wpO_buildSlice wpO_mkslice wpO_append wpO_appz proA_nil proA_cons tmpX_nil tmpX_tmp tmpX_cell doneB_normal doneB_ret agK_cons agK_nil agK_guard agG_tt agG_ff agG_tf agG_ft agG_undef pureB_load results_one results_two results_nil resBs_cons resBs_nil resB_tmp resB_cell
attribute [local go_sem] kill_v kill_lp_ne kill_lp_same pro_v pro_lp_same pro_lp_ne av_v av_lp optB_some optX_some valX_eq ldX_lp ldX_v faX_lp faX_v ncX_lp ncX_ptr ncX_fn boxK_one boxK_agg stL_some stK_lp_one stK_lp_agg stK_v_one stK_v_agg proM_v proM_lp callG_mk callVG_mk callvK_fn fnG_mk ptrsA_nil ptrsA_cons callH_some whenA_true whenA_false guardH_tt guardH_ff guardH_tf guardH_ft guardH_undef agV_one agV_agg lenO_sl lenStrO_str notO_bool pickO_bool convO_int eqbO_bool eqnilO_sl extractO_tup capO_sl minO_int loadL_one loadL_all storeL_eq fillA_nil fillA_one fillA_agg nat_ge neg_ge nat_lt neg_lt buildO bin_add bin_sub bin_mul bin_eql bin_neq bin_lss bin_leq bin_gtr bin_geq str_eql str_neq str_lss str_leq str_gtr str_geq retK_some endK_mk gcK_same gcK_int gcK_bool tupO_one tupO_agg rdy_self ib ii Option.map_none Option.map_some Option.some.injEq exists_eq_left' exists_eq_left ne_eq not_false_eq_true if_true if_false List.map_cons List.map_nil List.getElem?_cons_zero List.getElem?_cons_succ List.length_cons List.length_nil List.take_succ_cons List.take_zero List.take_nil List.drop_succ_cons List.drop_zero List.drop_nil List.cons_append List.nil_append List.append_nil List.set_cons_zero List.set_cons_succ Nat.zero_add forall_const true_and and_true and_self Bool.false_eq_true false_implies true_implies implies_true Bool.not_true Bool.not_false Bool.not_eq_true' Bool.not_eq_false' beq_self_eq_true Bool.bne_true Bool.bne_false
attribute [local go_sem] lenI lenS lenP lenQ lenB lenL lenT encI_0 encS_0 encP_0 encP_1 encQ_0 encQ_1 encQ_2 encQ_3 encB_0 encB_1 encL_0 encL_1 encT_0 encT_1
attribute [local go_sem low] whenA_bool guardH_bool
attribute [local go_sem] loadL_agg
def okFu (a : Func) : Bool := okName a.name && okSig a.params
def funT (a : Func) : ByteArray := a.name ++ strOfNums [40] ++ sigT a.params ++ strOfNums [41]
def funTx (a : Func) : ByteArray := if okFu a = true then funT a else strOfNums []
theorem sigT_size {l : List Param} (ok : okSig l = true) : (sigT l).size ≤ 35184372088832 := by
  have pl := partsT_len (l := l) (i := l.length)
  have := okSig_len ok
  exact joinB_sm (by rw [strOfNums_size]; decide) (by omega) (fun x hx => by have := partsT_mem (okSig_name ok) x hx; omega)
theorem okName_size {s : ByteArray} (h : okName s = true) : s.size ≤ 6 := by
  unfold okName at h
  simp only [Bool.and_eq_true, decide_eq_true_iff] at h
  omega
theorem funTx_none (a : Func) : decide (funTx a = strOfNums []) = !(okFu a) := by
  unfold funTx
  cases h : okFu a with
  | false => simp
  | true =>
    rw [if_pos rfl]
    refine decide_eq_false fun e => ?_
    have := congrArg ByteArray.size e
    unfold funT at this
    rw [ByteArray.size_append, strOfNums_size, strOfNums_size] at this
    simp at this
structure miniE (a : Func) : Prop where
  name : a.name.size ≤ 1048576
  g : miniG a.params
/-! spec.validFunc -/
def L57_0 : List AStep := [⟨.box 48 (.t 0), (some 1), none, []⟩, ⟨.mov (.c (.bool false)), (some 2), none, []⟩]
theorem v57_0 : VS L57_0.eq_1 := rfl
def L57_1 : List AStep := [⟨.mov (.t 10), (some 2), none, []⟩]
theorem v57_1 : VS L57_1.eq_1 := rfl
def L57_2 : List AStep := ⟨.call 45 [(.t 8)], (some 9), (some (6, true)), []⟩ :: ⟨.pick (.t 6) (.t 9) (.c (.bool false)), (some 10), none, []⟩ :: L57_1
theorem v57_2 : VS L57_2.eq_1 := rfl
def L57_3 : List AStep := ⟨.faddr 1 (.t 1), (some 7), (some (6, true)), []⟩ :: ⟨.load 1 true (.t 7), (some 8), (some (6, true)), []⟩ :: L57_2
theorem v57_3 : VS L57_3.eq_1 := rfl
def L57_4 : List AStep := ⟨.call 66 [(.t 4)], (some 5), none, []⟩ :: ⟨.mov (.t 5), (some 6), none, []⟩ :: L57_3
theorem v57_4 : VS L57_4.eq_1 := rfl
def L57_5 : List AStep := ⟨.faddr 0 (.t 1), (some 3), none, []⟩ :: ⟨.load 1 false (.t 3), (some 4), none, []⟩ :: L57_4
theorem v57_5 : VS L57_5.eq_1 := rfl
def C57_0 : ACode := .seq (.reg L57_5) .ret
theorem u57_0 : VC C57_0.eq_1 := rfl
def C57_1 : ACode := .seq (.reg L57_0) C57_0
theorem u57_1 : VC C57_1.eq_1 := rfl
def F57 : AFunc := ⟨11, [.tmp 2], C57_1⟩
theorem cF57 : compB Tryd.prog 57 = some F57 := by kernel_rfl
attribute [local go_sem ↓] u57_0 u57_1 v57_0 v57_1 v57_2 v57_3 v57_4 v57_5
theorem c_validFunc (r : RFunc) (a : Func) (h : H) (y : AtW 83 h r a) (m : miniE a) : bm Tryd.prog 57 [.agg (encW r)] h = some (ib (okFu a), h) := by
  refine bm_eq cF57 ?_
  have en : r.name = a.name := y.name
  have e1 := c_validName a.name h (Nat.lt_of_le_of_lt m.name (by decide))
  have e2 := c_validSignature a.params r.qv h y.params m.g.sm
  unfold okFu
  cases b1 : okName a.name with
  | false =>
    rw [b1] at e1
    simp +contextual (maxSteps := 2000000) only [go_sem, Nat.reduceEqDiff, reduceCtorEq, Nat.reduceAdd, Nat.reduceLeDiff, F57, encW, en, e1, Bool.false_and]
  | true =>
    rw [b1] at e1
    simp +contextual (maxSteps := 2000000) only [go_sem, Nat.reduceEqDiff, reduceCtorEq, Nat.reduceAdd, Nat.reduceLeDiff, F57, encW, en, e1, e2, Bool.true_and]
/-! impl.FuncText -/
def L22_0 : List AStep := [⟨.box 48 (.t 0), (some 1), none, []⟩, ⟨.mov (.c (.str (strOfNums []))), (some 2), none, []⟩]
theorem v22_0 : VS L22_0.eq_1 := rfl
def L22_1 : List AStep := [⟨.not (.t 10), (some 11), (some (7, false)), []⟩, ⟨.pick (.t 7) (.c (.bool true)) (.t 11), (some 12), none, []⟩]
theorem v22_1 : VS L22_1.eq_1 := rfl
def L22_2 : List AStep := ⟨.load 1 true (.t 8), (some 9), (some (7, false)), []⟩ :: ⟨.call 48 [(.t 9)], (some 10), (some (7, false)), []⟩ :: L22_1
theorem v22_2 : VS L22_2.eq_1 := rfl
def L22_3 : List AStep := ⟨.mov (.t 6), (some 7), none, []⟩ :: ⟨.faddr 1 (.t 1), (some 8), (some (7, false)), []⟩ :: L22_2
theorem v22_3 : VS L22_3.eq_1 := rfl
def L22_4 : List AStep := ⟨.call 56 [(.t 4)], (some 5), none, []⟩ :: ⟨.not (.t 5), (some 6), none, []⟩ :: L22_3
theorem v22_4 : VS L22_4.eq_1 := rfl
def L22_5 : List AStep := ⟨.faddr 0 (.t 1), (some 3), none, []⟩ :: ⟨.load 1 false (.t 3), (some 4), none, []⟩ :: L22_4
theorem v22_5 : VS L22_5.eq_1 := rfl
def L22_6 : List AStep := [⟨.mov (.c (.str (strOfNums []))), (some 2), none, []⟩]
theorem v22_6 : VS L22_6.eq_1 := rfl
def L22_7 : List AStep := [⟨.mov (.t 20), (some 2), none, []⟩]
theorem v22_7 : VS L22_7.eq_1 := rfl
def L22_8 : List AStep := ⟨.bin .add (.t 15) (.t 18), (some 19), none, []⟩ :: ⟨.bin .add (.t 19) (.c (.str (strOfNums [41]))), (some 20), none, []⟩ :: L22_7
theorem v22_8 : VS L22_8.eq_1 := rfl
def L22_9 : List AStep := ⟨.load 1 true (.t 16), (some 17), none, []⟩ :: ⟨.call 17 [(.t 17)], (some 18), none, [(.load 1 false (.t 13), (some 14), none)]⟩ :: L22_8
theorem v22_9 : VS L22_9.eq_1 := rfl
def L22_10 : List AStep := ⟨.bin .add (.t 14) (.c (.str (strOfNums [40]))), (some 15), none, []⟩ :: ⟨.faddr 1 (.t 1), (some 16), none, []⟩ :: L22_9
theorem v22_10 : VS L22_10.eq_1 := rfl
def L22_11 : List AStep := ⟨.faddr 0 (.t 1), (some 13), none, []⟩ :: ⟨.load 1 false (.t 13), (some 14), none, []⟩ :: L22_10
theorem v22_11 : VS L22_11.eq_1 := rfl
def C22_0 : ACode := .seq (.reg L22_6) .ret
theorem u22_0 : VC C22_0.eq_1 := rfl
def C22_1 : ACode := .cond (.t 12) C22_0 .skip
theorem u22_1 : VC C22_1.eq_1 := rfl
def C22_2 : ACode := .seq (.reg L22_5) C22_1
theorem u22_2 : VC C22_2.eq_1 := rfl
def C22_3 : ACode := .seq (.reg L22_11) .ret
theorem u22_3 : VC C22_3.eq_1 := rfl
def C22_4 : ACode := .seq C22_2 C22_3
theorem u22_4 : VC C22_4.eq_1 := rfl
def C22_5 : ACode := .seq (.reg L22_0) C22_4
theorem u22_5 : VC C22_5.eq_1 := rfl
def F22 : AFunc := ⟨21, [.tmp 2], C22_5⟩
theorem cF22 : compB Tryd.prog 22 = some F22 := by kernel_rfl
attribute [local go_sem ↓] u22_0 u22_1 u22_2 u22_3 u22_4 u22_5 v22_0 v22_1 v22_2 v22_3 v22_4 v22_5 v22_6 v22_7 v22_8 v22_9 v22_10 v22_11
theorem k_iFuncText (r : RFunc) (a : Func) (h : H) (y : AtW 83 h r a) (m : miniE a) : callK (bm Tryd.prog 22 [.agg (encW r)] h) fun q h' => Grow h h' ∧ q = .one (.str (funTx a)) := by
  refine bm_of cF22 ?_
  have en : r.name = a.name := y.name
  have e1 := c_isName a.name h (Nat.lt_of_le_of_lt m.name (by decide))
  have e2 := c_ValidSignature a.params r.qv h y.params m.g.sm
  unfold funTx okFu
  cases b1 : okName a.name with
  | false =>
    rw [b1] at e1
    simp +contextual (maxSteps := 2000000) only [go_sem, Nat.reduceEqDiff, reduceCtorEq, Nat.reduceAdd, Nat.reduceLeDiff, F22, encW, en, e1, Bool.false_and]
    try exact Grow.refl h
  | true =>
  rw [b1] at e1
  cases b2 : okSig a.params with
  | false =>
    rw [b2] at e2
    simp +contextual (maxSteps := 2000000) only [go_sem, Nat.reduceEqDiff, reduceCtorEq, Nat.reduceAdd, Nat.reduceLeDiff, F22, encW, en, e1, e2, Bool.true_and]
    try exact Grow.refl h
  | true =>
    rw [b2] at e2
    have hz := sigT_size b2
    have hn := m.name
    have e4 := str_add (s := a.name) (t := strOfNums [40]) (by rw [strOfNums_size]; simp; omega)
    have e5 := str_add (s := a.name ++ strOfNums [40]) (t := sigTx a.params) (by unfold sigTx; rw [if_pos b2, ByteArray.size_append, strOfNums_size]; simp; omega)
    have e6 := str_add (s := a.name ++ strOfNums [40] ++ sigTx a.params) (t := strOfNums [41]) (by unfold sigTx; rw [if_pos b2, ByteArray.size_append, ByteArray.size_append, strOfNums_size, strOfNums_size]; simp; omega)
    have e7 : a.name ++ strOfNums [40] ++ sigTx a.params ++ strOfNums [41] = funT a := by unfold funT sigTx; rw [if_pos b2]
    simp +contextual (maxSteps := 2000000) only [go_sem, Nat.reduceEqDiff, reduceCtorEq, Nat.reduceAdd, Nat.reduceLeDiff, F22, encW, en, e1, e2, e4]
    refine wp_call (k_iSignatureText a.params r.qv h ⟨y.params⟩ m.g) ?_
    rintro q h1 ⟨g1, rfl⟩
    simp +contextual (maxSteps := 2000000) only [go_sem, Nat.reduceEqDiff, reduceCtorEq, Nat.reduceAdd, Nat.reduceLeDiff, e5, e6, e7, Bool.and_self]
    exact gcK_of ⟨g1, rfl⟩ (fun _ _ => ⟨Grow.refl h, rfl⟩)
end Go.Proofs.YtoeceafibmafpaaDoor.Am
