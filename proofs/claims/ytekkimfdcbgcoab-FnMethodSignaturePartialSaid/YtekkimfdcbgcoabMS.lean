/- Contracts: methods. -/
import Derived.Test.YtekkimfdcbgcoabPW
import Derived.Test.YtekkimfdcbgcoabPV
import Derived.Test.YtekkimfdcbgcoabDT
import Derived.Test.YtekkimfdcbgcoabFS
namespace Go.Proofs.Ytekkimfdcbgcoab.Am
open Go
attribute [local go_sem] loadL_agg
set_option maxRecDepth 100000
set_option maxHeartbeats 4000000
set_option linter.unusedSimpArgs false
set_option linter.unusedVariables false
attribute [local go_sem ↓] bv_t bv_c ev_t ev_c put_same put_ne put_none kill_at pro_at lb_same lb_ne start_zero start_succ wpC_seq wpC_reg wpC_cond wpC_block wpC_skip wpC_exit wpC_ret thenQ_normal thenQ_exit thenQ_ret inBlk_normal inBlk_exit inBlk_ret wpS_nil wpS_step wpS_again wpS_guard wpO_mov wpO_load wpO_faddr wpO_nilCheck wpO_pick wpO_build wpO_bin wpO_eqb wpO_eqst wpO_eqnil wpO_not wpO_conv wpO_bytesStr wpO_iaddr wpO_idxStr wpO_field wpO_extract wpO_len wpO_lenStr wpO_cap wpO_min wpO_slice wpO_sliceStr wpO_alloc wpO_box wpO_store wpO_call wpO_callv wpO_mkfn wpO_buildSlice wpO_mkslice wpO_append wpO_appz proA_nil proA_cons tmpX_nil tmpX_tmp tmpX_cell doneB_normal doneB_ret agK_cons agK_nil agK_guard agG_tt agG_ff agG_tf agG_ft agG_undef pureB_load results_one results_two results_nil resBs_cons resBs_nil resB_tmp resB_cell
attribute [local go_sem] kill_v kill_lp_ne kill_lp_same pro_v pro_lp_same pro_lp_ne av_v av_lp optB_some optX_some valX_eq ldX_lp ldX_v faX_lp faX_v ncX_lp ncX_ptr ncX_fn boxK_one boxK_agg stL_some stK_lp_one stK_lp_agg stK_v_one stK_v_agg proM_v proM_lp callG_mk callVG_mk callvK_fn fnG_mk ptrsA_nil ptrsA_cons callH_some whenA_true whenA_false guardH_tt guardH_ff guardH_tf guardH_ft guardH_undef agV_one agV_agg lenO_sl lenStrO_str notO_bool pickO_bool convO_int eqbO_bool eqnilO_sl extractO_tup capO_sl minO_int loadL_one loadL_all storeL_eq fillA_nil fillA_one fillA_agg nat_ge neg_ge nat_lt neg_lt buildO bin_add bin_sub bin_mul bin_eql bin_neq bin_lss bin_leq bin_gtr bin_geq str_eql str_neq str_lss str_leq str_gtr str_geq retK_some endK_mk gcK_same gcK_int gcK_bool tupO_one tupO_agg rdy_self ib ii Option.map_none Option.map_some Option.some.injEq exists_eq_left' exists_eq_left ne_eq not_false_eq_true if_true if_false List.map_cons List.map_nil List.getElem?_cons_zero List.getElem?_cons_succ List.length_cons List.length_nil List.take_succ_cons List.take_zero List.take_nil List.drop_succ_cons List.drop_zero List.drop_nil List.cons_append List.nil_append List.append_nil List.set_cons_zero List.set_cons_succ Nat.zero_add forall_const true_and and_true and_self Bool.false_eq_true false_implies true_implies implies_true Bool.not_true Bool.not_false Bool.not_eq_true' Bool.not_eq_false' beq_self_eq_true Bool.bne_true Bool.bne_false
attribute [local go_sem] lenI lenS lenP lenQ lenB lenL lenT encI_0 encS_0 encP_0 encP_1 encQ_0 encQ_1 encQ_2 encQ_3 encB_0 encB_1 encL_0 encL_1 encT_0 encT_1
attribute [local go_sem low] whenA_bool guardH_bool
/-! impl.MethodSignature -/
def L13_0 : List AStep := [⟨.mov (.c (.bool false)), (some 3), none, []⟩]
theorem v13_0 : VS L13_0.eq_1 := rfl
def L13_1 : List AStep := ⟨.box 25 (.t 0), (some 1), none, []⟩ :: ⟨.alloc 25 [(.sl none 0 (some 0))], (some 2), none, []⟩ :: L13_0
theorem v13_1 : VS L13_1.eq_1 := rfl
def L13_2 : List AStep := [⟨.pick (.t 13) (.c (.bool true)) (.t 19), (some 20), none, []⟩]
theorem v13_2 : VS L13_2.eq_1 := rfl
def L13_3 : List AStep := ⟨.call 51 [(.t 17)], (some 18), (some (13, false)), []⟩ :: ⟨.not (.t 18), (some 19), (some (13, false)), []⟩ :: L13_2
theorem v13_3 : VS L13_3.eq_1 := rfl
def L13_4 : List AStep := ⟨.iaddr 4 (.t 15) (.c (.int .i64 0)), (some 16), (some (13, false)), []⟩ :: ⟨.load 4 true (.t 16), (some 17), (some (13, false)), []⟩ :: L13_3
theorem v13_4 : VS L13_4.eq_1 := rfl
def L13_5 : List AStep := ⟨.faddr 0 (.t 1), (some 14), (some (13, false)), []⟩ :: ⟨.load 1 false (.t 14), (some 15), (some (13, false)), []⟩ :: L13_4
theorem v13_5 : VS L13_5.eq_1 := rfl
def L13_6 : List AStep := ⟨.pick (.t 7) (.c (.bool true)) (.t 11), (some 12), none, []⟩ :: ⟨.mov (.t 12), (some 13), none, []⟩ :: L13_5
theorem v13_6 : VS L13_6.eq_1 := rfl
def L13_7 : List AStep := ⟨.len (.t 9), (some 10), (some (7, false)), []⟩ :: ⟨.bin .eql (.t 10) (.c (.int .i64 0)), (some 11), (some (7, false)), []⟩ :: L13_6
theorem v13_7 : VS L13_7.eq_1 := rfl
def L13_8 : List AStep := ⟨.faddr 0 (.t 1), (some 8), (some (7, false)), []⟩ :: ⟨.load 1 false (.t 8), (some 9), (some (7, false)), []⟩ :: L13_7
theorem v13_8 : VS L13_8.eq_1 := rfl
def L13_9 : List AStep := ⟨.not (.t 5), (some 6), none, []⟩ :: ⟨.mov (.t 6), (some 7), none, []⟩ :: L13_8
theorem v13_9 : VS L13_9.eq_1 := rfl
def L13_10 : List AStep := ⟨.load 1 true (.t 1), (some 4), none, []⟩ :: ⟨.call 31 [(.t 4)], (some 5), none, []⟩ :: L13_9
theorem v13_10 : VS L13_10.eq_1 := rfl
def L13_11 : List AStep := [⟨.mov (.c (.bool false)), (some 3), none, []⟩]
theorem v13_11 : VS L13_11.eq_1 := rfl
def L13_12 : List AStep := ⟨.build [(.sl none 0 (some 0))] [], (some 21), none, []⟩ :: ⟨.store 1 (.t 2) (.t 21), none, none, []⟩ :: L13_11
theorem v13_12 : VS L13_12.eq_1 := rfl
def L13_13 : List AStep := [⟨.mov (.c (.bool true)), (some 3), none, []⟩]
theorem v13_13 : VS L13_13.eq_1 := rfl
def L13_14 : List AStep := ⟨.build [(.sl none 0 (some 0))] [(0, 1, (.t 25))], (some 26), none, []⟩ :: ⟨.store 1 (.t 2) (.t 26), none, none, []⟩ :: L13_13
theorem v13_14 : VS L13_14.eq_1 := rfl
def L13_15 : List AStep := ⟨.slice 39 4 (.t 23) (some (.c (.int .i64 1))) none none, (some 24), none, []⟩ :: ⟨.call 52 [(.t 24)], (some 25), none, []⟩ :: L13_14
theorem v13_15 : VS L13_15.eq_1 := rfl
def L13_16 : List AStep := ⟨.faddr 0 (.t 1), (some 22), none, []⟩ :: ⟨.load 1 false (.t 22), (some 23), none, []⟩ :: L13_15
theorem v13_16 : VS L13_16.eq_1 := rfl
def C13_0 : ACode := .seq (.reg L13_12) .ret
theorem u13_0 : VC C13_0.eq_1 := rfl
def C13_1 : ACode := .cond (.t 20) C13_0 .skip
theorem u13_1 : VC C13_1.eq_1 := rfl
def C13_2 : ACode := .seq (.reg L13_10) C13_1
theorem u13_2 : VC C13_2.eq_1 := rfl
def C13_3 : ACode := .seq (.reg L13_16) .ret
theorem u13_3 : VC C13_3.eq_1 := rfl
def C13_4 : ACode := .seq C13_2 C13_3
theorem u13_4 : VC C13_4.eq_1 := rfl
def C13_5 : ACode := .seq (.reg L13_1) C13_4
theorem u13_5 : VC C13_5.eq_1 := rfl
def F13 : AFunc := ⟨27, [.cell 2 1 true, .tmp 3], C13_5⟩
theorem cF13 : compB Try.prog 13 = some F13 := by kernel_rfl
attribute [local go_sem ↓] u13_0 u13_1 u13_2 u13_3 u13_4 u13_5 v13_0 v13_1 v13_2 v13_3 v13_4 v13_5 v13_6 v13_7 v13_8 v13_9 v13_10 v13_11 v13_12 v13_13 v13_14 v13_15 v13_16
theorem k_iMethodSignature (l : List Param) (q : CV) (h : H) (hl : SlG h q l) (hn : miniG l) : callK (bm Try.prog 13 [.agg [q]] h) fun r h' => Grow h h' ∧ ∃ w, r = .tup [.agg [w], .one (.bool (methOk l))] ∧ NwQ h h' (.one w) (methF l) := by
  refine bm_of cF13 ?_
  have ev := c_ValidSignature l q h hl.out hn.sm
  cases b1 : okSig l with
  | false =>
    have e : methOk l = false := by unfold methOk; rw [b1]; rfl
    unfold methF
    rw [e]
    simp +contextual (maxSteps := 2000000) only [go_sem, Nat.reduceEqDiff, reduceCtorEq, Nat.reduceAdd, Nat.reduceLeDiff, F13, ev, b1]
    exact ⟨Grow.refl h, _, rfl, .nil⟩
  | true =>
  have s := hl.out
  cases l with
  | nil =>
    have e : methOk [] = false := rfl
    unfold methF
    rw [e]
    have hz : decide (((0 : Nat) : Int) = 0) = true := rfl
    have sl : lenO (.one q) = some (ii ((0 : Nat) : Int)) := s.len
    simp +contextual (maxSteps := 2000000) only [go_sem, Nat.reduceEqDiff, reduceCtorEq, Nat.reduceAdd, Nat.reduceLeDiff, F13, ev, b1, sl, hz]
    exact ⟨Grow.refl h, _, rfl, .nil⟩
  | cons a t =>
  have hz : decide (((t.length + 1 : Nat) : Int) = 0) = false := decide_eq_false (by omega)
  have sl : lenO (.one q) = some (ii ((t.length + 1 : Nat) : Int)) := s.len
  have hi : 0 < (a :: t).length := Nat.succ_pos _
  have ei : iaddrO 4 (.one q) (.one (.int .i64 0)) = some (.one (.ptr (some (elem 4 (.one q) 0)))) := s.iaddr hi
  have ew := s.whole hi
  have ep := fun h => c_placed a h
  simp only [List.getElem_cons_zero] at ew
  simp only [encQ] at ew ep
  cases b2 : byPlace a with
  | false =>
    have e : methOk (a :: t) = false := by unfold methOk; rw [b1]; exact b2
    unfold methF
    rw [e]
    simp +contextual (maxSteps := 2000000) only [go_sem, Nat.reduceEqDiff, reduceCtorEq, Nat.reduceAdd, Nat.reduceLeDiff, F13, ev, b1, sl, hz, ei, ew, ep, b2]
    exact ⟨Grow.refl h, _, rfl, .nil⟩
  | true =>
    have e : methOk (a :: t) = true := by unfold methOk; rw [b1]; exact b2
    obtain ⟨w, ec, sw, _⟩ := s.dropB (i := 1) hi (kd := .i64)
    obtain ⟨w, rfl⟩ := sw.isOne
    have ec : cutO 39 4 h (.one q) (some (.one (.int .i64 1))) none none = some (.one w) := ec
    unfold methF
    rw [e]
    simp +contextual (maxSteps := 2000000) only [go_sem, Nat.reduceEqDiff, reduceCtorEq, Nat.reduceAdd, Nat.reduceLeDiff, F13, ev, b1, sl, hz, ei, ew, ep, b2, ec]
    refine wp_call (c_cloneQ _ _ h sw (Nat.le_trans (by simp) hn.sm.1)) ?_
    rintro r h1 ⟨g1, n1⟩
    obtain ⟨c1, rfl⟩ := n1.one
    simp +contextual (maxSteps := 2000000) only [go_sem, Nat.reduceEqDiff, reduceCtorEq, Nat.reduceAdd, Nat.reduceLeDiff]
    exact gcK_of ⟨g1, _, rfl, n1⟩ (fun hs _ => ⟨Grow.refl h, _, rfl, n1.scalar (by simpa [AV.scalar, AV.scalars, CV.scalar] using hs) h⟩)
/-! spec.MethodSignature -/
def L14_0 : List AStep := [⟨.mov (.c (.bool false)), (some 3), none, []⟩]
theorem v14_0 : VS L14_0.eq_1 := rfl
def L14_1 : List AStep := ⟨.box 25 (.t 0), (some 1), none, []⟩ :: ⟨.alloc 25 [(.sl none 0 (some 0))], (some 2), none, []⟩ :: L14_0
theorem v14_1 : VS L14_1.eq_1 := rfl
def L14_2 : List AStep := [⟨.bin .eql (.t 9) (.c (.int .i64 0)), (some 10), (some (7, false)), []⟩, ⟨.pick (.t 7) (.c (.bool true)) (.t 10), (some 11), none, []⟩]
theorem v14_2 : VS L14_2.eq_1 := rfl
def L14_3 : List AStep := ⟨.load 1 true (.t 1), (some 8), (some (7, false)), []⟩ :: ⟨.call 54 [(.t 8)], (some 9), (some (7, false)), []⟩ :: L14_2
theorem v14_3 : VS L14_3.eq_1 := rfl
def L14_4 : List AStep := ⟨.not (.t 5), (some 6), none, []⟩ :: ⟨.mov (.t 6), (some 7), none, []⟩ :: L14_3
theorem v14_4 : VS L14_4.eq_1 := rfl
def L14_5 : List AStep := ⟨.load 1 true (.t 1), (some 4), none, []⟩ :: ⟨.call 53 [(.t 4)], (some 5), none, []⟩ :: L14_4
theorem v14_5 : VS L14_5.eq_1 := rfl
def L14_6 : List AStep := [⟨.mov (.c (.bool false)), (some 3), none, []⟩]
theorem v14_6 : VS L14_6.eq_1 := rfl
def L14_7 : List AStep := ⟨.build [(.sl none 0 (some 0))] [], (some 12), none, []⟩ :: ⟨.store 1 (.t 2) (.t 12), none, none, []⟩ :: L14_6
theorem v14_7 : VS L14_7.eq_1 := rfl
def L14_8 : List AStep := [⟨.mov (.c (.bool true)), (some 3), none, []⟩]
theorem v14_8 : VS L14_8.eq_1 := rfl
def L14_9 : List AStep := ⟨.build [(.sl none 0 (some 0))] [(0, 1, (.t 16))], (some 17), none, []⟩ :: ⟨.store 1 (.t 2) (.t 17), none, none, []⟩ :: L14_8
theorem v14_9 : VS L14_9.eq_1 := rfl
def L14_10 : List AStep := ⟨.slice 39 4 (.t 14) (some (.c (.int .i64 1))) none none, (some 15), none, []⟩ :: ⟨.call 55 [(.t 15)], (some 16), none, []⟩ :: L14_9
theorem v14_10 : VS L14_10.eq_1 := rfl
def L14_11 : List AStep := ⟨.faddr 0 (.t 1), (some 13), none, []⟩ :: ⟨.load 1 false (.t 13), (some 14), none, []⟩ :: L14_10
theorem v14_11 : VS L14_11.eq_1 := rfl
def C14_0 : ACode := .seq (.reg L14_7) .ret
theorem u14_0 : VC C14_0.eq_1 := rfl
def C14_1 : ACode := .cond (.t 11) C14_0 .skip
theorem u14_1 : VC C14_1.eq_1 := rfl
def C14_2 : ACode := .seq (.reg L14_5) C14_1
theorem u14_2 : VC C14_2.eq_1 := rfl
def C14_3 : ACode := .seq (.reg L14_11) .ret
theorem u14_3 : VC C14_3.eq_1 := rfl
def C14_4 : ACode := .seq C14_2 C14_3
theorem u14_4 : VC C14_4.eq_1 := rfl
def C14_5 : ACode := .seq (.reg L14_1) C14_4
theorem u14_5 : VC C14_5.eq_1 := rfl
def F14 : AFunc := ⟨18, [.cell 2 1 true, .tmp 3], C14_5⟩
theorem cF14 : compB Try.prog 14 = some F14 := by kernel_rfl
attribute [local go_sem ↓] u14_0 u14_1 u14_2 u14_3 u14_4 u14_5 v14_0 v14_1 v14_2 v14_3 v14_4 v14_5 v14_6 v14_7 v14_8 v14_9 v14_10 v14_11
theorem k_sMethodSignature (l : List Param) (q : CV) (h : H) (hl : SlG h q l) (hn : miniG l) : callK (bm Try.prog 14 [.agg [q]] h) fun r h' => Grow h h' ∧ ∃ w, r = .tup [.agg [w], .one (.bool (methOk l))] ∧ NwQ h h' (.one w) (methF l) := by
  refine bm_of cF14 ?_
  have ev := c_validSignature l q h hl.out hn.sm
  have s := hl.out
  have ec := c_placeCount l q h s hn.sm
  cases b1 : okSig l with
  | false =>
    have e : methOk l = false := by unfold methOk; rw [b1]; rfl
    unfold methF
    rw [e]
    simp +contextual (maxSteps := 2000000) only [go_sem, Nat.reduceEqDiff, reduceCtorEq, Nat.reduceAdd, Nat.reduceLeDiff, F14, ev, b1]
    exact ⟨Grow.refl h, _, rfl, .nil⟩
  | true =>
  have em := meth_places b1
  cases b2 : decide ((l.countP byPlace : Int) = 0) with
  | true =>
    rw [b2] at em
    unfold methF
    rw [em]
    simp +contextual (maxSteps := 2000000) only [go_sem, Nat.reduceEqDiff, reduceCtorEq, Nat.reduceAdd, Nat.reduceLeDiff, F14, ev, b1, ec, b2]
    exact ⟨Grow.refl h, _, rfl, .nil⟩
  | false =>
    rw [b2] at em
    have hi : 1 ≤ l.length := by
      have := of_decide_eq_false b2
      have := List.countP_le_length (p := byPlace) (l := l)
      omega
    obtain ⟨w, ed, sw, _⟩ := s.dropB (i := 1) hi (kd := .i64)
    obtain ⟨w, rfl⟩ := sw.isOne
    have ed : cutO 39 4 h (.one q) (some (.one (.int .i64 1))) none none = some (.one w) := ed
    unfold methF
    rw [em]
    simp +contextual (maxSteps := 2000000) only [go_sem, Nat.reduceEqDiff, reduceCtorEq, Nat.reduceAdd, Nat.reduceLeDiff, F14, ev, b1, ec, b2, ed]
    refine wp_call (c_copyParams _ _ h sw (Nat.le_trans (by simp) hn.sm.1)) ?_
    rintro r h1 ⟨g1, n1⟩
    obtain ⟨c1, rfl⟩ := n1.one
    simp +contextual (maxSteps := 2000000) only [go_sem, Nat.reduceEqDiff, reduceCtorEq, Nat.reduceAdd, Nat.reduceLeDiff]
    exact gcK_of ⟨g1, _, rfl, n1⟩ (fun hs _ => ⟨Grow.refl h, _, rfl, n1.scalar (by simpa [AV.scalar, AV.scalars, CV.scalar] using hs) h⟩)
/-! impl.MethodFlat -/
def L16_0 : List AStep := [⟨.mov (.c (.bool false)), (some 5), none, []⟩]
theorem v16_0 : VS L16_0.eq_1 := rfl
def L16_1 : List AStep := ⟨.box 29 (.t 1), (some 3), none, []⟩ :: ⟨.alloc 29 [(.sl none 0 (some 0)), (.sl none 0 (some 0))], (some 4), none, []⟩ :: L16_0
theorem v16_1 : VS L16_1.eq_1 := rfl
def L16_2 : List AStep := [⟨.store 2 (.t 4) (.t 18), none, none, []⟩, ⟨.mov (.t 19), (some 5), none, []⟩]
theorem v16_2 : VS L16_2.eq_1 := rfl
def L16_3 : List AStep := ⟨.extract (.t 17) 0, (some 18), none, []⟩ :: ⟨.extract (.t 17) 1, (some 19), none, []⟩ :: L16_2
theorem v16_3 : VS L16_3.eq_1 := rfl
def L16_4 : List AStep := ⟨.call 32 [(.t 15)], (some 16), none, [(.load 1 false (.t 12), (some 13), none)]⟩ :: ⟨.call 56 [(.t 14), (.t 16)], (some 17), none, []⟩ :: L16_3
theorem v16_4 : VS L16_4.eq_1 := rfl
def L16_5 : List AStep := ⟨.call 57 [(.t 10)], (some 11), none, [(.load 1 false (.t 12), (some 13), none), (.load 2 true (.t 3), (some 15), none)]⟩ :: ⟨.build [(.sl none 0 (some 0)), (.sl none 0 (some 0))] [(0, 1, (.t 11)), (1, 1, (.t 13))], (some 14), none, []⟩ :: L16_4
theorem v16_5 : VS L16_5.eq_1 := rfl
def L16_6 : List AStep := ⟨.load 1 false (.t 12), (some 13), none, []⟩ :: ⟨.load 2 true (.t 3), (some 15), none, []⟩ :: L16_5
theorem v16_6 : VS L16_6.eq_1 := rfl
def L16_7 : List AStep := ⟨.buildSlice 26 2 [(.sl none 0 (some 0))] [(0, 1, (.t 7)), (1, 1, (.t 9))], (some 10), none, []⟩ :: ⟨.faddr 1 (.t 3), (some 12), none, []⟩ :: L16_6
theorem v16_7 : VS L16_7.eq_1 := rfl
def L16_8 : List AStep := ⟨.faddr 0 (.t 3), (some 8), none, []⟩ :: ⟨.load 1 false (.t 8), (some 9), none, []⟩ :: L16_7
theorem v16_8 : VS L16_8.eq_1 := rfl
def L16_9 : List AStep := ⟨.mov (.t 0), (some 6), none, []⟩ :: ⟨.buildSlice 3 1 [(.int .i64 0)] [(0, 1, (.t 6))], (some 7), none, []⟩ :: L16_8
theorem v16_9 : VS L16_9.eq_1 := rfl
def C16_0 : ACode := .seq (.reg L16_9) .ret
theorem u16_0 : VC C16_0.eq_1 := rfl
def C16_1 : ACode := .seq (.reg L16_1) C16_0
theorem u16_1 : VC C16_1.eq_1 := rfl
def F16 : AFunc := ⟨20, [.cell 4 2 true, .tmp 5], C16_1⟩
theorem cF16 : compB Try.prog 16 = some F16 := by kernel_rfl
attribute [local go_sem ↓] u16_0 u16_1 v16_0 v16_1 v16_2 v16_3 v16_4 v16_5 v16_6 v16_7 v16_8 v16_9
theorem k_iMethodFlat (v : Int) (f : Flat) (p n : CV) (h : H) (hf : SlF h p n f) (hm : miniF f) : callK (bm Try.prog 16 [.one (.int .i64 v), .agg [p, n]] h) fun r h' => Grow h h' ∧ ∃ p' n', r = .tup [.agg [p', n'], .one (.bool (okFlat f && okFlat ⟨v :: f.pl, f.nl⟩))] ∧ NwF h h' p' n' (if (okFlat f && okFlat ⟨v :: f.pl, f.nl⟩) = true then ⟨v :: f.pl, f.nl⟩ else ⟨[], []⟩) := by
  refine bm_of cF16 ?_
  have hpl := hm.pl
  simp +contextual (maxSteps := 2000000) only [go_sem, Nat.reduceEqDiff, reduceCtorEq, Nat.reduceAdd, Nat.reduceLeDiff, F16]
  refine wp_lit (enc := encI) (k := 1) (l := [v]) rfl rfl ?_
  intro h1 w1 g1 n1 _
  obtain ⟨c1, rfl⟩ := n1.one
  simp +contextual (maxSteps := 2000000) only [go_sem, Nat.reduceEqDiff, reduceCtorEq, Nat.reduceAdd, Nat.reduceLeDiff]
  refine wp_lit (enc := fun c : CV => [c]) (k := 1) (l := [c1, p]) rfl rfl ?_
  intro h2 w2 g2 n2 _
  have s1 := (n1.sl lenI).grow g2
  have f2 := hf.grow (g1.trans g2)
  simp +contextual (maxSteps := 2000000) only [go_sem, Nat.reduceEqDiff, reduceCtorEq, Nat.reduceAdd, Nat.reduceLeDiff]
  refine wp_call (c_concatI [[v], f.pl] [c1, p] w2 h2 (n2.sl fun _ => rfl) rfl (fun i hi hj => ?_) (by simp; unfold big; omega) (show 2 ≤ big by decide)) ?_
  · match i, hi, hj with
    | 0, _, _ => exact s1
    | 1, _, _ => exact f2.pl
  rintro r h3 ⟨g3, n3⟩
  obtain ⟨c3, rfl⟩ := n3.one
  have e3 : [[v], f.pl].flatten = v :: f.pl := by simp
  rw [e3] at n3
  have f3 := f2.grow g3
  have ev := c_ValidFlat f p n h3 f3.pl f3.nl hm.sm
  simp +contextual (maxSteps := 2000000) only [go_sem, Nat.reduceEqDiff, reduceCtorEq, Nat.reduceAdd, Nat.reduceLeDiff, ev]
  refine wp_call (c_checked ⟨v :: f.pl, f.nl⟩ c3 n (okFlat f) h3 ⟨n3.sl lenI, f3.nl⟩ ⟨by simp; unfold big; omega, hm.sm.nl⟩) ?_
  rintro r h4 ⟨g4, p', n', rfl, z⟩
  have G := ((g1.trans g2).trans g3)
  have z := z.from G.n
  simp +contextual (maxSteps := 2000000) only [go_sem, Nat.reduceEqDiff, reduceCtorEq, Nat.reduceAdd, Nat.reduceLeDiff]
  exact gcK_of ⟨G.trans g4, _, _, rfl, z⟩ (fun hs _ => ⟨Grow.refl h, _, _, rfl, z.scalar (by simpa [AV.scalar, AV.scalars, CV.scalar] using hs) h⟩)
/-! spec.DrawMethodSignature -/
def L19_0 : List AStep := [⟨.alloc 25 [(.sl none 0 (some 0))], (some 2), none, []⟩]
theorem v19_0 : VS L19_0.eq_1 := rfl
def L19_1 : List AStep := [⟨.call 58 [(.t 4)], (some 5), none, []⟩, ⟨.store 1 (.t 2) (.t 5), none, none, []⟩]
theorem v19_1 : VS L19_1.eq_1 := rfl
def L19_2 : List AStep := ⟨.mov (.t 0), (some 3), none, []⟩ :: ⟨.call 50 [(.t 3)], (some 4), none, []⟩ :: L19_1
theorem v19_2 : VS L19_2.eq_1 := rfl
def C19_0 : ACode := .seq (.reg L19_2) .ret
theorem u19_0 : VC C19_0.eq_1 := rfl
def C19_1 : ACode := .seq (.reg L19_0) C19_0
theorem u19_1 : VC C19_1.eq_1 := rfl
def F19 : AFunc := ⟨6, [.cell 2 1 true], C19_1⟩
theorem cF19 : compB Try.prog 19 = some F19 := by kernel_rfl
attribute [local go_sem ↓] u19_0 u19_1 v19_0 v19_1 v19_2
theorem c_drawMethodSignature (code : List Int) (v : CV) (h : H) (hl : Sl encBy 1 5 h (.one v) code) (hc : ∀ x ∈ code, 0 ≤ x ∧ x ≤ 255) : callK (bm Try.prog 19 [.one v] h) fun q h' => Grow h h' ∧ ∃ x l, q = .agg [x] ∧ NwQ h h' (.one x) l ∧ tinyQ l := by
  refine bm_of cF19 ?_
  simp +contextual (maxSteps := 2000000) only [go_sem, Nat.reduceEqDiff, reduceCtorEq, Nat.reduceAdd, Nat.reduceLeDiff, F19]
  refine wp_call (c_newReader code v h hl hc) ?_
  rintro q h1 ⟨g1, b, rfl, r1, hb⟩
  simp +contextual (maxSteps := 2000000) only [go_sem, Nat.reduceEqDiff, reduceCtorEq, Nat.reduceAdd, Nat.reduceLeDiff]
  refine wp_call (c_someSignature b 0 h1 r1 (by decide)) ?_
  rintro q h2 ⟨⟨x, l, rfl, z2, tl⟩, d2⟩
  have z4 := z2.from g1.n
  have G := d2.out g1 hb
  simp +contextual (maxSteps := 2000000) only [go_sem, Nat.reduceEqDiff, reduceCtorEq, Nat.reduceAdd, Nat.reduceLeDiff]
  exact gcK_of ⟨G, x, l, rfl, z4, tl⟩ (fun hs _ => ⟨Grow.refl h, x, l, rfl, z4.scalar (by simpa [AV.scalar] using hs) h, tl⟩)
end Go.Proofs.Ytekkimfdcbgcoab.Am
