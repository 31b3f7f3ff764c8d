/- Contracts: wrappers that are drawn. -/
import Derived.Test.YtekkimfdcbgcoaaDT
namespace Go.Proofs.Ytekkimfdcbgcoaa.Am
open Go
set_option maxRecDepth 100000
set_option maxHeartbeats 4000000
set_option linter.unusedSimpArgs false
set_option linter.unusedVariables false
attribute [local go_sem ↓] bv_t bv_c ev_t ev_c put_same put_ne put_none kill_at pro_at lb_same lb_ne start_zero start_succ wpC_seq wpC_reg wpC_cond wpC_block wpC_skip wpC_exit wpC_ret thenQ_normal thenQ_exit thenQ_ret inBlk_normal inBlk_exit inBlk_ret wpS_nil wpS_step wpS_again wpS_guard wpO_mov wpO_load wpO_faddr wpO_nilCheck wpO_pick wpO_build wpO_bin wpO_eqb wpO_eqst wpO_eqnil wpO_not wpO_conv wpO_bytesStr wpO_iaddr wpO_idxStr wpO_field wpO_extract wpO_len wpO_lenStr wpO_cap wpO_min wpO_slice wpO_sliceStr wpO_alloc wpO_box wpO_store wpO_call wpO_callv wpO_mkfn wpO_buildSlice wpO_mkslice wpO_append wpO_appz proA_nil proA_cons tmpX_nil tmpX_tmp tmpX_cell doneB_normal doneB_ret agK_cons agK_nil agK_guard agG_tt agG_ff agG_tf agG_ft agG_undef pureB_load results_one results_two results_nil resBs_cons resBs_nil resB_tmp resB_cell
attribute [local go_sem] kill_v kill_lp_ne kill_lp_same pro_v pro_lp_same pro_lp_ne av_v av_lp optB_some optX_some valX_eq ldX_lp ldX_v faX_lp faX_v ncX_lp ncX_ptr ncX_fn boxK_one boxK_agg stL_some stK_lp_one stK_lp_agg stK_v_one stK_v_agg proM_v proM_lp callG_mk callVG_mk callvK_fn fnG_mk ptrsA_nil ptrsA_cons callH_some whenA_true whenA_false guardH_tt guardH_ff guardH_tf guardH_ft guardH_undef agV_one agV_agg lenO_sl lenStrO_str notO_bool pickO_bool convO_int eqbO_bool eqnilO_sl extractO_tup capO_sl minO_int loadL_one loadL_all storeL_eq fillA_nil fillA_one fillA_agg nat_ge neg_ge nat_lt neg_lt buildO bin_add bin_sub bin_mul bin_eql bin_neq bin_lss bin_leq bin_gtr bin_geq str_eql str_neq str_lss str_leq str_gtr str_geq retK_some endK_mk gcK_same gcK_int gcK_bool tupO_one tupO_agg rdy_self ib ii Option.map_none Option.map_some Option.some.injEq exists_eq_left' exists_eq_left ne_eq not_false_eq_true if_true if_false List.map_cons List.map_nil List.getElem?_cons_zero List.getElem?_cons_succ List.length_cons List.length_nil List.take_succ_cons List.take_zero List.take_nil List.drop_succ_cons List.drop_zero List.drop_nil List.cons_append List.nil_append List.append_nil List.set_cons_zero List.set_cons_succ Nat.zero_add forall_const true_and and_true and_self Bool.false_eq_true false_implies true_implies implies_true Bool.not_true Bool.not_false Bool.not_eq_true' Bool.not_eq_false' beq_self_eq_true Bool.bne_true Bool.bne_false
attribute [local go_sem] lenI lenS lenP lenQ lenB lenL lenT encI_0 encS_0 encP_0 encP_1 encQ_0 encQ_1 encQ_2 encQ_3 encB_0 encB_1 encL_0 encL_1 encT_0 encT_1
attribute [local go_sem low] whenA_bool guardH_bool
/-- A list of parameters under way. -/
def AWm (b : Nat) (p : Int) (h : H) (k c : Nat) (T : Tb) (L : Lb) (h' : H) : Prop :=
  T 0 = .v (.one (.ptr (some (b, 0)))) ∧ T 2 = .lp 2 0 ∧ (L 2).2 = [.sl none 0 (some 0)] ∧ T 3 = .lp 3 0 ∧ (∃ s l, (L 3).2 = [s] ∧ NwQ h h' (.one s) l ∧ l.length ≤ k ∧ ∀ x ∈ l, x.name.size ≤ 10) ∧ Drew b p c h h'
/-! spec.aWrapper -/
def L97_0 : List AStep := [⟨.alloc 38 [(.sl none 0 (some 0))], (some 2), none, []⟩]
theorem v97_0 : VS L97_0.eq_1 := rfl
def L97_1 : List AStep := [⟨.bin .eql (.t 5) (.c (.int .i64 0)), (some 6), none, []⟩]
theorem v97_1 : VS L97_1.eq_1 := rfl
def L97_2 : List AStep := ⟨.mov (.t 0), (some 4), none, []⟩ :: ⟨.call 106 [(.t 4), (.c (.int .i64 8))], (some 5), none, []⟩ :: L97_1
theorem v97_2 : VS L97_2.eq_1 := rfl
def L97_3 : List AStep := [⟨.store 1 (.t 2) (.t 8), none, none, []⟩]
theorem v97_3 : VS L97_3.eq_1 := rfl
def L97_4 : List AStep := ⟨.mov (.t 0), (some 7), none, []⟩ :: ⟨.call 90 [(.t 7)], (some 8), none, []⟩ :: L97_3
theorem v97_4 : VS L97_4.eq_1 := rfl
def L97_5 : List AStep := [⟨.store 1 (.t 3) (.t 9), none, none, []⟩]
theorem v97_5 : VS L97_5.eq_1 := rfl
def L97_6 : List AStep := ⟨.build [(.sl none 0 (some 0))] [], (some 9), none, []⟩ :: ⟨.alloc 38 [(.sl none 0 (some 0))], (some 3), none, []⟩ :: L97_5
theorem v97_6 : VS L97_6.eq_1 := rfl
def L97_7 : List AStep := [⟨.bin .eql (.t 11) (.c (.int .i64 0)), (some 12), none, []⟩]
theorem v97_7 : VS L97_7.eq_1 := rfl
def L97_8 : List AStep := ⟨.mov (.t 0), (some 10), none, []⟩ :: ⟨.call 106 [(.t 10), (.c (.int .i64 2))], (some 11), none, []⟩ :: L97_7
theorem v97_8 : VS L97_8.eq_1 := rfl
def L97_9 : List AStep := [⟨.store 1 (.t 20) (.t 19), none, none, []⟩]
theorem v97_9 : VS L97_9.eq_1 := rfl
def L97_10 : List AStep := ⟨.append 35 4 40 (.t 14) (.t 18), (some 19), none, []⟩ :: ⟨.faddr 0 (.t 3), (some 20), none, []⟩ :: L97_9
theorem v97_10 : VS L97_10.eq_1 := rfl
def L97_11 : List AStep := ⟨.build [(.str (strOfNums [])), (.int .i64 0), (.bool false), (.int .i64 0)] [(0, 1, (.c (.str (strOfNums [111, 119, 110])))), (1, 1, (.t 16))], (some 17), none, []⟩ :: ⟨.buildSlice 35 1 [(.str (strOfNums [])), (.int .i64 0), (.bool false), (.int .i64 0)] [(0, 4, (.t 17))], (some 18), none, []⟩ :: L97_10
theorem v97_11 : VS L97_11.eq_1 := rfl
def L97_12 : List AStep := ⟨.mov (.t 0), (some 15), none, []⟩ :: ⟨.call 106 [(.t 15), (.c (.int .i64 2))], (some 16), none, [(.load 1 false (.t 13), (some 14), none)]⟩ :: L97_11
theorem v97_12 : VS L97_12.eq_1 := rfl
def L97_13 : List AStep := ⟨.faddr 0 (.t 3), (some 13), none, []⟩ :: ⟨.load 1 false (.t 13), (some 14), none, []⟩ :: L97_12
theorem v97_13 : VS L97_13.eq_1 := rfl
def L97_14 : List AStep := [⟨.bin .eql (.t 22) (.c (.int .i64 0)), (some 23), none, []⟩]
theorem v97_14 : VS L97_14.eq_1 := rfl
def L97_15 : List AStep := ⟨.mov (.t 0), (some 21), none, []⟩ :: ⟨.call 106 [(.t 21), (.c (.int .i64 4))], (some 22), none, []⟩ :: L97_14
theorem v97_15 : VS L97_15.eq_1 := rfl
def L97_16 : List AStep := [⟨.store 1 (.t 35) (.t 34), none, none, []⟩]
theorem v97_16 : VS L97_16.eq_1 := rfl
def L97_17 : List AStep := ⟨.append 35 4 40 (.t 25) (.t 33), (some 34), none, []⟩ :: ⟨.faddr 0 (.t 3), (some 35), none, []⟩ :: L97_16
theorem v97_17 : VS L97_17.eq_1 := rfl
def L97_18 : List AStep := ⟨.build [(.str (strOfNums [])), (.int .i64 0), (.bool false), (.int .i64 0)] [(0, 1, (.t 28)), (1, 1, (.c (.int .i64 1))), (2, 1, (.t 31))], (some 32), none, []⟩ :: ⟨.buildSlice 35 1 [(.str (strOfNums [])), (.int .i64 0), (.bool false), (.int .i64 0)] [(0, 4, (.t 32))], (some 33), none, []⟩ :: L97_17
theorem v97_18 : VS L97_18.eq_1 := rfl
def L97_19 : List AStep := ⟨.call 106 [(.t 29), (.c (.int .i64 2))], (some 30), none, [(.load 1 false (.t 24), (some 25), none)]⟩ :: ⟨.bin .eql (.t 30) (.c (.int .i64 0)), (some 31), none, []⟩ :: L97_18
theorem v97_19 : VS L97_19.eq_1 := rfl
def L97_20 : List AStep := ⟨.mov (.t 0), (some 29), none, []⟩ :: ⟨.call 141 [(.t 26), (.t 27)], (some 28), none, [(.load 1 false (.t 24), (some 25), none)]⟩ :: L97_19
theorem v97_20 : VS L97_20.eq_1 := rfl
def L97_21 : List AStep := ⟨.mov (.t 0), (some 26), none, []⟩ :: ⟨.buildSlice 9 2 [(.str (strOfNums []))] [(0, 1, (.c (.str (strOfNums [97])))), (1, 1, (.c (.str (strOfNums [116, 119, 111]))))], (some 27), none, []⟩ :: L97_20
theorem v97_21 : VS L97_21.eq_1 := rfl
def L97_22 : List AStep := ⟨.faddr 0 (.t 3), (some 24), none, []⟩ :: ⟨.load 1 false (.t 24), (some 25), none, []⟩ :: L97_21
theorem v97_22 : VS L97_22.eq_1 := rfl
def L97_23 : List AStep := [⟨.store 1 (.t 41) (.t 40), none, none, []⟩]
theorem v97_23 : VS L97_23.eq_1 := rfl
def L97_24 : List AStep := ⟨.append 35 4 40 (.t 37) (.t 39), (some 40), none, []⟩ :: ⟨.faddr 0 (.t 3), (some 41), none, []⟩ :: L97_23
theorem v97_24 : VS L97_24.eq_1 := rfl
def L97_25 : List AStep := ⟨.build [(.str (strOfNums [])), (.int .i64 0), (.bool false), (.int .i64 0)] [(0, 1, (.c (.str (strOfNums [114, 101, 115, 116])))), (1, 1, (.c (.int .i64 2)))], (some 38), none, []⟩ :: ⟨.buildSlice 35 1 [(.str (strOfNums [])), (.int .i64 0), (.bool false), (.int .i64 0)] [(0, 4, (.t 38))], (some 39), none, []⟩ :: L97_24
theorem v97_25 : VS L97_25.eq_1 := rfl
def L97_26 : List AStep := ⟨.faddr 0 (.t 3), (some 36), none, []⟩ :: ⟨.load 1 false (.t 36), (some 37), none, []⟩ :: L97_25
theorem v97_26 : VS L97_26.eq_1 := rfl
def L97_27 : List AStep := [⟨.bin .eql (.t 43) (.c (.int .i64 0)), (some 44), none, []⟩]
theorem v97_27 : VS L97_27.eq_1 := rfl
def L97_28 : List AStep := ⟨.mov (.t 0), (some 42), none, []⟩ :: ⟨.call 106 [(.t 42), (.c (.int .i64 2))], (some 43), none, []⟩ :: L97_27
theorem v97_28 : VS L97_28.eq_1 := rfl
def L97_29 : List AStep := [⟨.store 1 (.t 56) (.t 55), none, none, []⟩]
theorem v97_29 : VS L97_29.eq_1 := rfl
def L97_30 : List AStep := ⟨.append 35 4 40 (.t 46) (.t 54), (some 55), none, []⟩ :: ⟨.faddr 0 (.t 3), (some 56), none, []⟩ :: L97_29
theorem v97_30 : VS L97_30.eq_1 := rfl
def L97_31 : List AStep := ⟨.build [(.str (strOfNums [])), (.int .i64 0), (.bool false), (.int .i64 0)] [(0, 1, (.t 49)), (1, 1, (.c (.int .i64 3))), (2, 1, (.t 52))], (some 53), none, []⟩ :: ⟨.buildSlice 35 1 [(.str (strOfNums [])), (.int .i64 0), (.bool false), (.int .i64 0)] [(0, 4, (.t 53))], (some 54), none, []⟩ :: L97_30
theorem v97_31 : VS L97_31.eq_1 := rfl
def L97_32 : List AStep := ⟨.call 106 [(.t 50), (.c (.int .i64 2))], (some 51), none, [(.load 1 false (.t 45), (some 46), none)]⟩ :: ⟨.bin .eql (.t 51) (.c (.int .i64 0)), (some 52), none, []⟩ :: L97_31
theorem v97_32 : VS L97_32.eq_1 := rfl
def L97_33 : List AStep := ⟨.mov (.t 0), (some 50), none, []⟩ :: ⟨.call 141 [(.t 47), (.t 48)], (some 49), none, [(.load 1 false (.t 45), (some 46), none)]⟩ :: L97_32
theorem v97_33 : VS L97_33.eq_1 := rfl
def L97_34 : List AStep := ⟨.mov (.t 0), (some 47), none, []⟩ :: ⟨.buildSlice 9 3 [(.str (strOfNums []))] [(0, 1, (.c (.str (strOfNums [108, 111, 103])))), (1, 1, (.c (.str (strOfNums [98])))), (2, 1, (.c (.str (strOfNums [108, 111, 103]))))], (some 48), none, []⟩ :: L97_33
theorem v97_34 : VS L97_34.eq_1 := rfl
def L97_35 : List AStep := ⟨.faddr 0 (.t 3), (some 45), none, []⟩ :: ⟨.load 1 false (.t 45), (some 46), none, []⟩ :: L97_34
theorem v97_35 : VS L97_35.eq_1 := rfl
def L97_36 : List AStep := [⟨.store 1 (.t 62) (.t 61), none, none, []⟩]
theorem v97_36 : VS L97_36.eq_1 := rfl
def L97_37 : List AStep := ⟨.append 35 4 40 (.t 58) (.t 60), (some 61), none, []⟩ :: ⟨.faddr 0 (.t 3), (some 62), none, []⟩ :: L97_36
theorem v97_37 : VS L97_37.eq_1 := rfl
def L97_38 : List AStep := ⟨.build [(.str (strOfNums [])), (.int .i64 0), (.bool false), (.int .i64 0)] [(0, 1, (.c (.str (strOfNums [109, 111, 114, 101])))), (1, 1, (.c (.int .i64 4)))], (some 59), none, []⟩ :: ⟨.buildSlice 35 1 [(.str (strOfNums [])), (.int .i64 0), (.bool false), (.int .i64 0)] [(0, 4, (.t 59))], (some 60), none, []⟩ :: L97_37
theorem v97_38 : VS L97_38.eq_1 := rfl
def L97_39 : List AStep := ⟨.faddr 0 (.t 3), (some 57), none, []⟩ :: ⟨.load 1 false (.t 57), (some 58), none, []⟩ :: L97_38
theorem v97_39 : VS L97_39.eq_1 := rfl
def L97_40 : List AStep := [⟨.load 1 true (.t 3), (some 63), none, []⟩, ⟨.store 1 (.t 2) (.t 63), none, none, []⟩]
theorem v97_40 : VS L97_40.eq_1 := rfl
def C97_0 : ACode := .seq (.reg L97_4) .ret
theorem u97_0 : VC C97_0.eq_1 := rfl
def C97_1 : ACode := .cond (.t 6) C97_0 .skip
theorem u97_1 : VC C97_1.eq_1 := rfl
def C97_2 : ACode := .seq (.reg L97_2) C97_1
theorem u97_2 : VC C97_2.eq_1 := rfl
def C97_3 : ACode := .cond (.t 12) (.reg L97_13) .skip
theorem u97_3 : VC C97_3.eq_1 := rfl
def C97_4 : ACode := .seq (.reg L97_8) C97_3
theorem u97_4 : VC C97_4.eq_1 := rfl
def C97_5 : ACode := .cond (.t 23) (.reg L97_22) .skip
theorem u97_5 : VC C97_5.eq_1 := rfl
def C97_6 : ACode := .seq (.reg L97_15) C97_5
theorem u97_6 : VC C97_6.eq_1 := rfl
def C97_7 : ACode := .cond (.t 44) (.reg L97_35) .skip
theorem u97_7 : VC C97_7.eq_1 := rfl
def C97_8 : ACode := .seq (.reg L97_28) C97_7
theorem u97_8 : VC C97_8.eq_1 := rfl
def C97_9 : ACode := .seq (.reg L97_40) .ret
theorem u97_9 : VC C97_9.eq_1 := rfl
def C97_10 : ACode := .seq (.reg L97_39) C97_9
theorem u97_10 : VC C97_10.eq_1 := rfl
def C97_11 : ACode := .seq C97_8 C97_10
theorem u97_11 : VC C97_11.eq_1 := rfl
def C97_12 : ACode := .seq (.reg L97_26) C97_11
theorem u97_12 : VC C97_12.eq_1 := rfl
def C97_13 : ACode := .seq C97_6 C97_12
theorem u97_13 : VC C97_13.eq_1 := rfl
def C97_14 : ACode := .seq C97_4 C97_13
theorem u97_14 : VC C97_14.eq_1 := rfl
def C97_15 : ACode := .seq (.reg L97_6) C97_14
theorem u97_15 : VC C97_15.eq_1 := rfl
def C97_16 : ACode := .seq C97_2 C97_15
theorem u97_16 : VC C97_16.eq_1 := rfl
def C97_17 : ACode := .seq (.reg L97_0) C97_16
theorem u97_17 : VC C97_17.eq_1 := rfl
def F97 : AFunc := ⟨64, [.cell 2 1 true], C97_17⟩
theorem cF97 : compB Try.prog 97 = some F97 := by kernel_rfl
attribute [local go_sem ↓] u97_0 u97_1 u97_2 u97_3 u97_4 u97_5 u97_6 u97_7 u97_8 u97_9 u97_11 u97_14 u97_15 u97_16 u97_17 v97_0 v97_1 v97_2 v97_3 v97_4 v97_5 v97_6 v97_7 v97_8 v97_9 v97_10 v97_11 v97_12 v97_13 v97_14 v97_15 v97_16 v97_17 v97_18 v97_19 v97_20 v97_21 v97_22 v97_23 v97_24 v97_25 v97_26 v97_27 v97_28 v97_29 v97_30 v97_31 v97_32 v97_33 v97_34 v97_35 v97_36 v97_37 v97_38 v97_39 v97_40
theorem c_aWrapper (b : Nat) (p : Int) (h : H) (r : Rd h b p) (hp : p ≤ 2 ^ 36) : callK (bm Try.prog 97 [.one (.ptr (some (b, 0)))] h) fun q h' => (∃ x l, q = .agg [x] ∧ NwQ h h' (.one x) l ∧ tinyQ l) ∧ Drew b p 47 h h' := by
  refine bm_of cF97 ?_
  have hbn := r.lt
  simp +contextual (maxSteps := 2000000) only [go_sem, Nat.reduceEqDiff, reduceCtorEq, Nat.reduceAdd, Nat.reduceLeDiff, F97]
  refine wp_call (c_pick b 8 p h r (by omega)) ?_
  rintro q h1 ⟨⟨k, rfl, _, _⟩, d1⟩
  obtain ⟨p1, hp1, hp2, r1⟩ := d1.ex
  by_cases e0 : k = 0
  · simp +contextual (maxSteps := 2000000) only [go_sem, Nat.reduceEqDiff, reduceCtorEq, Nat.reduceAdd, Nat.reduceLeDiff, decide_eq_true e0]
    refine wp_call (c_someSignature b p1 h1 r1 (by omega)) ?_
    rintro q h2 ⟨⟨x, l, rfl, z2, tl⟩, d2⟩
    have z2 := z2.from d1.st.n
    have d2 := (d2.then d1.st (by omega) hp2).more (show 1 + 46 ≤ 47 by omega)
    simp +contextual (maxSteps := 2000000) only [go_sem, Nat.reduceEqDiff, reduceCtorEq, Nat.reduceAdd, Nat.reduceLeDiff]
    exact gcK_drew r d2 ⟨⟨x, l, rfl, z2, tl⟩, d2⟩
  simp +contextual (maxSteps := 2000000) only [go_sem, Nat.reduceEqDiff, reduceCtorEq, Nat.reduceAdd, Nat.reduceLeDiff, decide_eq_false e0]
  refine wp_call (c_pick b 2 p1 h1 r1 (by omega)) ?_
  rintro q h2 ⟨⟨k, rfl, _, _⟩, d2⟩
  obtain ⟨p2, hq1, hq2, r2⟩ := d2.ex
  have d2 := d2.then d1.st (by omega) hp2
  apply joinC (P := Try.prog) (c := C97_13) (M := AWm b p h 1 3)
  · intro J
    by_cases e1 : k = 0
    · simp +contextual (maxSteps := 2000000) only [go_sem, Nat.reduceEqDiff, reduceCtorEq, Nat.reduceAdd, Nat.reduceLeDiff, decide_eq_true e1]
      refine wp_call (c_pick b 2 p2 h2 r2 (by omega)) ?_
      rintro q h3 ⟨⟨k3, rfl, _, _⟩, d3⟩
      have d3 := d3.then d2.st (by omega) (show p2 ≤ p + ((1 + 1 : Nat) : Int) by omega)
      simp +contextual (maxSteps := 2000000) only [go_sem, Nat.reduceEqDiff, reduceCtorEq, Nat.reduceAdd, Nat.reduceLeDiff]
      refine wp_lit (enc := encQ) (k := 4) (l := [⟨strOfNums [111, 119, 110], k3, false, 0⟩]) rfl rfl ?_
      intro h4 w4 g4 n4 b4
      simp +contextual (maxSteps := 2000000) only [go_sem, Nat.reduceEqDiff, reduceCtorEq, Nat.reduceAdd, Nat.reduceLeDiff]
      refine wp_appendD (h0 := h) lenQ (Nw.nil) (n4.sl lenQ) (Nat.le_trans d3.st.n g4.n) (by simp) ?_
      intro h5 s5 n5 st5 hb5
      obtain ⟨c5, rfl⟩ := n5.one
      have d5 := (d3.grow g4).stay st5 (fun i hi => by simp [baseOf] at hi) hbn
      simp +contextual (maxSteps := 2000000) only [go_sem, Nat.reduceEqDiff, reduceCtorEq, Nat.reduceAdd, Nat.reduceLeDiff]
      refine J _ _ _ ?_
      unfold AWm
      simp +contextual (maxSteps := 2000000) only [go_sem, Nat.reduceEqDiff, reduceCtorEq, Nat.reduceAdd, Nat.reduceLeDiff]
      refine ⟨⟨c5, _, rfl, n5, by simp, fun x hx => ?_⟩, d5⟩
      rw [List.nil_append] at hx
      rw [List.mem_singleton.1 hx]; exact Nat.le_of_ble_eq_true rfl
    · simp +contextual (maxSteps := 2000000) only [go_sem, Nat.reduceEqDiff, reduceCtorEq, Nat.reduceAdd, Nat.reduceLeDiff, decide_eq_false e1]
      refine J _ _ _ ?_
      unfold AWm
      simp +contextual (maxSteps := 2000000) only [go_sem, Nat.reduceEqDiff, reduceCtorEq, Nat.reduceAdd, Nat.reduceLeDiff]
      exact ⟨⟨_, [], rfl, .nil, by simp, fun x hx => by simp at hx⟩, d2.more (by omega)⟩
  rintro T L h3 ⟨t0, t2, l2, t3, ⟨s, l, l3, ns, hl1, hl2⟩, d3⟩
  obtain ⟨p3, hs1, hs2, r3⟩ := d3.ex
  simp +contextual (maxSteps := 2000000) only [go_sem, Nat.reduceEqDiff, reduceCtorEq, Nat.reduceAdd, Nat.reduceLeDiff, ↓u97_13, t0, t2, l2, t3, l3]
  refine wp_call (c_pick b 4 p3 h3 r3 (by omega)) ?_
  rintro q h4 ⟨⟨k, rfl, _, _⟩, d4⟩
  have ns4 := ns.drew d4 hbn
  obtain ⟨p4, hu1, hu2, r4⟩ := d4.ex
  have d4 := d4.then d3.st (by omega) hs2
  apply joinC (P := Try.prog) (c := C97_12) (M := AWm b p h 2 6)
  · intro J
    by_cases e1 : k = 0
    · simp +contextual (maxSteps := 2000000) only [go_sem, Nat.reduceEqDiff, reduceCtorEq, Nat.reduceAdd, Nat.reduceLeDiff, decide_eq_true e1, t0, t2, l2, t3, l3]
      refine wp_lit (enc := encS) (k := 1) (l := [strOfNums [97], strOfNums [116, 119, 111]]) rfl rfl ?_
      intro h5 w5 g5 n5 b5
      simp +contextual (maxSteps := 2000000) only [go_sem, Nat.reduceEqDiff, reduceCtorEq, Nat.reduceAdd, Nat.reduceLeDiff, t0, t2, l2, t3, l3]
      refine wp_call (c_of b p4 _ w5 h5 (r4.grow g5) (by omega) (n5.sl lenS) (fun i hi => Nat.lt_of_lt_of_le r4.lt (b5 i hi)) (by decide) (by decide)) ?_
      rintro q h6 ⟨⟨nm, hnm, rfl⟩, d6⟩
      have hnm : nm.size ≤ 10 := by
        simp only [List.mem_cons, List.not_mem_nil, or_false] at hnm
        rcases hnm with rfl | rfl <;> exact Nat.le_of_ble_eq_true rfl
      have ns6 := (ns4.grow g5).drew d6 hbn
      obtain ⟨p6, hv1, hv2, r6⟩ := d6.ex
      have d6 := (d6.pre g5).then d4.st (by omega) (show p4 ≤ p + ((3 + 1 : Nat) : Int) by omega)
      simp +contextual (maxSteps := 2000000) only [go_sem, Nat.reduceEqDiff, reduceCtorEq, Nat.reduceAdd, Nat.reduceLeDiff, t0, t2, l2, t3, l3]
      refine wp_call (c_pick b 2 p6 h6 r6 (by omega)) ?_
      rintro q h7 ⟨⟨k7, rfl, _, _⟩, d7⟩
      have ns7 := ns6.drew d7 hbn
      have d7 := d7.then d6.st (by omega) (show p6 ≤ p + ((3 + 1 + 1 : Nat) : Int) by omega)
      simp +contextual (maxSteps := 2000000) only [go_sem, Nat.reduceEqDiff, reduceCtorEq, Nat.reduceAdd, Nat.reduceLeDiff, t0, t2, l2, t3, l3]
      refine wp_lit (enc := encQ) (k := 4) (l := [⟨nm, 1, decide (k7 = 0), 0⟩]) rfl rfl ?_
      intro h8 w8 g8 n8 b8
      have ns8 := ns7.grow g8
      simp +contextual (maxSteps := 2000000) only [go_sem, Nat.reduceEqDiff, reduceCtorEq, Nat.reduceAdd, Nat.reduceLeDiff, t0, t2, l2, t3, l3]
      refine wp_appendD lenQ ns8 (n8.sl lenQ) (Nat.le_trans d7.st.n g8.n) (by simp; omega) ?_
      intro h9 s9 n9 st9 hb9
      obtain ⟨c9, rfl⟩ := n9.one
      have d9 := (d7.grow g8).stay st9 (fun i hi => (ns8.lt hi).2) hbn
      simp +contextual (maxSteps := 2000000) only [go_sem, Nat.reduceEqDiff, reduceCtorEq, Nat.reduceAdd, Nat.reduceLeDiff, t0, t2, l2, t3, l3]
      refine J _ _ _ ?_
      unfold AWm
      simp +contextual (maxSteps := 2000000) only [go_sem, Nat.reduceEqDiff, reduceCtorEq, Nat.reduceAdd, Nat.reduceLeDiff, t0, t2, l2, t3, l3]
      refine ⟨⟨c9, _, rfl, n9, by simp; omega, fun x hx => ?_⟩, d9⟩
      rcases List.mem_append.1 hx with hx | hx
      · exact hl2 x hx
      · rw [List.mem_singleton.1 hx]; exact hnm
    · simp +contextual (maxSteps := 2000000) only [go_sem, Nat.reduceEqDiff, reduceCtorEq, Nat.reduceAdd, Nat.reduceLeDiff, decide_eq_false e1, t0, t2, l2, t3, l3]
      refine J _ _ _ ?_
      unfold AWm
      simp +contextual (maxSteps := 2000000) only [go_sem, Nat.reduceEqDiff, reduceCtorEq, Nat.reduceAdd, Nat.reduceLeDiff, t0, t2, l2, t3, l3]
      exact ⟨⟨s, l, rfl, ns4, by omega, hl2⟩, d4.more (by omega)⟩
  rintro T L h5 ⟨t0, t2, l2, t3, ⟨s, l, l3, ns, hl1, hl2⟩, d5⟩
  simp +contextual (maxSteps := 2000000) only [go_sem, Nat.reduceEqDiff, reduceCtorEq, Nat.reduceAdd, Nat.reduceLeDiff, ↓u97_12, t0, t2, l2, t3, l3]
  refine wp_lit (enc := encQ) (k := 4) (l := [⟨strOfNums [114, 101, 115, 116], 2, false, 0⟩]) rfl rfl ?_
  intro h6 w6 g6 n6 b6
  have ns6 := ns.grow g6
  simp +contextual (maxSteps := 2000000) only [go_sem, Nat.reduceEqDiff, reduceCtorEq, Nat.reduceAdd, Nat.reduceLeDiff, t0, t2, l2, t3, l3]
  refine wp_appendD lenQ ns6 (n6.sl lenQ) (Nat.le_trans d5.st.n g6.n) (by simp; omega) ?_
  intro h7 s7 n7 st7 hb7
  obtain ⟨c7, rfl⟩ := n7.one
  have d7 := (d5.grow g6).stay st7 (fun i hi => (ns6.lt hi).2) hbn
  obtain ⟨p7, hv1, hv2, r7⟩ := d7.ex
  have hl7 : ∀ x ∈ l ++ [(⟨strOfNums [114, 101, 115, 116], 2, false, 0⟩ : Param)], x.name.size ≤ 10 := fun x hx => by
    rcases List.mem_append.1 hx with hx | hx
    · exact hl2 x hx
    · rw [List.mem_singleton.1 hx]; exact Nat.le_of_ble_eq_true rfl
  have hk7 : (l ++ [(⟨strOfNums [114, 101, 115, 116], 2, false, 0⟩ : Param)]).length ≤ 3 := by simp; omega
  generalize l ++ [(⟨strOfNums [114, 101, 115, 116], 2, false, 0⟩ : Param)] = m at n7 hl7 hk7
  simp +contextual (maxSteps := 2000000) only [go_sem, Nat.reduceEqDiff, reduceCtorEq, Nat.reduceAdd, Nat.reduceLeDiff, t0, t2, l2, t3, l3]
  refine wp_call (c_pick b 2 p7 h7 r7 (by omega)) ?_
  rintro q h8 ⟨⟨k, rfl, _, _⟩, d8⟩
  have n8 := n7.drew d8 hbn
  obtain ⟨p8, hx1, hx2, r8⟩ := d8.ex
  have d8 := d8.then d7.st (by omega) hv2
  apply joinC (P := Try.prog) (c := C97_10) (M := AWm b p h 4 9)
  · intro J
    by_cases e1 : k = 0
    · simp +contextual (maxSteps := 2000000) only [go_sem, Nat.reduceEqDiff, reduceCtorEq, Nat.reduceAdd, Nat.reduceLeDiff, decide_eq_true e1, t0, t2, l2, t3, l3]
      refine wp_lit (enc := encS) (k := 1) (l := [strOfNums [108, 111, 103], strOfNums [98], strOfNums [108, 111, 103]]) rfl rfl ?_
      intro h5 w5 g5 n5 b5
      simp +contextual (maxSteps := 2000000) only [go_sem, Nat.reduceEqDiff, reduceCtorEq, Nat.reduceAdd, Nat.reduceLeDiff, t0, t2, l2, t3, l3]
      refine wp_call (c_of b p8 _ w5 h5 (r8.grow g5) (by omega) (n5.sl lenS) (fun i hi => Nat.lt_of_lt_of_le r8.lt (b5 i hi)) (by decide) (by decide)) ?_
      rintro q h6 ⟨⟨nm, hnm, rfl⟩, d6⟩
      have hnm : nm.size ≤ 10 := by
        simp only [List.mem_cons, List.not_mem_nil, or_false] at hnm
        rcases hnm with rfl | rfl | rfl <;> exact Nat.le_of_ble_eq_true rfl
      have ns6 := (n8.grow g5).drew d6 hbn
      obtain ⟨p6, hy1, hy2, r6⟩ := d6.ex
      have d6 := (d6.pre g5).then d8.st (by omega) (show p8 ≤ p + ((6 + 1 : Nat) : Int) by omega)
      simp +contextual (maxSteps := 2000000) only [go_sem, Nat.reduceEqDiff, reduceCtorEq, Nat.reduceAdd, Nat.reduceLeDiff, t0, t2, l2, t3, l3]
      refine wp_call (c_pick b 2 p6 h6 r6 (by omega)) ?_
      rintro q h7 ⟨⟨k7, rfl, _, _⟩, d7⟩
      have ns7 := ns6.drew d7 hbn
      have d7 := d7.then d6.st (by omega) (show p6 ≤ p + ((6 + 1 + 1 : Nat) : Int) by omega)
      simp +contextual (maxSteps := 2000000) only [go_sem, Nat.reduceEqDiff, reduceCtorEq, Nat.reduceAdd, Nat.reduceLeDiff, t0, t2, l2, t3, l3]
      refine wp_lit (enc := encQ) (k := 4) (l := [⟨nm, 3, decide (k7 = 0), 0⟩]) rfl rfl ?_
      intro h8 w8 g8 n8 b8
      have ns8 := ns7.grow g8
      simp +contextual (maxSteps := 2000000) only [go_sem, Nat.reduceEqDiff, reduceCtorEq, Nat.reduceAdd, Nat.reduceLeDiff, t0, t2, l2, t3, l3]
      refine wp_appendD lenQ ns8 (n8.sl lenQ) (Nat.le_trans d7.st.n g8.n) (by simp; omega) ?_
      intro h9 s9 n9 st9 hb9
      obtain ⟨c9, rfl⟩ := n9.one
      have d9 := (d7.grow g8).stay st9 (fun i hi => (ns8.lt hi).2) hbn
      simp +contextual (maxSteps := 2000000) only [go_sem, Nat.reduceEqDiff, reduceCtorEq, Nat.reduceAdd, Nat.reduceLeDiff, t0, t2, l2, t3, l3]
      refine J _ _ _ ?_
      unfold AWm
      simp +contextual (maxSteps := 2000000) only [go_sem, Nat.reduceEqDiff, reduceCtorEq, Nat.reduceAdd, Nat.reduceLeDiff, t0, t2, l2, t3, l3]
      refine ⟨⟨c9, _, rfl, n9, by simp; omega, fun x hx => ?_⟩, d9⟩
      rcases List.mem_append.1 hx with hx | hx
      · exact hl7 x hx
      · rw [List.mem_singleton.1 hx]; exact hnm
    · simp +contextual (maxSteps := 2000000) only [go_sem, Nat.reduceEqDiff, reduceCtorEq, Nat.reduceAdd, Nat.reduceLeDiff, decide_eq_false e1, t0, t2, l2, t3, l3]
      refine J _ _ _ ?_
      unfold AWm
      simp +contextual (maxSteps := 2000000) only [go_sem, Nat.reduceEqDiff, reduceCtorEq, Nat.reduceAdd, Nat.reduceLeDiff, t0, t2, l2, t3, l3]
      exact ⟨⟨_, m, rfl, n8, by omega, hl7⟩, d8.more (by omega)⟩
  rintro T L h5 ⟨t0, t2, l2, t3, ⟨s, l, l3, ns, hl1, hl2⟩, d5⟩
  simp +contextual (maxSteps := 2000000) only [go_sem, Nat.reduceEqDiff, reduceCtorEq, Nat.reduceAdd, Nat.reduceLeDiff, ↓u97_10, t0, t2, l2, t3, l3]
  refine wp_lit (enc := encQ) (k := 4) (l := [⟨strOfNums [109, 111, 114, 101], 4, false, 0⟩]) rfl rfl ?_
  intro h6 w6 g6 n6 b6
  have ns6 := ns.grow g6
  simp +contextual (maxSteps := 2000000) only [go_sem, Nat.reduceEqDiff, reduceCtorEq, Nat.reduceAdd, Nat.reduceLeDiff, t0, t2, l2, t3, l3]
  refine wp_appendD lenQ ns6 (n6.sl lenQ) (Nat.le_trans d5.st.n g6.n) (by simp; omega) ?_
  intro h7 s7 n7 st7 hb7
  obtain ⟨c7, rfl⟩ := n7.one
  have d7 := ((d5.grow g6).stay st7 (fun i hi => (ns6.lt hi).2) hbn).more (show 9 ≤ 47 by omega)
  simp +contextual (maxSteps := 2000000) only [go_sem, Nat.reduceEqDiff, reduceCtorEq, Nat.reduceAdd, Nat.reduceLeDiff, t0, t2, l2, t3, l3]
  refine gcK_drew r d7 ⟨⟨c7, _, rfl, n7, ⟨by simp; omega, fun x hx => ?_⟩⟩, d7⟩
  rcases List.mem_append.1 hx with hx | hx
  · exact hl2 x hx
  · rw [List.mem_singleton.1 hx]; exact Nat.le_of_ble_eq_true rfl
/-! spec.DrawIsWrapper -/
def L46_0 : List AStep := [⟨.alloc 38 [(.sl none 0 (some 0))], (some 2), none, []⟩]
theorem v46_0 : VS L46_0.eq_1 := rfl
def L46_1 : List AStep := [⟨.call 97 [(.t 4)], (some 5), none, []⟩, ⟨.store 1 (.t 2) (.t 5), none, none, []⟩]
theorem v46_1 : VS L46_1.eq_1 := rfl
def L46_2 : List AStep := ⟨.mov (.t 0), (some 3), none, []⟩ :: ⟨.call 51 [(.t 3)], (some 4), none, []⟩ :: L46_1
theorem v46_2 : VS L46_2.eq_1 := rfl
def C46_0 : ACode := .seq (.reg L46_2) .ret
theorem u46_0 : VC C46_0.eq_1 := rfl
def C46_1 : ACode := .seq (.reg L46_0) C46_0
theorem u46_1 : VC C46_1.eq_1 := rfl
def F46 : AFunc := ⟨6, [.cell 2 1 true], C46_1⟩
theorem cF46 : compB Try.prog 46 = some F46 := by kernel_rfl
attribute [local go_sem ↓] u46_0 u46_1 v46_0 v46_1 v46_2
theorem c_drawIsWrapper (code : List Int) (v : CV) (h : H) (hl : Sl encBy 1 5 h (.one v) code) (hc : ∀ x ∈ code, 0 ≤ x ∧ x ≤ 255) : callK (bm Try.prog 46 [.one v] h) fun q h' => Grow h h' ∧ ∃ x l, q = .agg [x] ∧ NwQ h h' (.one x) l ∧ tinyQ l := by
  refine bm_of cF46 ?_
  simp +contextual (maxSteps := 2000000) only [go_sem, Nat.reduceEqDiff, reduceCtorEq, Nat.reduceAdd, Nat.reduceLeDiff, F46]
  refine wp_call (c_newReader code v h hl hc) ?_
  rintro q h1 ⟨g1, b, rfl, r1, hb⟩
  simp +contextual (maxSteps := 2000000) only [go_sem, Nat.reduceEqDiff, reduceCtorEq, Nat.reduceAdd, Nat.reduceLeDiff]
  refine wp_call (c_aWrapper b 0 h1 r1 (by decide)) ?_
  rintro q h2 ⟨⟨x, l, rfl, z2, tl⟩, d2⟩
  have z4 := z2.from g1.n
  have G := d2.out g1 hb
  simp +contextual (maxSteps := 2000000) only [go_sem, Nat.reduceEqDiff, reduceCtorEq, Nat.reduceAdd, Nat.reduceLeDiff]
  exact gcK_of ⟨G, x, l, rfl, z4, tl⟩ (fun hs _ => ⟨Grow.refl h, x, l, rfl, z4.scalar (by simpa [AV.scalar] using hs) h, tl⟩)
end Go.Proofs.Ytekkimfdcbgcoaa.Am
