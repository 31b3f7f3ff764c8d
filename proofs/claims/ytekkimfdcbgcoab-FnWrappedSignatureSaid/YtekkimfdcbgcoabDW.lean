/- Contracts: wrappers that are drawn. -/
import Derived.Test.YtekkimfdcbgcoabDT
namespace Go.Proofs.Ytekkimfdcbgcoab.Am
open Go
set_option maxRecDepth 100000
set_option maxHeartbeats 4000000
set_option linter.unusedSimpArgs false
set_option linter.unusedVariables false
attribute [local go_sem ↓] bv_t bv_c ev_t ev_c put_same put_ne put_none kill_at pro_at lb_same lb_ne start_zero start_succ wpC_seq wpC_reg wpC_cond wpC_block wpC_skip wpC_exit wpC_ret thenQ_normal thenQ_exit thenQ_ret inBlk_normal inBlk_exit inBlk_ret wpS_nil wpS_step wpS_again wpS_guard wpO_mov wpO_load wpO_faddr wpO_nilCheck wpO_pick wpO_build wpO_bin wpO_eqb wpO_eqst wpO_eqnil wpO_not wpO_conv wpO_bytesStr wpO_iaddr wpO_idxStr wpO_field wpO_extract wpO_len wpO_lenStr wpO_cap wpO_min wpO_slice wpO_sliceStr wpO_alloc wpO_box wpO_store wpO_call wpO_callv wpO_mkfn wpO_buildSlice wpO_mkslice wpO_append wpO_appz proA_nil proA_cons tmpX_nil tmpX_tmp tmpX_cell doneB_normal doneB_ret agK_cons agK_nil agK_guard agG_tt agG_ff agG_tf agG_ft agG_undef pureB_load results_one results_two results_nil resBs_cons resBs_nil resB_tmp resB_cell
attribute [local go_sem] kill_v kill_lp_ne kill_lp_same pro_v pro_lp_same pro_lp_ne av_v av_lp optB_some optX_some valX_eq ldX_lp ldX_v faX_lp faX_v ncX_lp ncX_ptr ncX_fn boxK_one boxK_agg stL_some stK_lp_one stK_lp_agg stK_v_one stK_v_agg proM_v proM_lp callG_mk callVG_mk callvK_fn fnG_mk ptrsA_nil ptrsA_cons callH_some whenA_true whenA_false guardH_tt guardH_ff guardH_tf guardH_ft guardH_undef agV_one agV_agg lenO_sl lenStrO_str notO_bool pickO_bool convO_int eqbO_bool eqnilO_sl extractO_tup capO_sl minO_int loadL_one loadL_all storeL_eq fillA_nil fillA_one fillA_agg nat_ge neg_ge nat_lt neg_lt buildO bin_add bin_sub bin_mul bin_eql bin_neq bin_lss bin_leq bin_gtr bin_geq str_eql str_neq str_lss str_leq str_gtr str_geq retK_some endK_mk gcK_same gcK_int gcK_bool tupO_one tupO_agg rdy_self ib ii Option.map_none Option.map_some Option.some.injEq exists_eq_left' exists_eq_left ne_eq not_false_eq_true if_true if_false List.map_cons List.map_nil List.getElem?_cons_zero List.getElem?_cons_succ List.length_cons List.length_nil List.take_succ_cons List.take_zero List.take_nil List.drop_succ_cons List.drop_zero List.drop_nil List.cons_append List.nil_append List.append_nil List.set_cons_zero List.set_cons_succ Nat.zero_add forall_const true_and and_true and_self Bool.false_eq_true false_implies true_implies implies_true Bool.not_true Bool.not_false Bool.not_eq_true' Bool.not_eq_false' beq_self_eq_true Bool.bne_true Bool.bne_false
attribute [local go_sem] lenI lenS lenP lenQ lenB lenL lenT encI_0 encS_0 encP_0 encP_1 encQ_0 encQ_1 encQ_2 encQ_3 encB_0 encB_1 encL_0 encL_1 encT_0 encT_1
attribute [local go_sem low] whenA_bool guardH_bool
/-- A list of parameters under way. -/
def AWm (b : Nat) (p : Int) (h : H) (k c : Nat) (T : Tb) (L : Lb) (h' : H) : Prop :=
  T 0 = .v (.one (.ptr (some (b, 0)))) ∧ T 2 = .lp 2 0 ∧ (L 2).2 = [.sl none 0 (some 0)] ∧ T 3 = .lp 3 0 ∧ (∃ s l, (L 3).2 = [s] ∧ NwQ h h' (.one s) l ∧ l.length ≤ k ∧ ∀ x ∈ l, x.name.size ≤ 10) ∧ Drew b p c h h'
/-! spec.aWrapper -/
def L85_0 : List AStep := [⟨.alloc 25 [(.sl none 0 (some 0))], (some 2), none, []⟩]
theorem v85_0 : VS L85_0.eq_1 := rfl
def L85_1 : List AStep := [⟨.bin .eql (.t 5) (.c (.int .i64 0)), (some 6), none, []⟩]
theorem v85_1 : VS L85_1.eq_1 := rfl
def L85_2 : List AStep := ⟨.mov (.t 0), (some 4), none, []⟩ :: ⟨.call 69 [(.t 4), (.c (.int .i64 8))], (some 5), none, []⟩ :: L85_1
theorem v85_2 : VS L85_2.eq_1 := rfl
def L85_3 : List AStep := [⟨.store 1 (.t 2) (.t 8), none, none, []⟩]
theorem v85_3 : VS L85_3.eq_1 := rfl
def L85_4 : List AStep := ⟨.mov (.t 0), (some 7), none, []⟩ :: ⟨.call 58 [(.t 7)], (some 8), none, []⟩ :: L85_3
theorem v85_4 : VS L85_4.eq_1 := rfl
def L85_5 : List AStep := [⟨.store 1 (.t 3) (.t 9), none, none, []⟩]
theorem v85_5 : VS L85_5.eq_1 := rfl
def L85_6 : List AStep := ⟨.build [(.sl none 0 (some 0))] [], (some 9), none, []⟩ :: ⟨.alloc 25 [(.sl none 0 (some 0))], (some 3), none, []⟩ :: L85_5
theorem v85_6 : VS L85_6.eq_1 := rfl
def L85_7 : List AStep := [⟨.bin .eql (.t 11) (.c (.int .i64 0)), (some 12), none, []⟩]
theorem v85_7 : VS L85_7.eq_1 := rfl
def L85_8 : List AStep := ⟨.mov (.t 0), (some 10), none, []⟩ :: ⟨.call 69 [(.t 10), (.c (.int .i64 2))], (some 11), none, []⟩ :: L85_7
theorem v85_8 : VS L85_8.eq_1 := rfl
def L85_9 : List AStep := [⟨.store 1 (.t 20) (.t 19), none, none, []⟩]
theorem v85_9 : VS L85_9.eq_1 := rfl
def L85_10 : List AStep := ⟨.append 39 4 40 (.t 14) (.t 18), (some 19), none, []⟩ :: ⟨.faddr 0 (.t 3), (some 20), none, []⟩ :: L85_9
theorem v85_10 : VS L85_10.eq_1 := rfl
def L85_11 : List AStep := ⟨.build [(.str (strOfNums [])), (.int .i64 0), (.bool false), (.int .i64 0)] [(0, 1, (.c (.str (strOfNums [111, 119, 110])))), (1, 1, (.t 16))], (some 17), none, []⟩ :: ⟨.buildSlice 39 1 [(.str (strOfNums [])), (.int .i64 0), (.bool false), (.int .i64 0)] [(0, 4, (.t 17))], (some 18), none, []⟩ :: L85_10
theorem v85_11 : VS L85_11.eq_1 := rfl
def L85_12 : List AStep := ⟨.mov (.t 0), (some 15), none, []⟩ :: ⟨.call 69 [(.t 15), (.c (.int .i64 2))], (some 16), none, [(.load 1 false (.t 13), (some 14), none)]⟩ :: L85_11
theorem v85_12 : VS L85_12.eq_1 := rfl
def L85_13 : List AStep := ⟨.faddr 0 (.t 3), (some 13), none, []⟩ :: ⟨.load 1 false (.t 13), (some 14), none, []⟩ :: L85_12
theorem v85_13 : VS L85_13.eq_1 := rfl
def L85_14 : List AStep := [⟨.bin .eql (.t 22) (.c (.int .i64 0)), (some 23), none, []⟩]
theorem v85_14 : VS L85_14.eq_1 := rfl
def L85_15 : List AStep := ⟨.mov (.t 0), (some 21), none, []⟩ :: ⟨.call 69 [(.t 21), (.c (.int .i64 4))], (some 22), none, []⟩ :: L85_14
theorem v85_15 : VS L85_15.eq_1 := rfl
def L85_16 : List AStep := [⟨.store 1 (.t 35) (.t 34), none, none, []⟩]
theorem v85_16 : VS L85_16.eq_1 := rfl
def L85_17 : List AStep := ⟨.append 39 4 40 (.t 25) (.t 33), (some 34), none, []⟩ :: ⟨.faddr 0 (.t 3), (some 35), none, []⟩ :: L85_16
theorem v85_17 : VS L85_17.eq_1 := rfl
def L85_18 : List AStep := ⟨.build [(.str (strOfNums [])), (.int .i64 0), (.bool false), (.int .i64 0)] [(0, 1, (.t 28)), (1, 1, (.c (.int .i64 1))), (2, 1, (.t 31))], (some 32), none, []⟩ :: ⟨.buildSlice 39 1 [(.str (strOfNums [])), (.int .i64 0), (.bool false), (.int .i64 0)] [(0, 4, (.t 32))], (some 33), none, []⟩ :: L85_17
theorem v85_18 : VS L85_18.eq_1 := rfl
def L85_19 : List AStep := ⟨.call 69 [(.t 29), (.c (.int .i64 2))], (some 30), none, [(.load 1 false (.t 24), (some 25), none)]⟩ :: ⟨.bin .eql (.t 30) (.c (.int .i64 0)), (some 31), none, []⟩ :: L85_18
theorem v85_19 : VS L85_19.eq_1 := rfl
def L85_20 : List AStep := ⟨.mov (.t 0), (some 29), none, []⟩ :: ⟨.call 129 [(.t 26), (.t 27)], (some 28), none, [(.load 1 false (.t 24), (some 25), none)]⟩ :: L85_19
theorem v85_20 : VS L85_20.eq_1 := rfl
def L85_21 : List AStep := ⟨.mov (.t 0), (some 26), none, []⟩ :: ⟨.buildSlice 9 2 [(.str (strOfNums []))] [(0, 1, (.c (.str (strOfNums [97])))), (1, 1, (.c (.str (strOfNums [116, 119, 111]))))], (some 27), none, []⟩ :: L85_20
theorem v85_21 : VS L85_21.eq_1 := rfl
def L85_22 : List AStep := ⟨.faddr 0 (.t 3), (some 24), none, []⟩ :: ⟨.load 1 false (.t 24), (some 25), none, []⟩ :: L85_21
theorem v85_22 : VS L85_22.eq_1 := rfl
def L85_23 : List AStep := [⟨.store 1 (.t 41) (.t 40), none, none, []⟩]
theorem v85_23 : VS L85_23.eq_1 := rfl
def L85_24 : List AStep := ⟨.append 39 4 40 (.t 37) (.t 39), (some 40), none, []⟩ :: ⟨.faddr 0 (.t 3), (some 41), none, []⟩ :: L85_23
theorem v85_24 : VS L85_24.eq_1 := rfl
def L85_25 : List AStep := ⟨.build [(.str (strOfNums [])), (.int .i64 0), (.bool false), (.int .i64 0)] [(0, 1, (.c (.str (strOfNums [114, 101, 115, 116])))), (1, 1, (.c (.int .i64 2)))], (some 38), none, []⟩ :: ⟨.buildSlice 39 1 [(.str (strOfNums [])), (.int .i64 0), (.bool false), (.int .i64 0)] [(0, 4, (.t 38))], (some 39), none, []⟩ :: L85_24
theorem v85_25 : VS L85_25.eq_1 := rfl
def L85_26 : List AStep := ⟨.faddr 0 (.t 3), (some 36), none, []⟩ :: ⟨.load 1 false (.t 36), (some 37), none, []⟩ :: L85_25
theorem v85_26 : VS L85_26.eq_1 := rfl
def L85_27 : List AStep := [⟨.bin .eql (.t 43) (.c (.int .i64 0)), (some 44), none, []⟩]
theorem v85_27 : VS L85_27.eq_1 := rfl
def L85_28 : List AStep := ⟨.mov (.t 0), (some 42), none, []⟩ :: ⟨.call 69 [(.t 42), (.c (.int .i64 2))], (some 43), none, []⟩ :: L85_27
theorem v85_28 : VS L85_28.eq_1 := rfl
def L85_29 : List AStep := [⟨.store 1 (.t 56) (.t 55), none, none, []⟩]
theorem v85_29 : VS L85_29.eq_1 := rfl
def L85_30 : List AStep := ⟨.append 39 4 40 (.t 46) (.t 54), (some 55), none, []⟩ :: ⟨.faddr 0 (.t 3), (some 56), none, []⟩ :: L85_29
theorem v85_30 : VS L85_30.eq_1 := rfl
def L85_31 : List AStep := ⟨.build [(.str (strOfNums [])), (.int .i64 0), (.bool false), (.int .i64 0)] [(0, 1, (.t 49)), (1, 1, (.c (.int .i64 3))), (2, 1, (.t 52))], (some 53), none, []⟩ :: ⟨.buildSlice 39 1 [(.str (strOfNums [])), (.int .i64 0), (.bool false), (.int .i64 0)] [(0, 4, (.t 53))], (some 54), none, []⟩ :: L85_30
theorem v85_31 : VS L85_31.eq_1 := rfl
def L85_32 : List AStep := ⟨.call 69 [(.t 50), (.c (.int .i64 2))], (some 51), none, [(.load 1 false (.t 45), (some 46), none)]⟩ :: ⟨.bin .eql (.t 51) (.c (.int .i64 0)), (some 52), none, []⟩ :: L85_31
theorem v85_32 : VS L85_32.eq_1 := rfl
def L85_33 : List AStep := ⟨.mov (.t 0), (some 50), none, []⟩ :: ⟨.call 129 [(.t 47), (.t 48)], (some 49), none, [(.load 1 false (.t 45), (some 46), none)]⟩ :: L85_32
theorem v85_33 : VS L85_33.eq_1 := rfl
def L85_34 : List AStep := ⟨.mov (.t 0), (some 47), none, []⟩ :: ⟨.buildSlice 9 3 [(.str (strOfNums []))] [(0, 1, (.c (.str (strOfNums [108, 111, 103])))), (1, 1, (.c (.str (strOfNums [98])))), (2, 1, (.c (.str (strOfNums [108, 111, 103]))))], (some 48), none, []⟩ :: L85_33
theorem v85_34 : VS L85_34.eq_1 := rfl
def L85_35 : List AStep := ⟨.faddr 0 (.t 3), (some 45), none, []⟩ :: ⟨.load 1 false (.t 45), (some 46), none, []⟩ :: L85_34
theorem v85_35 : VS L85_35.eq_1 := rfl
def L85_36 : List AStep := [⟨.store 1 (.t 62) (.t 61), none, none, []⟩]
theorem v85_36 : VS L85_36.eq_1 := rfl
def L85_37 : List AStep := ⟨.append 39 4 40 (.t 58) (.t 60), (some 61), none, []⟩ :: ⟨.faddr 0 (.t 3), (some 62), none, []⟩ :: L85_36
theorem v85_37 : VS L85_37.eq_1 := rfl
def L85_38 : List AStep := ⟨.build [(.str (strOfNums [])), (.int .i64 0), (.bool false), (.int .i64 0)] [(0, 1, (.c (.str (strOfNums [109, 111, 114, 101])))), (1, 1, (.c (.int .i64 4)))], (some 59), none, []⟩ :: ⟨.buildSlice 39 1 [(.str (strOfNums [])), (.int .i64 0), (.bool false), (.int .i64 0)] [(0, 4, (.t 59))], (some 60), none, []⟩ :: L85_37
theorem v85_38 : VS L85_38.eq_1 := rfl
def L85_39 : List AStep := ⟨.faddr 0 (.t 3), (some 57), none, []⟩ :: ⟨.load 1 false (.t 57), (some 58), none, []⟩ :: L85_38
theorem v85_39 : VS L85_39.eq_1 := rfl
def L85_40 : List AStep := [⟨.load 1 true (.t 3), (some 63), none, []⟩, ⟨.store 1 (.t 2) (.t 63), none, none, []⟩]
theorem v85_40 : VS L85_40.eq_1 := rfl
def C85_0 : ACode := .seq (.reg L85_4) .ret
theorem u85_0 : VC C85_0.eq_1 := rfl
def C85_1 : ACode := .cond (.t 6) C85_0 .skip
theorem u85_1 : VC C85_1.eq_1 := rfl
def C85_2 : ACode := .seq (.reg L85_2) C85_1
theorem u85_2 : VC C85_2.eq_1 := rfl
def C85_3 : ACode := .cond (.t 12) (.reg L85_13) .skip
theorem u85_3 : VC C85_3.eq_1 := rfl
def C85_4 : ACode := .seq (.reg L85_8) C85_3
theorem u85_4 : VC C85_4.eq_1 := rfl
def C85_5 : ACode := .cond (.t 23) (.reg L85_22) .skip
theorem u85_5 : VC C85_5.eq_1 := rfl
def C85_6 : ACode := .seq (.reg L85_15) C85_5
theorem u85_6 : VC C85_6.eq_1 := rfl
def C85_7 : ACode := .cond (.t 44) (.reg L85_35) .skip
theorem u85_7 : VC C85_7.eq_1 := rfl
def C85_8 : ACode := .seq (.reg L85_28) C85_7
theorem u85_8 : VC C85_8.eq_1 := rfl
def C85_9 : ACode := .seq (.reg L85_40) .ret
theorem u85_9 : VC C85_9.eq_1 := rfl
def C85_10 : ACode := .seq (.reg L85_39) C85_9
theorem u85_10 : VC C85_10.eq_1 := rfl
def C85_11 : ACode := .seq C85_8 C85_10
theorem u85_11 : VC C85_11.eq_1 := rfl
def C85_12 : ACode := .seq (.reg L85_26) C85_11
theorem u85_12 : VC C85_12.eq_1 := rfl
def C85_13 : ACode := .seq C85_6 C85_12
theorem u85_13 : VC C85_13.eq_1 := rfl
def C85_14 : ACode := .seq C85_4 C85_13
theorem u85_14 : VC C85_14.eq_1 := rfl
def C85_15 : ACode := .seq (.reg L85_6) C85_14
theorem u85_15 : VC C85_15.eq_1 := rfl
def C85_16 : ACode := .seq C85_2 C85_15
theorem u85_16 : VC C85_16.eq_1 := rfl
def C85_17 : ACode := .seq (.reg L85_0) C85_16
theorem u85_17 : VC C85_17.eq_1 := rfl
def F85 : AFunc := ⟨64, [.cell 2 1 true], C85_17⟩
theorem cF85 : compB Try.prog 85 = some F85 := by kernel_rfl
attribute [local go_sem ↓] u85_0 u85_1 u85_2 u85_3 u85_4 u85_5 u85_6 u85_7 u85_8 u85_9 u85_11 u85_14 u85_15 u85_16 u85_17 v85_0 v85_1 v85_2 v85_3 v85_4 v85_5 v85_6 v85_7 v85_8 v85_9 v85_10 v85_11 v85_12 v85_13 v85_14 v85_15 v85_16 v85_17 v85_18 v85_19 v85_20 v85_21 v85_22 v85_23 v85_24 v85_25 v85_26 v85_27 v85_28 v85_29 v85_30 v85_31 v85_32 v85_33 v85_34 v85_35 v85_36 v85_37 v85_38 v85_39 v85_40
theorem c_aWrapper (b : Nat) (p : Int) (h : H) (r : Rd h b p) (hp : p ≤ 2 ^ 36) : callK (bm Try.prog 85 [.one (.ptr (some (b, 0)))] h) fun q h' => (∃ x l, q = .agg [x] ∧ NwQ h h' (.one x) l ∧ tinyQ l) ∧ Drew b p 47 h h' := by
  refine bm_of cF85 ?_
  have hbn := r.lt
  simp +contextual (maxSteps := 2000000) only [go_sem, Nat.reduceEqDiff, reduceCtorEq, Nat.reduceAdd, Nat.reduceLeDiff, F85]
  refine wp_call (c_pick b 8 p h r (by omega)) ?_
  rintro q h1 ⟨⟨k, rfl, _, _⟩, d1⟩
  obtain ⟨p1, hp1, hp2, r1⟩ := d1.ex
  by_cases e0 : k = 0
  · simp +contextual (maxSteps := 2000000) only [go_sem, Nat.reduceEqDiff, reduceCtorEq, Nat.reduceAdd, Nat.reduceLeDiff, decide_eq_true e0]
    refine wp_call (c_someSignature b p1 h1 r1 (by omega)) ?_
    rintro q h2 ⟨⟨x, l, rfl, z2, tl⟩, d2⟩
    have z2 := z2.from d1.st.n
    have d2 := (d2.then d1.st (by omega) hp2).more (show 1 + 46 ≤ 47 by omega)
    simp +contextual (maxSteps := 2000000) only [go_sem, Nat.reduceEqDiff, reduceCtorEq, Nat.reduceAdd, Nat.reduceLeDiff]
    exact gcK_drew r d2 ⟨⟨x, l, rfl, z2, tl⟩, d2⟩
  simp +contextual (maxSteps := 2000000) only [go_sem, Nat.reduceEqDiff, reduceCtorEq, Nat.reduceAdd, Nat.reduceLeDiff, decide_eq_false e0]
  refine wp_call (c_pick b 2 p1 h1 r1 (by omega)) ?_
  rintro q h2 ⟨⟨k, rfl, _, _⟩, d2⟩
  obtain ⟨p2, hq1, hq2, r2⟩ := d2.ex
  have d2 := d2.then d1.st (by omega) hp2
  apply joinC (P := Try.prog) (c := C85_13) (M := AWm b p h 1 3)
  · intro J
    by_cases e1 : k = 0
    · simp +contextual (maxSteps := 2000000) only [go_sem, Nat.reduceEqDiff, reduceCtorEq, Nat.reduceAdd, Nat.reduceLeDiff, decide_eq_true e1]
      refine wp_call (c_pick b 2 p2 h2 r2 (by omega)) ?_
      rintro q h3 ⟨⟨k3, rfl, _, _⟩, d3⟩
      have d3 := d3.then d2.st (by omega) (show p2 ≤ p + ((1 + 1 : Nat) : Int) by omega)
      simp +contextual (maxSteps := 2000000) only [go_sem, Nat.reduceEqDiff, reduceCtorEq, Nat.reduceAdd, Nat.reduceLeDiff]
      refine wp_lit (enc := encQ) (k := 4) (l := [⟨strOfNums [111, 119, 110], k3, false, 0⟩]) rfl rfl ?_
      intro h4 w4 g4 n4 b4
      simp +contextual (maxSteps := 2000000) only [go_sem, Nat.reduceEqDiff, reduceCtorEq, Nat.reduceAdd, Nat.reduceLeDiff]
      refine wp_appendD (h0 := h) lenQ (Nw.nil) (n4.sl lenQ) (Nat.le_trans d3.st.n g4.n) (by simp) ?_
      intro h5 s5 n5 st5 hb5
      obtain ⟨c5, rfl⟩ := n5.one
      have d5 := (d3.grow g4).stay st5 (fun i hi => by simp [baseOf] at hi) hbn
      simp +contextual (maxSteps := 2000000) only [go_sem, Nat.reduceEqDiff, reduceCtorEq, Nat.reduceAdd, Nat.reduceLeDiff]
      refine J _ _ _ ?_
      unfold AWm
      simp +contextual (maxSteps := 2000000) only [go_sem, Nat.reduceEqDiff, reduceCtorEq, Nat.reduceAdd, Nat.reduceLeDiff]
      refine ⟨⟨c5, _, rfl, n5, by simp, fun x hx => ?_⟩, d5⟩
      rw [List.nil_append] at hx
      rw [List.mem_singleton.1 hx]; exact Nat.le_of_ble_eq_true rfl
    · simp +contextual (maxSteps := 2000000) only [go_sem, Nat.reduceEqDiff, reduceCtorEq, Nat.reduceAdd, Nat.reduceLeDiff, decide_eq_false e1]
      refine J _ _ _ ?_
      unfold AWm
      simp +contextual (maxSteps := 2000000) only [go_sem, Nat.reduceEqDiff, reduceCtorEq, Nat.reduceAdd, Nat.reduceLeDiff]
      exact ⟨⟨_, [], rfl, .nil, by simp, fun x hx => by simp at hx⟩, d2.more (by omega)⟩
  rintro T L h3 ⟨t0, t2, l2, t3, ⟨s, l, l3, ns, hl1, hl2⟩, d3⟩
  obtain ⟨p3, hs1, hs2, r3⟩ := d3.ex
  simp +contextual (maxSteps := 2000000) only [go_sem, Nat.reduceEqDiff, reduceCtorEq, Nat.reduceAdd, Nat.reduceLeDiff, ↓u85_13, t0, t2, l2, t3, l3]
  refine wp_call (c_pick b 4 p3 h3 r3 (by omega)) ?_
  rintro q h4 ⟨⟨k, rfl, _, _⟩, d4⟩
  have ns4 := ns.drew d4 hbn
  obtain ⟨p4, hu1, hu2, r4⟩ := d4.ex
  have d4 := d4.then d3.st (by omega) hs2
  apply joinC (P := Try.prog) (c := C85_12) (M := AWm b p h 2 6)
  · intro J
    by_cases e1 : k = 0
    · simp +contextual (maxSteps := 2000000) only [go_sem, Nat.reduceEqDiff, reduceCtorEq, Nat.reduceAdd, Nat.reduceLeDiff, decide_eq_true e1, t0, t2, l2, t3, l3]
      refine wp_lit (enc := encS) (k := 1) (l := [strOfNums [97], strOfNums [116, 119, 111]]) rfl rfl ?_
      intro h5 w5 g5 n5 b5
      simp +contextual (maxSteps := 2000000) only [go_sem, Nat.reduceEqDiff, reduceCtorEq, Nat.reduceAdd, Nat.reduceLeDiff, t0, t2, l2, t3, l3]
      refine wp_call (c_of b p4 _ w5 h5 (r4.grow g5) (by omega) (n5.sl lenS) (fun i hi => Nat.lt_of_lt_of_le r4.lt (b5 i hi)) (by decide) (by decide)) ?_
      rintro q h6 ⟨⟨nm, hnm, rfl⟩, d6⟩
      have hnm : nm.size ≤ 10 := by
        simp only [List.mem_cons, List.not_mem_nil, or_false] at hnm
        rcases hnm with rfl | rfl <;> exact Nat.le_of_ble_eq_true rfl
      have ns6 := (ns4.grow g5).drew d6 hbn
      obtain ⟨p6, hv1, hv2, r6⟩ := d6.ex
      have d6 := (d6.pre g5).then d4.st (by omega) (show p4 ≤ p + ((3 + 1 : Nat) : Int) by omega)
      simp +contextual (maxSteps := 2000000) only [go_sem, Nat.reduceEqDiff, reduceCtorEq, Nat.reduceAdd, Nat.reduceLeDiff, t0, t2, l2, t3, l3]
      refine wp_call (c_pick b 2 p6 h6 r6 (by omega)) ?_
      rintro q h7 ⟨⟨k7, rfl, _, _⟩, d7⟩
      have ns7 := ns6.drew d7 hbn
      have d7 := d7.then d6.st (by omega) (show p6 ≤ p + ((3 + 1 + 1 : Nat) : Int) by omega)
      simp +contextual (maxSteps := 2000000) only [go_sem, Nat.reduceEqDiff, reduceCtorEq, Nat.reduceAdd, Nat.reduceLeDiff, t0, t2, l2, t3, l3]
      refine wp_lit (enc := encQ) (k := 4) (l := [⟨nm, 1, decide (k7 = 0), 0⟩]) rfl rfl ?_
      intro h8 w8 g8 n8 b8
      have ns8 := ns7.grow g8
      simp +contextual (maxSteps := 2000000) only [go_sem, Nat.reduceEqDiff, reduceCtorEq, Nat.reduceAdd, Nat.reduceLeDiff, t0, t2, l2, t3, l3]
      refine wp_appendD lenQ ns8 (n8.sl lenQ) (Nat.le_trans d7.st.n g8.n) (by simp; omega) ?_
      intro h9 s9 n9 st9 hb9
      obtain ⟨c9, rfl⟩ := n9.one
      have d9 := (d7.grow g8).stay st9 (fun i hi => (ns8.lt hi).2) hbn
      simp +contextual (maxSteps := 2000000) only [go_sem, Nat.reduceEqDiff, reduceCtorEq, Nat.reduceAdd, Nat.reduceLeDiff, t0, t2, l2, t3, l3]
      refine J _ _ _ ?_
      unfold AWm
      simp +contextual (maxSteps := 2000000) only [go_sem, Nat.reduceEqDiff, reduceCtorEq, Nat.reduceAdd, Nat.reduceLeDiff, t0, t2, l2, t3, l3]
      refine ⟨⟨c9, _, rfl, n9, by simp; omega, fun x hx => ?_⟩, d9⟩
      rcases List.mem_append.1 hx with hx | hx
      · exact hl2 x hx
      · rw [List.mem_singleton.1 hx]; exact hnm
    · simp +contextual (maxSteps := 2000000) only [go_sem, Nat.reduceEqDiff, reduceCtorEq, Nat.reduceAdd, Nat.reduceLeDiff, decide_eq_false e1, t0, t2, l2, t3, l3]
      refine J _ _ _ ?_
      unfold AWm
      simp +contextual (maxSteps := 2000000) only [go_sem, Nat.reduceEqDiff, reduceCtorEq, Nat.reduceAdd, Nat.reduceLeDiff, t0, t2, l2, t3, l3]
      exact ⟨⟨s, l, rfl, ns4, by omega, hl2⟩, d4.more (by omega)⟩
  rintro T L h5 ⟨t0, t2, l2, t3, ⟨s, l, l3, ns, hl1, hl2⟩, d5⟩
  simp +contextual (maxSteps := 2000000) only [go_sem, Nat.reduceEqDiff, reduceCtorEq, Nat.reduceAdd, Nat.reduceLeDiff, ↓u85_12, t0, t2, l2, t3, l3]
  refine wp_lit (enc := encQ) (k := 4) (l := [⟨strOfNums [114, 101, 115, 116], 2, false, 0⟩]) rfl rfl ?_
  intro h6 w6 g6 n6 b6
  have ns6 := ns.grow g6
  simp +contextual (maxSteps := 2000000) only [go_sem, Nat.reduceEqDiff, reduceCtorEq, Nat.reduceAdd, Nat.reduceLeDiff, t0, t2, l2, t3, l3]
  refine wp_appendD lenQ ns6 (n6.sl lenQ) (Nat.le_trans d5.st.n g6.n) (by simp; omega) ?_
  intro h7 s7 n7 st7 hb7
  obtain ⟨c7, rfl⟩ := n7.one
  have d7 := (d5.grow g6).stay st7 (fun i hi => (ns6.lt hi).2) hbn
  obtain ⟨p7, hv1, hv2, r7⟩ := d7.ex
  have hl7 : ∀ x ∈ l ++ [(⟨strOfNums [114, 101, 115, 116], 2, false, 0⟩ : Param)], x.name.size ≤ 10 := fun x hx => by
    rcases List.mem_append.1 hx with hx | hx
    · exact hl2 x hx
    · rw [List.mem_singleton.1 hx]; exact Nat.le_of_ble_eq_true rfl
  have hk7 : (l ++ [(⟨strOfNums [114, 101, 115, 116], 2, false, 0⟩ : Param)]).length ≤ 3 := by simp; omega
  generalize l ++ [(⟨strOfNums [114, 101, 115, 116], 2, false, 0⟩ : Param)] = m at n7 hl7 hk7
  simp +contextual (maxSteps := 2000000) only [go_sem, Nat.reduceEqDiff, reduceCtorEq, Nat.reduceAdd, Nat.reduceLeDiff, t0, t2, l2, t3, l3]
  refine wp_call (c_pick b 2 p7 h7 r7 (by omega)) ?_
  rintro q h8 ⟨⟨k, rfl, _, _⟩, d8⟩
  have n8 := n7.drew d8 hbn
  obtain ⟨p8, hx1, hx2, r8⟩ := d8.ex
  have d8 := d8.then d7.st (by omega) hv2
  apply joinC (P := Try.prog) (c := C85_10) (M := AWm b p h 4 9)
  · intro J
    by_cases e1 : k = 0
    · simp +contextual (maxSteps := 2000000) only [go_sem, Nat.reduceEqDiff, reduceCtorEq, Nat.reduceAdd, Nat.reduceLeDiff, decide_eq_true e1, t0, t2, l2, t3, l3]
      refine wp_lit (enc := encS) (k := 1) (l := [strOfNums [108, 111, 103], strOfNums [98], strOfNums [108, 111, 103]]) rfl rfl ?_
      intro h5 w5 g5 n5 b5
      simp +contextual (maxSteps := 2000000) only [go_sem, Nat.reduceEqDiff, reduceCtorEq, Nat.reduceAdd, Nat.reduceLeDiff, t0, t2, l2, t3, l3]
      refine wp_call (c_of b p8 _ w5 h5 (r8.grow g5) (by omega) (n5.sl lenS) (fun i hi => Nat.lt_of_lt_of_le r8.lt (b5 i hi)) (by decide) (by decide)) ?_
      rintro q h6 ⟨⟨nm, hnm, rfl⟩, d6⟩
      have hnm : nm.size ≤ 10 := by
        simp only [List.mem_cons, List.not_mem_nil, or_false] at hnm
        rcases hnm with rfl | rfl | rfl <;> exact Nat.le_of_ble_eq_true rfl
      have ns6 := (n8.grow g5).drew d6 hbn
      obtain ⟨p6, hy1, hy2, r6⟩ := d6.ex
      have d6 := (d6.pre g5).then d8.st (by omega) (show p8 ≤ p + ((6 + 1 : Nat) : Int) by omega)
      simp +contextual (maxSteps := 2000000) only [go_sem, Nat.reduceEqDiff, reduceCtorEq, Nat.reduceAdd, Nat.reduceLeDiff, t0, t2, l2, t3, l3]
      refine wp_call (c_pick b 2 p6 h6 r6 (by omega)) ?_
      rintro q h7 ⟨⟨k7, rfl, _, _⟩, d7⟩
      have ns7 := ns6.drew d7 hbn
      have d7 := d7.then d6.st (by omega) (show p6 ≤ p + ((6 + 1 + 1 : Nat) : Int) by omega)
      simp +contextual (maxSteps := 2000000) only [go_sem, Nat.reduceEqDiff, reduceCtorEq, Nat.reduceAdd, Nat.reduceLeDiff, t0, t2, l2, t3, l3]
      refine wp_lit (enc := encQ) (k := 4) (l := [⟨nm, 3, decide (k7 = 0), 0⟩]) rfl rfl ?_
      intro h8 w8 g8 n8 b8
      have ns8 := ns7.grow g8
      simp +contextual (maxSteps := 2000000) only [go_sem, Nat.reduceEqDiff, reduceCtorEq, Nat.reduceAdd, Nat.reduceLeDiff, t0, t2, l2, t3, l3]
      refine wp_appendD lenQ ns8 (n8.sl lenQ) (Nat.le_trans d7.st.n g8.n) (by simp; omega) ?_
      intro h9 s9 n9 st9 hb9
      obtain ⟨c9, rfl⟩ := n9.one
      have d9 := (d7.grow g8).stay st9 (fun i hi => (ns8.lt hi).2) hbn
      simp +contextual (maxSteps := 2000000) only [go_sem, Nat.reduceEqDiff, reduceCtorEq, Nat.reduceAdd, Nat.reduceLeDiff, t0, t2, l2, t3, l3]
      refine J _ _ _ ?_
      unfold AWm
      simp +contextual (maxSteps := 2000000) only [go_sem, Nat.reduceEqDiff, reduceCtorEq, Nat.reduceAdd, Nat.reduceLeDiff, t0, t2, l2, t3, l3]
      refine ⟨⟨c9, _, rfl, n9, by simp; omega, fun x hx => ?_⟩, d9⟩
      rcases List.mem_append.1 hx with hx | hx
      · exact hl7 x hx
      · rw [List.mem_singleton.1 hx]; exact hnm
    · simp +contextual (maxSteps := 2000000) only [go_sem, Nat.reduceEqDiff, reduceCtorEq, Nat.reduceAdd, Nat.reduceLeDiff, decide_eq_false e1, t0, t2, l2, t3, l3]
      refine J _ _ _ ?_
      unfold AWm
      simp +contextual (maxSteps := 2000000) only [go_sem, Nat.reduceEqDiff, reduceCtorEq, Nat.reduceAdd, Nat.reduceLeDiff, t0, t2, l2, t3, l3]
      exact ⟨⟨_, m, rfl, n8, by omega, hl7⟩, d8.more (by omega)⟩
  rintro T L h5 ⟨t0, t2, l2, t3, ⟨s, l, l3, ns, hl1, hl2⟩, d5⟩
  simp +contextual (maxSteps := 2000000) only [go_sem, Nat.reduceEqDiff, reduceCtorEq, Nat.reduceAdd, Nat.reduceLeDiff, ↓u85_10, t0, t2, l2, t3, l3]
  refine wp_lit (enc := encQ) (k := 4) (l := [⟨strOfNums [109, 111, 114, 101], 4, false, 0⟩]) rfl rfl ?_
  intro h6 w6 g6 n6 b6
  have ns6 := ns.grow g6
  simp +contextual (maxSteps := 2000000) only [go_sem, Nat.reduceEqDiff, reduceCtorEq, Nat.reduceAdd, Nat.reduceLeDiff, t0, t2, l2, t3, l3]
  refine wp_appendD lenQ ns6 (n6.sl lenQ) (Nat.le_trans d5.st.n g6.n) (by simp; omega) ?_
  intro h7 s7 n7 st7 hb7
  obtain ⟨c7, rfl⟩ := n7.one
  have d7 := ((d5.grow g6).stay st7 (fun i hi => (ns6.lt hi).2) hbn).more (show 9 ≤ 47 by omega)
  simp +contextual (maxSteps := 2000000) only [go_sem, Nat.reduceEqDiff, reduceCtorEq, Nat.reduceAdd, Nat.reduceLeDiff, t0, t2, l2, t3, l3]
  refine gcK_drew r d7 ⟨⟨c7, _, rfl, n7, ⟨by simp; omega, fun x hx => ?_⟩⟩, d7⟩
  rcases List.mem_append.1 hx with hx | hx
  · exact hl2 x hx
  · rw [List.mem_singleton.1 hx]; exact Nat.le_of_ble_eq_true rfl
end Go.Proofs.Ytekkimfdcbgcoab.Am
