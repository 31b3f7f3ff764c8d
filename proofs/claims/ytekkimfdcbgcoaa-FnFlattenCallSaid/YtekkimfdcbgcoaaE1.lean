/- Contracts: the calls of a flat call, of both sides. -/
import Derived.Test.YtekkimfdcbgcoaaA3
import Derived.Test.YtekkimfdcbgcoaaB1
import Derived.Test.YtekkimfdcbgcoaaB2
import Derived.Test.YtekkimfdcbgcoaaDN
namespace Go.Proofs.Ytekkimfdcbgcoaa.Am
open Go
set_option maxRecDepth 100000
set_option maxHeartbeats 4000000
set_option linter.unusedSimpArgs false
set_option linter.unusedVariables false
attribute [local go_sem ↓] bv_t bv_c ev_t ev_c put_same put_ne put_none kill_at pro_at lb_same lb_ne start_zero start_succ wpC_seq wpC_reg wpC_cond wpC_block wpC_skip wpC_exit wpC_ret thenQ_normal thenQ_exit thenQ_ret inBlk_normal inBlk_exit inBlk_ret wpS_nil wpS_step wpS_again wpS_guard wpO_mov wpO_load wpO_faddr wpO_nilCheck wpO_pick wpO_build wpO_bin wpO_eqb wpO_eqst wpO_eqnil wpO_not wpO_conv wpO_bytesStr wpO_iaddr wpO_idxStr wpO_field wpO_extract wpO_len wpO_lenStr wpO_cap wpO_min wpO_slice wpO_sliceStr wpO_alloc wpO_box wpO_store wpO_call wpO_callv wpO_mkfn wpO_buildSlice wpO_mkslice wpO_append wpO_appz proA_nil proA_cons tmpX_nil tmpX_tmp tmpX_cell doneB_normal doneB_ret agK_cons agK_nil agK_guard agG_tt agG_ff agG_tf agG_ft agG_undef pureB_load results_one results_two results_nil resBs_cons resBs_nil resB_tmp resB_cell
attribute [local go_sem] kill_v kill_lp_ne kill_lp_same pro_v pro_lp_same pro_lp_ne av_v av_lp optB_some optX_some valX_eq ldX_lp ldX_v faX_lp faX_v ncX_lp ncX_ptr ncX_fn boxK_one boxK_agg stL_some stK_lp_one stK_lp_agg stK_v_one stK_v_agg proM_v proM_lp callG_mk callVG_mk callvK_fn fnG_mk ptrsA_nil ptrsA_cons callH_some whenA_true whenA_false guardH_tt guardH_ff guardH_tf guardH_ft guardH_undef agV_one agV_agg lenO_sl lenStrO_str notO_bool pickO_bool convO_int eqbO_bool eqnilO_sl extractO_tup capO_sl minO_int loadL_one loadL_all storeL_eq fillA_nil fillA_one fillA_agg nat_ge neg_ge nat_lt neg_lt buildO bin_add bin_sub bin_mul bin_eql bin_neq bin_lss bin_leq bin_gtr bin_geq str_eql str_neq str_lss str_leq str_gtr str_geq retK_some endK_mk gcK_same gcK_int gcK_bool tupO_one tupO_agg rdy_self ib ii Option.map_none Option.map_some Option.some.injEq exists_eq_left' exists_eq_left ne_eq not_false_eq_true if_true if_false List.map_cons List.map_nil List.getElem?_cons_zero List.getElem?_cons_succ List.length_cons List.length_nil List.take_succ_cons List.take_zero List.take_nil List.drop_succ_cons List.drop_zero List.drop_nil List.cons_append List.nil_append List.append_nil List.set_cons_zero List.set_cons_succ Nat.zero_add forall_const true_and and_true and_self Bool.false_eq_true false_implies true_implies implies_true Bool.not_true Bool.not_false Bool.not_eq_true' Bool.not_eq_false' beq_self_eq_true Bool.bne_true Bool.bne_false
attribute [local go_sem] lenI lenS lenP lenQ lenB lenL lenT encI_0 encS_0 encP_0 encP_1 encQ_0 encQ_1 encQ_2 encQ_3 encB_0 encB_1 encL_0 encL_1 encT_0 encT_1
attribute [local go_sem low] whenA_bool guardH_bool
attribute [local go_sem] lenC encC_0 encC_1 encC_2 encC_3
theorem noName_size : noName.size = 0 := strOfNums_size []
theorem miniC.of {l : List Arg} (h : l.length ≤ 16) (k : ∀ a ∈ l, a.name.size ≤ 6 ∧ a.list.length ≤ 8 ∧ a.pairs.length ≤ 8 ∧ ∀ x ∈ a.pairs, x.name.size ≤ 6) : miniC l := by
  refine ⟨by omega, fun a ha => ?_, fun a ha => ?_, fun a ha => ?_, fun a ha x hx => ?_, ?_⟩
  · have := (k a ha).1; omega
  · have := (k a ha).2.1; omega
  · have := (k a ha).2.2.1; omega
  · have := (k a ha).2.2.2 x hx; omega
  · have := wsum_bound (f := cellsEC) (B := 26) (l := l) (fun a ha => by have := k a ha; unfold cellsEC; omega)
    unfold cellsC
    omega
theorem miniC.callOf {f : Flat} (_h : miniF f) : miniC (callOf f) := by
  unfold Am.callOf
  split
  · rename_i hok
    obtain ⟨h1, h2, h3⟩ := okFlat_sm hok
    refine .of (by simp; omega) fun a ha => ?_
    rcases List.mem_append.1 ha with ha | ha
    · obtain ⟨x, hx, rfl⟩ := List.mem_map.1 ha
      have := noName_size
      exact ⟨by simp [plainA, this], by simp [plainA], by simp [plainA], fun y hy => by simp [plainA] at hy⟩
    · obtain ⟨x, hx, rfl⟩ := List.mem_map.1 ha
      exact ⟨h3 x hx, by simp [nameA], by simp [nameA], fun y hy => by simp [nameA] at hy⟩
  · exact .of (by simp) fun a ha => by simp at ha
theorem miniC.starCall {f : Flat} (_h : miniF f) : miniC (starCall f) := by
  unfold Am.starCall
  split
  · rename_i hok
    obtain ⟨h1, h2, h3⟩ := okFlat_sm hok
    have hz := noName_size
    refine .of (by unfold starPl starNl; split <;> split <;> simp) fun a ha => ?_
    rcases List.mem_append.1 ha with ha | ha
    · unfold starPl at ha
      split at ha
      · obtain rfl := List.mem_singleton.1 ha
        exact ⟨by simp [hz], h1, by simp, fun y hy => by simp at hy⟩
      · simp at ha
    · unfold starNl at ha
      split at ha
      · obtain rfl := List.mem_singleton.1 ha
        exact ⟨by simp [hz], by simp, h2, h3⟩
      · simp at ha
  · exact .of (by simp) fun a ha => by simp at ha
/-! slices.Clip(()impl.Arg,impl.Arg) -/
def L82_0 : List AStep := [⟨.mov (.c (.sl none 0 (some 0))), (some 2), none, []⟩]
theorem v82_0 : VS L82_0.eq_1 := rfl
def L82_1 : List AStep := [⟨.mov (.t 8), (some 2), none, []⟩]
theorem v82_1 : VS L82_1.eq_1 := rfl
def L82_2 : List AStep := ⟨.len (.t 6), (some 7), none, []⟩ :: ⟨.slice 64 4 (.t 3) none (some (.t 5)) (some (.t 7)), (some 8), none, []⟩ :: L82_1
theorem v82_2 : VS L82_2.eq_1 := rfl
def L82_3 : List AStep := ⟨.len (.t 4), (some 5), none, []⟩ :: ⟨.mov (.t 0), (some 6), none, []⟩ :: L82_2
theorem v82_3 : VS L82_3.eq_1 := rfl
def L82_4 : List AStep := ⟨.mov (.t 0), (some 3), none, []⟩ :: ⟨.mov (.t 0), (some 4), none, []⟩ :: L82_3
theorem v82_4 : VS L82_4.eq_1 := rfl
def C82_0 : ACode := .seq (.reg L82_4) .ret
theorem u82_0 : VC C82_0.eq_1 := rfl
def C82_1 : ACode := .seq (.reg L82_0) C82_0
theorem u82_1 : VC C82_1.eq_1 := rfl
def F82 : AFunc := ⟨9, [.tmp 2], C82_1⟩
theorem cF82 : compB Try.prog 82 = some F82 := by kernel_rfl
attribute [local go_sem ↓] u82_0 u82_1 v82_0 v82_1 v82_2 v82_3 v82_4
theorem c_clipC {h0 : H} (l : List Arg) (p : CV) (rs : List RArg) (h : H) (hl : NwC h0 h p rs l) : callK (bm Try.prog 82 [.one p] h) fun r h' => h' = h ∧ ∃ q, r = .one q ∧ NwC h0 h q rs l := by
  refine bm_of cF82 ?_
  obtain ⟨w, e1, n1, b1⟩ := hl.out.out.clipB (kd := .i64) (kd' := .i64)
  obtain ⟨c, rfl⟩ := n1.one
  simp +contextual (maxSteps := 2000000) only [go_sem, Nat.reduceEqDiff, reduceCtorEq, Nat.reduceAdd, Nat.reduceLeDiff, F82, hl.out.out.length, e1]
  exact ⟨_, rfl, hl.clip n1 b1⟩
/-! impl.CallOf -/
def L31_0 : List AStep := [⟨.box 27 (.t 0), (some 1), none, []⟩, ⟨.alloc 58 [(.sl none 0 (some 0))], (some 2), none, []⟩]
theorem v31_0 : VS L31_0.eq_1 := rfl
def L31_1 : List AStep := [⟨.not (.t 9), (some 10), none, []⟩]
theorem v31_1 : VS L31_1.eq_1 := rfl
def L31_2 : List AStep := ⟨.load 2 true (.t 1), (some 8), none, []⟩ :: ⟨.call 17 [(.t 8)], (some 9), none, []⟩ :: L31_1
theorem v31_2 : VS L31_2.eq_1 := rfl
def L31_3 : List AStep := [⟨.build [(.sl none 0 (some 0))] [], (some 11), none, []⟩, ⟨.store 1 (.t 2) (.t 11), none, none, []⟩]
theorem v31_3 : VS L31_3.eq_1 := rfl
def L31_4 : List AStep := [⟨.mov (.c (.sl none 0 (some 0))), (some 3), none, []⟩]
theorem v31_4 : VS L31_4.eq_1 := rfl
def L31_5 : List AStep := [⟨.len (.t 13), (some 14), none, []⟩, ⟨.mov (.c (.int .i64 0)), (some 15), none, []⟩]
theorem v31_5 : VS L31_5.eq_1 := rfl
def L31_6 : List AStep := ⟨.faddr 0 (.t 1), (some 12), none, []⟩ :: ⟨.load 1 false (.t 12), (some 13), none, []⟩ :: L31_5
theorem v31_6 : VS L31_6.eq_1 := rfl
def L31_7 : List AStep := [⟨.bin .lss (.t 15) (.t 14), (some 16), none, []⟩]
theorem v31_7 : VS L31_7.eq_1 := rfl
def L31_8 : List AStep := [⟨.mov (.t 18), (some 5), none, []⟩]
theorem v31_8 : VS L31_8.eq_1 := rfl
def L31_9 : List AStep := ⟨.iaddr 1 (.t 13) (.t 15), (some 17), none, []⟩ :: ⟨.load 1 false (.t 17), (some 18), none, []⟩ :: L31_8
theorem v31_9 : VS L31_9.eq_1 := rfl
def L31_10 : List AStep := [⟨.mov (.t 24), (some 3), none, []⟩]
theorem v31_10 : VS L31_10.eq_1 := rfl
def L31_11 : List AStep := ⟨.buildSlice 64 1 [(.int .i64 0), (.str (strOfNums [])), (.sl none 0 (some 0)), (.sl none 0 (some 0))] [(0, 4, (.t 22))], (some 23), none, []⟩ :: ⟨.append 64 4 72 (.t 19) (.t 23), (some 24), none, []⟩ :: L31_10
theorem v31_11 : VS L31_11.eq_1 := rfl
def L31_12 : List AStep := ⟨.buildSlice 3 1 [(.int .i64 0)] [(0, 1, (.t 20))], (some 21), none, []⟩ :: ⟨.build [(.int .i64 0), (.str (strOfNums [])), (.sl none 0 (some 0)), (.sl none 0 (some 0))] [(0, 1, (.c (.int .i64 0))), (2, 1, (.t 21))], (some 22), none, []⟩ :: L31_11
theorem v31_12 : VS L31_12.eq_1 := rfl
def L31_13 : List AStep := ⟨.mov (.t 3), (some 19), none, []⟩ :: ⟨.mov (.t 5), (some 20), none, []⟩ :: L31_12
theorem v31_13 : VS L31_13.eq_1 := rfl
def L31_14 : List AStep := [⟨.bin .add (.t 15) (.c (.int .i64 1)), (some 25), none, []⟩, ⟨.mov (.t 25), (some 15), none, []⟩]
theorem v31_14 : VS L31_14.eq_1 := rfl
def L31_15 : List AStep := [⟨.len (.t 27), (some 28), none, []⟩, ⟨.mov (.c (.int .i64 0)), (some 29), none, []⟩]
theorem v31_15 : VS L31_15.eq_1 := rfl
def L31_16 : List AStep := ⟨.faddr 1 (.t 1), (some 26), none, []⟩ :: ⟨.load 1 false (.t 26), (some 27), none, []⟩ :: L31_15
theorem v31_16 : VS L31_16.eq_1 := rfl
def L31_17 : List AStep := [⟨.bin .lss (.t 29) (.t 28), (some 30), none, []⟩]
theorem v31_17 : VS L31_17.eq_1 := rfl
def L31_18 : List AStep := [⟨.alloc 53 [(.str (strOfNums [])), (.int .i64 0)], (some 7), none, []⟩, ⟨.store 2 (.t 7) (.t 32), none, none, []⟩]
theorem v31_18 : VS L31_18.eq_1 := rfl
def L31_19 : List AStep := ⟨.iaddr 2 (.t 27) (.t 29), (some 31), none, []⟩ :: ⟨.load 2 true (.t 31), (some 32), none, []⟩ :: L31_18
theorem v31_19 : VS L31_19.eq_1 := rfl
def L31_20 : List AStep := [⟨.append 64 4 72 (.t 33) (.t 40), (some 41), none, []⟩, ⟨.mov (.t 41), (some 3), none, []⟩]
theorem v31_20 : VS L31_20.eq_1 := rfl
def L31_21 : List AStep := ⟨.build [(.int .i64 0), (.str (strOfNums [])), (.sl none 0 (some 0)), (.sl none 0 (some 0))] [(0, 1, (.c (.int .i64 2))), (1, 1, (.t 35)), (2, 1, (.t 38))], (some 39), none, []⟩ :: ⟨.buildSlice 64 1 [(.int .i64 0), (.str (strOfNums [])), (.sl none 0 (some 0)), (.sl none 0 (some 0))] [(0, 4, (.t 39))], (some 40), none, []⟩ :: L31_20
theorem v31_21 : VS L31_21.eq_1 := rfl
def L31_22 : List AStep := ⟨.load 1 false (.t 36), (some 37), none, []⟩ :: ⟨.buildSlice 3 1 [(.int .i64 0)] [(0, 1, (.t 37))], (some 38), none, []⟩ :: L31_21
theorem v31_22 : VS L31_22.eq_1 := rfl
def L31_23 : List AStep := ⟨.load 1 false (.t 34), (some 35), none, []⟩ :: ⟨.faddr 1 (.t 7), (some 36), none, []⟩ :: L31_22
theorem v31_23 : VS L31_23.eq_1 := rfl
def L31_24 : List AStep := ⟨.mov (.t 3), (some 33), none, []⟩ :: ⟨.faddr 0 (.t 7), (some 34), none, []⟩ :: L31_23
theorem v31_24 : VS L31_24.eq_1 := rfl
def L31_25 : List AStep := [⟨.bin .add (.t 29) (.c (.int .i64 1)), (some 42), none, []⟩, ⟨.mov (.t 42), (some 29), none, []⟩]
theorem v31_25 : VS L31_25.eq_1 := rfl
def L31_26 : List AStep := [⟨.build [(.sl none 0 (some 0))] [(0, 1, (.t 44))], (some 45), none, []⟩, ⟨.store 1 (.t 2) (.t 45), none, none, []⟩]
theorem v31_26 : VS L31_26.eq_1 := rfl
def L31_27 : List AStep := ⟨.mov (.t 3), (some 43), none, []⟩ :: ⟨.call 82 [(.t 43)], (some 44), none, []⟩ :: L31_26
theorem v31_27 : VS L31_27.eq_1 := rfl
def C31_0 : ACode := .seq (.reg L31_3) .ret
theorem u31_0 : VC C31_0.eq_1 := rfl
def C31_1 : ACode := .cond (.t 10) C31_0 .skip
theorem u31_1 : VC C31_1.eq_1 := rfl
def C31_2 : ACode := .seq (.reg L31_2) C31_1
theorem u31_2 : VC C31_2.eq_1 := rfl
def C31_3 : ACode := .cond (.t 16) .skip (.exit 0)
theorem u31_3 : VC C31_3.eq_1 := rfl
def C31_4 : ACode := .seq (.reg L31_9) (.reg L31_13)
theorem u31_4 : VC C31_4.eq_1 := rfl
def C31_5 : ACode := .block 1 C31_4
theorem u31_5 : VC C31_5.eq_1 := rfl
def C31_6 : ACode := .seq C31_5 (.reg L31_14)
theorem u31_6 : VC C31_6.eq_1 := rfl
def C31_7 : ACode := .seq C31_3 C31_6
theorem u31_7 : VC C31_7.eq_1 := rfl
def C31_8 : ACode := .seq (.reg L31_7) C31_7
theorem u31_8 : VC C31_8.eq_1 := rfl
def C31_9 : ACode := .block 0 (.loop C31_8)
theorem u31_9 : VC C31_9.eq_1 := rfl
def C31_10 : ACode := .seq (.reg L31_6) C31_9
theorem u31_10 : VC C31_10.eq_1 := rfl
def C31_11 : ACode := .cond (.t 30) .skip (.exit 2)
theorem u31_11 : VC C31_11.eq_1 := rfl
def C31_12 : ACode := .seq (.reg L31_19) (.reg L31_24)
theorem u31_12 : VC C31_12.eq_1 := rfl
def C31_13 : ACode := .block 3 C31_12
theorem u31_13 : VC C31_13.eq_1 := rfl
def C31_14 : ACode := .seq C31_13 (.reg L31_25)
theorem u31_14 : VC C31_14.eq_1 := rfl
def C31_15 : ACode := .seq C31_11 C31_14
theorem u31_15 : VC C31_15.eq_1 := rfl
def C31_16 : ACode := .seq (.reg L31_17) C31_15
theorem u31_16 : VC C31_16.eq_1 := rfl
def C31_17 : ACode := .block 2 (.loop C31_16)
theorem u31_17 : VC C31_17.eq_1 := rfl
def C31_18 : ACode := .seq (.reg L31_16) C31_17
theorem u31_18 : VC C31_18.eq_1 := rfl
def C31_19 : ACode := .seq (.reg L31_27) .ret
theorem u31_19 : VC C31_19.eq_1 := rfl
def C31_20 : ACode := .seq C31_18 C31_19
theorem u31_20 : VC C31_20.eq_1 := rfl
def C31_21 : ACode := .seq C31_10 C31_20
theorem u31_21 : VC C31_21.eq_1 := rfl
def C31_22 : ACode := .seq (.reg L31_4) C31_21
theorem u31_22 : VC C31_22.eq_1 := rfl
def C31_23 : ACode := .seq C31_2 C31_22
theorem u31_23 : VC C31_23.eq_1 := rfl
def C31_24 : ACode := .seq (.reg L31_0) C31_23
theorem u31_24 : VC C31_24.eq_1 := rfl
def F31 : AFunc := ⟨46, [.cell 2 1 true], C31_24⟩
theorem cF31 : compB Try.prog 31 = some F31 := by kernel_rfl
attribute [local go_sem ↓] u31_0 u31_1 u31_2 u31_3 u31_4 u31_5 u31_6 u31_7 u31_8 u31_9 u31_10 u31_11 u31_12 u31_13 u31_14 u31_15 u31_16 u31_17 u31_18 u31_19 u31_20 u31_21 u31_22 u31_23 u31_24 v31_0 v31_1 v31_2 v31_3 v31_4 v31_5 v31_6 v31_7 v31_8 v31_9 v31_10 v31_11 v31_12 v31_13 v31_14 v31_15 v31_16 v31_17 v31_18 v31_19 v31_20 v31_21 v31_22 v31_23 v31_24 v31_25 v31_26 v31_27
theorem k_iCallOf (f : Flat) (p n : CV) (h : H) (hf : SlF h p n f) (hn : miniF f) : callK (bm Try.prog 31 [.agg [p, n]] h) fun r h' => Grow h h' ∧ ∃ q R, r = .agg [q] ∧ NwC h h' q R (callOf f) := by
  refine bm_of cF31 ?_
  have hb1 := hn.pl
  have hb2 := hn.nl
  unfold callOf
  cases hok : okFlat f with
  | false =>
    simp +contextual (maxSteps := 2000000) only [go_sem, Nat.reduceEqDiff, reduceCtorEq, Nat.reduceAdd, Nat.reduceLeDiff, F31, c_ValidFlat _ _ _ _ hf.pl hf.nl hn.sm, hok, if_false]
    exact ⟨Grow.refl h, _, [], rfl, .nil⟩
  | true =>
  simp +contextual (maxSteps := 2000000) only [go_sem, Nat.reduceEqDiff, reduceCtorEq, Nat.reduceAdd, Nat.reduceLeDiff, F31, c_ValidFlat _ _ _ _ hf.pl hf.nl hn.sm, hok, if_true, hf.pl.len]
  refine wpC_loop (fun i T L h' => Grow h h' ∧ T 1 = .lp 1 0 ∧ (L 1).2 = [p, n] ∧ T 2 = .lp 2 0 ∧ (L 2).2 = [.sl none 0 (some 0)] ∧ (∃ c R, T 3 = .v (.one c) ∧ NwC h h' c R ((f.pl.take i).map plainA)) ∧ T 13 = .v (.one p) ∧ T 14 = .v (.one (.int .i64 f.pl.length)) ∧ T 15 = .v (.one (.int .i64 i))) f.pl.length ?_ ?_ (Nat.zero_le _) ?_
  · rintro i T L h' hi ⟨g, t1, l1, t2, l2, ⟨c, R, t3, x⟩, t13, t14, t15⟩
    have k := hf.grow g
    simp +contextual (maxSteps := 2000000) only [go_sem, Nat.reduceEqDiff, reduceCtorEq, Nat.reduceAdd, Nat.reduceLeDiff, t1, l1, t2, l2, t3, t13, t14, t15, k.pl.iaddr hi, k.pl.oneO hi, lt_true hi]
    refine wp_lit (enc := encI) (k := 1) (l := [f.pl[i]]) rfl rfl ?_
    intro h2 w2 g2 n2 b2
    obtain ⟨d, rfl⟩ := n2.one
    simp +contextual (maxSteps := 2000000) only [go_sem, Nat.reduceEqDiff, reduceCtorEq, Nat.reduceAdd, Nat.reduceLeDiff]
    refine wp_lit (enc := encC) (k := 4) (l := [⟨0, noName, d, .sl none 0 (some 0)⟩]) rfl rfl ?_
    intro h3 w3 g3 n3 b3
    simp +contextual (maxSteps := 2000000) only [go_sem, Nat.reduceEqDiff, reduceCtorEq, Nat.reduceAdd, Nat.reduceLeDiff, t1, l1, t2, l2, t3, t13, t14, t15]
    obtain ⟨e, rfl⟩ := n3.one
    refine wp_append lenC (x.out.out.grow (g2.trans g3)) (n3.sl lenC) (g.trans (g2.trans g3)) (by have := x.out.len; simp at this ⊢; omega) ?_
    intro h4 s4 g4 n4 st4 hb4
    obtain ⟨c4, rfl⟩ := n4.one
    simp +contextual (maxSteps := 2000000) only [go_sem, Nat.reduceEqDiff, reduceCtorEq, Nat.reduceAdd, Nat.reduceLeDiff, t1, l1, t2, l2, t3, t13, t14, t15]
    have y : NtC h' h3 ⟨0, noName, d, .sl none 0 (some 0)⟩ (plainA f.pl[i]) := ⟨rfl, rfl, n2.grow g3, .nil⟩
    have z := x.push (g2.trans g3) y (fun j hj => ⟨b2 j hj, Nat.lt_of_lt_of_le (n2.lt hj).1 g3.n⟩) (fun j hj => by simp [baseOf] at hj) Sep.nil.symm n4 st4 hb4 g.n
    refine ⟨g4, ⟨c4, R ++ [⟨0, noName, d, .sl none 0 (some 0)⟩], rfl, ?_⟩, by rw [wrap_next hi (Nat.lt_of_le_of_lt hb1 (by decide))]⟩
    rw [List.take_succ_eq_append_getElem hi, List.map_append]
    exact z
  · rintro T L h' ⟨g, t1, l1, t2, l2, ⟨c, R, t3, x⟩, t13, t14, t15⟩
    rw [List.take_length] at x
    have k := hf.grow g
    simp +contextual (maxSteps := 2000000) only [go_sem, Nat.reduceEqDiff, reduceCtorEq, Nat.reduceAdd, Nat.reduceLeDiff, t1, l1, t2, l2, t3, t13, t14, t15, k.nl.len, lt_false]
    refine wpC_loop (fun i T L h' => Grow h h' ∧ T 2 = .lp 2 0 ∧ (L 2).2 = [.sl none 0 (some 0)] ∧ (∃ c R, T 3 = .v (.one c) ∧ NwC h h' c R (f.pl.map plainA ++ (f.nl.take i).map nameA)) ∧ T 27 = .v (.one n) ∧ T 28 = .v (.one (.int .i64 f.nl.length)) ∧ T 29 = .v (.one (.int .i64 i))) f.nl.length ?_ ?_ (Nat.zero_le _) ?_
    · rintro i T L h' hi ⟨g, t2, l2, ⟨c, R, t3, x⟩, t27, t28, t29⟩
      have k := hf.grow g
      simp +contextual (maxSteps := 2000000) only [go_sem, Nat.reduceEqDiff, reduceCtorEq, Nat.reduceAdd, Nat.reduceLeDiff, t2, l2, t3, t27, t28, t29, k.nl.iaddr hi, k.nl.whole hi, encP, lt_true hi]
      refine wp_lit (enc := encI) (k := 1) (l := [f.nl[i].value]) rfl rfl ?_
      intro h2 w2 g2 n2 b2
      obtain ⟨d, rfl⟩ := n2.one
      simp +contextual (maxSteps := 2000000) only [go_sem, Nat.reduceEqDiff, reduceCtorEq, Nat.reduceAdd, Nat.reduceLeDiff]
      refine wp_lit (enc := encC) (k := 4) (l := [⟨2, f.nl[i].name, d, .sl none 0 (some 0)⟩]) rfl rfl ?_
      intro h3 w3 g3 n3 b3
      simp +contextual (maxSteps := 2000000) only [go_sem, Nat.reduceEqDiff, reduceCtorEq, Nat.reduceAdd, Nat.reduceLeDiff, t2, l2, t3, t27, t28, t29]
      obtain ⟨e, rfl⟩ := n3.one
      refine wp_append lenC (x.out.out.grow (g2.trans g3)) (n3.sl lenC) (g.trans (g2.trans g3)) (by have := x.out.len; simp at this ⊢; omega) ?_
      intro h4 s4 g4 n4 st4 hb4
      obtain ⟨c4, rfl⟩ := n4.one
      simp +contextual (maxSteps := 2000000) only [go_sem, Nat.reduceEqDiff, reduceCtorEq, Nat.reduceAdd, Nat.reduceLeDiff, t2, l2, t3, t27, t28, t29]
      have y : NtC h' h3 ⟨2, f.nl[i].name, d, .sl none 0 (some 0)⟩ (nameA f.nl[i]) := ⟨rfl, rfl, n2.grow g3, .nil⟩
      have z := x.push (g2.trans g3) y (fun j hj => ⟨b2 j hj, Nat.lt_of_lt_of_le (n2.lt hj).1 g3.n⟩) (fun j hj => by simp [baseOf] at hj) Sep.nil.symm n4 st4 hb4 g.n
      refine ⟨g4, ⟨c4, R ++ [⟨2, f.nl[i].name, d, .sl none 0 (some 0)⟩], rfl, ?_⟩, by rw [wrap_next hi (Nat.lt_of_le_of_lt hb2 (by decide))]⟩
      rw [List.take_succ_eq_append_getElem hi, List.map_append, ← List.append_assoc]
      exact z
    · rintro T L h' ⟨g, t2, l2, ⟨c, R, t3, x⟩, t27, t28, t29⟩
      rw [List.take_length] at x
      simp +contextual (maxSteps := 2000000) only [go_sem, Nat.reduceEqDiff, reduceCtorEq, Nat.reduceAdd, Nat.reduceLeDiff, t2, l2, t3, t27, t28, t29, lt_false]
      refine wp_call (c_clipC _ _ _ h' x) ?_
      rintro r h5 ⟨rfl, q, rfl, x⟩
      simp +contextual (maxSteps := 2000000) only [go_sem, Nat.reduceEqDiff, reduceCtorEq, Nat.reduceAdd, Nat.reduceLeDiff, t2, l2]
      exact gcK_of ⟨g, _, _, rfl, x⟩ (fun hs _ => ⟨Grow.refl h, _, _, rfl, x.scalar (by simpa [AV.scalar] using hs) h⟩)
    · simp +contextual (maxSteps := 2000000) only [go_sem, Nat.reduceEqDiff, reduceCtorEq, Nat.reduceAdd, Nat.reduceLeDiff, t2, l2, t3]
      exact ⟨g, ⟨c, R, rfl, by simpa [rdy] using x⟩, rfl⟩
  · simp +contextual (maxSteps := 2000000) only [go_sem, Nat.reduceEqDiff, reduceCtorEq, Nat.reduceAdd, Nat.reduceLeDiff]
    exact ⟨Grow.refl h, ⟨_, [], rfl, .nil⟩, rfl⟩
end Go.Proofs.Ytekkimfdcbgcoaa.Am
