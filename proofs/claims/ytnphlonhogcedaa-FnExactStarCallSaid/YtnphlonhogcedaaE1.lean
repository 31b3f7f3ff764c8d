/- Contracts: the calls of a flat call, of both sides. -/
import Derived.Test.YtnphlonhogcedaaA3
import Derived.Test.YtnphlonhogcedaaB1
import Derived.Test.YtnphlonhogcedaaB2
import Derived.Test.YtnphlonhogcedaaDN
namespace Go.Proofs.Ytnphlonhogcedaa.Am
open Go
set_option maxRecDepth 100000
set_option maxHeartbeats 4000000
set_option linter.unusedSimpArgs false
set_option linter.unusedVariables false
attribute [local go_sem ↓] bv_t bv_c ev_t ev_c put_same put_ne put_none kill_at pro_at lb_same lb_ne start_zero start_succ wpC_seq wpC_reg wpC_cond wpC_block wpC_skip wpC_exit wpC_ret thenQ_normal thenQ_exit thenQ_ret inBlk_normal inBlk_exit inBlk_ret wpS_nil wpS_step wpS_again wpS_guard wpO_mov wpO_load wpO_faddr wpO_nilCheck wpO_pick wpO_build wpO_bin wpO_eqb wpO_eqst wpO_eqnil wpO_not wpO_conv wpO_bytesStr wpO_iaddr wpO_idxStr wpO_field wpO_extract wpO_len wpO_lenStr wpO_cap wpO_min wpO_slice wpO_sliceStr wpO_alloc wpO_box wpO_store wpO_call wpO_callv wpO_mkfn wpO_buildSlice wpO_mkslice wpO_append wpO_appz proA_nil proA_cons tmpX_nil tmpX_tmp tmpX_cell doneB_normal doneB_ret agK_cons agK_nil pureB_load results_one results_two results_nil resBs_cons resBs_nil resB_tmp resB_cell
attribute [local go_sem] kill_v kill_lp_ne kill_lp_same pro_v pro_lp_same pro_lp_ne av_v av_lp optB_some optX_some valX_eq ldX_lp ldX_v faX_lp faX_v ncX_lp ncX_ptr ncX_fn boxK_one boxK_agg stL_some stK_lp_one stK_lp_agg stK_v_one stK_v_agg proM_v proM_lp callG_mk callVG_mk callvK_fn fnG_mk ptrsA_nil ptrsA_cons callH_some whenA_true whenA_false guardH_tt guardH_ff guardH_tf guardH_ft guardH_undef agV_one agV_agg lenO_sl lenStrO_str notO_bool pickO_bool convO_int eqbO_bool eqnilO_sl extractO_tup capO_sl minO_int loadL_one loadL_all storeL_eq fillA_nil fillA_one fillA_agg nat_ge neg_ge nat_lt neg_lt buildO bin_add bin_sub bin_mul bin_eql bin_neq bin_lss bin_leq bin_gtr bin_geq str_eql str_neq str_lss str_leq str_gtr str_geq retK_some endK_mk gcK_same gcK_int gcK_bool tupO_one tupO_agg rdy_self ib ii Option.map_none Option.map_some Option.some.injEq exists_eq_left' exists_eq_left ne_eq not_false_eq_true if_true if_false List.map_cons List.map_nil List.getElem?_cons_zero List.getElem?_cons_succ List.length_cons List.length_nil List.take_succ_cons List.take_zero List.take_nil List.drop_succ_cons List.drop_zero List.drop_nil List.cons_append List.nil_append List.append_nil List.set_cons_zero List.set_cons_succ Nat.zero_add forall_const true_and and_true and_self Bool.false_eq_true false_implies true_implies implies_true Bool.not_true Bool.not_false Bool.not_eq_true' Bool.not_eq_false' beq_self_eq_true Bool.bne_true Bool.bne_false
attribute [local go_sem] lenI lenS lenP lenQ lenB lenL lenT encI_0 encS_0 encP_0 encP_1 encQ_0 encQ_1 encQ_2 encQ_3 encB_0 encB_1 encL_0 encL_1 encT_0 encT_1
attribute [local go_sem low] whenA_bool guardH_bool
attribute [local go_sem] lenC encC_0 encC_1 encC_2 encC_3
theorem noName_size : noName.size = 0 := strOfNums_size []
theorem miniC.of {l : List Arg} (h : l.length ≤ 16) (k : ∀ a ∈ l, a.name.size ≤ 6 ∧ a.list.length ≤ 8 ∧ a.pairs.length ≤ 8 ∧ ∀ x ∈ a.pairs, x.name.size ≤ 6) : miniC l := by
  refine ⟨by omega, fun a ha => ?_, fun a ha => ?_, fun a ha => ?_, fun a ha x hx => ?_, ?_⟩
  · have := (k a ha).1; omega
  · have := (k a ha).2.1; omega
  · have := (k a ha).2.2.1; omega
  · have := (k a ha).2.2.2 x hx; omega
  · have := wsum_bound (f := cellsEC) (B := 26) (l := l) (fun a ha => by have := k a ha; unfold cellsEC; omega)
    unfold cellsC
    omega
theorem miniC.callOf {f : Flat} (_h : miniF f) : miniC (callOf f) := by
  unfold Am.callOf
  split
  · rename_i hok
    obtain ⟨h1, h2, h3⟩ := okFlat_sm hok
    refine .of (by simp; omega) fun a ha => ?_
    rcases List.mem_append.1 ha with ha | ha
    · obtain ⟨x, hx, rfl⟩ := List.mem_map.1 ha
      have := noName_size
      exact ⟨by simp [plainA, this], by simp [plainA], by simp [plainA], fun y hy => by simp [plainA] at hy⟩
    · obtain ⟨x, hx, rfl⟩ := List.mem_map.1 ha
      exact ⟨h3 x hx, by simp [nameA], by simp [nameA], fun y hy => by simp [nameA] at hy⟩
  · exact .of (by simp) fun a ha => by simp at ha
theorem miniC.starCall {f : Flat} (_h : miniF f) : miniC (starCall f) := by
  unfold Am.starCall
  split
  · rename_i hok
    obtain ⟨h1, h2, h3⟩ := okFlat_sm hok
    have hz := noName_size
    refine .of (by unfold starPl starNl; split <;> split <;> simp) fun a ha => ?_
    rcases List.mem_append.1 ha with ha | ha
    · unfold starPl at ha
      split at ha
      · obtain rfl := List.mem_singleton.1 ha
        exact ⟨by simp [hz], h1, by simp, fun y hy => by simp at hy⟩
      · simp at ha
    · unfold starNl at ha
      split at ha
      · obtain rfl := List.mem_singleton.1 ha
        exact ⟨by simp [hz], by simp, h2, h3⟩
      · simp at ha
  · exact .of (by simp) fun a ha => by simp at ha
section
variable {P : Program} {T : Tb} {L : Lb} {h : H} {Q : PostC} {K : Post}
/-! slices.Clip(()impl.Arg,impl.Arg) -/
def L81_0 : List AStep := [⟨.mov (.c (.sl none 0 (some 0))), (some 2), none, []⟩]
theorem v81_0 : wpS P L81_0 T L (rdy h) K = wpS P ([⟨.mov (.c (.sl none 0 (some 0))), (some 2), none, []⟩]) T L (rdy h) K := rfl
def L81_1 : List AStep := [⟨.mov (.t 8), (some 2), none, []⟩]
theorem v81_1 : wpS P L81_1 T L (rdy h) K = wpS P ([⟨.mov (.t 8), (some 2), none, []⟩]) T L (rdy h) K := rfl
def L81_2 : List AStep := ⟨.len (.t 6), (some 7), none, []⟩ :: ⟨.slice 36 4 (.t 3) none (some (.t 5)) (some (.t 7)), (some 8), none, []⟩ :: L81_1
theorem v81_2 : wpS P L81_2 T L (rdy h) K = wpS P (⟨.len (.t 6), (some 7), none, []⟩ :: ⟨.slice 36 4 (.t 3) none (some (.t 5)) (some (.t 7)), (some 8), none, []⟩ :: L81_1) T L (rdy h) K := rfl
def L81_3 : List AStep := ⟨.len (.t 4), (some 5), none, []⟩ :: ⟨.mov (.t 0), (some 6), none, []⟩ :: L81_2
theorem v81_3 : wpS P L81_3 T L (rdy h) K = wpS P (⟨.len (.t 4), (some 5), none, []⟩ :: ⟨.mov (.t 0), (some 6), none, []⟩ :: L81_2) T L (rdy h) K := rfl
def L81_4 : List AStep := ⟨.mov (.t 0), (some 3), none, []⟩ :: ⟨.mov (.t 0), (some 4), none, []⟩ :: L81_3
theorem v81_4 : wpS P L81_4 T L (rdy h) K = wpS P (⟨.mov (.t 0), (some 3), none, []⟩ :: ⟨.mov (.t 0), (some 4), none, []⟩ :: L81_3) T L (rdy h) K := rfl
def C81_0 : ACode := .seq (.reg L81_4) .ret
theorem u81_0 : wpC P C81_0 T L (rdy h) Q = wpC P (.seq (.reg L81_4) .ret) T L (rdy h) Q := rfl
def C81_1 : ACode := .seq (.reg L81_0) C81_0
theorem u81_1 : wpC P C81_1 T L (rdy h) Q = wpC P (.seq (.reg L81_0) C81_0) T L (rdy h) Q := rfl
def F81 : AFunc := ⟨9, [.tmp 2], C81_1⟩
theorem cF81 : compB Try.prog 81 = some F81 := by kernel_rfl
end
attribute [local go_sem ↓] u81_0 u81_1 v81_0 v81_1 v81_2 v81_3 v81_4
theorem c_clipC {h0 : H} (l : List Arg) (p : CV) (rs : List RArg) (h : H) (hl : NwC h0 h p rs l) : callK (bm Try.prog 81 [.one p] h) fun r h' => h' = h ∧ ∃ q, r = .one q ∧ NwC h0 h q rs l := by
  refine bm_of cF81 ?_
  obtain ⟨w, e1, n1, b1⟩ := hl.out.out.clipB (kd := .i64) (kd' := .i64)
  obtain ⟨c, rfl⟩ := n1.one
  simp +contextual (maxSteps := 2000000) only [go_sem, Nat.reduceEqDiff, reduceCtorEq, Nat.reduceAdd, Nat.reduceLeDiff, F81, hl.out.out.length, e1]
  exact ⟨_, rfl, hl.clip n1 b1⟩
section
variable {P : Program} {T : Tb} {L : Lb} {h : H} {Q : PostC} {K : Post}
/-! spec.StarCall -/
def L44_0 : List AStep := [⟨.box 30 (.t 0), (some 1), none, []⟩, ⟨.alloc 25 [(.sl none 0 (some 0))], (some 2), none, []⟩]
theorem v44_0 : wpS P L44_0 T L (rdy h) K = wpS P ([⟨.box 30 (.t 0), (some 1), none, []⟩, ⟨.alloc 25 [(.sl none 0 (some 0))], (some 2), none, []⟩]) T L (rdy h) K := rfl
def L44_1 : List AStep := [⟨.not (.t 5), (some 6), none, []⟩]
theorem v44_1 : wpS P L44_1 T L (rdy h) K = wpS P ([⟨.not (.t 5), (some 6), none, []⟩]) T L (rdy h) K := rfl
def L44_2 : List AStep := ⟨.load 2 true (.t 1), (some 4), none, []⟩ :: ⟨.call 105 [(.t 4)], (some 5), none, []⟩ :: L44_1
theorem v44_2 : wpS P L44_2 T L (rdy h) K = wpS P (⟨.load 2 true (.t 1), (some 4), none, []⟩ :: ⟨.call 105 [(.t 4)], (some 5), none, []⟩ :: L44_1) T L (rdy h) K := rfl
def L44_3 : List AStep := [⟨.build [(.sl none 0 (some 0))] [], (some 7), none, []⟩, ⟨.store 1 (.t 2) (.t 7), none, none, []⟩]
theorem v44_3 : wpS P L44_3 T L (rdy h) K = wpS P ([⟨.build [(.sl none 0 (some 0))] [], (some 7), none, []⟩, ⟨.store 1 (.t 2) (.t 7), none, none, []⟩]) T L (rdy h) K := rfl
def L44_4 : List AStep := [⟨.alloc 25 [(.sl none 0 (some 0))], (some 3), none, []⟩, ⟨.store 1 (.t 3) (.t 9), none, none, []⟩]
theorem v44_4 : wpS P L44_4 T L (rdy h) K = wpS P ([⟨.alloc 25 [(.sl none 0 (some 0))], (some 3), none, []⟩, ⟨.store 1 (.t 3) (.t 9), none, none, []⟩]) T L (rdy h) K := rfl
def L44_5 : List AStep := ⟨.buildSlice 36 0 [(.int .i64 0), (.str (strOfNums [])), (.sl none 0 (some 0)), (.sl none 0 (some 0))] [], (some 8), none, []⟩ :: ⟨.build [(.sl none 0 (some 0))] [(0, 1, (.t 8))], (some 9), none, []⟩ :: L44_4
theorem v44_5 : wpS P L44_5 T L (rdy h) K = wpS P (⟨.buildSlice 36 0 [(.int .i64 0), (.str (strOfNums [])), (.sl none 0 (some 0)), (.sl none 0 (some 0))] [], (some 8), none, []⟩ :: ⟨.build [(.sl none 0 (some 0))] [(0, 1, (.t 8))], (some 9), none, []⟩ :: L44_4) T L (rdy h) K := rfl
def L44_6 : List AStep := [⟨.len (.t 11), (some 12), none, []⟩, ⟨.bin .gtr (.t 12) (.c (.int .i64 0)), (some 13), none, []⟩]
theorem v44_6 : wpS P L44_6 T L (rdy h) K = wpS P ([⟨.len (.t 11), (some 12), none, []⟩, ⟨.bin .gtr (.t 12) (.c (.int .i64 0)), (some 13), none, []⟩]) T L (rdy h) K := rfl
def L44_7 : List AStep := ⟨.faddr 0 (.t 1), (some 10), none, []⟩ :: ⟨.load 1 false (.t 10), (some 11), none, []⟩ :: L44_6
theorem v44_7 : wpS P L44_7 T L (rdy h) K = wpS P (⟨.faddr 0 (.t 1), (some 10), none, []⟩ :: ⟨.load 1 false (.t 10), (some 11), none, []⟩ :: L44_6) T L (rdy h) K := rfl
def L44_8 : List AStep := [⟨.store 1 (.t 23) (.t 22), none, none, []⟩]
theorem v44_8 : wpS P L44_8 T L (rdy h) K = wpS P ([⟨.store 1 (.t 23) (.t 22), none, none, []⟩]) T L (rdy h) K := rfl
def L44_9 : List AStep := ⟨.append 36 4 72 (.t 15) (.t 21), (some 22), none, []⟩ :: ⟨.faddr 0 (.t 3), (some 23), none, []⟩ :: L44_8
theorem v44_9 : wpS P L44_9 T L (rdy h) K = wpS P (⟨.append 36 4 72 (.t 15) (.t 21), (some 22), none, []⟩ :: ⟨.faddr 0 (.t 3), (some 23), none, []⟩ :: L44_8) T L (rdy h) K := rfl
def L44_10 : List AStep := ⟨.build [(.int .i64 0), (.str (strOfNums [])), (.sl none 0 (some 0)), (.sl none 0 (some 0))] [(0, 1, (.c (.int .i64 1))), (2, 1, (.t 19))], (some 20), none, []⟩ :: ⟨.buildSlice 36 1 [(.int .i64 0), (.str (strOfNums [])), (.sl none 0 (some 0)), (.sl none 0 (some 0))] [(0, 4, (.t 20))], (some 21), none, []⟩ :: L44_9
theorem v44_10 : wpS P L44_10 T L (rdy h) K = wpS P (⟨.build [(.int .i64 0), (.str (strOfNums [])), (.sl none 0 (some 0)), (.sl none 0 (some 0))] [(0, 1, (.c (.int .i64 1))), (2, 1, (.t 19))], (some 20), none, []⟩ :: ⟨.buildSlice 36 1 [(.int .i64 0), (.str (strOfNums [])), (.sl none 0 (some 0)), (.sl none 0 (some 0))] [(0, 4, (.t 20))], (some 21), none, []⟩ :: L44_9) T L (rdy h) K := rfl
def L44_11 : List AStep := ⟨.load 1 false (.t 17), (some 18), none, []⟩ :: ⟨.append 3 1 8 (.t 16) (.t 18), (some 19), none, [(.load 1 false (.t 14), (some 15), none)]⟩ :: L44_10
theorem v44_11 : wpS P L44_11 T L (rdy h) K = wpS P (⟨.load 1 false (.t 17), (some 18), none, []⟩ :: ⟨.append 3 1 8 (.t 16) (.t 18), (some 19), none, [(.load 1 false (.t 14), (some 15), none)]⟩ :: L44_10) T L (rdy h) K := rfl
def L44_12 : List AStep := ⟨.buildSlice 3 0 [(.int .i64 0)] [], (some 16), none, []⟩ :: ⟨.faddr 0 (.t 1), (some 17), none, []⟩ :: L44_11
theorem v44_12 : wpS P L44_12 T L (rdy h) K = wpS P (⟨.buildSlice 3 0 [(.int .i64 0)] [], (some 16), none, []⟩ :: ⟨.faddr 0 (.t 1), (some 17), none, []⟩ :: L44_11) T L (rdy h) K := rfl
def L44_13 : List AStep := ⟨.faddr 0 (.t 3), (some 14), none, []⟩ :: ⟨.load 1 false (.t 14), (some 15), none, []⟩ :: L44_12
theorem v44_13 : wpS P L44_13 T L (rdy h) K = wpS P (⟨.faddr 0 (.t 3), (some 14), none, []⟩ :: ⟨.load 1 false (.t 14), (some 15), none, []⟩ :: L44_12) T L (rdy h) K := rfl
def L44_14 : List AStep := [⟨.len (.t 25), (some 26), none, []⟩, ⟨.bin .gtr (.t 26) (.c (.int .i64 0)), (some 27), none, []⟩]
theorem v44_14 : wpS P L44_14 T L (rdy h) K = wpS P ([⟨.len (.t 25), (some 26), none, []⟩, ⟨.bin .gtr (.t 26) (.c (.int .i64 0)), (some 27), none, []⟩]) T L (rdy h) K := rfl
def L44_15 : List AStep := ⟨.faddr 1 (.t 1), (some 24), none, []⟩ :: ⟨.load 1 false (.t 24), (some 25), none, []⟩ :: L44_14
theorem v44_15 : wpS P L44_15 T L (rdy h) K = wpS P (⟨.faddr 1 (.t 1), (some 24), none, []⟩ :: ⟨.load 1 false (.t 24), (some 25), none, []⟩ :: L44_14) T L (rdy h) K := rfl
def L44_16 : List AStep := [⟨.store 1 (.t 37) (.t 36), none, none, []⟩]
theorem v44_16 : wpS P L44_16 T L (rdy h) K = wpS P ([⟨.store 1 (.t 37) (.t 36), none, none, []⟩]) T L (rdy h) K := rfl
def L44_17 : List AStep := ⟨.append 36 4 72 (.t 29) (.t 35), (some 36), none, []⟩ :: ⟨.faddr 0 (.t 3), (some 37), none, []⟩ :: L44_16
theorem v44_17 : wpS P L44_17 T L (rdy h) K = wpS P (⟨.append 36 4 72 (.t 29) (.t 35), (some 36), none, []⟩ :: ⟨.faddr 0 (.t 3), (some 37), none, []⟩ :: L44_16) T L (rdy h) K := rfl
def L44_18 : List AStep := ⟨.build [(.int .i64 0), (.str (strOfNums [])), (.sl none 0 (some 0)), (.sl none 0 (some 0))] [(0, 1, (.c (.int .i64 3))), (3, 1, (.t 33))], (some 34), none, []⟩ :: ⟨.buildSlice 36 1 [(.int .i64 0), (.str (strOfNums [])), (.sl none 0 (some 0)), (.sl none 0 (some 0))] [(0, 4, (.t 34))], (some 35), none, []⟩ :: L44_17
theorem v44_18 : wpS P L44_18 T L (rdy h) K = wpS P (⟨.build [(.int .i64 0), (.str (strOfNums [])), (.sl none 0 (some 0)), (.sl none 0 (some 0))] [(0, 1, (.c (.int .i64 3))), (3, 1, (.t 33))], (some 34), none, []⟩ :: ⟨.buildSlice 36 1 [(.int .i64 0), (.str (strOfNums [])), (.sl none 0 (some 0)), (.sl none 0 (some 0))] [(0, 4, (.t 34))], (some 35), none, []⟩ :: L44_17) T L (rdy h) K := rfl
def L44_19 : List AStep := ⟨.load 1 false (.t 31), (some 32), none, []⟩ :: ⟨.append 86 2 24 (.t 30) (.t 32), (some 33), none, [(.load 1 false (.t 28), (some 29), none)]⟩ :: L44_18
theorem v44_19 : wpS P L44_19 T L (rdy h) K = wpS P (⟨.load 1 false (.t 31), (some 32), none, []⟩ :: ⟨.append 86 2 24 (.t 30) (.t 32), (some 33), none, [(.load 1 false (.t 28), (some 29), none)]⟩ :: L44_18) T L (rdy h) K := rfl
def L44_20 : List AStep := ⟨.buildSlice 86 0 [(.str (strOfNums [])), (.int .i64 0)] [], (some 30), none, []⟩ :: ⟨.faddr 1 (.t 1), (some 31), none, []⟩ :: L44_19
theorem v44_20 : wpS P L44_20 T L (rdy h) K = wpS P (⟨.buildSlice 86 0 [(.str (strOfNums [])), (.int .i64 0)] [], (some 30), none, []⟩ :: ⟨.faddr 1 (.t 1), (some 31), none, []⟩ :: L44_19) T L (rdy h) K := rfl
def L44_21 : List AStep := ⟨.faddr 0 (.t 3), (some 28), none, []⟩ :: ⟨.load 1 false (.t 28), (some 29), none, []⟩ :: L44_20
theorem v44_21 : wpS P L44_21 T L (rdy h) K = wpS P (⟨.faddr 0 (.t 3), (some 28), none, []⟩ :: ⟨.load 1 false (.t 28), (some 29), none, []⟩ :: L44_20) T L (rdy h) K := rfl
def L44_22 : List AStep := [⟨.load 1 true (.t 3), (some 38), none, []⟩, ⟨.store 1 (.t 2) (.t 38), none, none, []⟩]
theorem v44_22 : wpS P L44_22 T L (rdy h) K = wpS P ([⟨.load 1 true (.t 3), (some 38), none, []⟩, ⟨.store 1 (.t 2) (.t 38), none, none, []⟩]) T L (rdy h) K := rfl
def C44_0 : ACode := .seq (.reg L44_3) .ret
theorem u44_0 : wpC P C44_0 T L (rdy h) Q = wpC P (.seq (.reg L44_3) .ret) T L (rdy h) Q := rfl
def C44_1 : ACode := .cond (.t 6) C44_0 .skip
theorem u44_1 : wpC P C44_1 T L (rdy h) Q = wpC P (.cond (.t 6) C44_0 .skip) T L (rdy h) Q := rfl
def C44_2 : ACode := .seq (.reg L44_2) C44_1
theorem u44_2 : wpC P C44_2 T L (rdy h) Q = wpC P (.seq (.reg L44_2) C44_1) T L (rdy h) Q := rfl
def C44_3 : ACode := .cond (.t 13) (.reg L44_13) .skip
theorem u44_3 : wpC P C44_3 T L (rdy h) Q = wpC P (.cond (.t 13) (.reg L44_13) .skip) T L (rdy h) Q := rfl
def C44_4 : ACode := .seq (.reg L44_7) C44_3
theorem u44_4 : wpC P C44_4 T L (rdy h) Q = wpC P (.seq (.reg L44_7) C44_3) T L (rdy h) Q := rfl
def C44_5 : ACode := .cond (.t 27) (.reg L44_21) .skip
theorem u44_5 : wpC P C44_5 T L (rdy h) Q = wpC P (.cond (.t 27) (.reg L44_21) .skip) T L (rdy h) Q := rfl
def C44_6 : ACode := .seq (.reg L44_15) C44_5
theorem u44_6 : wpC P C44_6 T L (rdy h) Q = wpC P (.seq (.reg L44_15) C44_5) T L (rdy h) Q := rfl
def C44_7 : ACode := .seq (.reg L44_22) .ret
theorem u44_7 : wpC P C44_7 T L (rdy h) Q = wpC P (.seq (.reg L44_22) .ret) T L (rdy h) Q := rfl
def C44_8 : ACode := .seq C44_6 C44_7
theorem u44_8 : wpC P C44_8 T L (rdy h) Q = wpC P (.seq C44_6 C44_7) T L (rdy h) Q := rfl
def C44_9 : ACode := .seq C44_4 C44_8
theorem u44_9 : wpC P C44_9 T L (rdy h) Q = wpC P (.seq C44_4 C44_8) T L (rdy h) Q := rfl
def C44_10 : ACode := .seq (.reg L44_5) C44_9
theorem u44_10 : wpC P C44_10 T L (rdy h) Q = wpC P (.seq (.reg L44_5) C44_9) T L (rdy h) Q := rfl
def C44_11 : ACode := .seq C44_2 C44_10
theorem u44_11 : wpC P C44_11 T L (rdy h) Q = wpC P (.seq C44_2 C44_10) T L (rdy h) Q := rfl
def C44_12 : ACode := .seq (.reg L44_0) C44_11
theorem u44_12 : wpC P C44_12 T L (rdy h) Q = wpC P (.seq (.reg L44_0) C44_11) T L (rdy h) Q := rfl
def F44 : AFunc := ⟨39, [.cell 2 1 true], C44_12⟩
theorem cF44 : compB Try.prog 44 = some F44 := by kernel_rfl
end
attribute [local go_sem ↓] u44_0 u44_1 u44_2 u44_3 u44_4 u44_5 u44_6 u44_7 u44_8 u44_9 u44_10 u44_11 u44_12 v44_0 v44_1 v44_2 v44_3 v44_4 v44_5 v44_6 v44_7 v44_8 v44_9 v44_10 v44_11 v44_12 v44_13 v44_14 v44_15 v44_16 v44_17 v44_18 v44_19 v44_20 v44_21 v44_22
theorem k_sStarCall (f : Flat) (p n : CV) (h : H) (hf : SlF h p n f) (hn : miniF f) : callK (bm Try.prog 44 [.agg [p, n]] h) fun r h' => Grow h h' ∧ ∃ q R, r = .agg [q] ∧ NwC h h' q R (starCall f) := by
  refine bm_of cF44 ?_
  have hb1 := hn.pl
  have hb2 := hn.nl
  unfold starCall
  cases hok : okFlat f with
  | false =>
    simp +contextual (maxSteps := 2000000) only [go_sem, Nat.reduceEqDiff, reduceCtorEq, Nat.reduceAdd, Nat.reduceLeDiff, F44, c_validFlat _ _ _ _ hf.pl hf.nl hn.sm, hok, if_false]
    exact ⟨Grow.refl h, _, [], rfl, .nil⟩
  | true =>
  by_cases y1 : 0 < f.pl.length
  · have e1 : starPl f = [⟨1, noName, f.pl, []⟩] := if_pos y1
    have d1 : decide (((f.pl.length : Nat) : Int) > 0) = true := decide_eq_true (by omega)
    by_cases y2 : 0 < f.nl.length
    · have e2 : starNl f = [⟨3, noName, [], f.nl⟩] := if_pos y2
      have d2 : decide (((f.nl.length : Nat) : Int) > 0) = true := decide_eq_true (by omega)
      rw [e1, e2]
      simp +contextual (maxSteps := 2000000) only [go_sem, Nat.reduceEqDiff, reduceCtorEq, Nat.reduceAdd, Nat.reduceLeDiff, F44, c_validFlat _ _ _ _ hf.pl hf.nl hn.sm, hok, if_true, hf.pl.len, hf.nl.len]
      refine wp_lit (enc := encC) (k := 4) (l := []) rfl rfl ?_
      intro h0 w0 g0 n0 _
      obtain ⟨c0, rfl⟩ := n0.one
      have x0 : NwC h h0 c0 [] [] := ⟨.nil n0⟩
      have f0 := hf.grow g0
      simp +contextual (maxSteps := 2000000) only [go_sem, Nat.reduceEqDiff, reduceCtorEq, Nat.reduceAdd, Nat.reduceLeDiff, d1, d2, f0.pl.len, f0.nl.len]
      refine wp_lit (enc := encI) (k := 1) (l := ([] : List Int)) rfl rfl ?_
      intro ha1 wa1 ga1 na1 ba1
      have fa1 := f0.grow ga1
      simp +contextual (maxSteps := 2000000) only [go_sem, Nat.reduceEqDiff, reduceCtorEq, Nat.reduceAdd, Nat.reduceLeDiff, d1, d2, fa1.pl.len, fa1.nl.len]
      refine wp_append lenI na1 fa1.pl ga1 (by simp; omega) ?_
      intro hb1 sb1 gb1 nb1 _ _
      obtain ⟨u1, rfl⟩ := nb1.one
      rw [List.nil_append] at nb1
      have fb1 := f0.grow gb1
      simp +contextual (maxSteps := 2000000) only [go_sem, Nat.reduceEqDiff, reduceCtorEq, Nat.reduceAdd, Nat.reduceLeDiff, d1, d2, fb1.pl.len, fb1.nl.len]
      refine wp_lit (enc := encC) (k := 4) (l := [⟨1, noName, u1, .sl none 0 (some 0)⟩]) rfl rfl ?_
      intro hc1 wc1 gc1 nc1 _
      have fc1 := fb1.grow gc1
      simp +contextual (maxSteps := 2000000) only [go_sem, Nat.reduceEqDiff, reduceCtorEq, Nat.reduceAdd, Nat.reduceLeDiff, d1, d2, fc1.pl.len, fc1.nl.len]
      refine wp_append lenC (x0.out.out.grow (gb1.trans gc1)) (nc1.sl lenC) (g0.trans (gb1.trans gc1)) (by have := x0.out.len; simp at this ⊢) ?_
      intro hd1 sd1 gd1 nd1 st1 bd1
      obtain ⟨c1, rfl⟩ := nd1.one
      have y10 : NtC h0 hc1 ⟨1, noName, u1, .sl none 0 (some 0)⟩ ⟨1, noName, f.pl, []⟩ := ⟨rfl, rfl, nb1.grow gc1, .nil⟩
      have x1 := x0.push (gb1.trans gc1) y10 (fun j hj => ⟨(nb1.lt hj).2, Nat.lt_of_lt_of_le (nb1.lt hj).1 gc1.n⟩) (fun j hj => by simp [baseOf] at hj) Sep.nil.symm nd1 st1 bd1 g0.n
      have f1 := hf.grow gd1
      simp +contextual (maxSteps := 2000000) only [go_sem, Nat.reduceEqDiff, reduceCtorEq, Nat.reduceAdd, Nat.reduceLeDiff, d1, d2, f1.pl.len, f1.nl.len]
      refine wp_lit (enc := encP) (k := 2) (l := ([] : List Pair)) rfl rfl ?_
      intro ha2 wa2 ga2 na2 ba2
      have fa2 := f1.grow ga2
      simp +contextual (maxSteps := 2000000) only [go_sem, Nat.reduceEqDiff, reduceCtorEq, Nat.reduceAdd, Nat.reduceLeDiff, d1, d2, fa2.pl.len, fa2.nl.len]
      refine wp_append lenP na2 fa2.nl ga2 (by simp; omega) ?_
      intro hb2 sb2 gb2 nb2 _ _
      obtain ⟨u2, rfl⟩ := nb2.one
      rw [List.nil_append] at nb2
      have fb2 := f1.grow gb2
      simp +contextual (maxSteps := 2000000) only [go_sem, Nat.reduceEqDiff, reduceCtorEq, Nat.reduceAdd, Nat.reduceLeDiff, d1, d2, fb2.pl.len, fb2.nl.len]
      refine wp_lit (enc := encC) (k := 4) (l := [⟨3, noName, .sl none 0 (some 0), u2⟩]) rfl rfl ?_
      intro hc2 wc2 gc2 nc2 _
      have fc2 := fb2.grow gc2
      simp +contextual (maxSteps := 2000000) only [go_sem, Nat.reduceEqDiff, reduceCtorEq, Nat.reduceAdd, Nat.reduceLeDiff, d1, d2, fc2.pl.len, fc2.nl.len]
      refine wp_append lenC (x1.out.out.grow (gb2.trans gc2)) (nc2.sl lenC) (gd1.trans (gb2.trans gc2)) (by have := x1.out.len; simp at this ⊢) ?_
      intro hd2 sd2 gd2 nd2 st2 bd2
      obtain ⟨c2, rfl⟩ := nd2.one
      have y20 : NtC hd1 hc2 ⟨3, noName, .sl none 0 (some 0), u2⟩ ⟨3, noName, [], f.nl⟩ := ⟨rfl, rfl, .nil, nb2.grow gc2⟩
      have x2 := x1.push (gb2.trans gc2) y20 (fun j hj => by simp [baseOf] at hj) (fun j hj => ⟨(nb2.lt hj).2, Nat.lt_of_lt_of_le (nb2.lt hj).1 gc2.n⟩) Sep.nil nd2 st2 bd2 gd1.n
      have f2 := hf.grow gd2
      simp +contextual (maxSteps := 2000000) only [go_sem, Nat.reduceEqDiff, reduceCtorEq, Nat.reduceAdd, Nat.reduceLeDiff, d1, d2, f2.pl.len, f2.nl.len]
      exact gcK_of ⟨gd2, _, _, rfl, x2⟩ (fun hs _ => ⟨Grow.refl h, _, _, rfl, x2.scalar (by simpa [AV.scalar] using hs) h⟩)
    · have e2 : starNl f = [] := if_neg y2
      have d2 : decide (((f.nl.length : Nat) : Int) > 0) = false := decide_eq_false (by omega)
      rw [e1, e2]
      simp +contextual (maxSteps := 2000000) only [go_sem, Nat.reduceEqDiff, reduceCtorEq, Nat.reduceAdd, Nat.reduceLeDiff, F44, c_validFlat _ _ _ _ hf.pl hf.nl hn.sm, hok, if_true, hf.pl.len, hf.nl.len]
      refine wp_lit (enc := encC) (k := 4) (l := []) rfl rfl ?_
      intro h0 w0 g0 n0 _
      obtain ⟨c0, rfl⟩ := n0.one
      have x0 : NwC h h0 c0 [] [] := ⟨.nil n0⟩
      have f0 := hf.grow g0
      simp +contextual (maxSteps := 2000000) only [go_sem, Nat.reduceEqDiff, reduceCtorEq, Nat.reduceAdd, Nat.reduceLeDiff, d1, d2, f0.pl.len, f0.nl.len]
      refine wp_lit (enc := encI) (k := 1) (l := ([] : List Int)) rfl rfl ?_
      intro ha1 wa1 ga1 na1 ba1
      have fa1 := f0.grow ga1
      simp +contextual (maxSteps := 2000000) only [go_sem, Nat.reduceEqDiff, reduceCtorEq, Nat.reduceAdd, Nat.reduceLeDiff, d1, d2, fa1.pl.len, fa1.nl.len]
      refine wp_append lenI na1 fa1.pl ga1 (by simp; omega) ?_
      intro hb1 sb1 gb1 nb1 _ _
      obtain ⟨u1, rfl⟩ := nb1.one
      rw [List.nil_append] at nb1
      have fb1 := f0.grow gb1
      simp +contextual (maxSteps := 2000000) only [go_sem, Nat.reduceEqDiff, reduceCtorEq, Nat.reduceAdd, Nat.reduceLeDiff, d1, d2, fb1.pl.len, fb1.nl.len]
      refine wp_lit (enc := encC) (k := 4) (l := [⟨1, noName, u1, .sl none 0 (some 0)⟩]) rfl rfl ?_
      intro hc1 wc1 gc1 nc1 _
      have fc1 := fb1.grow gc1
      simp +contextual (maxSteps := 2000000) only [go_sem, Nat.reduceEqDiff, reduceCtorEq, Nat.reduceAdd, Nat.reduceLeDiff, d1, d2, fc1.pl.len, fc1.nl.len]
      refine wp_append lenC (x0.out.out.grow (gb1.trans gc1)) (nc1.sl lenC) (g0.trans (gb1.trans gc1)) (by have := x0.out.len; simp at this ⊢) ?_
      intro hd1 sd1 gd1 nd1 st1 bd1
      obtain ⟨c1, rfl⟩ := nd1.one
      have y10 : NtC h0 hc1 ⟨1, noName, u1, .sl none 0 (some 0)⟩ ⟨1, noName, f.pl, []⟩ := ⟨rfl, rfl, nb1.grow gc1, .nil⟩
      have x1 := x0.push (gb1.trans gc1) y10 (fun j hj => ⟨(nb1.lt hj).2, Nat.lt_of_lt_of_le (nb1.lt hj).1 gc1.n⟩) (fun j hj => by simp [baseOf] at hj) Sep.nil.symm nd1 st1 bd1 g0.n
      have f1 := hf.grow gd1
      simp +contextual (maxSteps := 2000000) only [go_sem, Nat.reduceEqDiff, reduceCtorEq, Nat.reduceAdd, Nat.reduceLeDiff, d1, d2, f1.pl.len, f1.nl.len]
      exact gcK_of ⟨gd1, _, _, rfl, x1⟩ (fun hs _ => ⟨Grow.refl h, _, _, rfl, x1.scalar (by simpa [AV.scalar] using hs) h⟩)
  · have e1 : starPl f = [] := if_neg y1
    have d1 : decide (((f.pl.length : Nat) : Int) > 0) = false := decide_eq_false (by omega)
    by_cases y2 : 0 < f.nl.length
    · have e2 : starNl f = [⟨3, noName, [], f.nl⟩] := if_pos y2
      have d2 : decide (((f.nl.length : Nat) : Int) > 0) = true := decide_eq_true (by omega)
      rw [e1, e2]
      simp +contextual (maxSteps := 2000000) only [go_sem, Nat.reduceEqDiff, reduceCtorEq, Nat.reduceAdd, Nat.reduceLeDiff, F44, c_validFlat _ _ _ _ hf.pl hf.nl hn.sm, hok, if_true, hf.pl.len, hf.nl.len]
      refine wp_lit (enc := encC) (k := 4) (l := []) rfl rfl ?_
      intro h0 w0 g0 n0 _
      obtain ⟨c0, rfl⟩ := n0.one
      have x0 : NwC h h0 c0 [] [] := ⟨.nil n0⟩
      have f0 := hf.grow g0
      simp +contextual (maxSteps := 2000000) only [go_sem, Nat.reduceEqDiff, reduceCtorEq, Nat.reduceAdd, Nat.reduceLeDiff, d1, d2, f0.pl.len, f0.nl.len]
      refine wp_lit (enc := encP) (k := 2) (l := ([] : List Pair)) rfl rfl ?_
      intro ha1 wa1 ga1 na1 ba1
      have fa1 := f0.grow ga1
      simp +contextual (maxSteps := 2000000) only [go_sem, Nat.reduceEqDiff, reduceCtorEq, Nat.reduceAdd, Nat.reduceLeDiff, d1, d2, fa1.pl.len, fa1.nl.len]
      refine wp_append lenP na1 fa1.nl ga1 (by simp; omega) ?_
      intro hb1 sb1 gb1 nb1 _ _
      obtain ⟨u1, rfl⟩ := nb1.one
      rw [List.nil_append] at nb1
      have fb1 := f0.grow gb1
      simp +contextual (maxSteps := 2000000) only [go_sem, Nat.reduceEqDiff, reduceCtorEq, Nat.reduceAdd, Nat.reduceLeDiff, d1, d2, fb1.pl.len, fb1.nl.len]
      refine wp_lit (enc := encC) (k := 4) (l := [⟨3, noName, .sl none 0 (some 0), u1⟩]) rfl rfl ?_
      intro hc1 wc1 gc1 nc1 _
      have fc1 := fb1.grow gc1
      simp +contextual (maxSteps := 2000000) only [go_sem, Nat.reduceEqDiff, reduceCtorEq, Nat.reduceAdd, Nat.reduceLeDiff, d1, d2, fc1.pl.len, fc1.nl.len]
      refine wp_append lenC (x0.out.out.grow (gb1.trans gc1)) (nc1.sl lenC) (g0.trans (gb1.trans gc1)) (by have := x0.out.len; simp at this ⊢) ?_
      intro hd1 sd1 gd1 nd1 st1 bd1
      obtain ⟨c1, rfl⟩ := nd1.one
      have y10 : NtC h0 hc1 ⟨3, noName, .sl none 0 (some 0), u1⟩ ⟨3, noName, [], f.nl⟩ := ⟨rfl, rfl, .nil, nb1.grow gc1⟩
      have x1 := x0.push (gb1.trans gc1) y10 (fun j hj => by simp [baseOf] at hj) (fun j hj => ⟨(nb1.lt hj).2, Nat.lt_of_lt_of_le (nb1.lt hj).1 gc1.n⟩) Sep.nil nd1 st1 bd1 g0.n
      have f1 := hf.grow gd1
      simp +contextual (maxSteps := 2000000) only [go_sem, Nat.reduceEqDiff, reduceCtorEq, Nat.reduceAdd, Nat.reduceLeDiff, d1, d2, f1.pl.len, f1.nl.len]
      exact gcK_of ⟨gd1, _, _, rfl, x1⟩ (fun hs _ => ⟨Grow.refl h, _, _, rfl, x1.scalar (by simpa [AV.scalar] using hs) h⟩)
    · have e2 : starNl f = [] := if_neg y2
      have d2 : decide (((f.nl.length : Nat) : Int) > 0) = false := decide_eq_false (by omega)
      rw [e1, e2]
      simp +contextual (maxSteps := 2000000) only [go_sem, Nat.reduceEqDiff, reduceCtorEq, Nat.reduceAdd, Nat.reduceLeDiff, F44, c_validFlat _ _ _ _ hf.pl hf.nl hn.sm, hok, if_true, hf.pl.len, hf.nl.len]
      refine wp_lit (enc := encC) (k := 4) (l := []) rfl rfl ?_
      intro h0 w0 g0 n0 _
      obtain ⟨c0, rfl⟩ := n0.one
      have x0 : NwC h h0 c0 [] [] := ⟨.nil n0⟩
      have f0 := hf.grow g0
      simp +contextual (maxSteps := 2000000) only [go_sem, Nat.reduceEqDiff, reduceCtorEq, Nat.reduceAdd, Nat.reduceLeDiff, d1, d2, f0.pl.len, f0.nl.len]
      exact gcK_of ⟨g0, _, _, rfl, x0⟩ (fun hs _ => ⟨Grow.refl h, _, _, rfl, x0.scalar (by simpa [AV.scalar] using hs) h⟩)
section
variable {P : Program} {T : Tb} {L : Lb} {h : H} {Q : PostC} {K : Post}
/-! impl.StarCall -/
def L45_0 : List AStep := [⟨.box 30 (.t 0), (some 1), none, []⟩, ⟨.alloc 25 [(.sl none 0 (some 0))], (some 2), none, []⟩]
theorem v45_0 : wpS P L45_0 T L (rdy h) K = wpS P ([⟨.box 30 (.t 0), (some 1), none, []⟩, ⟨.alloc 25 [(.sl none 0 (some 0))], (some 2), none, []⟩]) T L (rdy h) K := rfl
def L45_1 : List AStep := [⟨.not (.t 5), (some 6), none, []⟩]
theorem v45_1 : wpS P L45_1 T L (rdy h) K = wpS P ([⟨.not (.t 5), (some 6), none, []⟩]) T L (rdy h) K := rfl
def L45_2 : List AStep := ⟨.load 2 true (.t 1), (some 4), none, []⟩ :: ⟨.call 60 [(.t 4)], (some 5), none, []⟩ :: L45_1
theorem v45_2 : wpS P L45_2 T L (rdy h) K = wpS P (⟨.load 2 true (.t 1), (some 4), none, []⟩ :: ⟨.call 60 [(.t 4)], (some 5), none, []⟩ :: L45_1) T L (rdy h) K := rfl
def L45_3 : List AStep := [⟨.build [(.sl none 0 (some 0))] [], (some 7), none, []⟩, ⟨.store 1 (.t 2) (.t 7), none, none, []⟩]
theorem v45_3 : wpS P L45_3 T L (rdy h) K = wpS P ([⟨.build [(.sl none 0 (some 0))] [], (some 7), none, []⟩, ⟨.store 1 (.t 2) (.t 7), none, none, []⟩]) T L (rdy h) K := rfl
def L45_4 : List AStep := [⟨.mov (.c (.sl none 0 (some 0))), (some 3), none, []⟩]
theorem v45_4 : wpS P L45_4 T L (rdy h) K = wpS P ([⟨.mov (.c (.sl none 0 (some 0))), (some 3), none, []⟩]) T L (rdy h) K := rfl
def L45_5 : List AStep := [⟨.len (.t 9), (some 10), none, []⟩, ⟨.bin .gtr (.t 10) (.c (.int .i64 0)), (some 11), none, []⟩]
theorem v45_5 : wpS P L45_5 T L (rdy h) K = wpS P ([⟨.len (.t 9), (some 10), none, []⟩, ⟨.bin .gtr (.t 10) (.c (.int .i64 0)), (some 11), none, []⟩]) T L (rdy h) K := rfl
def L45_6 : List AStep := ⟨.faddr 0 (.t 1), (some 8), none, []⟩ :: ⟨.load 1 false (.t 8), (some 9), none, []⟩ :: L45_5
theorem v45_6 : wpS P L45_6 T L (rdy h) K = wpS P (⟨.faddr 0 (.t 1), (some 8), none, []⟩ :: ⟨.load 1 false (.t 8), (some 9), none, []⟩ :: L45_5) T L (rdy h) K := rfl
def L45_7 : List AStep := [⟨.append 36 4 72 (.t 12) (.t 17), (some 18), none, []⟩, ⟨.mov (.t 18), (some 3), none, []⟩]
theorem v45_7 : wpS P L45_7 T L (rdy h) K = wpS P ([⟨.append 36 4 72 (.t 12) (.t 17), (some 18), none, []⟩, ⟨.mov (.t 18), (some 3), none, []⟩]) T L (rdy h) K := rfl
def L45_8 : List AStep := ⟨.build [(.int .i64 0), (.str (strOfNums [])), (.sl none 0 (some 0)), (.sl none 0 (some 0))] [(0, 1, (.c (.int .i64 1))), (2, 1, (.t 15))], (some 16), none, []⟩ :: ⟨.buildSlice 36 1 [(.int .i64 0), (.str (strOfNums [])), (.sl none 0 (some 0)), (.sl none 0 (some 0))] [(0, 4, (.t 16))], (some 17), none, []⟩ :: L45_7
theorem v45_8 : wpS P L45_8 T L (rdy h) K = wpS P (⟨.build [(.int .i64 0), (.str (strOfNums [])), (.sl none 0 (some 0)), (.sl none 0 (some 0))] [(0, 1, (.c (.int .i64 1))), (2, 1, (.t 15))], (some 16), none, []⟩ :: ⟨.buildSlice 36 1 [(.int .i64 0), (.str (strOfNums [])), (.sl none 0 (some 0)), (.sl none 0 (some 0))] [(0, 4, (.t 16))], (some 17), none, []⟩ :: L45_7) T L (rdy h) K := rfl
def L45_9 : List AStep := ⟨.load 1 false (.t 13), (some 14), none, []⟩ :: ⟨.call 121 [(.t 14)], (some 15), none, []⟩ :: L45_8
theorem v45_9 : wpS P L45_9 T L (rdy h) K = wpS P (⟨.load 1 false (.t 13), (some 14), none, []⟩ :: ⟨.call 121 [(.t 14)], (some 15), none, []⟩ :: L45_8) T L (rdy h) K := rfl
def L45_10 : List AStep := ⟨.mov (.t 3), (some 12), none, []⟩ :: ⟨.faddr 0 (.t 1), (some 13), none, []⟩ :: L45_9
theorem v45_10 : wpS P L45_10 T L (rdy h) K = wpS P (⟨.mov (.t 3), (some 12), none, []⟩ :: ⟨.faddr 0 (.t 1), (some 13), none, []⟩ :: L45_9) T L (rdy h) K := rfl
def L45_11 : List AStep := [⟨.len (.t 20), (some 21), none, []⟩, ⟨.bin .gtr (.t 21) (.c (.int .i64 0)), (some 22), none, []⟩]
theorem v45_11 : wpS P L45_11 T L (rdy h) K = wpS P ([⟨.len (.t 20), (some 21), none, []⟩, ⟨.bin .gtr (.t 21) (.c (.int .i64 0)), (some 22), none, []⟩]) T L (rdy h) K := rfl
def L45_12 : List AStep := ⟨.faddr 1 (.t 1), (some 19), none, []⟩ :: ⟨.load 1 false (.t 19), (some 20), none, []⟩ :: L45_11
theorem v45_12 : wpS P L45_12 T L (rdy h) K = wpS P (⟨.faddr 1 (.t 1), (some 19), none, []⟩ :: ⟨.load 1 false (.t 19), (some 20), none, []⟩ :: L45_11) T L (rdy h) K := rfl
def L45_13 : List AStep := [⟨.append 36 4 72 (.t 23) (.t 28), (some 29), none, []⟩, ⟨.mov (.t 29), (some 3), none, []⟩]
theorem v45_13 : wpS P L45_13 T L (rdy h) K = wpS P ([⟨.append 36 4 72 (.t 23) (.t 28), (some 29), none, []⟩, ⟨.mov (.t 29), (some 3), none, []⟩]) T L (rdy h) K := rfl
def L45_14 : List AStep := ⟨.build [(.int .i64 0), (.str (strOfNums [])), (.sl none 0 (some 0)), (.sl none 0 (some 0))] [(0, 1, (.c (.int .i64 3))), (3, 1, (.t 26))], (some 27), none, []⟩ :: ⟨.buildSlice 36 1 [(.int .i64 0), (.str (strOfNums [])), (.sl none 0 (some 0)), (.sl none 0 (some 0))] [(0, 4, (.t 27))], (some 28), none, []⟩ :: L45_13
theorem v45_14 : wpS P L45_14 T L (rdy h) K = wpS P (⟨.build [(.int .i64 0), (.str (strOfNums [])), (.sl none 0 (some 0)), (.sl none 0 (some 0))] [(0, 1, (.c (.int .i64 3))), (3, 1, (.t 26))], (some 27), none, []⟩ :: ⟨.buildSlice 36 1 [(.int .i64 0), (.str (strOfNums [])), (.sl none 0 (some 0)), (.sl none 0 (some 0))] [(0, 4, (.t 27))], (some 28), none, []⟩ :: L45_13) T L (rdy h) K := rfl
def L45_15 : List AStep := ⟨.load 1 false (.t 24), (some 25), none, []⟩ :: ⟨.call 87 [(.t 25)], (some 26), none, []⟩ :: L45_14
theorem v45_15 : wpS P L45_15 T L (rdy h) K = wpS P (⟨.load 1 false (.t 24), (some 25), none, []⟩ :: ⟨.call 87 [(.t 25)], (some 26), none, []⟩ :: L45_14) T L (rdy h) K := rfl
def L45_16 : List AStep := ⟨.mov (.t 3), (some 23), none, []⟩ :: ⟨.faddr 1 (.t 1), (some 24), none, []⟩ :: L45_15
theorem v45_16 : wpS P L45_16 T L (rdy h) K = wpS P (⟨.mov (.t 3), (some 23), none, []⟩ :: ⟨.faddr 1 (.t 1), (some 24), none, []⟩ :: L45_15) T L (rdy h) K := rfl
def L45_17 : List AStep := [⟨.build [(.sl none 0 (some 0))] [(0, 1, (.t 31))], (some 32), none, []⟩, ⟨.store 1 (.t 2) (.t 32), none, none, []⟩]
theorem v45_17 : wpS P L45_17 T L (rdy h) K = wpS P ([⟨.build [(.sl none 0 (some 0))] [(0, 1, (.t 31))], (some 32), none, []⟩, ⟨.store 1 (.t 2) (.t 32), none, none, []⟩]) T L (rdy h) K := rfl
def L45_18 : List AStep := ⟨.mov (.t 3), (some 30), none, []⟩ :: ⟨.call 81 [(.t 30)], (some 31), none, []⟩ :: L45_17
theorem v45_18 : wpS P L45_18 T L (rdy h) K = wpS P (⟨.mov (.t 3), (some 30), none, []⟩ :: ⟨.call 81 [(.t 30)], (some 31), none, []⟩ :: L45_17) T L (rdy h) K := rfl
def C45_0 : ACode := .seq (.reg L45_3) .ret
theorem u45_0 : wpC P C45_0 T L (rdy h) Q = wpC P (.seq (.reg L45_3) .ret) T L (rdy h) Q := rfl
def C45_1 : ACode := .cond (.t 6) C45_0 .skip
theorem u45_1 : wpC P C45_1 T L (rdy h) Q = wpC P (.cond (.t 6) C45_0 .skip) T L (rdy h) Q := rfl
def C45_2 : ACode := .seq (.reg L45_2) C45_1
theorem u45_2 : wpC P C45_2 T L (rdy h) Q = wpC P (.seq (.reg L45_2) C45_1) T L (rdy h) Q := rfl
def C45_3 : ACode := .cond (.t 11) (.reg L45_10) .skip
theorem u45_3 : wpC P C45_3 T L (rdy h) Q = wpC P (.cond (.t 11) (.reg L45_10) .skip) T L (rdy h) Q := rfl
def C45_4 : ACode := .seq (.reg L45_6) C45_3
theorem u45_4 : wpC P C45_4 T L (rdy h) Q = wpC P (.seq (.reg L45_6) C45_3) T L (rdy h) Q := rfl
def C45_5 : ACode := .cond (.t 22) (.reg L45_16) .skip
theorem u45_5 : wpC P C45_5 T L (rdy h) Q = wpC P (.cond (.t 22) (.reg L45_16) .skip) T L (rdy h) Q := rfl
def C45_6 : ACode := .seq (.reg L45_12) C45_5
theorem u45_6 : wpC P C45_6 T L (rdy h) Q = wpC P (.seq (.reg L45_12) C45_5) T L (rdy h) Q := rfl
def C45_7 : ACode := .seq (.reg L45_18) .ret
theorem u45_7 : wpC P C45_7 T L (rdy h) Q = wpC P (.seq (.reg L45_18) .ret) T L (rdy h) Q := rfl
def C45_8 : ACode := .seq C45_6 C45_7
theorem u45_8 : wpC P C45_8 T L (rdy h) Q = wpC P (.seq C45_6 C45_7) T L (rdy h) Q := rfl
def C45_9 : ACode := .seq C45_4 C45_8
theorem u45_9 : wpC P C45_9 T L (rdy h) Q = wpC P (.seq C45_4 C45_8) T L (rdy h) Q := rfl
def C45_10 : ACode := .seq (.reg L45_4) C45_9
theorem u45_10 : wpC P C45_10 T L (rdy h) Q = wpC P (.seq (.reg L45_4) C45_9) T L (rdy h) Q := rfl
def C45_11 : ACode := .seq C45_2 C45_10
theorem u45_11 : wpC P C45_11 T L (rdy h) Q = wpC P (.seq C45_2 C45_10) T L (rdy h) Q := rfl
def C45_12 : ACode := .seq (.reg L45_0) C45_11
theorem u45_12 : wpC P C45_12 T L (rdy h) Q = wpC P (.seq (.reg L45_0) C45_11) T L (rdy h) Q := rfl
def F45 : AFunc := ⟨33, [.cell 2 1 true], C45_12⟩
theorem cF45 : compB Try.prog 45 = some F45 := by kernel_rfl
end
attribute [local go_sem ↓] u45_0 u45_1 u45_2 u45_3 u45_4 u45_5 u45_6 u45_7 u45_8 u45_9 u45_10 u45_11 u45_12 v45_0 v45_1 v45_2 v45_3 v45_4 v45_5 v45_6 v45_7 v45_8 v45_9 v45_10 v45_11 v45_12 v45_13 v45_14 v45_15 v45_16 v45_17 v45_18
theorem k_iStarCall (f : Flat) (p n : CV) (h : H) (hf : SlF h p n f) (hn : miniF f) : callK (bm Try.prog 45 [.agg [p, n]] h) fun r h' => Grow h h' ∧ ∃ q R, r = .agg [q] ∧ NwC h h' q R (starCall f) := by
  refine bm_of cF45 ?_
  have hb1 := hn.pl
  have hb2 := hn.nl
  unfold starCall
  cases hok : okFlat f with
  | false =>
    simp +contextual (maxSteps := 2000000) only [go_sem, Nat.reduceEqDiff, reduceCtorEq, Nat.reduceAdd, Nat.reduceLeDiff, F45, c_ValidFlat _ _ _ _ hf.pl hf.nl hn.sm, hok, if_false]
    exact ⟨Grow.refl h, _, [], rfl, .nil⟩
  | true =>
  by_cases y1 : 0 < f.pl.length
  · have e1 : starPl f = [⟨1, noName, f.pl, []⟩] := if_pos y1
    have d1 : decide (((f.pl.length : Nat) : Int) > 0) = true := decide_eq_true (by omega)
    by_cases y2 : 0 < f.nl.length
    · have e2 : starNl f = [⟨3, noName, [], f.nl⟩] := if_pos y2
      have d2 : decide (((f.nl.length : Nat) : Int) > 0) = true := decide_eq_true (by omega)
      rw [e1, e2]
      have x0 : NwC h h (.sl none 0 (some 0)) [] [] := .nil
      have f0 := hf
      simp +contextual (maxSteps := 2000000) only [go_sem, Nat.reduceEqDiff, reduceCtorEq, Nat.reduceAdd, Nat.reduceLeDiff, F45, c_ValidFlat _ _ _ _ hf.pl hf.nl hn.sm, hok, if_true, hf.pl.len, hf.nl.len, d1, d2]
      refine wp_call (c_cloneI _ _ h f0.pl (Nat.le_trans hn.pl (by decide))) ?_
      rintro r hb1 ⟨gb1, nb1⟩
      obtain ⟨u1, rfl⟩ := nb1.one
      have fb1 := f0.grow gb1
      simp +contextual (maxSteps := 2000000) only [go_sem, Nat.reduceEqDiff, reduceCtorEq, Nat.reduceAdd, Nat.reduceLeDiff, d1, d2, fb1.pl.len, fb1.nl.len]
      refine wp_lit (enc := encC) (k := 4) (l := [⟨1, noName, u1, .sl none 0 (some 0)⟩]) rfl rfl ?_
      intro hc1 wc1 gc1 nc1 _
      have fc1 := fb1.grow gc1
      simp +contextual (maxSteps := 2000000) only [go_sem, Nat.reduceEqDiff, reduceCtorEq, Nat.reduceAdd, Nat.reduceLeDiff, d1, d2, fc1.pl.len, fc1.nl.len]
      refine wp_append lenC (x0.out.out.grow (gb1.trans gc1)) (nc1.sl lenC) ((Grow.refl h).trans (gb1.trans gc1)) (by have := x0.out.len; simp at this ⊢) ?_
      intro hd1 sd1 gd1 nd1 st1 bd1
      obtain ⟨c1, rfl⟩ := nd1.one
      have y10 : NtC h hc1 ⟨1, noName, u1, .sl none 0 (some 0)⟩ ⟨1, noName, f.pl, []⟩ := ⟨rfl, rfl, nb1.grow gc1, .nil⟩
      have x1 := x0.push (gb1.trans gc1) y10 (fun j hj => ⟨(nb1.lt hj).2, Nat.lt_of_lt_of_le (nb1.lt hj).1 gc1.n⟩) (fun j hj => by simp [baseOf] at hj) Sep.nil.symm nd1 st1 bd1 (Grow.refl h).n
      have f1 := hf.grow gd1
      simp +contextual (maxSteps := 2000000) only [go_sem, Nat.reduceEqDiff, reduceCtorEq, Nat.reduceAdd, Nat.reduceLeDiff, d1, d2, f1.pl.len, f1.nl.len]
      refine wp_call (c_cloneP _ _ hd1 f1.nl (Nat.le_trans hn.nl (by decide))) ?_
      rintro r hb2 ⟨gb2, nb2⟩
      obtain ⟨u2, rfl⟩ := nb2.one
      have fb2 := f1.grow gb2
      simp +contextual (maxSteps := 2000000) only [go_sem, Nat.reduceEqDiff, reduceCtorEq, Nat.reduceAdd, Nat.reduceLeDiff, d1, d2, fb2.pl.len, fb2.nl.len]
      refine wp_lit (enc := encC) (k := 4) (l := [⟨3, noName, .sl none 0 (some 0), u2⟩]) rfl rfl ?_
      intro hc2 wc2 gc2 nc2 _
      have fc2 := fb2.grow gc2
      simp +contextual (maxSteps := 2000000) only [go_sem, Nat.reduceEqDiff, reduceCtorEq, Nat.reduceAdd, Nat.reduceLeDiff, d1, d2, fc2.pl.len, fc2.nl.len]
      refine wp_append lenC (x1.out.out.grow (gb2.trans gc2)) (nc2.sl lenC) (gd1.trans (gb2.trans gc2)) (by have := x1.out.len; simp at this ⊢) ?_
      intro hd2 sd2 gd2 nd2 st2 bd2
      obtain ⟨c2, rfl⟩ := nd2.one
      have y20 : NtC hd1 hc2 ⟨3, noName, .sl none 0 (some 0), u2⟩ ⟨3, noName, [], f.nl⟩ := ⟨rfl, rfl, .nil, nb2.grow gc2⟩
      have x2 := x1.push (gb2.trans gc2) y20 (fun j hj => by simp [baseOf] at hj) (fun j hj => ⟨(nb2.lt hj).2, Nat.lt_of_lt_of_le (nb2.lt hj).1 gc2.n⟩) Sep.nil nd2 st2 bd2 gd1.n
      have f2 := hf.grow gd2
      simp +contextual (maxSteps := 2000000) only [go_sem, Nat.reduceEqDiff, reduceCtorEq, Nat.reduceAdd, Nat.reduceLeDiff, d1, d2, f2.pl.len, f2.nl.len]
      refine wp_call (c_clipC _ _ _ _ x2) ?_
      rintro r h5 ⟨rfl, q, rfl, x9⟩
      simp +contextual (maxSteps := 2000000) only [go_sem, Nat.reduceEqDiff, reduceCtorEq, Nat.reduceAdd, Nat.reduceLeDiff]
      exact gcK_of ⟨gd2, _, _, rfl, x9⟩ (fun hs _ => ⟨Grow.refl h, _, _, rfl, x9.scalar (by simpa [AV.scalar] using hs) h⟩)
    · have e2 : starNl f = [] := if_neg y2
      have d2 : decide (((f.nl.length : Nat) : Int) > 0) = false := decide_eq_false (by omega)
      rw [e1, e2]
      have x0 : NwC h h (.sl none 0 (some 0)) [] [] := .nil
      have f0 := hf
      simp +contextual (maxSteps := 2000000) only [go_sem, Nat.reduceEqDiff, reduceCtorEq, Nat.reduceAdd, Nat.reduceLeDiff, F45, c_ValidFlat _ _ _ _ hf.pl hf.nl hn.sm, hok, if_true, hf.pl.len, hf.nl.len, d1, d2]
      refine wp_call (c_cloneI _ _ h f0.pl (Nat.le_trans hn.pl (by decide))) ?_
      rintro r hb1 ⟨gb1, nb1⟩
      obtain ⟨u1, rfl⟩ := nb1.one
      have fb1 := f0.grow gb1
      simp +contextual (maxSteps := 2000000) only [go_sem, Nat.reduceEqDiff, reduceCtorEq, Nat.reduceAdd, Nat.reduceLeDiff, d1, d2, fb1.pl.len, fb1.nl.len]
      refine wp_lit (enc := encC) (k := 4) (l := [⟨1, noName, u1, .sl none 0 (some 0)⟩]) rfl rfl ?_
      intro hc1 wc1 gc1 nc1 _
      have fc1 := fb1.grow gc1
      simp +contextual (maxSteps := 2000000) only [go_sem, Nat.reduceEqDiff, reduceCtorEq, Nat.reduceAdd, Nat.reduceLeDiff, d1, d2, fc1.pl.len, fc1.nl.len]
      refine wp_append lenC (x0.out.out.grow (gb1.trans gc1)) (nc1.sl lenC) ((Grow.refl h).trans (gb1.trans gc1)) (by have := x0.out.len; simp at this ⊢) ?_
      intro hd1 sd1 gd1 nd1 st1 bd1
      obtain ⟨c1, rfl⟩ := nd1.one
      have y10 : NtC h hc1 ⟨1, noName, u1, .sl none 0 (some 0)⟩ ⟨1, noName, f.pl, []⟩ := ⟨rfl, rfl, nb1.grow gc1, .nil⟩
      have x1 := x0.push (gb1.trans gc1) y10 (fun j hj => ⟨(nb1.lt hj).2, Nat.lt_of_lt_of_le (nb1.lt hj).1 gc1.n⟩) (fun j hj => by simp [baseOf] at hj) Sep.nil.symm nd1 st1 bd1 (Grow.refl h).n
      have f1 := hf.grow gd1
      simp +contextual (maxSteps := 2000000) only [go_sem, Nat.reduceEqDiff, reduceCtorEq, Nat.reduceAdd, Nat.reduceLeDiff, d1, d2, f1.pl.len, f1.nl.len]
      refine wp_call (c_clipC _ _ _ _ x1) ?_
      rintro r h5 ⟨rfl, q, rfl, x9⟩
      simp +contextual (maxSteps := 2000000) only [go_sem, Nat.reduceEqDiff, reduceCtorEq, Nat.reduceAdd, Nat.reduceLeDiff]
      exact gcK_of ⟨gd1, _, _, rfl, x9⟩ (fun hs _ => ⟨Grow.refl h, _, _, rfl, x9.scalar (by simpa [AV.scalar] using hs) h⟩)
  · have e1 : starPl f = [] := if_neg y1
    have d1 : decide (((f.pl.length : Nat) : Int) > 0) = false := decide_eq_false (by omega)
    by_cases y2 : 0 < f.nl.length
    · have e2 : starNl f = [⟨3, noName, [], f.nl⟩] := if_pos y2
      have d2 : decide (((f.nl.length : Nat) : Int) > 0) = true := decide_eq_true (by omega)
      rw [e1, e2]
      have x0 : NwC h h (.sl none 0 (some 0)) [] [] := .nil
      have f0 := hf
      simp +contextual (maxSteps := 2000000) only [go_sem, Nat.reduceEqDiff, reduceCtorEq, Nat.reduceAdd, Nat.reduceLeDiff, F45, c_ValidFlat _ _ _ _ hf.pl hf.nl hn.sm, hok, if_true, hf.pl.len, hf.nl.len, d1, d2]
      refine wp_call (c_cloneP _ _ h f0.nl (Nat.le_trans hn.nl (by decide))) ?_
      rintro r hb1 ⟨gb1, nb1⟩
      obtain ⟨u1, rfl⟩ := nb1.one
      have fb1 := f0.grow gb1
      simp +contextual (maxSteps := 2000000) only [go_sem, Nat.reduceEqDiff, reduceCtorEq, Nat.reduceAdd, Nat.reduceLeDiff, d1, d2, fb1.pl.len, fb1.nl.len]
      refine wp_lit (enc := encC) (k := 4) (l := [⟨3, noName, .sl none 0 (some 0), u1⟩]) rfl rfl ?_
      intro hc1 wc1 gc1 nc1 _
      have fc1 := fb1.grow gc1
      simp +contextual (maxSteps := 2000000) only [go_sem, Nat.reduceEqDiff, reduceCtorEq, Nat.reduceAdd, Nat.reduceLeDiff, d1, d2, fc1.pl.len, fc1.nl.len]
      refine wp_append lenC (x0.out.out.grow (gb1.trans gc1)) (nc1.sl lenC) ((Grow.refl h).trans (gb1.trans gc1)) (by have := x0.out.len; simp at this ⊢) ?_
      intro hd1 sd1 gd1 nd1 st1 bd1
      obtain ⟨c1, rfl⟩ := nd1.one
      have y10 : NtC h hc1 ⟨3, noName, .sl none 0 (some 0), u1⟩ ⟨3, noName, [], f.nl⟩ := ⟨rfl, rfl, .nil, nb1.grow gc1⟩
      have x1 := x0.push (gb1.trans gc1) y10 (fun j hj => by simp [baseOf] at hj) (fun j hj => ⟨(nb1.lt hj).2, Nat.lt_of_lt_of_le (nb1.lt hj).1 gc1.n⟩) Sep.nil nd1 st1 bd1 (Grow.refl h).n
      have f1 := hf.grow gd1
      simp +contextual (maxSteps := 2000000) only [go_sem, Nat.reduceEqDiff, reduceCtorEq, Nat.reduceAdd, Nat.reduceLeDiff, d1, d2, f1.pl.len, f1.nl.len]
      refine wp_call (c_clipC _ _ _ _ x1) ?_
      rintro r h5 ⟨rfl, q, rfl, x9⟩
      simp +contextual (maxSteps := 2000000) only [go_sem, Nat.reduceEqDiff, reduceCtorEq, Nat.reduceAdd, Nat.reduceLeDiff]
      exact gcK_of ⟨gd1, _, _, rfl, x9⟩ (fun hs _ => ⟨Grow.refl h, _, _, rfl, x9.scalar (by simpa [AV.scalar] using hs) h⟩)
    · have e2 : starNl f = [] := if_neg y2
      have d2 : decide (((f.nl.length : Nat) : Int) > 0) = false := decide_eq_false (by omega)
      rw [e1, e2]
      have x0 : NwC h h (.sl none 0 (some 0)) [] [] := .nil
      have f0 := hf
      simp +contextual (maxSteps := 2000000) only [go_sem, Nat.reduceEqDiff, reduceCtorEq, Nat.reduceAdd, Nat.reduceLeDiff, F45, c_ValidFlat _ _ _ _ hf.pl hf.nl hn.sm, hok, if_true, hf.pl.len, hf.nl.len, d1, d2]
      refine wp_call (c_clipC _ _ _ _ x0) ?_
      rintro r h5 ⟨rfl, q, rfl, x9⟩
      simp +contextual (maxSteps := 2000000) only [go_sem, Nat.reduceEqDiff, reduceCtorEq, Nat.reduceAdd, Nat.reduceLeDiff]
      exact ⟨Grow.refl _, _, _, rfl, x9⟩
end Go.Proofs.Ytnphlonhogcedaa.Am
