/- Contracts: the calls of a flat call, of both sides. -/
import Derived.Test.YtnphlonhogcedaaA3
import Derived.Test.YtnphlonhogcedaaB1
import Derived.Test.YtnphlonhogcedaaB2
import Derived.Test.YtnphlonhogcedaaDN
namespace Go.Proofs.Ytnphlonhogcedaa.Am
open Go
set_option maxRecDepth 100000
set_option maxHeartbeats 4000000
set_option linter.unusedSimpArgs false
set_option linter.unusedVariables false
attribute [local go_sem ↓] bv_t bv_c ev_t ev_c put_same put_ne put_none kill_at pro_at lb_same lb_ne start_zero start_succ wpC_seq wpC_reg wpC_cond wpC_block wpC_skip wpC_exit wpC_ret thenQ_normal thenQ_exit thenQ_ret inBlk_normal inBlk_exit inBlk_ret wpS_nil wpS_step wpS_again wpS_guard wpO_mov wpO_load wpO_faddr wpO_nilCheck wpO_pick wpO_build wpO_bin wpO_eqb wpO_eqst wpO_eqnil wpO_not wpO_conv wpO_bytesStr wpO_iaddr wpO_idxStr wpO_field wpO_extract wpO_len wpO_lenStr wpO_cap wpO_min wpO_slice wpO_sliceStr wpO_alloc wpO_box wpO_store wpO_call wpO_callv wpO_mkfn wpO_buildSlice wpO_mkslice wpO_append wpO_appz proA_nil proA_cons tmpX_nil tmpX_tmp tmpX_cell doneB_normal doneB_ret agK_cons agK_nil pureB_load results_one results_two results_nil resBs_cons resBs_nil resB_tmp resB_cell
attribute [local go_sem] kill_v kill_lp_ne kill_lp_same pro_v pro_lp_same pro_lp_ne av_v av_lp optB_some optX_some valX_eq ldX_lp ldX_v faX_lp faX_v ncX_lp ncX_ptr ncX_fn boxK_one boxK_agg stL_some stK_lp_one stK_lp_agg stK_v_one stK_v_agg proM_v proM_lp callG_mk callVG_mk callvK_fn fnG_mk ptrsA_nil ptrsA_cons callH_some whenA_true whenA_false guardH_tt guardH_ff guardH_tf guardH_ft guardH_undef agV_one agV_agg lenO_sl lenStrO_str notO_bool pickO_bool convO_int eqbO_bool eqnilO_sl extractO_tup capO_sl minO_int loadL_one loadL_all storeL_eq fillA_nil fillA_one fillA_agg nat_ge neg_ge nat_lt neg_lt buildO bin_add bin_sub bin_mul bin_eql bin_neq bin_lss bin_leq bin_gtr bin_geq str_eql str_neq str_lss str_leq str_gtr str_geq retK_some endK_mk gcK_same gcK_int gcK_bool tupO_one tupO_agg rdy_self ib ii Option.map_none Option.map_some Option.some.injEq exists_eq_left' exists_eq_left ne_eq not_false_eq_true if_true if_false List.map_cons List.map_nil List.getElem?_cons_zero List.getElem?_cons_succ List.length_cons List.length_nil List.take_succ_cons List.take_zero List.take_nil List.drop_succ_cons List.drop_zero List.drop_nil List.cons_append List.nil_append List.append_nil List.set_cons_zero List.set_cons_succ Nat.zero_add forall_const true_and and_true and_self Bool.false_eq_true false_implies true_implies implies_true Bool.not_true Bool.not_false Bool.not_eq_true' Bool.not_eq_false' beq_self_eq_true Bool.bne_true Bool.bne_false
attribute [local go_sem] lenI lenS lenP lenQ lenB lenL lenT encI_0 encS_0 encP_0 encP_1 encQ_0 encQ_1 encQ_2 encQ_3 encB_0 encB_1 encL_0 encL_1 encT_0 encT_1
attribute [local go_sem low] whenA_bool guardH_bool
attribute [local go_sem] lenC encC_0 encC_1 encC_2 encC_3
theorem noName_size : noName.size = 0 := strOfNums_size []
theorem miniC.of {l : List Arg} (h : l.length ≤ 16) (k : ∀ a ∈ l, a.name.size ≤ 6 ∧ a.list.length ≤ 8 ∧ a.pairs.length ≤ 8 ∧ ∀ x ∈ a.pairs, x.name.size ≤ 6) : miniC l := by
  refine ⟨by omega, fun a ha => ?_, fun a ha => ?_, fun a ha => ?_, fun a ha x hx => ?_, ?_⟩
  · have := (k a ha).1; omega
  · have := (k a ha).2.1; omega
  · have := (k a ha).2.2.1; omega
  · have := (k a ha).2.2.2 x hx; omega
  · have := wsum_bound (f := cellsEC) (B := 26) (l := l) (fun a ha => by have := k a ha; unfold cellsEC; omega)
    unfold cellsC
    omega
theorem miniC.callOf {f : Flat} (_h : miniF f) : miniC (callOf f) := by
  unfold Am.callOf
  split
  · rename_i hok
    obtain ⟨h1, h2, h3⟩ := okFlat_sm hok
    refine .of (by simp; omega) fun a ha => ?_
    rcases List.mem_append.1 ha with ha | ha
    · obtain ⟨x, hx, rfl⟩ := List.mem_map.1 ha
      have := noName_size
      exact ⟨by simp [plainA, this], by simp [plainA], by simp [plainA], fun y hy => by simp [plainA] at hy⟩
    · obtain ⟨x, hx, rfl⟩ := List.mem_map.1 ha
      exact ⟨h3 x hx, by simp [nameA], by simp [nameA], fun y hy => by simp [nameA] at hy⟩
  · exact .of (by simp) fun a ha => by simp at ha
theorem miniC.starCall {f : Flat} (_h : miniF f) : miniC (starCall f) := by
  unfold Am.starCall
  split
  · rename_i hok
    obtain ⟨h1, h2, h3⟩ := okFlat_sm hok
    have hz := noName_size
    refine .of (by unfold starPl starNl; split <;> split <;> simp) fun a ha => ?_
    rcases List.mem_append.1 ha with ha | ha
    · unfold starPl at ha
      split at ha
      · obtain rfl := List.mem_singleton.1 ha
        exact ⟨by simp [hz], h1, by simp, fun y hy => by simp at hy⟩
      · simp at ha
    · unfold starNl at ha
      split at ha
      · obtain rfl := List.mem_singleton.1 ha
        exact ⟨by simp [hz], by simp, h2, h3⟩
      · simp at ha
  · exact .of (by simp) fun a ha => by simp at ha
section
variable {P : Program} {T : Tb} {L : Lb} {h : H} {Q : PostC} {K : Post}
/-! slices.Clip(()impl.Arg,impl.Arg) -/
def L81_0 : List AStep := [⟨.mov (.c (.sl none 0 (some 0))), (some 2), none, []⟩]
theorem v81_0 : wpS P L81_0 T L (rdy h) K = wpS P ([⟨.mov (.c (.sl none 0 (some 0))), (some 2), none, []⟩]) T L (rdy h) K := rfl
def L81_1 : List AStep := [⟨.mov (.t 8), (some 2), none, []⟩]
theorem v81_1 : wpS P L81_1 T L (rdy h) K = wpS P ([⟨.mov (.t 8), (some 2), none, []⟩]) T L (rdy h) K := rfl
def L81_2 : List AStep := ⟨.len (.t 6), (some 7), none, []⟩ :: ⟨.slice 36 4 (.t 3) none (some (.t 5)) (some (.t 7)), (some 8), none, []⟩ :: L81_1
theorem v81_2 : wpS P L81_2 T L (rdy h) K = wpS P (⟨.len (.t 6), (some 7), none, []⟩ :: ⟨.slice 36 4 (.t 3) none (some (.t 5)) (some (.t 7)), (some 8), none, []⟩ :: L81_1) T L (rdy h) K := rfl
def L81_3 : List AStep := ⟨.len (.t 4), (some 5), none, []⟩ :: ⟨.mov (.t 0), (some 6), none, []⟩ :: L81_2
theorem v81_3 : wpS P L81_3 T L (rdy h) K = wpS P (⟨.len (.t 4), (some 5), none, []⟩ :: ⟨.mov (.t 0), (some 6), none, []⟩ :: L81_2) T L (rdy h) K := rfl
def L81_4 : List AStep := ⟨.mov (.t 0), (some 3), none, []⟩ :: ⟨.mov (.t 0), (some 4), none, []⟩ :: L81_3
theorem v81_4 : wpS P L81_4 T L (rdy h) K = wpS P (⟨.mov (.t 0), (some 3), none, []⟩ :: ⟨.mov (.t 0), (some 4), none, []⟩ :: L81_3) T L (rdy h) K := rfl
def C81_0 : ACode := .seq (.reg L81_4) .ret
theorem u81_0 : wpC P C81_0 T L (rdy h) Q = wpC P (.seq (.reg L81_4) .ret) T L (rdy h) Q := rfl
def C81_1 : ACode := .seq (.reg L81_0) C81_0
theorem u81_1 : wpC P C81_1 T L (rdy h) Q = wpC P (.seq (.reg L81_0) C81_0) T L (rdy h) Q := rfl
def F81 : AFunc := ⟨9, [.tmp 2], C81_1⟩
theorem cF81 : compB Try.prog 81 = some F81 := by kernel_rfl
end
attribute [local go_sem ↓] u81_0 u81_1 v81_0 v81_1 v81_2 v81_3 v81_4
theorem c_clipC {h0 : H} (l : List Arg) (p : CV) (rs : List RArg) (h : H) (hl : NwC h0 h p rs l) : callK (bm Try.prog 81 [.one p] h) fun r h' => h' = h ∧ ∃ q, r = .one q ∧ NwC h0 h q rs l := by
  refine bm_of cF81 ?_
  obtain ⟨w, e1, n1, b1⟩ := hl.out.out.clipB (kd := .i64) (kd' := .i64)
  obtain ⟨c, rfl⟩ := n1.one
  simp +contextual (maxSteps := 2000000) only [go_sem, Nat.reduceEqDiff, reduceCtorEq, Nat.reduceAdd, Nat.reduceLeDiff, F81, hl.out.out.length, e1]
  exact ⟨_, rfl, hl.clip n1 b1⟩
section
variable {P : Program} {T : Tb} {L : Lb} {h : H} {Q : PostC} {K : Post}
/-! spec.callOf -/
def L106_0 : List AStep := [⟨.box 30 (.t 0), (some 1), none, []⟩, ⟨.alloc 25 [(.sl none 0 (some 0))], (some 2), none, []⟩]
theorem v106_0 : wpS P L106_0 T L (rdy h) K = wpS P ([⟨.box 30 (.t 0), (some 1), none, []⟩, ⟨.alloc 25 [(.sl none 0 (some 0))], (some 2), none, []⟩]) T L (rdy h) K := rfl
def L106_1 : List AStep := [⟨.alloc 25 [(.sl none 0 (some 0))], (some 3), none, []⟩, ⟨.store 1 (.t 3) (.t 7), none, none, []⟩]
theorem v106_1 : wpS P L106_1 T L (rdy h) K = wpS P ([⟨.alloc 25 [(.sl none 0 (some 0))], (some 3), none, []⟩, ⟨.store 1 (.t 3) (.t 7), none, none, []⟩]) T L (rdy h) K := rfl
def L106_2 : List AStep := ⟨.buildSlice 36 0 [(.int .i64 0), (.str (strOfNums [])), (.sl none 0 (some 0)), (.sl none 0 (some 0))] [], (some 6), none, []⟩ :: ⟨.build [(.sl none 0 (some 0))] [(0, 1, (.t 6))], (some 7), none, []⟩ :: L106_1
theorem v106_2 : wpS P L106_2 T L (rdy h) K = wpS P (⟨.buildSlice 36 0 [(.int .i64 0), (.str (strOfNums [])), (.sl none 0 (some 0)), (.sl none 0 (some 0))] [], (some 6), none, []⟩ :: ⟨.build [(.sl none 0 (some 0))] [(0, 1, (.t 6))], (some 7), none, []⟩ :: L106_1) T L (rdy h) K := rfl
def L106_3 : List AStep := [⟨.mov (.c (.int .i64 0)), (some 4), none, []⟩]
theorem v106_3 : wpS P L106_3 T L (rdy h) K = wpS P ([⟨.mov (.c (.int .i64 0)), (some 4), none, []⟩]) T L (rdy h) K := rfl
def L106_4 : List AStep := [⟨.bin .lss (.t 8) (.t 11), (some 12), none, []⟩]
theorem v106_4 : wpS P L106_4 T L (rdy h) K = wpS P ([⟨.bin .lss (.t 8) (.t 11), (some 12), none, []⟩]) T L (rdy h) K := rfl
def L106_5 : List AStep := ⟨.load 1 false (.t 9), (some 10), none, []⟩ :: ⟨.len (.t 10), (some 11), none, []⟩ :: L106_4
theorem v106_5 : wpS P L106_5 T L (rdy h) K = wpS P (⟨.load 1 false (.t 9), (some 10), none, []⟩ :: ⟨.len (.t 10), (some 11), none, []⟩ :: L106_4) T L (rdy h) K := rfl
def L106_6 : List AStep := ⟨.mov (.t 4), (some 8), none, []⟩ :: ⟨.faddr 0 (.t 1), (some 9), none, []⟩ :: L106_5
theorem v106_6 : wpS P L106_6 T L (rdy h) K = wpS P (⟨.mov (.t 4), (some 8), none, []⟩ :: ⟨.faddr 0 (.t 1), (some 9), none, []⟩ :: L106_5) T L (rdy h) K := rfl
def L106_7 : List AStep := [⟨.store 1 (.t 26) (.t 25), none, none, []⟩]
theorem v106_7 : wpS P L106_7 T L (rdy h) K = wpS P ([⟨.store 1 (.t 26) (.t 25), none, none, []⟩]) T L (rdy h) K := rfl
def L106_8 : List AStep := ⟨.append 36 4 72 (.t 16) (.t 24), (some 25), none, []⟩ :: ⟨.faddr 0 (.t 3), (some 26), none, []⟩ :: L106_7
theorem v106_8 : wpS P L106_8 T L (rdy h) K = wpS P (⟨.append 36 4 72 (.t 16) (.t 24), (some 25), none, []⟩ :: ⟨.faddr 0 (.t 3), (some 26), none, []⟩ :: L106_7) T L (rdy h) K := rfl
def L106_9 : List AStep := ⟨.build [(.int .i64 0), (.str (strOfNums [])), (.sl none 0 (some 0)), (.sl none 0 (some 0))] [(0, 1, (.c (.int .i64 0))), (2, 1, (.t 22))], (some 23), none, []⟩ :: ⟨.buildSlice 36 1 [(.int .i64 0), (.str (strOfNums [])), (.sl none 0 (some 0)), (.sl none 0 (some 0))] [(0, 4, (.t 23))], (some 24), none, []⟩ :: L106_8
theorem v106_9 : wpS P L106_9 T L (rdy h) K = wpS P (⟨.build [(.int .i64 0), (.str (strOfNums [])), (.sl none 0 (some 0)), (.sl none 0 (some 0))] [(0, 1, (.c (.int .i64 0))), (2, 1, (.t 22))], (some 23), none, []⟩ :: ⟨.buildSlice 36 1 [(.int .i64 0), (.str (strOfNums [])), (.sl none 0 (some 0)), (.sl none 0 (some 0))] [(0, 4, (.t 23))], (some 24), none, []⟩ :: L106_8) T L (rdy h) K := rfl
def L106_10 : List AStep := ⟨.load 1 false (.t 20), (some 21), none, []⟩ :: ⟨.buildSlice 3 1 [(.int .i64 0)] [(0, 1, (.t 21))], (some 22), none, []⟩ :: L106_9
theorem v106_10 : wpS P L106_10 T L (rdy h) K = wpS P (⟨.load 1 false (.t 20), (some 21), none, []⟩ :: ⟨.buildSlice 3 1 [(.int .i64 0)] [(0, 1, (.t 21))], (some 22), none, []⟩ :: L106_9) T L (rdy h) K := rfl
def L106_11 : List AStep := ⟨.mov (.t 4), (some 19), none, []⟩ :: ⟨.iaddr 1 (.t 18) (.t 19), (some 20), none, []⟩ :: L106_10
theorem v106_11 : wpS P L106_11 T L (rdy h) K = wpS P (⟨.mov (.t 4), (some 19), none, []⟩ :: ⟨.iaddr 1 (.t 18) (.t 19), (some 20), none, []⟩ :: L106_10) T L (rdy h) K := rfl
def L106_12 : List AStep := ⟨.faddr 0 (.t 1), (some 17), none, []⟩ :: ⟨.load 1 false (.t 17), (some 18), none, []⟩ :: L106_11
theorem v106_12 : wpS P L106_12 T L (rdy h) K = wpS P (⟨.faddr 0 (.t 1), (some 17), none, []⟩ :: ⟨.load 1 false (.t 17), (some 18), none, []⟩ :: L106_11) T L (rdy h) K := rfl
def L106_13 : List AStep := ⟨.faddr 0 (.t 3), (some 15), none, []⟩ :: ⟨.load 1 false (.t 15), (some 16), none, []⟩ :: L106_12
theorem v106_13 : wpS P L106_13 T L (rdy h) K = wpS P (⟨.faddr 0 (.t 3), (some 15), none, []⟩ :: ⟨.load 1 false (.t 15), (some 16), none, []⟩ :: L106_12) T L (rdy h) K := rfl
def L106_14 : List AStep := [⟨.mov (.t 14), (some 4), none, []⟩]
theorem v106_14 : wpS P L106_14 T L (rdy h) K = wpS P ([⟨.mov (.t 14), (some 4), none, []⟩]) T L (rdy h) K := rfl
def L106_15 : List AStep := ⟨.mov (.t 4), (some 13), none, []⟩ :: ⟨.bin .add (.t 13) (.c (.int .i64 1)), (some 14), none, []⟩ :: L106_14
theorem v106_15 : wpS P L106_15 T L (rdy h) K = wpS P (⟨.mov (.t 4), (some 13), none, []⟩ :: ⟨.bin .add (.t 13) (.c (.int .i64 1)), (some 14), none, []⟩ :: L106_14) T L (rdy h) K := rfl
def L106_16 : List AStep := [⟨.mov (.c (.int .i64 0)), (some 5), none, []⟩]
theorem v106_16 : wpS P L106_16 T L (rdy h) K = wpS P ([⟨.mov (.c (.int .i64 0)), (some 5), none, []⟩]) T L (rdy h) K := rfl
def L106_17 : List AStep := [⟨.bin .lss (.t 27) (.t 30), (some 31), none, []⟩]
theorem v106_17 : wpS P L106_17 T L (rdy h) K = wpS P ([⟨.bin .lss (.t 27) (.t 30), (some 31), none, []⟩]) T L (rdy h) K := rfl
def L106_18 : List AStep := ⟨.load 1 false (.t 28), (some 29), none, []⟩ :: ⟨.len (.t 29), (some 30), none, []⟩ :: L106_17
theorem v106_18 : wpS P L106_18 T L (rdy h) K = wpS P (⟨.load 1 false (.t 28), (some 29), none, []⟩ :: ⟨.len (.t 29), (some 30), none, []⟩ :: L106_17) T L (rdy h) K := rfl
def L106_19 : List AStep := ⟨.mov (.t 5), (some 27), none, []⟩ :: ⟨.faddr 1 (.t 1), (some 28), none, []⟩ :: L106_18
theorem v106_19 : wpS P L106_19 T L (rdy h) K = wpS P (⟨.mov (.t 5), (some 27), none, []⟩ :: ⟨.faddr 1 (.t 1), (some 28), none, []⟩ :: L106_18) T L (rdy h) K := rfl
def L106_20 : List AStep := [⟨.faddr 0 (.t 3), (some 52), none, []⟩, ⟨.store 1 (.t 52) (.t 51), none, none, []⟩]
theorem v106_20 : wpS P L106_20 T L (rdy h) K = wpS P ([⟨.faddr 0 (.t 3), (some 52), none, []⟩, ⟨.store 1 (.t 52) (.t 51), none, none, []⟩]) T L (rdy h) K := rfl
def L106_21 : List AStep := ⟨.buildSlice 36 1 [(.int .i64 0), (.str (strOfNums [])), (.sl none 0 (some 0)), (.sl none 0 (some 0))] [(0, 4, (.t 49))], (some 50), none, []⟩ :: ⟨.append 36 4 72 (.t 35) (.t 50), (some 51), none, []⟩ :: L106_20
theorem v106_21 : wpS P L106_21 T L (rdy h) K = wpS P (⟨.buildSlice 36 1 [(.int .i64 0), (.str (strOfNums [])), (.sl none 0 (some 0)), (.sl none 0 (some 0))] [(0, 4, (.t 49))], (some 50), none, []⟩ :: ⟨.append 36 4 72 (.t 35) (.t 50), (some 51), none, []⟩ :: L106_20) T L (rdy h) K := rfl
def L106_22 : List AStep := ⟨.buildSlice 3 1 [(.int .i64 0)] [(0, 1, (.t 47))], (some 48), none, []⟩ :: ⟨.build [(.int .i64 0), (.str (strOfNums [])), (.sl none 0 (some 0)), (.sl none 0 (some 0))] [(0, 1, (.c (.int .i64 2))), (1, 1, (.t 41)), (2, 1, (.t 48))], (some 49), none, []⟩ :: L106_21
theorem v106_22 : wpS P L106_22 T L (rdy h) K = wpS P (⟨.buildSlice 3 1 [(.int .i64 0)] [(0, 1, (.t 47))], (some 48), none, []⟩ :: ⟨.build [(.int .i64 0), (.str (strOfNums [])), (.sl none 0 (some 0)), (.sl none 0 (some 0))] [(0, 1, (.c (.int .i64 2))), (1, 1, (.t 41)), (2, 1, (.t 48))], (some 49), none, []⟩ :: L106_21) T L (rdy h) K := rfl
def L106_23 : List AStep := ⟨.faddr 1 (.t 45), (some 46), none, []⟩ :: ⟨.load 1 false (.t 46), (some 47), none, []⟩ :: L106_22
theorem v106_23 : wpS P L106_23 T L (rdy h) K = wpS P (⟨.faddr 1 (.t 45), (some 46), none, []⟩ :: ⟨.load 1 false (.t 46), (some 47), none, []⟩ :: L106_22) T L (rdy h) K := rfl
def L106_24 : List AStep := ⟨.mov (.t 5), (some 44), none, []⟩ :: ⟨.iaddr 2 (.t 43) (.t 44), (some 45), none, []⟩ :: L106_23
theorem v106_24 : wpS P L106_24 T L (rdy h) K = wpS P (⟨.mov (.t 5), (some 44), none, []⟩ :: ⟨.iaddr 2 (.t 43) (.t 44), (some 45), none, []⟩ :: L106_23) T L (rdy h) K := rfl
def L106_25 : List AStep := ⟨.faddr 1 (.t 1), (some 42), none, []⟩ :: ⟨.load 1 false (.t 42), (some 43), none, []⟩ :: L106_24
theorem v106_25 : wpS P L106_25 T L (rdy h) K = wpS P (⟨.faddr 1 (.t 1), (some 42), none, []⟩ :: ⟨.load 1 false (.t 42), (some 43), none, []⟩ :: L106_24) T L (rdy h) K := rfl
def L106_26 : List AStep := ⟨.faddr 0 (.t 39), (some 40), none, []⟩ :: ⟨.load 1 false (.t 40), (some 41), none, []⟩ :: L106_25
theorem v106_26 : wpS P L106_26 T L (rdy h) K = wpS P (⟨.faddr 0 (.t 39), (some 40), none, []⟩ :: ⟨.load 1 false (.t 40), (some 41), none, []⟩ :: L106_25) T L (rdy h) K := rfl
def L106_27 : List AStep := ⟨.mov (.t 5), (some 38), none, []⟩ :: ⟨.iaddr 2 (.t 37) (.t 38), (some 39), none, []⟩ :: L106_26
theorem v106_27 : wpS P L106_27 T L (rdy h) K = wpS P (⟨.mov (.t 5), (some 38), none, []⟩ :: ⟨.iaddr 2 (.t 37) (.t 38), (some 39), none, []⟩ :: L106_26) T L (rdy h) K := rfl
def L106_28 : List AStep := ⟨.faddr 1 (.t 1), (some 36), none, []⟩ :: ⟨.load 1 false (.t 36), (some 37), none, []⟩ :: L106_27
theorem v106_28 : wpS P L106_28 T L (rdy h) K = wpS P (⟨.faddr 1 (.t 1), (some 36), none, []⟩ :: ⟨.load 1 false (.t 36), (some 37), none, []⟩ :: L106_27) T L (rdy h) K := rfl
def L106_29 : List AStep := ⟨.faddr 0 (.t 3), (some 34), none, []⟩ :: ⟨.load 1 false (.t 34), (some 35), none, []⟩ :: L106_28
theorem v106_29 : wpS P L106_29 T L (rdy h) K = wpS P (⟨.faddr 0 (.t 3), (some 34), none, []⟩ :: ⟨.load 1 false (.t 34), (some 35), none, []⟩ :: L106_28) T L (rdy h) K := rfl
def L106_30 : List AStep := [⟨.mov (.t 33), (some 5), none, []⟩]
theorem v106_30 : wpS P L106_30 T L (rdy h) K = wpS P ([⟨.mov (.t 33), (some 5), none, []⟩]) T L (rdy h) K := rfl
def L106_31 : List AStep := ⟨.mov (.t 5), (some 32), none, []⟩ :: ⟨.bin .add (.t 32) (.c (.int .i64 1)), (some 33), none, []⟩ :: L106_30
theorem v106_31 : wpS P L106_31 T L (rdy h) K = wpS P (⟨.mov (.t 5), (some 32), none, []⟩ :: ⟨.bin .add (.t 32) (.c (.int .i64 1)), (some 33), none, []⟩ :: L106_30) T L (rdy h) K := rfl
def L106_32 : List AStep := [⟨.load 1 true (.t 3), (some 53), none, []⟩, ⟨.store 1 (.t 2) (.t 53), none, none, []⟩]
theorem v106_32 : wpS P L106_32 T L (rdy h) K = wpS P ([⟨.load 1 true (.t 3), (some 53), none, []⟩, ⟨.store 1 (.t 2) (.t 53), none, none, []⟩]) T L (rdy h) K := rfl
def C106_0 : ACode := .cond (.t 12) .skip (.exit 0)
theorem u106_0 : wpC P C106_0 T L (rdy h) Q = wpC P (.cond (.t 12) .skip (.exit 0)) T L (rdy h) Q := rfl
def C106_1 : ACode := .seq (.reg L106_6) C106_0
theorem u106_1 : wpC P C106_1 T L (rdy h) Q = wpC P (.seq (.reg L106_6) C106_0) T L (rdy h) Q := rfl
def C106_2 : ACode := .block 1 (.reg L106_13)
theorem u106_2 : wpC P C106_2 T L (rdy h) Q = wpC P (.block 1 (.reg L106_13)) T L (rdy h) Q := rfl
def C106_3 : ACode := .seq C106_2 (.reg L106_15)
theorem u106_3 : wpC P C106_3 T L (rdy h) Q = wpC P (.seq C106_2 (.reg L106_15)) T L (rdy h) Q := rfl
def C106_4 : ACode := .seq C106_1 C106_3
theorem u106_4 : wpC P C106_4 T L (rdy h) Q = wpC P (.seq C106_1 C106_3) T L (rdy h) Q := rfl
def C106_5 : ACode := .block 0 (.loop C106_4)
theorem u106_5 : wpC P C106_5 T L (rdy h) Q = wpC P (.block 0 (.loop C106_4)) T L (rdy h) Q := rfl
def C106_6 : ACode := .seq (.reg L106_3) C106_5
theorem u106_6 : wpC P C106_6 T L (rdy h) Q = wpC P (.seq (.reg L106_3) C106_5) T L (rdy h) Q := rfl
def C106_7 : ACode := .cond (.t 31) .skip (.exit 2)
theorem u106_7 : wpC P C106_7 T L (rdy h) Q = wpC P (.cond (.t 31) .skip (.exit 2)) T L (rdy h) Q := rfl
def C106_8 : ACode := .seq (.reg L106_19) C106_7
theorem u106_8 : wpC P C106_8 T L (rdy h) Q = wpC P (.seq (.reg L106_19) C106_7) T L (rdy h) Q := rfl
def C106_9 : ACode := .block 3 (.reg L106_29)
theorem u106_9 : wpC P C106_9 T L (rdy h) Q = wpC P (.block 3 (.reg L106_29)) T L (rdy h) Q := rfl
def C106_10 : ACode := .seq C106_9 (.reg L106_31)
theorem u106_10 : wpC P C106_10 T L (rdy h) Q = wpC P (.seq C106_9 (.reg L106_31)) T L (rdy h) Q := rfl
def C106_11 : ACode := .seq C106_8 C106_10
theorem u106_11 : wpC P C106_11 T L (rdy h) Q = wpC P (.seq C106_8 C106_10) T L (rdy h) Q := rfl
def C106_12 : ACode := .block 2 (.loop C106_11)
theorem u106_12 : wpC P C106_12 T L (rdy h) Q = wpC P (.block 2 (.loop C106_11)) T L (rdy h) Q := rfl
def C106_13 : ACode := .seq (.reg L106_16) C106_12
theorem u106_13 : wpC P C106_13 T L (rdy h) Q = wpC P (.seq (.reg L106_16) C106_12) T L (rdy h) Q := rfl
def C106_14 : ACode := .seq (.reg L106_32) .ret
theorem u106_14 : wpC P C106_14 T L (rdy h) Q = wpC P (.seq (.reg L106_32) .ret) T L (rdy h) Q := rfl
def C106_15 : ACode := .seq C106_13 C106_14
theorem u106_15 : wpC P C106_15 T L (rdy h) Q = wpC P (.seq C106_13 C106_14) T L (rdy h) Q := rfl
def C106_16 : ACode := .seq C106_6 C106_15
theorem u106_16 : wpC P C106_16 T L (rdy h) Q = wpC P (.seq C106_6 C106_15) T L (rdy h) Q := rfl
def C106_17 : ACode := .seq (.reg L106_2) C106_16
theorem u106_17 : wpC P C106_17 T L (rdy h) Q = wpC P (.seq (.reg L106_2) C106_16) T L (rdy h) Q := rfl
def C106_18 : ACode := .seq (.reg L106_0) C106_17
theorem u106_18 : wpC P C106_18 T L (rdy h) Q = wpC P (.seq (.reg L106_0) C106_17) T L (rdy h) Q := rfl
def F106 : AFunc := ⟨54, [.cell 2 1 true], C106_18⟩
theorem cF106 : compB Try.prog 106 = some F106 := by kernel_rfl
end
attribute [local go_sem ↓] u106_0 u106_1 u106_2 u106_3 u106_4 u106_5 u106_6 u106_7 u106_8 u106_9 u106_10 u106_11 u106_12 u106_13 u106_14 u106_15 u106_16 u106_17 u106_18 v106_0 v106_1 v106_2 v106_3 v106_4 v106_5 v106_6 v106_7 v106_8 v106_9 v106_10 v106_11 v106_12 v106_13 v106_14 v106_15 v106_16 v106_17 v106_18 v106_19 v106_20 v106_21 v106_22 v106_23 v106_24 v106_25 v106_26 v106_27 v106_28 v106_29 v106_30 v106_31 v106_32
theorem c_callOf (f : Flat) (p n : CV) (h : H) (hf : SlF h p n f) (hn : miniF f) : callK (bm Try.prog 106 [.agg [p, n]] h) fun r h' => Grow h h' ∧ ∃ q R, r = .agg [q] ∧ NwC h h' q R (f.pl.map plainA ++ f.nl.map nameA) := by
  refine bm_of cF106 ?_
  have hb1 := hn.pl
  have hb2 := hn.nl
  simp +contextual (maxSteps := 2000000) only [go_sem, Nat.reduceEqDiff, reduceCtorEq, Nat.reduceAdd, Nat.reduceLeDiff, F106]
  refine wp_lit (enc := encC) (k := 4) (l := []) rfl rfl ?_
  intro h1 w g1 n1 _
  obtain ⟨c, rfl⟩ := n1.one
  simp +contextual (maxSteps := 2000000) only [go_sem, Nat.reduceEqDiff, reduceCtorEq, Nat.reduceAdd, Nat.reduceLeDiff]
  refine wpC_loop (fun i T L h' => Grow h h' ∧ T 1 = .lp 1 0 ∧ (L 1).2 = [p, n] ∧ T 2 = .lp 2 0 ∧ (L 2).2 = [.sl none 0 (some 0)] ∧ T 3 = .lp 3 0 ∧ (∃ c R, (L 3).2 = [c] ∧ NwC h h' c R ((f.pl.take i).map plainA)) ∧ T 4 = .v (.one (.int .i64 i))) f.pl.length ?_ ?_ (Nat.zero_le _) ?_
  · rintro i T L h' hi ⟨g, t1, l1, t2, l2, t3, ⟨c, R, l3, x⟩, t4⟩
    have k := hf.grow g
    simp +contextual (maxSteps := 2000000) only [go_sem, Nat.reduceEqDiff, reduceCtorEq, Nat.reduceAdd, Nat.reduceLeDiff, t1, l1, t2, l2, t3, l3, t4, k.pl.len, k.pl.iaddr hi, k.pl.oneO hi, lt_true hi]
    refine wp_lit (enc := encI) (k := 1) (l := [f.pl[i]]) rfl rfl ?_
    intro h2 w2 g2 n2 b2
    obtain ⟨d, rfl⟩ := n2.one
    simp +contextual (maxSteps := 2000000) only [go_sem, Nat.reduceEqDiff, reduceCtorEq, Nat.reduceAdd, Nat.reduceLeDiff]
    refine wp_lit (enc := encC) (k := 4) (l := [⟨0, noName, d, .sl none 0 (some 0)⟩]) rfl rfl ?_
    intro h3 w3 g3 n3 b3
    simp +contextual (maxSteps := 2000000) only [go_sem, Nat.reduceEqDiff, reduceCtorEq, Nat.reduceAdd, Nat.reduceLeDiff, t1, l1, t2, l2, t3, l3, t4]
    obtain ⟨e, rfl⟩ := n3.one
    refine wp_append lenC (x.out.out.grow (g2.trans g3)) (n3.sl lenC) (g.trans (g2.trans g3)) (by have := x.out.len; simp at this ⊢; omega) ?_
    intro h4 s4 g4 n4 st4 hb4
    obtain ⟨c4, rfl⟩ := n4.one
    simp +contextual (maxSteps := 2000000) only [go_sem, Nat.reduceEqDiff, reduceCtorEq, Nat.reduceAdd, Nat.reduceLeDiff, t1, l1, t2, l2, t3, l3, t4]
    have y : NtC h' h3 ⟨0, noName, d, .sl none 0 (some 0)⟩ (plainA f.pl[i]) := ⟨rfl, rfl, n2.grow g3, .nil⟩
    have z := x.push (g2.trans g3) y (fun j hj => ⟨b2 j hj, Nat.lt_of_lt_of_le (n2.lt hj).1 g3.n⟩) (fun j hj => by simp [baseOf] at hj) Sep.nil.symm n4 st4 hb4 g.n
    refine ⟨g4, ⟨c4, R ++ [⟨0, noName, d, .sl none 0 (some 0)⟩], rfl, ?_⟩, by rw [wrap_next hi (Nat.lt_of_le_of_lt hb1 (by decide))]⟩
    rw [List.take_succ_eq_append_getElem hi, List.map_append]
    exact z
  · rintro T L h' ⟨g, t1, l1, t2, l2, t3, ⟨c, R, l3, x⟩, t4⟩
    rw [List.take_length] at x
    have k := hf.grow g
    simp +contextual (maxSteps := 2000000) only [go_sem, Nat.reduceEqDiff, reduceCtorEq, Nat.reduceAdd, Nat.reduceLeDiff, t1, l1, t2, l2, t3, l3, t4, k.pl.len, lt_false]
    refine wpC_loop (fun i T L h' => Grow h h' ∧ T 1 = .lp 1 0 ∧ (L 1).2 = [p, n] ∧ T 2 = .lp 2 0 ∧ (L 2).2 = [.sl none 0 (some 0)] ∧ T 3 = .lp 3 0 ∧ (∃ c R, (L 3).2 = [c] ∧ NwC h h' c R (f.pl.map plainA ++ (f.nl.take i).map nameA)) ∧ T 5 = .v (.one (.int .i64 i))) f.nl.length ?_ ?_ (Nat.zero_le _) ?_
    · rintro i T L h' hi ⟨g, t1, l1, t2, l2, t3, ⟨c, R, l3, x⟩, t5⟩
      have k := hf.grow g
      simp +contextual (maxSteps := 2000000) only [go_sem, Nat.reduceEqDiff, reduceCtorEq, Nat.reduceAdd, Nat.reduceLeDiff, t1, l1, t2, l2, t3, l3, t5, k.nl.len, k.nl.iaddr hi, k.nl.fieldO hi, lt_true hi]
      refine wp_lit (enc := encI) (k := 1) (l := [f.nl[i].value]) rfl rfl ?_
      intro h2 w2 g2 n2 b2
      obtain ⟨d, rfl⟩ := n2.one
      simp +contextual (maxSteps := 2000000) only [go_sem, Nat.reduceEqDiff, reduceCtorEq, Nat.reduceAdd, Nat.reduceLeDiff]
      refine wp_lit (enc := encC) (k := 4) (l := [⟨2, f.nl[i].name, d, .sl none 0 (some 0)⟩]) rfl rfl ?_
      intro h3 w3 g3 n3 b3
      simp +contextual (maxSteps := 2000000) only [go_sem, Nat.reduceEqDiff, reduceCtorEq, Nat.reduceAdd, Nat.reduceLeDiff, t1, l1, t2, l2, t3, l3, t5]
      obtain ⟨e, rfl⟩ := n3.one
      refine wp_append lenC (x.out.out.grow (g2.trans g3)) (n3.sl lenC) (g.trans (g2.trans g3)) (by have := x.out.len; simp at this ⊢; omega) ?_
      intro h4 s4 g4 n4 st4 hb4
      obtain ⟨c4, rfl⟩ := n4.one
      simp +contextual (maxSteps := 2000000) only [go_sem, Nat.reduceEqDiff, reduceCtorEq, Nat.reduceAdd, Nat.reduceLeDiff, t1, l1, t2, l2, t3, l3, t5]
      have y : NtC h' h3 ⟨2, f.nl[i].name, d, .sl none 0 (some 0)⟩ (nameA f.nl[i]) := ⟨rfl, rfl, n2.grow g3, .nil⟩
      have z := x.push (g2.trans g3) y (fun j hj => ⟨b2 j hj, Nat.lt_of_lt_of_le (n2.lt hj).1 g3.n⟩) (fun j hj => by simp [baseOf] at hj) Sep.nil.symm n4 st4 hb4 g.n
      refine ⟨g4, ⟨c4, R ++ [⟨2, f.nl[i].name, d, .sl none 0 (some 0)⟩], rfl, ?_⟩, by rw [wrap_next hi (Nat.lt_of_le_of_lt hb2 (by decide))]⟩
      rw [List.take_succ_eq_append_getElem hi, List.map_append, ← List.append_assoc]
      exact z
    · rintro T L h' ⟨g, t1, l1, t2, l2, t3, ⟨c, R, l3, x⟩, t5⟩
      rw [List.take_length] at x
      have k := hf.grow g
      simp +contextual (maxSteps := 2000000) only [go_sem, Nat.reduceEqDiff, reduceCtorEq, Nat.reduceAdd, Nat.reduceLeDiff, t1, l1, t2, l2, t3, l3, t5, k.nl.len, lt_false]
      exact gcK_of ⟨g, _, _, rfl, x⟩ (fun hs _ => ⟨Grow.refl h, _, _, rfl, x.scalar (by simpa [AV.scalar] using hs) h⟩)
    · simp +contextual (maxSteps := 2000000) only [go_sem, Nat.reduceEqDiff, reduceCtorEq, Nat.reduceAdd, Nat.reduceLeDiff, t1, l1, t2, l2, t3, l3]
      exact ⟨g, ⟨c, R, rfl, by simpa [rdy] using x⟩, rfl⟩
  · simp +contextual (maxSteps := 2000000) only [go_sem, Nat.reduceEqDiff, reduceCtorEq, Nat.reduceAdd, Nat.reduceLeDiff]
    exact ⟨g1, ⟨_, [], rfl, ⟨.nil n1⟩⟩, rfl⟩
section
variable {P : Program} {T : Tb} {L : Lb} {h : H} {Q : PostC} {K : Post}
/-! spec.CallOf -/
def L34_0 : List AStep := [⟨.box 30 (.t 0), (some 1), none, []⟩, ⟨.alloc 25 [(.sl none 0 (some 0))], (some 2), none, []⟩]
theorem v34_0 : wpS P L34_0 T L (rdy h) K = wpS P ([⟨.box 30 (.t 0), (some 1), none, []⟩, ⟨.alloc 25 [(.sl none 0 (some 0))], (some 2), none, []⟩]) T L (rdy h) K := rfl
def L34_1 : List AStep := [⟨.not (.t 4), (some 5), none, []⟩]
theorem v34_1 : wpS P L34_1 T L (rdy h) K = wpS P ([⟨.not (.t 4), (some 5), none, []⟩]) T L (rdy h) K := rfl
def L34_2 : List AStep := ⟨.load 2 true (.t 1), (some 3), none, []⟩ :: ⟨.call 105 [(.t 3)], (some 4), none, []⟩ :: L34_1
theorem v34_2 : wpS P L34_2 T L (rdy h) K = wpS P (⟨.load 2 true (.t 1), (some 3), none, []⟩ :: ⟨.call 105 [(.t 3)], (some 4), none, []⟩ :: L34_1) T L (rdy h) K := rfl
def L34_3 : List AStep := [⟨.build [(.sl none 0 (some 0))] [], (some 6), none, []⟩, ⟨.store 1 (.t 2) (.t 6), none, none, []⟩]
theorem v34_3 : wpS P L34_3 T L (rdy h) K = wpS P ([⟨.build [(.sl none 0 (some 0))] [], (some 6), none, []⟩, ⟨.store 1 (.t 2) (.t 6), none, none, []⟩]) T L (rdy h) K := rfl
def L34_4 : List AStep := [⟨.store 1 (.t 2) (.t 8), none, none, []⟩]
theorem v34_4 : wpS P L34_4 T L (rdy h) K = wpS P ([⟨.store 1 (.t 2) (.t 8), none, none, []⟩]) T L (rdy h) K := rfl
def L34_5 : List AStep := ⟨.load 2 true (.t 1), (some 7), none, []⟩ :: ⟨.call 106 [(.t 7)], (some 8), none, []⟩ :: L34_4
theorem v34_5 : wpS P L34_5 T L (rdy h) K = wpS P (⟨.load 2 true (.t 1), (some 7), none, []⟩ :: ⟨.call 106 [(.t 7)], (some 8), none, []⟩ :: L34_4) T L (rdy h) K := rfl
def C34_0 : ACode := .seq (.reg L34_3) .ret
theorem u34_0 : wpC P C34_0 T L (rdy h) Q = wpC P (.seq (.reg L34_3) .ret) T L (rdy h) Q := rfl
def C34_1 : ACode := .cond (.t 5) C34_0 .skip
theorem u34_1 : wpC P C34_1 T L (rdy h) Q = wpC P (.cond (.t 5) C34_0 .skip) T L (rdy h) Q := rfl
def C34_2 : ACode := .seq (.reg L34_2) C34_1
theorem u34_2 : wpC P C34_2 T L (rdy h) Q = wpC P (.seq (.reg L34_2) C34_1) T L (rdy h) Q := rfl
def C34_3 : ACode := .seq (.reg L34_5) .ret
theorem u34_3 : wpC P C34_3 T L (rdy h) Q = wpC P (.seq (.reg L34_5) .ret) T L (rdy h) Q := rfl
def C34_4 : ACode := .seq C34_2 C34_3
theorem u34_4 : wpC P C34_4 T L (rdy h) Q = wpC P (.seq C34_2 C34_3) T L (rdy h) Q := rfl
def C34_5 : ACode := .seq (.reg L34_0) C34_4
theorem u34_5 : wpC P C34_5 T L (rdy h) Q = wpC P (.seq (.reg L34_0) C34_4) T L (rdy h) Q := rfl
def F34 : AFunc := ⟨9, [.cell 2 1 true], C34_5⟩
theorem cF34 : compB Try.prog 34 = some F34 := by kernel_rfl
end
attribute [local go_sem ↓] u34_0 u34_1 u34_2 u34_3 u34_4 u34_5 v34_0 v34_1 v34_2 v34_3 v34_4 v34_5
theorem k_sCallOf (f : Flat) (p n : CV) (h : H) (hf : SlF h p n f) (hn : miniF f) : callK (bm Try.prog 34 [.agg [p, n]] h) fun r h' => Grow h h' ∧ ∃ q R, r = .agg [q] ∧ NwC h h' q R (callOf f) := by
  refine bm_of cF34 ?_
  unfold callOf
  cases hok : okFlat f with
  | false =>
    simp +contextual (maxSteps := 2000000) only [go_sem, Nat.reduceEqDiff, reduceCtorEq, Nat.reduceAdd, Nat.reduceLeDiff, F34, c_validFlat _ _ _ _ hf.pl hf.nl hn.sm, hok, if_false]
    exact ⟨Grow.refl h, _, [], rfl, .nil⟩
  | true =>
    simp +contextual (maxSteps := 2000000) only [go_sem, Nat.reduceEqDiff, reduceCtorEq, Nat.reduceAdd, Nat.reduceLeDiff, F34, c_validFlat _ _ _ _ hf.pl hf.nl hn.sm, hok, if_true]
    refine wp_call (c_callOf f p n h hf hn) ?_
    rintro r h1 ⟨g1, q, R, rfl, x⟩
    simp +contextual (maxSteps := 2000000) only [go_sem, Nat.reduceEqDiff, reduceCtorEq, Nat.reduceAdd, Nat.reduceLeDiff]
    exact gcK_of ⟨g1, _, _, rfl, x⟩ (fun hs _ => ⟨Grow.refl h, _, _, rfl, x.scalar (by simpa [AV.scalar] using hs) h⟩)
section
variable {P : Program} {T : Tb} {L : Lb} {h : H} {Q : PostC} {K : Post}
/-! impl.CallOf -/
def L19_0 : List AStep := [⟨.box 30 (.t 0), (some 1), none, []⟩, ⟨.alloc 25 [(.sl none 0 (some 0))], (some 2), none, []⟩]
theorem v19_0 : wpS P L19_0 T L (rdy h) K = wpS P ([⟨.box 30 (.t 0), (some 1), none, []⟩, ⟨.alloc 25 [(.sl none 0 (some 0))], (some 2), none, []⟩]) T L (rdy h) K := rfl
def L19_1 : List AStep := [⟨.not (.t 9), (some 10), none, []⟩]
theorem v19_1 : wpS P L19_1 T L (rdy h) K = wpS P ([⟨.not (.t 9), (some 10), none, []⟩]) T L (rdy h) K := rfl
def L19_2 : List AStep := ⟨.load 2 true (.t 1), (some 8), none, []⟩ :: ⟨.call 60 [(.t 8)], (some 9), none, []⟩ :: L19_1
theorem v19_2 : wpS P L19_2 T L (rdy h) K = wpS P (⟨.load 2 true (.t 1), (some 8), none, []⟩ :: ⟨.call 60 [(.t 8)], (some 9), none, []⟩ :: L19_1) T L (rdy h) K := rfl
def L19_3 : List AStep := [⟨.build [(.sl none 0 (some 0))] [], (some 11), none, []⟩, ⟨.store 1 (.t 2) (.t 11), none, none, []⟩]
theorem v19_3 : wpS P L19_3 T L (rdy h) K = wpS P ([⟨.build [(.sl none 0 (some 0))] [], (some 11), none, []⟩, ⟨.store 1 (.t 2) (.t 11), none, none, []⟩]) T L (rdy h) K := rfl
def L19_4 : List AStep := [⟨.mov (.c (.sl none 0 (some 0))), (some 3), none, []⟩]
theorem v19_4 : wpS P L19_4 T L (rdy h) K = wpS P ([⟨.mov (.c (.sl none 0 (some 0))), (some 3), none, []⟩]) T L (rdy h) K := rfl
def L19_5 : List AStep := [⟨.len (.t 13), (some 14), none, []⟩, ⟨.mov (.c (.int .i64 0)), (some 15), none, []⟩]
theorem v19_5 : wpS P L19_5 T L (rdy h) K = wpS P ([⟨.len (.t 13), (some 14), none, []⟩, ⟨.mov (.c (.int .i64 0)), (some 15), none, []⟩]) T L (rdy h) K := rfl
def L19_6 : List AStep := ⟨.faddr 0 (.t 1), (some 12), none, []⟩ :: ⟨.load 1 false (.t 12), (some 13), none, []⟩ :: L19_5
theorem v19_6 : wpS P L19_6 T L (rdy h) K = wpS P (⟨.faddr 0 (.t 1), (some 12), none, []⟩ :: ⟨.load 1 false (.t 12), (some 13), none, []⟩ :: L19_5) T L (rdy h) K := rfl
def L19_7 : List AStep := [⟨.bin .lss (.t 15) (.t 14), (some 16), none, []⟩]
theorem v19_7 : wpS P L19_7 T L (rdy h) K = wpS P ([⟨.bin .lss (.t 15) (.t 14), (some 16), none, []⟩]) T L (rdy h) K := rfl
def L19_8 : List AStep := [⟨.mov (.t 18), (some 5), none, []⟩]
theorem v19_8 : wpS P L19_8 T L (rdy h) K = wpS P ([⟨.mov (.t 18), (some 5), none, []⟩]) T L (rdy h) K := rfl
def L19_9 : List AStep := ⟨.iaddr 1 (.t 13) (.t 15), (some 17), none, []⟩ :: ⟨.load 1 false (.t 17), (some 18), none, []⟩ :: L19_8
theorem v19_9 : wpS P L19_9 T L (rdy h) K = wpS P (⟨.iaddr 1 (.t 13) (.t 15), (some 17), none, []⟩ :: ⟨.load 1 false (.t 17), (some 18), none, []⟩ :: L19_8) T L (rdy h) K := rfl
def L19_10 : List AStep := [⟨.mov (.t 24), (some 3), none, []⟩]
theorem v19_10 : wpS P L19_10 T L (rdy h) K = wpS P ([⟨.mov (.t 24), (some 3), none, []⟩]) T L (rdy h) K := rfl
def L19_11 : List AStep := ⟨.buildSlice 36 1 [(.int .i64 0), (.str (strOfNums [])), (.sl none 0 (some 0)), (.sl none 0 (some 0))] [(0, 4, (.t 22))], (some 23), none, []⟩ :: ⟨.append 36 4 72 (.t 19) (.t 23), (some 24), none, []⟩ :: L19_10
theorem v19_11 : wpS P L19_11 T L (rdy h) K = wpS P (⟨.buildSlice 36 1 [(.int .i64 0), (.str (strOfNums [])), (.sl none 0 (some 0)), (.sl none 0 (some 0))] [(0, 4, (.t 22))], (some 23), none, []⟩ :: ⟨.append 36 4 72 (.t 19) (.t 23), (some 24), none, []⟩ :: L19_10) T L (rdy h) K := rfl
def L19_12 : List AStep := ⟨.buildSlice 3 1 [(.int .i64 0)] [(0, 1, (.t 20))], (some 21), none, []⟩ :: ⟨.build [(.int .i64 0), (.str (strOfNums [])), (.sl none 0 (some 0)), (.sl none 0 (some 0))] [(0, 1, (.c (.int .i64 0))), (2, 1, (.t 21))], (some 22), none, []⟩ :: L19_11
theorem v19_12 : wpS P L19_12 T L (rdy h) K = wpS P (⟨.buildSlice 3 1 [(.int .i64 0)] [(0, 1, (.t 20))], (some 21), none, []⟩ :: ⟨.build [(.int .i64 0), (.str (strOfNums [])), (.sl none 0 (some 0)), (.sl none 0 (some 0))] [(0, 1, (.c (.int .i64 0))), (2, 1, (.t 21))], (some 22), none, []⟩ :: L19_11) T L (rdy h) K := rfl
def L19_13 : List AStep := ⟨.mov (.t 3), (some 19), none, []⟩ :: ⟨.mov (.t 5), (some 20), none, []⟩ :: L19_12
theorem v19_13 : wpS P L19_13 T L (rdy h) K = wpS P (⟨.mov (.t 3), (some 19), none, []⟩ :: ⟨.mov (.t 5), (some 20), none, []⟩ :: L19_12) T L (rdy h) K := rfl
def L19_14 : List AStep := [⟨.bin .add (.t 15) (.c (.int .i64 1)), (some 25), none, []⟩, ⟨.mov (.t 25), (some 15), none, []⟩]
theorem v19_14 : wpS P L19_14 T L (rdy h) K = wpS P ([⟨.bin .add (.t 15) (.c (.int .i64 1)), (some 25), none, []⟩, ⟨.mov (.t 25), (some 15), none, []⟩]) T L (rdy h) K := rfl
def L19_15 : List AStep := [⟨.len (.t 27), (some 28), none, []⟩, ⟨.mov (.c (.int .i64 0)), (some 29), none, []⟩]
theorem v19_15 : wpS P L19_15 T L (rdy h) K = wpS P ([⟨.len (.t 27), (some 28), none, []⟩, ⟨.mov (.c (.int .i64 0)), (some 29), none, []⟩]) T L (rdy h) K := rfl
def L19_16 : List AStep := ⟨.faddr 1 (.t 1), (some 26), none, []⟩ :: ⟨.load 1 false (.t 26), (some 27), none, []⟩ :: L19_15
theorem v19_16 : wpS P L19_16 T L (rdy h) K = wpS P (⟨.faddr 1 (.t 1), (some 26), none, []⟩ :: ⟨.load 1 false (.t 26), (some 27), none, []⟩ :: L19_15) T L (rdy h) K := rfl
def L19_17 : List AStep := [⟨.bin .lss (.t 29) (.t 28), (some 30), none, []⟩]
theorem v19_17 : wpS P L19_17 T L (rdy h) K = wpS P ([⟨.bin .lss (.t 29) (.t 28), (some 30), none, []⟩]) T L (rdy h) K := rfl
def L19_18 : List AStep := [⟨.alloc 86 [(.str (strOfNums [])), (.int .i64 0)], (some 7), none, []⟩, ⟨.store 2 (.t 7) (.t 32), none, none, []⟩]
theorem v19_18 : wpS P L19_18 T L (rdy h) K = wpS P ([⟨.alloc 86 [(.str (strOfNums [])), (.int .i64 0)], (some 7), none, []⟩, ⟨.store 2 (.t 7) (.t 32), none, none, []⟩]) T L (rdy h) K := rfl
def L19_19 : List AStep := ⟨.iaddr 2 (.t 27) (.t 29), (some 31), none, []⟩ :: ⟨.load 2 true (.t 31), (some 32), none, []⟩ :: L19_18
theorem v19_19 : wpS P L19_19 T L (rdy h) K = wpS P (⟨.iaddr 2 (.t 27) (.t 29), (some 31), none, []⟩ :: ⟨.load 2 true (.t 31), (some 32), none, []⟩ :: L19_18) T L (rdy h) K := rfl
def L19_20 : List AStep := [⟨.append 36 4 72 (.t 33) (.t 40), (some 41), none, []⟩, ⟨.mov (.t 41), (some 3), none, []⟩]
theorem v19_20 : wpS P L19_20 T L (rdy h) K = wpS P ([⟨.append 36 4 72 (.t 33) (.t 40), (some 41), none, []⟩, ⟨.mov (.t 41), (some 3), none, []⟩]) T L (rdy h) K := rfl
def L19_21 : List AStep := ⟨.build [(.int .i64 0), (.str (strOfNums [])), (.sl none 0 (some 0)), (.sl none 0 (some 0))] [(0, 1, (.c (.int .i64 2))), (1, 1, (.t 35)), (2, 1, (.t 38))], (some 39), none, []⟩ :: ⟨.buildSlice 36 1 [(.int .i64 0), (.str (strOfNums [])), (.sl none 0 (some 0)), (.sl none 0 (some 0))] [(0, 4, (.t 39))], (some 40), none, []⟩ :: L19_20
theorem v19_21 : wpS P L19_21 T L (rdy h) K = wpS P (⟨.build [(.int .i64 0), (.str (strOfNums [])), (.sl none 0 (some 0)), (.sl none 0 (some 0))] [(0, 1, (.c (.int .i64 2))), (1, 1, (.t 35)), (2, 1, (.t 38))], (some 39), none, []⟩ :: ⟨.buildSlice 36 1 [(.int .i64 0), (.str (strOfNums [])), (.sl none 0 (some 0)), (.sl none 0 (some 0))] [(0, 4, (.t 39))], (some 40), none, []⟩ :: L19_20) T L (rdy h) K := rfl
def L19_22 : List AStep := ⟨.load 1 false (.t 36), (some 37), none, []⟩ :: ⟨.buildSlice 3 1 [(.int .i64 0)] [(0, 1, (.t 37))], (some 38), none, []⟩ :: L19_21
theorem v19_22 : wpS P L19_22 T L (rdy h) K = wpS P (⟨.load 1 false (.t 36), (some 37), none, []⟩ :: ⟨.buildSlice 3 1 [(.int .i64 0)] [(0, 1, (.t 37))], (some 38), none, []⟩ :: L19_21) T L (rdy h) K := rfl
def L19_23 : List AStep := ⟨.load 1 false (.t 34), (some 35), none, []⟩ :: ⟨.faddr 1 (.t 7), (some 36), none, []⟩ :: L19_22
theorem v19_23 : wpS P L19_23 T L (rdy h) K = wpS P (⟨.load 1 false (.t 34), (some 35), none, []⟩ :: ⟨.faddr 1 (.t 7), (some 36), none, []⟩ :: L19_22) T L (rdy h) K := rfl
def L19_24 : List AStep := ⟨.mov (.t 3), (some 33), none, []⟩ :: ⟨.faddr 0 (.t 7), (some 34), none, []⟩ :: L19_23
theorem v19_24 : wpS P L19_24 T L (rdy h) K = wpS P (⟨.mov (.t 3), (some 33), none, []⟩ :: ⟨.faddr 0 (.t 7), (some 34), none, []⟩ :: L19_23) T L (rdy h) K := rfl
def L19_25 : List AStep := [⟨.bin .add (.t 29) (.c (.int .i64 1)), (some 42), none, []⟩, ⟨.mov (.t 42), (some 29), none, []⟩]
theorem v19_25 : wpS P L19_25 T L (rdy h) K = wpS P ([⟨.bin .add (.t 29) (.c (.int .i64 1)), (some 42), none, []⟩, ⟨.mov (.t 42), (some 29), none, []⟩]) T L (rdy h) K := rfl
def L19_26 : List AStep := [⟨.build [(.sl none 0 (some 0))] [(0, 1, (.t 44))], (some 45), none, []⟩, ⟨.store 1 (.t 2) (.t 45), none, none, []⟩]
theorem v19_26 : wpS P L19_26 T L (rdy h) K = wpS P ([⟨.build [(.sl none 0 (some 0))] [(0, 1, (.t 44))], (some 45), none, []⟩, ⟨.store 1 (.t 2) (.t 45), none, none, []⟩]) T L (rdy h) K := rfl
def L19_27 : List AStep := ⟨.mov (.t 3), (some 43), none, []⟩ :: ⟨.call 81 [(.t 43)], (some 44), none, []⟩ :: L19_26
theorem v19_27 : wpS P L19_27 T L (rdy h) K = wpS P (⟨.mov (.t 3), (some 43), none, []⟩ :: ⟨.call 81 [(.t 43)], (some 44), none, []⟩ :: L19_26) T L (rdy h) K := rfl
def C19_0 : ACode := .seq (.reg L19_3) .ret
theorem u19_0 : wpC P C19_0 T L (rdy h) Q = wpC P (.seq (.reg L19_3) .ret) T L (rdy h) Q := rfl
def C19_1 : ACode := .cond (.t 10) C19_0 .skip
theorem u19_1 : wpC P C19_1 T L (rdy h) Q = wpC P (.cond (.t 10) C19_0 .skip) T L (rdy h) Q := rfl
def C19_2 : ACode := .seq (.reg L19_2) C19_1
theorem u19_2 : wpC P C19_2 T L (rdy h) Q = wpC P (.seq (.reg L19_2) C19_1) T L (rdy h) Q := rfl
def C19_3 : ACode := .cond (.t 16) .skip (.exit 0)
theorem u19_3 : wpC P C19_3 T L (rdy h) Q = wpC P (.cond (.t 16) .skip (.exit 0)) T L (rdy h) Q := rfl
def C19_4 : ACode := .seq (.reg L19_9) (.reg L19_13)
theorem u19_4 : wpC P C19_4 T L (rdy h) Q = wpC P (.seq (.reg L19_9) (.reg L19_13)) T L (rdy h) Q := rfl
def C19_5 : ACode := .block 1 C19_4
theorem u19_5 : wpC P C19_5 T L (rdy h) Q = wpC P (.block 1 C19_4) T L (rdy h) Q := rfl
def C19_6 : ACode := .seq C19_5 (.reg L19_14)
theorem u19_6 : wpC P C19_6 T L (rdy h) Q = wpC P (.seq C19_5 (.reg L19_14)) T L (rdy h) Q := rfl
def C19_7 : ACode := .seq C19_3 C19_6
theorem u19_7 : wpC P C19_7 T L (rdy h) Q = wpC P (.seq C19_3 C19_6) T L (rdy h) Q := rfl
def C19_8 : ACode := .seq (.reg L19_7) C19_7
theorem u19_8 : wpC P C19_8 T L (rdy h) Q = wpC P (.seq (.reg L19_7) C19_7) T L (rdy h) Q := rfl
def C19_9 : ACode := .block 0 (.loop C19_8)
theorem u19_9 : wpC P C19_9 T L (rdy h) Q = wpC P (.block 0 (.loop C19_8)) T L (rdy h) Q := rfl
def C19_10 : ACode := .seq (.reg L19_6) C19_9
theorem u19_10 : wpC P C19_10 T L (rdy h) Q = wpC P (.seq (.reg L19_6) C19_9) T L (rdy h) Q := rfl
def C19_11 : ACode := .cond (.t 30) .skip (.exit 2)
theorem u19_11 : wpC P C19_11 T L (rdy h) Q = wpC P (.cond (.t 30) .skip (.exit 2)) T L (rdy h) Q := rfl
def C19_12 : ACode := .seq (.reg L19_19) (.reg L19_24)
theorem u19_12 : wpC P C19_12 T L (rdy h) Q = wpC P (.seq (.reg L19_19) (.reg L19_24)) T L (rdy h) Q := rfl
def C19_13 : ACode := .block 3 C19_12
theorem u19_13 : wpC P C19_13 T L (rdy h) Q = wpC P (.block 3 C19_12) T L (rdy h) Q := rfl
def C19_14 : ACode := .seq C19_13 (.reg L19_25)
theorem u19_14 : wpC P C19_14 T L (rdy h) Q = wpC P (.seq C19_13 (.reg L19_25)) T L (rdy h) Q := rfl
def C19_15 : ACode := .seq C19_11 C19_14
theorem u19_15 : wpC P C19_15 T L (rdy h) Q = wpC P (.seq C19_11 C19_14) T L (rdy h) Q := rfl
def C19_16 : ACode := .seq (.reg L19_17) C19_15
theorem u19_16 : wpC P C19_16 T L (rdy h) Q = wpC P (.seq (.reg L19_17) C19_15) T L (rdy h) Q := rfl
def C19_17 : ACode := .block 2 (.loop C19_16)
theorem u19_17 : wpC P C19_17 T L (rdy h) Q = wpC P (.block 2 (.loop C19_16)) T L (rdy h) Q := rfl
def C19_18 : ACode := .seq (.reg L19_16) C19_17
theorem u19_18 : wpC P C19_18 T L (rdy h) Q = wpC P (.seq (.reg L19_16) C19_17) T L (rdy h) Q := rfl
def C19_19 : ACode := .seq (.reg L19_27) .ret
theorem u19_19 : wpC P C19_19 T L (rdy h) Q = wpC P (.seq (.reg L19_27) .ret) T L (rdy h) Q := rfl
def C19_20 : ACode := .seq C19_18 C19_19
theorem u19_20 : wpC P C19_20 T L (rdy h) Q = wpC P (.seq C19_18 C19_19) T L (rdy h) Q := rfl
def C19_21 : ACode := .seq C19_10 C19_20
theorem u19_21 : wpC P C19_21 T L (rdy h) Q = wpC P (.seq C19_10 C19_20) T L (rdy h) Q := rfl
def C19_22 : ACode := .seq (.reg L19_4) C19_21
theorem u19_22 : wpC P C19_22 T L (rdy h) Q = wpC P (.seq (.reg L19_4) C19_21) T L (rdy h) Q := rfl
def C19_23 : ACode := .seq C19_2 C19_22
theorem u19_23 : wpC P C19_23 T L (rdy h) Q = wpC P (.seq C19_2 C19_22) T L (rdy h) Q := rfl
def C19_24 : ACode := .seq (.reg L19_0) C19_23
theorem u19_24 : wpC P C19_24 T L (rdy h) Q = wpC P (.seq (.reg L19_0) C19_23) T L (rdy h) Q := rfl
def F19 : AFunc := ⟨46, [.cell 2 1 true], C19_24⟩
theorem cF19 : compB Try.prog 19 = some F19 := by kernel_rfl
end
attribute [local go_sem ↓] u19_0 u19_1 u19_2 u19_3 u19_4 u19_5 u19_6 u19_7 u19_8 u19_9 u19_10 u19_11 u19_12 u19_13 u19_14 u19_15 u19_16 u19_17 u19_18 u19_19 u19_20 u19_21 u19_22 u19_23 u19_24 v19_0 v19_1 v19_2 v19_3 v19_4 v19_5 v19_6 v19_7 v19_8 v19_9 v19_10 v19_11 v19_12 v19_13 v19_14 v19_15 v19_16 v19_17 v19_18 v19_19 v19_20 v19_21 v19_22 v19_23 v19_24 v19_25 v19_26 v19_27
theorem k_iCallOf (f : Flat) (p n : CV) (h : H) (hf : SlF h p n f) (hn : miniF f) : callK (bm Try.prog 19 [.agg [p, n]] h) fun r h' => Grow h h' ∧ ∃ q R, r = .agg [q] ∧ NwC h h' q R (callOf f) := by
  refine bm_of cF19 ?_
  have hb1 := hn.pl
  have hb2 := hn.nl
  unfold callOf
  cases hok : okFlat f with
  | false =>
    simp +contextual (maxSteps := 2000000) only [go_sem, Nat.reduceEqDiff, reduceCtorEq, Nat.reduceAdd, Nat.reduceLeDiff, F19, c_ValidFlat _ _ _ _ hf.pl hf.nl hn.sm, hok, if_false]
    exact ⟨Grow.refl h, _, [], rfl, .nil⟩
  | true =>
  simp +contextual (maxSteps := 2000000) only [go_sem, Nat.reduceEqDiff, reduceCtorEq, Nat.reduceAdd, Nat.reduceLeDiff, F19, c_ValidFlat _ _ _ _ hf.pl hf.nl hn.sm, hok, if_true, hf.pl.len]
  refine wpC_loop (fun i T L h' => Grow h h' ∧ T 1 = .lp 1 0 ∧ (L 1).2 = [p, n] ∧ T 2 = .lp 2 0 ∧ (L 2).2 = [.sl none 0 (some 0)] ∧ (∃ c R, T 3 = .v (.one c) ∧ NwC h h' c R ((f.pl.take i).map plainA)) ∧ T 13 = .v (.one p) ∧ T 14 = .v (.one (.int .i64 f.pl.length)) ∧ T 15 = .v (.one (.int .i64 i))) f.pl.length ?_ ?_ (Nat.zero_le _) ?_
  · rintro i T L h' hi ⟨g, t1, l1, t2, l2, ⟨c, R, t3, x⟩, t13, t14, t15⟩
    have k := hf.grow g
    simp +contextual (maxSteps := 2000000) only [go_sem, Nat.reduceEqDiff, reduceCtorEq, Nat.reduceAdd, Nat.reduceLeDiff, t1, l1, t2, l2, t3, t13, t14, t15, k.pl.iaddr hi, k.pl.oneO hi, lt_true hi]
    refine wp_lit (enc := encI) (k := 1) (l := [f.pl[i]]) rfl rfl ?_
    intro h2 w2 g2 n2 b2
    obtain ⟨d, rfl⟩ := n2.one
    simp +contextual (maxSteps := 2000000) only [go_sem, Nat.reduceEqDiff, reduceCtorEq, Nat.reduceAdd, Nat.reduceLeDiff]
    refine wp_lit (enc := encC) (k := 4) (l := [⟨0, noName, d, .sl none 0 (some 0)⟩]) rfl rfl ?_
    intro h3 w3 g3 n3 b3
    simp +contextual (maxSteps := 2000000) only [go_sem, Nat.reduceEqDiff, reduceCtorEq, Nat.reduceAdd, Nat.reduceLeDiff, t1, l1, t2, l2, t3, t13, t14, t15]
    obtain ⟨e, rfl⟩ := n3.one
    refine wp_append lenC (x.out.out.grow (g2.trans g3)) (n3.sl lenC) (g.trans (g2.trans g3)) (by have := x.out.len; simp at this ⊢; omega) ?_
    intro h4 s4 g4 n4 st4 hb4
    obtain ⟨c4, rfl⟩ := n4.one
    simp +contextual (maxSteps := 2000000) only [go_sem, Nat.reduceEqDiff, reduceCtorEq, Nat.reduceAdd, Nat.reduceLeDiff, t1, l1, t2, l2, t3, t13, t14, t15]
    have y : NtC h' h3 ⟨0, noName, d, .sl none 0 (some 0)⟩ (plainA f.pl[i]) := ⟨rfl, rfl, n2.grow g3, .nil⟩
    have z := x.push (g2.trans g3) y (fun j hj => ⟨b2 j hj, Nat.lt_of_lt_of_le (n2.lt hj).1 g3.n⟩) (fun j hj => by simp [baseOf] at hj) Sep.nil.symm n4 st4 hb4 g.n
    refine ⟨g4, ⟨c4, R ++ [⟨0, noName, d, .sl none 0 (some 0)⟩], rfl, ?_⟩, by rw [wrap_next hi (Nat.lt_of_le_of_lt hb1 (by decide))]⟩
    rw [List.take_succ_eq_append_getElem hi, List.map_append]
    exact z
  · rintro T L h' ⟨g, t1, l1, t2, l2, ⟨c, R, t3, x⟩, t13, t14, t15⟩
    rw [List.take_length] at x
    have k := hf.grow g
    simp +contextual (maxSteps := 2000000) only [go_sem, Nat.reduceEqDiff, reduceCtorEq, Nat.reduceAdd, Nat.reduceLeDiff, t1, l1, t2, l2, t3, t13, t14, t15, k.nl.len, lt_false]
    refine wpC_loop (fun i T L h' => Grow h h' ∧ T 2 = .lp 2 0 ∧ (L 2).2 = [.sl none 0 (some 0)] ∧ (∃ c R, T 3 = .v (.one c) ∧ NwC h h' c R (f.pl.map plainA ++ (f.nl.take i).map nameA)) ∧ T 27 = .v (.one n) ∧ T 28 = .v (.one (.int .i64 f.nl.length)) ∧ T 29 = .v (.one (.int .i64 i))) f.nl.length ?_ ?_ (Nat.zero_le _) ?_
    · rintro i T L h' hi ⟨g, t2, l2, ⟨c, R, t3, x⟩, t27, t28, t29⟩
      have k := hf.grow g
      simp +contextual (maxSteps := 2000000) only [go_sem, Nat.reduceEqDiff, reduceCtorEq, Nat.reduceAdd, Nat.reduceLeDiff, t2, l2, t3, t27, t28, t29, k.nl.iaddr hi, k.nl.whole hi, encP, lt_true hi]
      refine wp_lit (enc := encI) (k := 1) (l := [f.nl[i].value]) rfl rfl ?_
      intro h2 w2 g2 n2 b2
      obtain ⟨d, rfl⟩ := n2.one
      simp +contextual (maxSteps := 2000000) only [go_sem, Nat.reduceEqDiff, reduceCtorEq, Nat.reduceAdd, Nat.reduceLeDiff]
      refine wp_lit (enc := encC) (k := 4) (l := [⟨2, f.nl[i].name, d, .sl none 0 (some 0)⟩]) rfl rfl ?_
      intro h3 w3 g3 n3 b3
      simp +contextual (maxSteps := 2000000) only [go_sem, Nat.reduceEqDiff, reduceCtorEq, Nat.reduceAdd, Nat.reduceLeDiff, t2, l2, t3, t27, t28, t29]
      obtain ⟨e, rfl⟩ := n3.one
      refine wp_append lenC (x.out.out.grow (g2.trans g3)) (n3.sl lenC) (g.trans (g2.trans g3)) (by have := x.out.len; simp at this ⊢; omega) ?_
      intro h4 s4 g4 n4 st4 hb4
      obtain ⟨c4, rfl⟩ := n4.one
      simp +contextual (maxSteps := 2000000) only [go_sem, Nat.reduceEqDiff, reduceCtorEq, Nat.reduceAdd, Nat.reduceLeDiff, t2, l2, t3, t27, t28, t29]
      have y : NtC h' h3 ⟨2, f.nl[i].name, d, .sl none 0 (some 0)⟩ (nameA f.nl[i]) := ⟨rfl, rfl, n2.grow g3, .nil⟩
      have z := x.push (g2.trans g3) y (fun j hj => ⟨b2 j hj, Nat.lt_of_lt_of_le (n2.lt hj).1 g3.n⟩) (fun j hj => by simp [baseOf] at hj) Sep.nil.symm n4 st4 hb4 g.n
      refine ⟨g4, ⟨c4, R ++ [⟨2, f.nl[i].name, d, .sl none 0 (some 0)⟩], rfl, ?_⟩, by rw [wrap_next hi (Nat.lt_of_le_of_lt hb2 (by decide))]⟩
      rw [List.take_succ_eq_append_getElem hi, List.map_append, ← List.append_assoc]
      exact z
    · rintro T L h' ⟨g, t2, l2, ⟨c, R, t3, x⟩, t27, t28, t29⟩
      rw [List.take_length] at x
      simp +contextual (maxSteps := 2000000) only [go_sem, Nat.reduceEqDiff, reduceCtorEq, Nat.reduceAdd, Nat.reduceLeDiff, t2, l2, t3, t27, t28, t29, lt_false]
      refine wp_call (c_clipC _ _ _ h' x) ?_
      rintro r h5 ⟨rfl, q, rfl, x⟩
      simp +contextual (maxSteps := 2000000) only [go_sem, Nat.reduceEqDiff, reduceCtorEq, Nat.reduceAdd, Nat.reduceLeDiff, t2, l2]
      exact gcK_of ⟨g, _, _, rfl, x⟩ (fun hs _ => ⟨Grow.refl h, _, _, rfl, x.scalar (by simpa [AV.scalar] using hs) h⟩)
    · simp +contextual (maxSteps := 2000000) only [go_sem, Nat.reduceEqDiff, reduceCtorEq, Nat.reduceAdd, Nat.reduceLeDiff, t2, l2, t3]
      exact ⟨g, ⟨c, R, rfl, by simpa [rdy] using x⟩, rfl⟩
  · simp +contextual (maxSteps := 2000000) only [go_sem, Nat.reduceEqDiff, reduceCtorEq, Nat.reduceAdd, Nat.reduceLeDiff]
    exact ⟨Grow.refl h, ⟨_, [], rfl, .nil⟩, rfl⟩
end Go.Proofs.Ytnphlonhogcedaa.Am
