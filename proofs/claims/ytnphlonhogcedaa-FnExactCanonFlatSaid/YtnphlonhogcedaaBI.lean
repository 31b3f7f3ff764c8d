/- Contracts: what a call gives to the parameters, of the reference. -/
import Derived.Test.YtnphlonhogcedaaA2
import Derived.Test.YtnphlonhogcedaaA3
import Derived.Test.YtnphlonhogcedaaB1
import Derived.Test.YtnphlonhogcedaaBY
namespace Go.Proofs.Ytnphlonhogcedaa.Am
open Go
set_option maxRecDepth 100000
set_option maxHeartbeats 4000000
set_option linter.unusedSimpArgs false
set_option linter.unusedVariables false
attribute [local go_sem ↓] bv_t bv_c ev_t ev_c put_same put_ne put_none kill_at pro_at lb_same lb_ne start_zero start_succ wpC_seq wpC_reg wpC_cond wpC_block wpC_skip wpC_exit wpC_ret thenQ_normal thenQ_exit thenQ_ret inBlk_normal inBlk_exit inBlk_ret wpS_nil wpS_step wpS_again wpS_guard wpO_mov wpO_load wpO_faddr wpO_nilCheck wpO_pick wpO_build wpO_bin wpO_eqb wpO_eqst wpO_eqnil wpO_not wpO_conv wpO_bytesStr wpO_iaddr wpO_idxStr wpO_field wpO_extract wpO_len wpO_lenStr wpO_cap wpO_min wpO_slice wpO_sliceStr wpO_alloc wpO_box wpO_store wpO_call wpO_callv wpO_mkfn wpO_buildSlice wpO_mkslice wpO_append wpO_appz proA_nil proA_cons tmpX_nil tmpX_tmp tmpX_cell doneB_normal doneB_ret agK_cons agK_nil pureB_load results_one results_two results_nil resBs_cons resBs_nil resB_tmp resB_cell
attribute [local go_sem] kill_v kill_lp_ne kill_lp_same pro_v pro_lp_same pro_lp_ne av_v av_lp optB_some optX_some valX_eq ldX_lp ldX_v faX_lp faX_v ncX_lp ncX_ptr ncX_fn boxK_one boxK_agg stL_some stK_lp_one stK_lp_agg stK_v_one stK_v_agg proM_v proM_lp callG_mk callVG_mk callvK_fn fnG_mk ptrsA_nil ptrsA_cons callH_some whenA_true whenA_false guardH_tt guardH_ff guardH_tf guardH_ft guardH_undef agV_one agV_agg lenO_sl lenStrO_str notO_bool pickO_bool convO_int eqbO_bool eqnilO_sl extractO_tup capO_sl minO_int loadL_one loadL_all storeL_eq fillA_nil fillA_one fillA_agg nat_ge neg_ge nat_lt neg_lt buildO bin_add bin_sub bin_mul bin_eql bin_neq bin_lss bin_leq bin_gtr bin_geq str_eql str_neq str_lss str_leq str_gtr str_geq retK_some endK_mk gcK_same gcK_int gcK_bool tupO_one tupO_agg rdy_self ib ii Option.map_none Option.map_some Option.some.injEq exists_eq_left' exists_eq_left ne_eq not_false_eq_true if_true if_false List.map_cons List.map_nil List.getElem?_cons_zero List.getElem?_cons_succ List.length_cons List.length_nil List.take_succ_cons List.take_zero List.take_nil List.drop_succ_cons List.drop_zero List.drop_nil List.cons_append List.nil_append List.append_nil List.set_cons_zero List.set_cons_succ Nat.zero_add forall_const true_and and_true and_self Bool.false_eq_true false_implies true_implies implies_true Bool.not_true Bool.not_false Bool.not_eq_true' Bool.not_eq_false' beq_self_eq_true Bool.bne_true Bool.bne_false
attribute [local go_sem] lenI lenS lenP lenQ lenB lenL lenT encI_0 encS_0 encP_0 encP_1 encQ_0 encQ_1 encQ_2 encQ_3 encB_0 encB_1 encL_0 encL_1 encT_0 encT_1
attribute [local go_sem low] whenA_bool guardH_bool
attribute [local go_sem] lenY encY_0 encY_1 encY_2
def zeroR : RSlot := ⟨false, .sl none 0 (some 0), .sl none 0 (some 0)⟩
theorem NwY.zeros {h0 h : H} {v : CV} {n : Nat} (x : Nw encY 3 115 h0 h (.one v) (List.replicate n zeroR)) : NwY h0 h v (List.replicate n zeroR) (List.replicate n zeroS) := by
  refine ⟨⟨x, by simp, fun i hi => ?_, fun i hi => ?_, fun i hi => ?_, fun i hi => ?_, fun i j hi hj hij => ?_, fun i j hi hj hij => ?_, fun i j hi hj hij => ?_, fun i j hi hj hij => ?_⟩⟩
  · have hi2 : i < (List.replicate n zeroS).length := by simpa using hi
    rw [getY_eq hi2, List.getElem_replicate, List.getElem_replicate]
    exact ⟨rfl, .nil, .nil⟩
  all_goals simp only [List.getElem_replicate]
  · exact Sep.nil.symm
  · exact Sep.nil.symm
  · exact Sep.nil
  · exact Sep.nil
  · exact Sep.nil
  · exact Sep.nil
  · exact Sep.nil
section
variable {P : Program} {T : Tb} {L : Lb} {h : H} {Q : PostC} {K : Post}
/-! spec.emptyBinding -/
def L222_0 : List AStep := [⟨.box 51 (.t 0), (some 1), none, []⟩, ⟨.alloc 111 [(.sl none 0 (some 0))], (some 2), none, []⟩]
theorem v222_0 : wpS P L222_0 T L (rdy h) K = wpS P ([⟨.box 51 (.t 0), (some 1), none, []⟩, ⟨.alloc 111 [(.sl none 0 (some 0))], (some 2), none, []⟩]) T L (rdy h) K := rfl
def L222_1 : List AStep := [⟨.build [(.sl none 0 (some 0))] [(0, 1, (.t 6))], (some 7), none, []⟩, ⟨.store 1 (.t 2) (.t 7), none, none, []⟩]
theorem v222_1 : wpS P L222_1 T L (rdy h) K = wpS P ([⟨.build [(.sl none 0 (some 0))] [(0, 1, (.t 6))], (some 7), none, []⟩, ⟨.store 1 (.t 2) (.t 7), none, none, []⟩]) T L (rdy h) K := rfl
def L222_2 : List AStep := ⟨.len (.t 4), (some 5), none, []⟩ :: ⟨.mkslice 115 56 [(.bool false), (.sl none 0 (some 0)), (.sl none 0 (some 0))] (.t 5) (.t 5), (some 6), none, []⟩ :: L222_1
theorem v222_2 : wpS P L222_2 T L (rdy h) K = wpS P (⟨.len (.t 4), (some 5), none, []⟩ :: ⟨.mkslice 115 56 [(.bool false), (.sl none 0 (some 0)), (.sl none 0 (some 0))] (.t 5) (.t 5), (some 6), none, []⟩ :: L222_1) T L (rdy h) K := rfl
def L222_3 : List AStep := ⟨.faddr 0 (.t 1), (some 3), none, []⟩ :: ⟨.load 1 false (.t 3), (some 4), none, []⟩ :: L222_2
theorem v222_3 : wpS P L222_3 T L (rdy h) K = wpS P (⟨.faddr 0 (.t 1), (some 3), none, []⟩ :: ⟨.load 1 false (.t 3), (some 4), none, []⟩ :: L222_2) T L (rdy h) K := rfl
def C222_0 : ACode := .seq (.reg L222_3) .ret
theorem u222_0 : wpC P C222_0 T L (rdy h) Q = wpC P (.seq (.reg L222_3) .ret) T L (rdy h) Q := rfl
def C222_1 : ACode := .seq (.reg L222_0) C222_0
theorem u222_1 : wpC P C222_1 T L (rdy h) Q = wpC P (.seq (.reg L222_0) C222_0) T L (rdy h) Q := rfl
def F222 : AFunc := ⟨8, [.cell 2 1 true], C222_1⟩
theorem cF222 : compB Try.prog 222 = some F222 := by kernel_rfl
end
attribute [local go_sem ↓] u222_0 u222_1 v222_0 v222_1 v222_2 v222_3
theorem c_emptyBinding (l : List Param) (q : CV) (h : H) (hl : SlQ h (.one q) l) (hn : l.length ≤ big) : callK (bm Try.prog 222 [.agg [q]] h) fun r h' => Grow h h' ∧ ∃ v, r = .agg [v] ∧ NwY h h' v (List.replicate l.length zeroR) (List.replicate l.length zeroS) := by
  refine bm_of cF222 ?_
  unfold big at hn
  simp +contextual (maxSteps := 2000000) only [go_sem, Nat.reduceEqDiff, reduceCtorEq, Nat.reduceAdd, Nat.reduceLeDiff, F222, hl.len]
  refine wp_make (enc := encY) (k := 3) zeroR rfl (by omega) (by omega) ?_
  intro h1 w g1 n1 _
  obtain ⟨c, rfl⟩ := n1.one
  simp +contextual (maxSteps := 2000000) only [go_sem, Nat.reduceEqDiff, reduceCtorEq, Nat.reduceAdd, Nat.reduceLeDiff]
  exact gcK_of ⟨g1, _, rfl, .zeros n1⟩ (fun hs _ => ⟨Grow.refl h, _, rfl, (NwY.zeros n1).scalar (by simpa [AV.scalar, AV.scalars] using hs) h⟩)
section
variable {P : Program} {T : Tb} {L : Lb} {h : H} {Q : PostC} {K : Post}
/-! spec.missing -/
def L229_0 : List AStep := [⟨.mov (.c (.sl none 0 (some 0))), (some 4), none, []⟩]
theorem v229_0 : wpS P L229_0 T L (rdy h) K = wpS P ([⟨.mov (.c (.sl none 0 (some 0))), (some 4), none, []⟩]) T L (rdy h) K := rfl
def L229_1 : List AStep := ⟨.box 51 (.t 0), (some 2), none, []⟩ :: ⟨.box 111 (.t 1), (some 3), none, []⟩ :: L229_0
theorem v229_1 : wpS P L229_1 T L (rdy h) K = wpS P (⟨.box 51 (.t 0), (some 2), none, []⟩ :: ⟨.box 111 (.t 1), (some 3), none, []⟩ :: L229_0) T L (rdy h) K := rfl
def L229_2 : List AStep := [⟨.buildSlice 212 0 [(.int .i64 0), (.str (strOfNums []))] [], (some 8), none, []⟩, ⟨.mov (.t 8), (some 5), none, []⟩]
theorem v229_2 : wpS P L229_2 T L (rdy h) K = wpS P ([⟨.buildSlice 212 0 [(.int .i64 0), (.str (strOfNums []))] [], (some 8), none, []⟩, ⟨.mov (.t 8), (some 5), none, []⟩]) T L (rdy h) K := rfl
def L229_3 : List AStep := [⟨.mov (.c (.int .i64 0)), (some 6), none, []⟩]
theorem v229_3 : wpS P L229_3 T L (rdy h) K = wpS P ([⟨.mov (.c (.int .i64 0)), (some 6), none, []⟩]) T L (rdy h) K := rfl
def L229_4 : List AStep := [⟨.bin .lss (.t 9) (.t 12), (some 13), none, []⟩]
theorem v229_4 : wpS P L229_4 T L (rdy h) K = wpS P ([⟨.bin .lss (.t 9) (.t 12), (some 13), none, []⟩]) T L (rdy h) K := rfl
def L229_5 : List AStep := ⟨.load 1 false (.t 10), (some 11), none, []⟩ :: ⟨.len (.t 11), (some 12), none, []⟩ :: L229_4
theorem v229_5 : wpS P L229_5 T L (rdy h) K = wpS P (⟨.load 1 false (.t 10), (some 11), none, []⟩ :: ⟨.len (.t 11), (some 12), none, []⟩ :: L229_4) T L (rdy h) K := rfl
def L229_6 : List AStep := ⟨.mov (.t 6), (some 9), none, []⟩ :: ⟨.faddr 0 (.t 2), (some 10), none, []⟩ :: L229_5
theorem v229_6 : wpS P L229_6 T L (rdy h) K = wpS P (⟨.mov (.t 6), (some 9), none, []⟩ :: ⟨.faddr 0 (.t 2), (some 10), none, []⟩ :: L229_5) T L (rdy h) K := rfl
def L229_7 : List AStep := [⟨.store 4 (.t 7) (.t 20), none, none, []⟩]
theorem v229_7 : wpS P L229_7 T L (rdy h) K = wpS P ([⟨.store 4 (.t 7) (.t 20), none, none, []⟩]) T L (rdy h) K := rfl
def L229_8 : List AStep := ⟨.load 4 true (.t 19), (some 20), none, []⟩ :: ⟨.alloc 108 [(.str (strOfNums [])), (.int .i64 0), (.bool false), (.int .i64 0)], (some 7), none, []⟩ :: L229_7
theorem v229_8 : wpS P L229_8 T L (rdy h) K = wpS P (⟨.load 4 true (.t 19), (some 20), none, []⟩ :: ⟨.alloc 108 [(.str (strOfNums [])), (.int .i64 0), (.bool false), (.int .i64 0)], (some 7), none, []⟩ :: L229_7) T L (rdy h) K := rfl
def L229_9 : List AStep := ⟨.mov (.t 6), (some 18), none, []⟩ :: ⟨.iaddr 4 (.t 17) (.t 18), (some 19), none, []⟩ :: L229_8
theorem v229_9 : wpS P L229_9 T L (rdy h) K = wpS P (⟨.mov (.t 6), (some 18), none, []⟩ :: ⟨.iaddr 4 (.t 17) (.t 18), (some 19), none, []⟩ :: L229_8) T L (rdy h) K := rfl
def L229_10 : List AStep := ⟨.faddr 0 (.t 2), (some 16), none, []⟩ :: ⟨.load 1 false (.t 16), (some 17), none, []⟩ :: L229_9
theorem v229_10 : wpS P L229_10 T L (rdy h) K = wpS P (⟨.faddr 0 (.t 2), (some 16), none, []⟩ :: ⟨.load 1 false (.t 16), (some 17), none, []⟩ :: L229_9) T L (rdy h) K := rfl
def L229_11 : List AStep := [⟨.not (.t 34), (some 35), (some (28, true)), []⟩, ⟨.pick (.t 28) (.t 35) (.c (.bool false)), (some 36), none, []⟩]
theorem v229_11 : wpS P L229_11 T L (rdy h) K = wpS P ([⟨.not (.t 34), (some 35), (some (28, true)), []⟩, ⟨.pick (.t 28) (.t 35) (.c (.bool false)), (some 36), none, []⟩]) T L (rdy h) K := rfl
def L229_12 : List AStep := ⟨.faddr 0 (.t 32), (some 33), (some (28, true)), []⟩ :: ⟨.load 1 false (.t 33), (some 34), (some (28, true)), []⟩ :: L229_11
theorem v229_12 : wpS P L229_12 T L (rdy h) K = wpS P (⟨.faddr 0 (.t 32), (some 33), (some (28, true)), []⟩ :: ⟨.load 1 false (.t 33), (some 34), (some (28, true)), []⟩ :: L229_11) T L (rdy h) K := rfl
def L229_13 : List AStep := ⟨.mov (.t 6), (some 31), (some (28, true)), []⟩ :: ⟨.iaddr 3 (.t 30) (.t 31), (some 32), (some (28, true)), []⟩ :: L229_12
theorem v229_13 : wpS P L229_13 T L (rdy h) K = wpS P (⟨.mov (.t 6), (some 31), (some (28, true)), []⟩ :: ⟨.iaddr 3 (.t 30) (.t 31), (some 32), (some (28, true)), []⟩ :: L229_12) T L (rdy h) K := rfl
def L229_14 : List AStep := ⟨.faddr 0 (.t 3), (some 29), (some (28, true)), []⟩ :: ⟨.load 1 false (.t 29), (some 30), (some (28, true)), []⟩ :: L229_13
theorem v229_14 : wpS P L229_14 T L (rdy h) K = wpS P (⟨.faddr 0 (.t 3), (some 29), (some (28, true)), []⟩ :: ⟨.load 1 false (.t 29), (some 30), (some (28, true)), []⟩ :: L229_13) T L (rdy h) K := rfl
def L229_15 : List AStep := ⟨.pick (.t 23) (.t 26) (.c (.bool false)), (some 27), none, []⟩ :: ⟨.mov (.t 27), (some 28), none, []⟩ :: L229_14
theorem v229_15 : wpS P L229_15 T L (rdy h) K = wpS P (⟨.pick (.t 23) (.t 26) (.c (.bool false)), (some 27), none, []⟩ :: ⟨.mov (.t 27), (some 28), none, []⟩ :: L229_14) T L (rdy h) K := rfl
def L229_16 : List AStep := ⟨.load 1 false (.t 24), (some 25), (some (23, true)), []⟩ :: ⟨.not (.t 25), (some 26), (some (23, true)), []⟩ :: L229_15
theorem v229_16 : wpS P L229_16 T L (rdy h) K = wpS P (⟨.load 1 false (.t 24), (some 25), (some (23, true)), []⟩ :: ⟨.not (.t 25), (some 26), (some (23, true)), []⟩ :: L229_15) T L (rdy h) K := rfl
def L229_17 : List AStep := ⟨.mov (.t 22), (some 23), none, []⟩ :: ⟨.faddr 2 (.t 7), (some 24), (some (23, true)), []⟩ :: L229_16
theorem v229_17 : wpS P L229_17 T L (rdy h) K = wpS P (⟨.mov (.t 22), (some 23), none, []⟩ :: ⟨.faddr 2 (.t 7), (some 24), (some (23, true)), []⟩ :: L229_16) T L (rdy h) K := rfl
def L229_18 : List AStep := ⟨.load 4 true (.t 7), (some 21), none, []⟩ :: ⟨.call 214 [(.t 21)], (some 22), none, []⟩ :: L229_17
theorem v229_18 : wpS P L229_18 T L (rdy h) K = wpS P (⟨.load 4 true (.t 7), (some 21), none, []⟩ :: ⟨.call 214 [(.t 21)], (some 22), none, []⟩ :: L229_17) T L (rdy h) K := rfl
def L229_19 : List AStep := [⟨.mov (.t 42), (some 5), none, []⟩]
theorem v229_19 : wpS P L229_19 T L (rdy h) K = wpS P ([⟨.mov (.t 42), (some 5), none, []⟩]) T L (rdy h) K := rfl
def L229_20 : List AStep := ⟨.buildSlice 212 1 [(.int .i64 0), (.str (strOfNums []))] [(0, 2, (.t 40))], (some 41), none, []⟩ :: ⟨.append 212 2 24 (.t 37) (.t 41), (some 42), none, []⟩ :: L229_19
theorem v229_20 : wpS P L229_20 T L (rdy h) K = wpS P (⟨.buildSlice 212 1 [(.int .i64 0), (.str (strOfNums []))] [(0, 2, (.t 40))], (some 41), none, []⟩ :: ⟨.append 212 2 24 (.t 37) (.t 41), (some 42), none, []⟩ :: L229_19) T L (rdy h) K := rfl
def L229_21 : List AStep := ⟨.load 1 false (.t 38), (some 39), none, []⟩ :: ⟨.build [(.int .i64 0), (.str (strOfNums []))] [(0, 1, (.c (.int .i64 3))), (1, 1, (.t 39))], (some 40), none, []⟩ :: L229_20
theorem v229_21 : wpS P L229_21 T L (rdy h) K = wpS P (⟨.load 1 false (.t 38), (some 39), none, []⟩ :: ⟨.build [(.int .i64 0), (.str (strOfNums []))] [(0, 1, (.c (.int .i64 3))), (1, 1, (.t 39))], (some 40), none, []⟩ :: L229_20) T L (rdy h) K := rfl
def L229_22 : List AStep := ⟨.mov (.t 5), (some 37), none, []⟩ :: ⟨.faddr 0 (.t 7), (some 38), none, []⟩ :: L229_21
theorem v229_22 : wpS P L229_22 T L (rdy h) K = wpS P (⟨.mov (.t 5), (some 37), none, []⟩ :: ⟨.faddr 0 (.t 7), (some 38), none, []⟩ :: L229_21) T L (rdy h) K := rfl
def L229_23 : List AStep := [⟨.mov (.t 15), (some 6), none, []⟩]
theorem v229_23 : wpS P L229_23 T L (rdy h) K = wpS P ([⟨.mov (.t 15), (some 6), none, []⟩]) T L (rdy h) K := rfl
def L229_24 : List AStep := ⟨.mov (.t 6), (some 14), none, []⟩ :: ⟨.bin .add (.t 14) (.c (.int .i64 1)), (some 15), none, []⟩ :: L229_23
theorem v229_24 : wpS P L229_24 T L (rdy h) K = wpS P (⟨.mov (.t 6), (some 14), none, []⟩ :: ⟨.bin .add (.t 14) (.c (.int .i64 1)), (some 15), none, []⟩ :: L229_23) T L (rdy h) K := rfl
def L229_25 : List AStep := [⟨.mov (.t 5), (some 43), none, []⟩, ⟨.mov (.t 43), (some 4), none, []⟩]
theorem v229_25 : wpS P L229_25 T L (rdy h) K = wpS P ([⟨.mov (.t 5), (some 43), none, []⟩, ⟨.mov (.t 43), (some 4), none, []⟩]) T L (rdy h) K := rfl
def C229_0 : ACode := .cond (.t 13) .skip (.exit 0)
theorem u229_0 : wpC P C229_0 T L (rdy h) Q = wpC P (.cond (.t 13) .skip (.exit 0)) T L (rdy h) Q := rfl
def C229_1 : ACode := .seq (.reg L229_6) C229_0
theorem u229_1 : wpC P C229_1 T L (rdy h) Q = wpC P (.seq (.reg L229_6) C229_0) T L (rdy h) Q := rfl
def C229_2 : ACode := .cond (.t 36) (.reg L229_22) .skip
theorem u229_2 : wpC P C229_2 T L (rdy h) Q = wpC P (.cond (.t 36) (.reg L229_22) .skip) T L (rdy h) Q := rfl
def C229_3 : ACode := .seq (.reg L229_18) C229_2
theorem u229_3 : wpC P C229_3 T L (rdy h) Q = wpC P (.seq (.reg L229_18) C229_2) T L (rdy h) Q := rfl
def C229_4 : ACode := .seq (.reg L229_10) C229_3
theorem u229_4 : wpC P C229_4 T L (rdy h) Q = wpC P (.seq (.reg L229_10) C229_3) T L (rdy h) Q := rfl
def C229_5 : ACode := .block 1 C229_4
theorem u229_5 : wpC P C229_5 T L (rdy h) Q = wpC P (.block 1 C229_4) T L (rdy h) Q := rfl
def C229_6 : ACode := .seq C229_5 (.reg L229_24)
theorem u229_6 : wpC P C229_6 T L (rdy h) Q = wpC P (.seq C229_5 (.reg L229_24)) T L (rdy h) Q := rfl
def C229_7 : ACode := .seq C229_1 C229_6
theorem u229_7 : wpC P C229_7 T L (rdy h) Q = wpC P (.seq C229_1 C229_6) T L (rdy h) Q := rfl
def C229_8 : ACode := .block 0 (.loop C229_7)
theorem u229_8 : wpC P C229_8 T L (rdy h) Q = wpC P (.block 0 (.loop C229_7)) T L (rdy h) Q := rfl
def C229_9 : ACode := .seq (.reg L229_3) C229_8
theorem u229_9 : wpC P C229_9 T L (rdy h) Q = wpC P (.seq (.reg L229_3) C229_8) T L (rdy h) Q := rfl
def C229_10 : ACode := .seq (.reg L229_25) .ret
theorem u229_10 : wpC P C229_10 T L (rdy h) Q = wpC P (.seq (.reg L229_25) .ret) T L (rdy h) Q := rfl
def C229_11 : ACode := .seq C229_9 C229_10
theorem u229_11 : wpC P C229_11 T L (rdy h) Q = wpC P (.seq C229_9 C229_10) T L (rdy h) Q := rfl
def C229_12 : ACode := .seq (.reg L229_2) C229_11
theorem u229_12 : wpC P C229_12 T L (rdy h) Q = wpC P (.seq (.reg L229_2) C229_11) T L (rdy h) Q := rfl
def C229_13 : ACode := .seq (.reg L229_1) C229_12
theorem u229_13 : wpC P C229_13 T L (rdy h) Q = wpC P (.seq (.reg L229_1) C229_12) T L (rdy h) Q := rfl
def F229 : AFunc := ⟨44, [.tmp 4], C229_13⟩
theorem cF229 : compB Try.prog 229 = some F229 := by kernel_rfl
end
attribute [local go_sem ↓] u229_0 u229_1 u229_2 u229_3 u229_4 u229_5 u229_6 u229_7 u229_8 u229_9 u229_10 u229_11 u229_12 u229_13 v229_0 v229_1 v229_2 v229_3 v229_4 v229_5 v229_6 v229_7 v229_8 v229_9 v229_10 v229_11 v229_12 v229_13 v229_14 v229_15 v229_16 v229_17 v229_18 v229_19 v229_20 v229_21 v229_22 v229_23 v229_24 v229_25
theorem c_missing (l : List Param) (sl : List Slot) (rs : List RSlot) (q v : CV) (h : H) (hl : SlQ h (.one q) l) (hn : l.length ≤ 8) (hs : RdY 115 3 86 h v rs sl.length (getY sl)) (hlen : sl.length = l.length) :
    callK (bm Try.prog 229 [.agg [q], .agg [v]] h) fun r h' => Grow h h' ∧ NwB h h' r (missing l sl) := by
  refine bm_of cF229 ?_
  simp +contextual (maxSteps := 2000000) only [go_sem, Nat.reduceEqDiff, reduceCtorEq, Nat.reduceAdd, Nat.reduceLeDiff, F229]
  refine wp_lit (enc := encB) (k := 2) (l := []) rfl rfl ?_
  intro h1 w g1 n1 _
  simp +contextual (maxSteps := 2000000) only [go_sem, Nat.reduceEqDiff, reduceCtorEq, Nat.reduceAdd, Nat.reduceLeDiff]
  refine wpC_loop (fun i T L h' => Grow h h' ∧ T 2 = .lp 2 0 ∧ (L 2).2 = [q] ∧ T 3 = .lp 3 0 ∧ (L 3).2 = [v] ∧ (∃ w, T 5 = .v w ∧ NwB h h' w (missF l sl i)) ∧ T 6 = .v (.one (.int .i64 i))) l.length ?_ ?_ (Nat.zero_le _) ?_
  · rintro i T L h' hi ⟨g, t2, l2, t3, l3, ⟨w, t5, x⟩, t6⟩
    have k := hl.grow g
    have y := hs.grow g
    have hsl : i < sl.length := by omega
    have hrs : i < rs.length := by rw [y.len]; exact hsl
    have eg : rs[i].given = sl[i].given := by rw [(y.el i hrs).given, getY_eq hsl]
    have el := lacks_eq hi hsl
    have em := missF_next (sl := sl) hi
    have yi : iaddrO 3 (.one v) (.one (.int .i64 i)) = some (.one (.ptr (some (elem 3 (.one v) i)))) := y.out.iaddr hrs
    have y0 := y.out.fieldO (off := 0) hrs (by omega)
    rw [encY_0] at y0
    have es := fun h => c_isSingle l[i] h
    simp only [encQ] at es
    have done : ∀ b, lacks l sl i = b → b = false → missF l sl (i + 1) = missF l sl i := fun b e1 e2 => by rw [em, e1, e2]; simp
    cases b1 : single l[i] with
    | false =>
      rw [b1, Bool.false_and] at el
      simp +contextual (maxSteps := 2000000) only [go_sem, Nat.reduceEqDiff, reduceCtorEq, Nat.reduceAdd, Nat.reduceLeDiff, t2, l2, t3, l3, t5, t6, k.len, k.iaddr hi, k.whole hi, encQ, lt_true hi, es, b1]
      exact ⟨g, ⟨w, rfl, by rw [done _ el rfl]; exact x⟩, by rw [wrap_next hi (by omega)]⟩
    | true =>
    cases b2 : l[i].has with
    | true =>
      rw [b1, b2] at el
      simp only [b2] at es
      simp +contextual (maxSteps := 2000000) only [go_sem, Nat.reduceEqDiff, reduceCtorEq, Nat.reduceAdd, Nat.reduceLeDiff, t2, l2, t3, l3, t5, t6, k.len, k.iaddr hi, k.whole hi, encQ, lt_true hi, es, b1, b2]
      exact ⟨g, ⟨w, rfl, by rw [done _ el rfl]; exact x⟩, by rw [wrap_next hi (by omega)]⟩
    | false =>
    cases b3 : sl[i].given with
    | true =>
      rw [b1, b2, b3] at el
      simp only [b2] at es
      rw [b3] at eg
      rw [eg] at y0
      simp +contextual (maxSteps := 2000000) only [go_sem, Nat.reduceEqDiff, reduceCtorEq, Nat.reduceAdd, Nat.reduceLeDiff, t2, l2, t3, l3, t5, t6, k.len, k.iaddr hi, k.whole hi, encQ, lt_true hi, es, b1, b2, yi, y0]
      exact ⟨g, ⟨w, rfl, by rw [done _ el rfl]; exact x⟩, by rw [wrap_next hi (by omega)]⟩
    | false =>
      rw [b1, b2, b3] at el
      simp only [b2] at es
      rw [b3] at eg
      rw [eg] at y0
      have ml := missF_len (l := l) (sl := sl) (i := i)
      simp +contextual (maxSteps := 2000000) only [go_sem, Nat.reduceEqDiff, reduceCtorEq, Nat.reduceAdd, Nat.reduceLeDiff, t2, l2, t3, l3, t5, t6, k.len, k.iaddr hi, k.whole hi, encQ, lt_true hi, es, b1, b2, yi, y0]
      refine wp_lit (enc := encB) (k := 2) (l := [⟨3, l[i].name⟩]) rfl rfl ?_
      intro h2 w2 g2 n2 _
      simp +contextual (maxSteps := 2000000) only [go_sem, Nat.reduceEqDiff, reduceCtorEq, Nat.reduceAdd, Nat.reduceLeDiff, t2, l2, t3, l3, t5, t6]
      refine wp_append lenB (x.grow g2) (n2.sl lenB) (g.trans g2) (by simp; omega) ?_
      intro h3 w3 g3 n3 _ _
      simp +contextual (maxSteps := 2000000) only [go_sem, Nat.reduceEqDiff, reduceCtorEq, Nat.reduceAdd, Nat.reduceLeDiff, t2, l2, t3, l3, t5, t6]
      refine ⟨g3, ⟨w3, rfl, ?_⟩, by rw [wrap_next hi (by omega)]⟩
      rw [em, el]
      exact n3
  · rintro T L h' ⟨g, t2, l2, t3, l3, ⟨w, t5, x⟩, t6⟩
    have k := hl.grow g
    simp +contextual (maxSteps := 2000000) only [go_sem, Nat.reduceEqDiff, reduceCtorEq, Nat.reduceAdd, Nat.reduceLeDiff, t2, l2, t3, l3, t5, t6, k.len, lt_false]
    exact gcK_of ⟨g, x⟩ (fun hs _ => ⟨Grow.refl h, x.scalar hs h⟩)
  · simp +contextual (maxSteps := 2000000) only [go_sem, Nat.reduceEqDiff, reduceCtorEq, Nat.reduceAdd, Nat.reduceLeDiff]
    exact ⟨g1, ⟨w, rfl, n1⟩, rfl⟩
section
variable {P : Program} {T : Tb} {L : Lb} {h : H} {Q : PostC} {K : Post}
/-! spec.bound -/
def L193_0 : List AStep := [⟨.alloc 111 [(.sl none 0 (some 0))], (some 4), none, []⟩, ⟨.mov (.c (.sl none 0 (some 0))), (some 5), none, []⟩]
theorem v193_0 : wpS P L193_0 T L (rdy h) K = wpS P ([⟨.alloc 111 [(.sl none 0 (some 0))], (some 4), none, []⟩, ⟨.mov (.c (.sl none 0 (some 0))), (some 5), none, []⟩]) T L (rdy h) K := rfl
def L193_1 : List AStep := ⟨.box 51 (.t 0), (some 2), none, []⟩ :: ⟨.box 30 (.t 1), (some 3), none, []⟩ :: L193_0
theorem v193_1 : wpS P L193_1 T L (rdy h) K = wpS P (⟨.box 51 (.t 0), (some 2), none, []⟩ :: ⟨.box 30 (.t 1), (some 3), none, []⟩ :: L193_0) T L (rdy h) K := rfl
def L193_2 : List AStep := [⟨.alloc 111 [(.sl none 0 (some 0))], (some 6), none, []⟩, ⟨.store 1 (.t 6) (.t 15), none, none, []⟩]
theorem v193_2 : wpS P L193_2 T L (rdy h) K = wpS P ([⟨.alloc 111 [(.sl none 0 (some 0))], (some 6), none, []⟩, ⟨.store 1 (.t 6) (.t 15), none, none, []⟩]) T L (rdy h) K := rfl
def L193_3 : List AStep := ⟨.load 1 true (.t 2), (some 14), none, []⟩ :: ⟨.call 222 [(.t 14)], (some 15), none, []⟩ :: L193_2
theorem v193_3 : wpS P L193_3 T L (rdy h) K = wpS P (⟨.load 1 true (.t 2), (some 14), none, []⟩ :: ⟨.call 222 [(.t 14)], (some 15), none, []⟩ :: L193_2) T L (rdy h) K := rfl
def L193_4 : List AStep := [⟨.buildSlice 212 0 [(.int .i64 0), (.str (strOfNums []))] [], (some 16), none, []⟩, ⟨.mov (.t 16), (some 7), none, []⟩]
theorem v193_4 : wpS P L193_4 T L (rdy h) K = wpS P ([⟨.buildSlice 212 0 [(.int .i64 0), (.str (strOfNums []))] [], (some 16), none, []⟩, ⟨.mov (.t 16), (some 7), none, []⟩]) T L (rdy h) K := rfl
def L193_5 : List AStep := [⟨.mov (.t 18), (some 8), none, []⟩]
theorem v193_5 : wpS P L193_5 T L (rdy h) K = wpS P ([⟨.mov (.t 18), (some 8), none, []⟩]) T L (rdy h) K := rfl
def L193_6 : List AStep := ⟨.load 1 true (.t 2), (some 17), none, []⟩ :: ⟨.call 97 [(.t 17)], (some 18), none, []⟩ :: L193_5
theorem v193_6 : wpS P L193_6 T L (rdy h) K = wpS P (⟨.load 1 true (.t 2), (some 17), none, []⟩ :: ⟨.call 97 [(.t 17)], (some 18), none, []⟩ :: L193_5) T L (rdy h) K := rfl
def L193_7 : List AStep := [⟨.call 223 [(.t 20), (.c (.int .i64 2))], (some 21), none, []⟩, ⟨.mov (.t 21), (some 9), none, []⟩]
theorem v193_7 : wpS P L193_7 T L (rdy h) K = wpS P ([⟨.call 223 [(.t 20), (.c (.int .i64 2))], (some 21), none, []⟩, ⟨.mov (.t 21), (some 9), none, []⟩]) T L (rdy h) K := rfl
def L193_8 : List AStep := ⟨.faddr 0 (.t 2), (some 19), none, []⟩ :: ⟨.load 1 false (.t 19), (some 20), none, []⟩ :: L193_7
theorem v193_8 : wpS P L193_8 T L (rdy h) K = wpS P (⟨.faddr 0 (.t 2), (some 19), none, []⟩ :: ⟨.load 1 false (.t 19), (some 20), none, []⟩ :: L193_7) T L (rdy h) K := rfl
def L193_9 : List AStep := [⟨.mov (.c (.int .i64 0)), (some 10), none, []⟩]
theorem v193_9 : wpS P L193_9 T L (rdy h) K = wpS P ([⟨.mov (.c (.int .i64 0)), (some 10), none, []⟩]) T L (rdy h) K := rfl
def L193_10 : List AStep := [⟨.bin .lss (.t 22) (.t 25), (some 26), none, []⟩]
theorem v193_10 : wpS P L193_10 T L (rdy h) K = wpS P ([⟨.bin .lss (.t 22) (.t 25), (some 26), none, []⟩]) T L (rdy h) K := rfl
def L193_11 : List AStep := ⟨.load 1 false (.t 23), (some 24), none, []⟩ :: ⟨.len (.t 24), (some 25), none, []⟩ :: L193_10
theorem v193_11 : wpS P L193_11 T L (rdy h) K = wpS P (⟨.load 1 false (.t 23), (some 24), none, []⟩ :: ⟨.len (.t 24), (some 25), none, []⟩ :: L193_10) T L (rdy h) K := rfl
def L193_12 : List AStep := ⟨.mov (.t 10), (some 22), none, []⟩ :: ⟨.faddr 0 (.t 3), (some 23), none, []⟩ :: L193_11
theorem v193_12 : wpS P L193_12 T L (rdy h) K = wpS P (⟨.mov (.t 10), (some 22), none, []⟩ :: ⟨.faddr 0 (.t 3), (some 23), none, []⟩ :: L193_11) T L (rdy h) K := rfl
def L193_13 : List AStep := [⟨.bin .lss (.t 30) (.t 31), (some 32), none, []⟩, ⟨.mov (.t 32), (some 29), none, []⟩]
theorem v193_13 : wpS P L193_13 T L (rdy h) K = wpS P ([⟨.bin .lss (.t 30) (.t 31), (some 32), none, []⟩, ⟨.mov (.t 32), (some 29), none, []⟩]) T L (rdy h) K := rfl
def L193_14 : List AStep := ⟨.mov (.t 10), (some 30), none, []⟩ :: ⟨.mov (.t 8), (some 31), none, []⟩ :: L193_13
theorem v193_14 : wpS P L193_14 T L (rdy h) K = wpS P (⟨.mov (.t 10), (some 30), none, []⟩ :: ⟨.mov (.t 8), (some 31), none, []⟩ :: L193_13) T L (rdy h) K := rfl
def L193_15 : List AStep := [⟨.iaddr 3 (.t 34) (.t 35), (some 43), none, []⟩, ⟨.store 3 (.t 43) (.t 42), none, none, []⟩]
theorem v193_15 : wpS P L193_15 T L (rdy h) K = wpS P ([⟨.iaddr 3 (.t 34) (.t 35), (some 43), none, []⟩, ⟨.store 3 (.t 43) (.t 42), none, none, []⟩]) T L (rdy h) K := rfl
def L193_16 : List AStep := ⟨.buildSlice 3 1 [(.int .i64 0)] [(0, 1, (.t 40))], (some 41), none, []⟩ :: ⟨.build [(.bool false), (.sl none 0 (some 0)), (.sl none 0 (some 0))] [(0, 1, (.c (.bool true))), (1, 1, (.t 41))], (some 42), none, []⟩ :: L193_15
theorem v193_16 : wpS P L193_16 T L (rdy h) K = wpS P (⟨.buildSlice 3 1 [(.int .i64 0)] [(0, 1, (.t 40))], (some 41), none, []⟩ :: ⟨.build [(.bool false), (.sl none 0 (some 0)), (.sl none 0 (some 0))] [(0, 1, (.c (.bool true))), (1, 1, (.t 41))], (some 42), none, []⟩ :: L193_15) T L (rdy h) K := rfl
def L193_17 : List AStep := ⟨.iaddr 1 (.t 37) (.t 38), (some 39), none, []⟩ :: ⟨.load 1 false (.t 39), (some 40), none, []⟩ :: L193_16
theorem v193_17 : wpS P L193_17 T L (rdy h) K = wpS P (⟨.iaddr 1 (.t 37) (.t 38), (some 39), none, []⟩ :: ⟨.load 1 false (.t 39), (some 40), none, []⟩ :: L193_16) T L (rdy h) K := rfl
def L193_18 : List AStep := ⟨.load 1 false (.t 36), (some 37), none, []⟩ :: ⟨.mov (.t 10), (some 38), none, []⟩ :: L193_17
theorem v193_18 : wpS P L193_18 T L (rdy h) K = wpS P (⟨.load 1 false (.t 36), (some 37), none, []⟩ :: ⟨.mov (.t 10), (some 38), none, []⟩ :: L193_17) T L (rdy h) K := rfl
def L193_19 : List AStep := ⟨.mov (.t 10), (some 35), none, []⟩ :: ⟨.faddr 0 (.t 3), (some 36), none, []⟩ :: L193_18
theorem v193_19 : wpS P L193_19 T L (rdy h) K = wpS P (⟨.mov (.t 10), (some 35), none, []⟩ :: ⟨.faddr 0 (.t 3), (some 36), none, []⟩ :: L193_18) T L (rdy h) K := rfl
def L193_20 : List AStep := ⟨.faddr 0 (.t 6), (some 33), none, []⟩ :: ⟨.load 1 false (.t 33), (some 34), none, []⟩ :: L193_19
theorem v193_20 : wpS P L193_20 T L (rdy h) K = wpS P (⟨.faddr 0 (.t 6), (some 33), none, []⟩ :: ⟨.load 1 false (.t 33), (some 34), none, []⟩ :: L193_19) T L (rdy h) K := rfl
def L193_21 : List AStep := [⟨.mov (.t 46), (some 44), none, []⟩]
theorem v193_21 : wpS P L193_21 T L (rdy h) K = wpS P ([⟨.mov (.t 46), (some 44), none, []⟩]) T L (rdy h) K := rfl
def L193_22 : List AStep := ⟨.mov (.t 9), (some 45), none, []⟩ :: ⟨.bin .geq (.t 45) (.c (.int .i64 0)), (some 46), none, []⟩ :: L193_21
theorem v193_22 : wpS P L193_22 T L (rdy h) K = wpS P (⟨.mov (.t 9), (some 45), none, []⟩ :: ⟨.bin .geq (.t 45) (.c (.int .i64 0)), (some 46), none, []⟩ :: L193_21) T L (rdy h) K := rfl
def L193_23 : List AStep := [⟨.store 1 (.t 64) (.t 62), none, none, []⟩]
theorem v193_23 : wpS P L193_23 T L (rdy h) K = wpS P ([⟨.store 1 (.t 64) (.t 62), none, none, []⟩]) T L (rdy h) K := rfl
def L193_24 : List AStep := ⟨.iaddr 3 (.t 48) (.t 49), (some 63), none, []⟩ :: ⟨.faddr 1 (.t 63), (some 64), none, []⟩ :: L193_23
theorem v193_24 : wpS P L193_24 T L (rdy h) K = wpS P (⟨.iaddr 3 (.t 48) (.t 49), (some 63), none, []⟩ :: ⟨.faddr 1 (.t 63), (some 64), none, []⟩ :: L193_23) T L (rdy h) K := rfl
def L193_25 : List AStep := ⟨.buildSlice 3 1 [(.int .i64 0)] [(0, 1, (.t 60))], (some 61), none, []⟩ :: ⟨.append 3 1 8 (.t 55) (.t 61), (some 62), none, [(.load 1 false (.t 47), (some 48), none)]⟩ :: L193_24
theorem v193_25 : wpS P L193_25 T L (rdy h) K = wpS P (⟨.buildSlice 3 1 [(.int .i64 0)] [(0, 1, (.t 60))], (some 61), none, []⟩ :: ⟨.append 3 1 8 (.t 55) (.t 61), (some 62), none, [(.load 1 false (.t 47), (some 48), none)]⟩ :: L193_24) T L (rdy h) K := rfl
def L193_26 : List AStep := ⟨.iaddr 1 (.t 57) (.t 58), (some 59), none, []⟩ :: ⟨.load 1 false (.t 59), (some 60), none, []⟩ :: L193_25
theorem v193_26 : wpS P L193_26 T L (rdy h) K = wpS P (⟨.iaddr 1 (.t 57) (.t 58), (some 59), none, []⟩ :: ⟨.load 1 false (.t 59), (some 60), none, []⟩ :: L193_25) T L (rdy h) K := rfl
def L193_27 : List AStep := ⟨.load 1 false (.t 56), (some 57), none, []⟩ :: ⟨.mov (.t 10), (some 58), none, []⟩ :: L193_26
theorem v193_27 : wpS P L193_27 T L (rdy h) K = wpS P (⟨.load 1 false (.t 56), (some 57), none, []⟩ :: ⟨.mov (.t 10), (some 58), none, []⟩ :: L193_26) T L (rdy h) K := rfl
def L193_28 : List AStep := ⟨.load 1 false (.t 54), (some 55), none, []⟩ :: ⟨.faddr 0 (.t 3), (some 56), none, []⟩ :: L193_27
theorem v193_28 : wpS P L193_28 T L (rdy h) K = wpS P (⟨.load 1 false (.t 54), (some 55), none, []⟩ :: ⟨.faddr 0 (.t 3), (some 56), none, []⟩ :: L193_27) T L (rdy h) K := rfl
def L193_29 : List AStep := ⟨.iaddr 3 (.t 51) (.t 52), (some 53), none, []⟩ :: ⟨.faddr 1 (.t 53), (some 54), none, []⟩ :: L193_28
theorem v193_29 : wpS P L193_29 T L (rdy h) K = wpS P (⟨.iaddr 3 (.t 51) (.t 52), (some 53), none, []⟩ :: ⟨.faddr 1 (.t 53), (some 54), none, []⟩ :: L193_28) T L (rdy h) K := rfl
def L193_30 : List AStep := ⟨.load 1 false (.t 50), (some 51), none, []⟩ :: ⟨.mov (.t 9), (some 52), none, []⟩ :: L193_29
theorem v193_30 : wpS P L193_30 T L (rdy h) K = wpS P (⟨.load 1 false (.t 50), (some 51), none, []⟩ :: ⟨.mov (.t 9), (some 52), none, []⟩ :: L193_29) T L (rdy h) K := rfl
def L193_31 : List AStep := ⟨.mov (.t 9), (some 49), none, []⟩ :: ⟨.faddr 0 (.t 6), (some 50), none, []⟩ :: L193_30
theorem v193_31 : wpS P L193_31 T L (rdy h) K = wpS P (⟨.mov (.t 9), (some 49), none, []⟩ :: ⟨.faddr 0 (.t 6), (some 50), none, []⟩ :: L193_30) T L (rdy h) K := rfl
def L193_32 : List AStep := ⟨.faddr 0 (.t 6), (some 47), none, []⟩ :: ⟨.load 1 false (.t 47), (some 48), none, []⟩ :: L193_31
theorem v193_32 : wpS P L193_32 T L (rdy h) K = wpS P (⟨.faddr 0 (.t 6), (some 47), none, []⟩ :: ⟨.load 1 false (.t 47), (some 48), none, []⟩ :: L193_31) T L (rdy h) K := rfl
def L193_33 : List AStep := [⟨.mov (.t 28), (some 10), none, []⟩]
theorem v193_33 : wpS P L193_33 T L (rdy h) K = wpS P ([⟨.mov (.t 28), (some 10), none, []⟩]) T L (rdy h) K := rfl
def L193_34 : List AStep := ⟨.mov (.t 10), (some 27), none, []⟩ :: ⟨.bin .add (.t 27) (.c (.int .i64 1)), (some 28), none, []⟩ :: L193_33
theorem v193_34 : wpS P L193_34 T L (rdy h) K = wpS P (⟨.mov (.t 10), (some 27), none, []⟩ :: ⟨.bin .add (.t 27) (.c (.int .i64 1)), (some 28), none, []⟩ :: L193_33) T L (rdy h) K := rfl
def L193_35 : List AStep := [⟨.pick (.t 70) (.t 72) (.c (.bool false)), (some 73), none, []⟩]
theorem v193_35 : wpS P L193_35 T L (rdy h) K = wpS P ([⟨.pick (.t 70) (.t 72) (.c (.bool false)), (some 73), none, []⟩]) T L (rdy h) K := rfl
def L193_36 : List AStep := ⟨.mov (.t 9), (some 71), (some (70, true)), []⟩ :: ⟨.bin .lss (.t 71) (.c (.int .i64 0)), (some 72), (some (70, true)), []⟩ :: L193_35
theorem v193_36 : wpS P L193_36 T L (rdy h) K = wpS P (⟨.mov (.t 9), (some 71), (some (70, true)), []⟩ :: ⟨.bin .lss (.t 71) (.c (.int .i64 0)), (some 72), (some (70, true)), []⟩ :: L193_35) T L (rdy h) K := rfl
def L193_37 : List AStep := ⟨.bin .gtr (.t 67) (.t 68), (some 69), none, []⟩ :: ⟨.mov (.t 69), (some 70), none, []⟩ :: L193_36
theorem v193_37 : wpS P L193_37 T L (rdy h) K = wpS P (⟨.bin .gtr (.t 67) (.t 68), (some 69), none, []⟩ :: ⟨.mov (.t 69), (some 70), none, []⟩ :: L193_36) T L (rdy h) K := rfl
def L193_38 : List AStep := ⟨.len (.t 66), (some 67), none, []⟩ :: ⟨.mov (.t 8), (some 68), none, []⟩ :: L193_37
theorem v193_38 : wpS P L193_38 T L (rdy h) K = wpS P (⟨.len (.t 66), (some 67), none, []⟩ :: ⟨.mov (.t 8), (some 68), none, []⟩ :: L193_37) T L (rdy h) K := rfl
def L193_39 : List AStep := ⟨.faddr 0 (.t 3), (some 65), none, []⟩ :: ⟨.load 1 false (.t 65), (some 66), none, []⟩ :: L193_38
theorem v193_39 : wpS P L193_39 T L (rdy h) K = wpS P (⟨.faddr 0 (.t 3), (some 65), none, []⟩ :: ⟨.load 1 false (.t 65), (some 66), none, []⟩ :: L193_38) T L (rdy h) K := rfl
def L193_40 : List AStep := [⟨.mov (.t 77), (some 7), none, []⟩]
theorem v193_40 : wpS P L193_40 T L (rdy h) K = wpS P ([⟨.mov (.t 77), (some 7), none, []⟩]) T L (rdy h) K := rfl
def L193_41 : List AStep := ⟨.buildSlice 212 1 [(.int .i64 0), (.str (strOfNums []))] [(0, 2, (.t 75))], (some 76), none, []⟩ :: ⟨.append 212 2 24 (.t 74) (.t 76), (some 77), none, []⟩ :: L193_40
theorem v193_41 : wpS P L193_41 T L (rdy h) K = wpS P (⟨.buildSlice 212 1 [(.int .i64 0), (.str (strOfNums []))] [(0, 2, (.t 75))], (some 76), none, []⟩ :: ⟨.append 212 2 24 (.t 74) (.t 76), (some 77), none, []⟩ :: L193_40) T L (rdy h) K := rfl
def L193_42 : List AStep := ⟨.mov (.t 7), (some 74), none, []⟩ :: ⟨.build [(.int .i64 0), (.str (strOfNums []))] [(0, 1, (.c (.int .i64 0)))], (some 75), none, []⟩ :: L193_41
theorem v193_42 : wpS P L193_42 T L (rdy h) K = wpS P (⟨.mov (.t 7), (some 74), none, []⟩ :: ⟨.build [(.int .i64 0), (.str (strOfNums []))] [(0, 1, (.c (.int .i64 0)))], (some 75), none, []⟩ :: L193_41) T L (rdy h) K := rfl
def L193_43 : List AStep := [⟨.mov (.c (.int .i64 0)), (some 11), none, []⟩]
theorem v193_43 : wpS P L193_43 T L (rdy h) K = wpS P ([⟨.mov (.c (.int .i64 0)), (some 11), none, []⟩]) T L (rdy h) K := rfl
def L193_44 : List AStep := [⟨.bin .lss (.t 78) (.t 81), (some 82), none, []⟩]
theorem v193_44 : wpS P L193_44 T L (rdy h) K = wpS P ([⟨.bin .lss (.t 78) (.t 81), (some 82), none, []⟩]) T L (rdy h) K := rfl
def L193_45 : List AStep := ⟨.load 1 false (.t 79), (some 80), none, []⟩ :: ⟨.len (.t 80), (some 81), none, []⟩ :: L193_44
theorem v193_45 : wpS P L193_45 T L (rdy h) K = wpS P (⟨.load 1 false (.t 79), (some 80), none, []⟩ :: ⟨.len (.t 80), (some 81), none, []⟩ :: L193_44) T L (rdy h) K := rfl
def L193_46 : List AStep := ⟨.mov (.t 11), (some 78), none, []⟩ :: ⟨.faddr 1 (.t 3), (some 79), none, []⟩ :: L193_45
theorem v193_46 : wpS P L193_46 T L (rdy h) K = wpS P (⟨.mov (.t 11), (some 78), none, []⟩ :: ⟨.faddr 1 (.t 3), (some 79), none, []⟩ :: L193_45) T L (rdy h) K := rfl
def L193_47 : List AStep := [⟨.store 2 (.t 12) (.t 89), none, none, []⟩]
theorem v193_47 : wpS P L193_47 T L (rdy h) K = wpS P ([⟨.store 2 (.t 12) (.t 89), none, none, []⟩]) T L (rdy h) K := rfl
def L193_48 : List AStep := ⟨.load 2 true (.t 88), (some 89), none, []⟩ :: ⟨.alloc 86 [(.str (strOfNums [])), (.int .i64 0)], (some 12), none, []⟩ :: L193_47
theorem v193_48 : wpS P L193_48 T L (rdy h) K = wpS P (⟨.load 2 true (.t 88), (some 89), none, []⟩ :: ⟨.alloc 86 [(.str (strOfNums [])), (.int .i64 0)], (some 12), none, []⟩ :: L193_47) T L (rdy h) K := rfl
def L193_49 : List AStep := ⟨.mov (.t 11), (some 87), none, []⟩ :: ⟨.iaddr 2 (.t 86) (.t 87), (some 88), none, []⟩ :: L193_48
theorem v193_49 : wpS P L193_49 T L (rdy h) K = wpS P (⟨.mov (.t 11), (some 87), none, []⟩ :: ⟨.iaddr 2 (.t 86) (.t 87), (some 88), none, []⟩ :: L193_48) T L (rdy h) K := rfl
def L193_50 : List AStep := ⟨.faddr 1 (.t 3), (some 85), none, []⟩ :: ⟨.load 1 false (.t 85), (some 86), none, []⟩ :: L193_49
theorem v193_50 : wpS P L193_50 T L (rdy h) K = wpS P (⟨.faddr 1 (.t 3), (some 85), none, []⟩ :: ⟨.load 1 false (.t 85), (some 86), none, []⟩ :: L193_49) T L (rdy h) K := rfl
def L193_51 : List AStep := [⟨.mov (.t 93), (some 13), none, []⟩]
theorem v193_51 : wpS P L193_51 T L (rdy h) K = wpS P ([⟨.mov (.t 93), (some 13), none, []⟩]) T L (rdy h) K := rfl
def L193_52 : List AStep := ⟨.load 1 false (.t 91), (some 92), none, []⟩ :: ⟨.call 224 [(.t 90), (.t 92)], (some 93), none, []⟩ :: L193_51
theorem v193_52 : wpS P L193_52 T L (rdy h) K = wpS P (⟨.load 1 false (.t 91), (some 92), none, []⟩ :: ⟨.call 224 [(.t 90), (.t 92)], (some 93), none, []⟩ :: L193_51) T L (rdy h) K := rfl
def L193_53 : List AStep := ⟨.load 1 true (.t 2), (some 90), none, []⟩ :: ⟨.faddr 0 (.t 12), (some 91), none, []⟩ :: L193_52
theorem v193_53 : wpS P L193_53 T L (rdy h) K = wpS P (⟨.load 1 true (.t 2), (some 90), none, []⟩ :: ⟨.faddr 0 (.t 12), (some 91), none, []⟩ :: L193_52) T L (rdy h) K := rfl
def L193_54 : List AStep := [⟨.mov (.t 104), (some 102), none, []⟩]
theorem v193_54 : wpS P L193_54 T L (rdy h) K = wpS P ([⟨.mov (.t 104), (some 102), none, []⟩]) T L (rdy h) K := rfl
def L193_55 : List AStep := ⟨.mov (.t 13), (some 103), none, []⟩ :: ⟨.bin .lss (.t 103) (.c (.int .i64 0)), (some 104), none, []⟩ :: L193_54
theorem v193_55 : wpS P L193_55 T L (rdy h) K = wpS P (⟨.mov (.t 13), (some 103), none, []⟩ :: ⟨.bin .lss (.t 103) (.c (.int .i64 0)), (some 104), none, []⟩ :: L193_54) T L (rdy h) K := rfl
def L193_56 : List AStep := [⟨.mov (.t 110), (some 7), none, []⟩]
theorem v193_56 : wpS P L193_56 T L (rdy h) K = wpS P ([⟨.mov (.t 110), (some 7), none, []⟩]) T L (rdy h) K := rfl
def L193_57 : List AStep := ⟨.buildSlice 212 1 [(.int .i64 0), (.str (strOfNums []))] [(0, 2, (.t 108))], (some 109), none, []⟩ :: ⟨.append 212 2 24 (.t 105) (.t 109), (some 110), none, []⟩ :: L193_56
theorem v193_57 : wpS P L193_57 T L (rdy h) K = wpS P (⟨.buildSlice 212 1 [(.int .i64 0), (.str (strOfNums []))] [(0, 2, (.t 108))], (some 109), none, []⟩ :: ⟨.append 212 2 24 (.t 105) (.t 109), (some 110), none, []⟩ :: L193_56) T L (rdy h) K := rfl
def L193_58 : List AStep := ⟨.load 1 false (.t 106), (some 107), none, []⟩ :: ⟨.build [(.int .i64 0), (.str (strOfNums []))] [(0, 1, (.c (.int .i64 1))), (1, 1, (.t 107))], (some 108), none, []⟩ :: L193_57
theorem v193_58 : wpS P L193_58 T L (rdy h) K = wpS P (⟨.load 1 false (.t 106), (some 107), none, []⟩ :: ⟨.build [(.int .i64 0), (.str (strOfNums []))] [(0, 1, (.c (.int .i64 1))), (1, 1, (.t 107))], (some 108), none, []⟩ :: L193_57) T L (rdy h) K := rfl
def L193_59 : List AStep := ⟨.mov (.t 7), (some 105), none, []⟩ :: ⟨.faddr 0 (.t 12), (some 106), none, []⟩ :: L193_58
theorem v193_59 : wpS P L193_59 T L (rdy h) K = wpS P (⟨.mov (.t 7), (some 105), none, []⟩ :: ⟨.faddr 0 (.t 12), (some 106), none, []⟩ :: L193_58) T L (rdy h) K := rfl
def L193_60 : List AStep := [⟨.bin .eql (.t 117) (.c (.int .i64 4)), (some 118), none, []⟩, ⟨.mov (.t 118), (some 111), none, []⟩]
theorem v193_60 : wpS P L193_60 T L (rdy h) K = wpS P ([⟨.bin .eql (.t 117) (.c (.int .i64 4)), (some 118), none, []⟩, ⟨.mov (.t 118), (some 111), none, []⟩]) T L (rdy h) K := rfl
def L193_61 : List AStep := ⟨.faddr 1 (.t 115), (some 116), none, []⟩ :: ⟨.load 1 false (.t 116), (some 117), none, []⟩ :: L193_60
theorem v193_61 : wpS P L193_61 T L (rdy h) K = wpS P (⟨.faddr 1 (.t 115), (some 116), none, []⟩ :: ⟨.load 1 false (.t 116), (some 117), none, []⟩ :: L193_60) T L (rdy h) K := rfl
def L193_62 : List AStep := ⟨.mov (.t 13), (some 114), none, []⟩ :: ⟨.iaddr 4 (.t 113) (.t 114), (some 115), none, []⟩ :: L193_61
theorem v193_62 : wpS P L193_62 T L (rdy h) K = wpS P (⟨.mov (.t 13), (some 114), none, []⟩ :: ⟨.iaddr 4 (.t 113) (.t 114), (some 115), none, []⟩ :: L193_61) T L (rdy h) K := rfl
def L193_63 : List AStep := ⟨.faddr 0 (.t 2), (some 112), none, []⟩ :: ⟨.load 1 false (.t 112), (some 113), none, []⟩ :: L193_62
theorem v193_63 : wpS P L193_63 T L (rdy h) K = wpS P (⟨.faddr 0 (.t 2), (some 112), none, []⟩ :: ⟨.load 1 false (.t 112), (some 113), none, []⟩ :: L193_62) T L (rdy h) K := rfl
def L193_64 : List AStep := [⟨.store 1 (.t 132) (.t 130), none, none, []⟩]
theorem v193_64 : wpS P L193_64 T L (rdy h) K = wpS P ([⟨.store 1 (.t 132) (.t 130), none, none, []⟩]) T L (rdy h) K := rfl
def L193_65 : List AStep := ⟨.iaddr 3 (.t 120) (.t 121), (some 131), none, []⟩ :: ⟨.faddr 2 (.t 131), (some 132), none, []⟩ :: L193_64
theorem v193_65 : wpS P L193_65 T L (rdy h) K = wpS P (⟨.iaddr 3 (.t 120) (.t 121), (some 131), none, []⟩ :: ⟨.faddr 2 (.t 131), (some 132), none, []⟩ :: L193_64) T L (rdy h) K := rfl
def L193_66 : List AStep := ⟨.buildSlice 86 1 [(.str (strOfNums [])), (.int .i64 0)] [(0, 2, (.t 128))], (some 129), none, []⟩ :: ⟨.append 86 2 24 (.t 127) (.t 129), (some 130), none, [(.load 1 false (.t 119), (some 120), none)]⟩ :: L193_65
theorem v193_66 : wpS P L193_66 T L (rdy h) K = wpS P (⟨.buildSlice 86 1 [(.str (strOfNums [])), (.int .i64 0)] [(0, 2, (.t 128))], (some 129), none, []⟩ :: ⟨.append 86 2 24 (.t 127) (.t 129), (some 130), none, [(.load 1 false (.t 119), (some 120), none)]⟩ :: L193_65) T L (rdy h) K := rfl
def L193_67 : List AStep := ⟨.load 1 false (.t 126), (some 127), none, []⟩ :: ⟨.load 2 true (.t 12), (some 128), none, []⟩ :: L193_66
theorem v193_67 : wpS P L193_67 T L (rdy h) K = wpS P (⟨.load 1 false (.t 126), (some 127), none, []⟩ :: ⟨.load 2 true (.t 12), (some 128), none, []⟩ :: L193_66) T L (rdy h) K := rfl
def L193_68 : List AStep := ⟨.iaddr 3 (.t 123) (.t 124), (some 125), none, []⟩ :: ⟨.faddr 2 (.t 125), (some 126), none, []⟩ :: L193_67
theorem v193_68 : wpS P L193_68 T L (rdy h) K = wpS P (⟨.iaddr 3 (.t 123) (.t 124), (some 125), none, []⟩ :: ⟨.faddr 2 (.t 125), (some 126), none, []⟩ :: L193_67) T L (rdy h) K := rfl
def L193_69 : List AStep := ⟨.load 1 false (.t 122), (some 123), none, []⟩ :: ⟨.mov (.t 13), (some 124), none, []⟩ :: L193_68
theorem v193_69 : wpS P L193_69 T L (rdy h) K = wpS P (⟨.load 1 false (.t 122), (some 123), none, []⟩ :: ⟨.mov (.t 13), (some 124), none, []⟩ :: L193_68) T L (rdy h) K := rfl
def L193_70 : List AStep := ⟨.mov (.t 13), (some 121), none, []⟩ :: ⟨.faddr 0 (.t 6), (some 122), none, []⟩ :: L193_69
theorem v193_70 : wpS P L193_70 T L (rdy h) K = wpS P (⟨.mov (.t 13), (some 121), none, []⟩ :: ⟨.faddr 0 (.t 6), (some 122), none, []⟩ :: L193_69) T L (rdy h) K := rfl
def L193_71 : List AStep := ⟨.faddr 0 (.t 6), (some 119), none, []⟩ :: ⟨.load 1 false (.t 119), (some 120), none, []⟩ :: L193_70
theorem v193_71 : wpS P L193_71 T L (rdy h) K = wpS P (⟨.faddr 0 (.t 6), (some 119), none, []⟩ :: ⟨.load 1 false (.t 119), (some 120), none, []⟩ :: L193_70) T L (rdy h) K := rfl
def L193_72 : List AStep := [⟨.mov (.t 139), (some 133), none, []⟩]
theorem v193_72 : wpS P L193_72 T L (rdy h) K = wpS P ([⟨.mov (.t 139), (some 133), none, []⟩]) T L (rdy h) K := rfl
def L193_73 : List AStep := ⟨.faddr 0 (.t 137), (some 138), none, []⟩ :: ⟨.load 1 false (.t 138), (some 139), none, []⟩ :: L193_72
theorem v193_73 : wpS P L193_73 T L (rdy h) K = wpS P (⟨.faddr 0 (.t 137), (some 138), none, []⟩ :: ⟨.load 1 false (.t 138), (some 139), none, []⟩ :: L193_72) T L (rdy h) K := rfl
def L193_74 : List AStep := ⟨.mov (.t 13), (some 136), none, []⟩ :: ⟨.iaddr 3 (.t 135) (.t 136), (some 137), none, []⟩ :: L193_73
theorem v193_74 : wpS P L193_74 T L (rdy h) K = wpS P (⟨.mov (.t 13), (some 136), none, []⟩ :: ⟨.iaddr 3 (.t 135) (.t 136), (some 137), none, []⟩ :: L193_73) T L (rdy h) K := rfl
def L193_75 : List AStep := ⟨.faddr 0 (.t 6), (some 134), none, []⟩ :: ⟨.load 1 false (.t 134), (some 135), none, []⟩ :: L193_74
theorem v193_75 : wpS P L193_75 T L (rdy h) K = wpS P (⟨.faddr 0 (.t 6), (some 134), none, []⟩ :: ⟨.load 1 false (.t 134), (some 135), none, []⟩ :: L193_74) T L (rdy h) K := rfl
def L193_76 : List AStep := [⟨.mov (.t 145), (some 7), none, []⟩]
theorem v193_76 : wpS P L193_76 T L (rdy h) K = wpS P ([⟨.mov (.t 145), (some 7), none, []⟩]) T L (rdy h) K := rfl
def L193_77 : List AStep := ⟨.buildSlice 212 1 [(.int .i64 0), (.str (strOfNums []))] [(0, 2, (.t 143))], (some 144), none, []⟩ :: ⟨.append 212 2 24 (.t 140) (.t 144), (some 145), none, []⟩ :: L193_76
theorem v193_77 : wpS P L193_77 T L (rdy h) K = wpS P (⟨.buildSlice 212 1 [(.int .i64 0), (.str (strOfNums []))] [(0, 2, (.t 143))], (some 144), none, []⟩ :: ⟨.append 212 2 24 (.t 140) (.t 144), (some 145), none, []⟩ :: L193_76) T L (rdy h) K := rfl
def L193_78 : List AStep := ⟨.load 1 false (.t 141), (some 142), none, []⟩ :: ⟨.build [(.int .i64 0), (.str (strOfNums []))] [(0, 1, (.c (.int .i64 2))), (1, 1, (.t 142))], (some 143), none, []⟩ :: L193_77
theorem v193_78 : wpS P L193_78 T L (rdy h) K = wpS P (⟨.load 1 false (.t 141), (some 142), none, []⟩ :: ⟨.build [(.int .i64 0), (.str (strOfNums []))] [(0, 1, (.c (.int .i64 2))), (1, 1, (.t 142))], (some 143), none, []⟩ :: L193_77) T L (rdy h) K := rfl
def L193_79 : List AStep := ⟨.mov (.t 7), (some 140), none, []⟩ :: ⟨.faddr 0 (.t 12), (some 141), none, []⟩ :: L193_78
theorem v193_79 : wpS P L193_79 T L (rdy h) K = wpS P (⟨.mov (.t 7), (some 140), none, []⟩ :: ⟨.faddr 0 (.t 12), (some 141), none, []⟩ :: L193_78) T L (rdy h) K := rfl
def L193_80 : List AStep := [⟨.store 3 (.t 101) (.t 100), none, none, []⟩]
theorem v193_80 : wpS P L193_80 T L (rdy h) K = wpS P ([⟨.store 3 (.t 101) (.t 100), none, none, []⟩]) T L (rdy h) K := rfl
def L193_81 : List AStep := ⟨.build [(.bool false), (.sl none 0 (some 0)), (.sl none 0 (some 0))] [(0, 1, (.c (.bool true))), (1, 1, (.t 99))], (some 100), none, []⟩ :: ⟨.iaddr 3 (.t 95) (.t 96), (some 101), none, []⟩ :: L193_80
theorem v193_81 : wpS P L193_81 T L (rdy h) K = wpS P (⟨.build [(.bool false), (.sl none 0 (some 0)), (.sl none 0 (some 0))] [(0, 1, (.c (.bool true))), (1, 1, (.t 99))], (some 100), none, []⟩ :: ⟨.iaddr 3 (.t 95) (.t 96), (some 101), none, []⟩ :: L193_80) T L (rdy h) K := rfl
def L193_82 : List AStep := ⟨.load 1 false (.t 97), (some 98), none, []⟩ :: ⟨.buildSlice 3 1 [(.int .i64 0)] [(0, 1, (.t 98))], (some 99), none, []⟩ :: L193_81
theorem v193_82 : wpS P L193_82 T L (rdy h) K = wpS P (⟨.load 1 false (.t 97), (some 98), none, []⟩ :: ⟨.buildSlice 3 1 [(.int .i64 0)] [(0, 1, (.t 98))], (some 99), none, []⟩ :: L193_81) T L (rdy h) K := rfl
def L193_83 : List AStep := ⟨.mov (.t 13), (some 96), none, []⟩ :: ⟨.faddr 1 (.t 12), (some 97), none, []⟩ :: L193_82
theorem v193_83 : wpS P L193_83 T L (rdy h) K = wpS P (⟨.mov (.t 13), (some 96), none, []⟩ :: ⟨.faddr 1 (.t 12), (some 97), none, []⟩ :: L193_82) T L (rdy h) K := rfl
def L193_84 : List AStep := ⟨.faddr 0 (.t 6), (some 94), none, []⟩ :: ⟨.load 1 false (.t 94), (some 95), none, []⟩ :: L193_83
theorem v193_84 : wpS P L193_84 T L (rdy h) K = wpS P (⟨.faddr 0 (.t 6), (some 94), none, []⟩ :: ⟨.load 1 false (.t 94), (some 95), none, []⟩ :: L193_83) T L (rdy h) K := rfl
def L193_85 : List AStep := [⟨.mov (.t 84), (some 11), none, []⟩]
theorem v193_85 : wpS P L193_85 T L (rdy h) K = wpS P ([⟨.mov (.t 84), (some 11), none, []⟩]) T L (rdy h) K := rfl
def L193_86 : List AStep := ⟨.mov (.t 11), (some 83), none, []⟩ :: ⟨.bin .add (.t 83) (.c (.int .i64 1)), (some 84), none, []⟩ :: L193_85
theorem v193_86 : wpS P L193_86 T L (rdy h) K = wpS P (⟨.mov (.t 11), (some 83), none, []⟩ :: ⟨.bin .add (.t 83) (.c (.int .i64 1)), (some 84), none, []⟩ :: L193_85) T L (rdy h) K := rfl
def L193_87 : List AStep := [⟨.store 1 (.t 4) (.t 146), none, none, []⟩, ⟨.mov (.t 147), (some 5), none, []⟩]
theorem v193_87 : wpS P L193_87 T L (rdy h) K = wpS P ([⟨.store 1 (.t 4) (.t 146), none, none, []⟩, ⟨.mov (.t 147), (some 5), none, []⟩]) T L (rdy h) K := rfl
def L193_88 : List AStep := ⟨.load 1 true (.t 6), (some 146), none, []⟩ :: ⟨.mov (.t 7), (some 147), none, []⟩ :: L193_87
theorem v193_88 : wpS P L193_88 T L (rdy h) K = wpS P (⟨.load 1 true (.t 6), (some 146), none, []⟩ :: ⟨.mov (.t 7), (some 147), none, []⟩ :: L193_87) T L (rdy h) K := rfl
def C193_0 : ACode := .cond (.t 26) .skip (.exit 0)
theorem u193_0 : wpC P C193_0 T L (rdy h) Q = wpC P (.cond (.t 26) .skip (.exit 0)) T L (rdy h) Q := rfl
def C193_1 : ACode := .seq (.reg L193_12) C193_0
theorem u193_1 : wpC P C193_1 T L (rdy h) Q = wpC P (.seq (.reg L193_12) C193_0) T L (rdy h) Q := rfl
def C193_2 : ACode := .cond (.t 44) (.reg L193_32) .skip
theorem u193_2 : wpC P C193_2 T L (rdy h) Q = wpC P (.cond (.t 44) (.reg L193_32) .skip) T L (rdy h) Q := rfl
def C193_3 : ACode := .seq (.reg L193_22) C193_2
theorem u193_3 : wpC P C193_3 T L (rdy h) Q = wpC P (.seq (.reg L193_22) C193_2) T L (rdy h) Q := rfl
def C193_4 : ACode := .cond (.t 29) (.reg L193_20) C193_3
theorem u193_4 : wpC P C193_4 T L (rdy h) Q = wpC P (.cond (.t 29) (.reg L193_20) C193_3) T L (rdy h) Q := rfl
def C193_5 : ACode := .seq (.reg L193_14) C193_4
theorem u193_5 : wpC P C193_5 T L (rdy h) Q = wpC P (.seq (.reg L193_14) C193_4) T L (rdy h) Q := rfl
def C193_6 : ACode := .block 2 C193_5
theorem u193_6 : wpC P C193_6 T L (rdy h) Q = wpC P (.block 2 C193_5) T L (rdy h) Q := rfl
def C193_7 : ACode := .block 1 C193_6
theorem u193_7 : wpC P C193_7 T L (rdy h) Q = wpC P (.block 1 C193_6) T L (rdy h) Q := rfl
def C193_8 : ACode := .seq C193_7 (.reg L193_34)
theorem u193_8 : wpC P C193_8 T L (rdy h) Q = wpC P (.seq C193_7 (.reg L193_34)) T L (rdy h) Q := rfl
def C193_9 : ACode := .seq C193_1 C193_8
theorem u193_9 : wpC P C193_9 T L (rdy h) Q = wpC P (.seq C193_1 C193_8) T L (rdy h) Q := rfl
def C193_10 : ACode := .block 0 (.loop C193_9)
theorem u193_10 : wpC P C193_10 T L (rdy h) Q = wpC P (.block 0 (.loop C193_9)) T L (rdy h) Q := rfl
def C193_11 : ACode := .seq (.reg L193_9) C193_10
theorem u193_11 : wpC P C193_11 T L (rdy h) Q = wpC P (.seq (.reg L193_9) C193_10) T L (rdy h) Q := rfl
def C193_12 : ACode := .cond (.t 73) (.reg L193_42) .skip
theorem u193_12 : wpC P C193_12 T L (rdy h) Q = wpC P (.cond (.t 73) (.reg L193_42) .skip) T L (rdy h) Q := rfl
def C193_13 : ACode := .seq (.reg L193_39) C193_12
theorem u193_13 : wpC P C193_13 T L (rdy h) Q = wpC P (.seq (.reg L193_39) C193_12) T L (rdy h) Q := rfl
def C193_14 : ACode := .cond (.t 82) .skip (.exit 3)
theorem u193_14 : wpC P C193_14 T L (rdy h) Q = wpC P (.cond (.t 82) .skip (.exit 3)) T L (rdy h) Q := rfl
def C193_15 : ACode := .seq (.reg L193_46) C193_14
theorem u193_15 : wpC P C193_15 T L (rdy h) Q = wpC P (.seq (.reg L193_46) C193_14) T L (rdy h) Q := rfl
def C193_16 : ACode := .cond (.t 133) (.reg L193_79) (.reg L193_84)
theorem u193_16 : wpC P C193_16 T L (rdy h) Q = wpC P (.cond (.t 133) (.reg L193_79) (.reg L193_84)) T L (rdy h) Q := rfl
def C193_17 : ACode := .seq (.reg L193_75) C193_16
theorem u193_17 : wpC P C193_17 T L (rdy h) Q = wpC P (.seq (.reg L193_75) C193_16) T L (rdy h) Q := rfl
def C193_18 : ACode := .cond (.t 111) (.reg L193_71) C193_17
theorem u193_18 : wpC P C193_18 T L (rdy h) Q = wpC P (.cond (.t 111) (.reg L193_71) C193_17) T L (rdy h) Q := rfl
def C193_19 : ACode := .seq (.reg L193_63) C193_18
theorem u193_19 : wpC P C193_19 T L (rdy h) Q = wpC P (.seq (.reg L193_63) C193_18) T L (rdy h) Q := rfl
def C193_20 : ACode := .cond (.t 102) (.reg L193_59) C193_19
theorem u193_20 : wpC P C193_20 T L (rdy h) Q = wpC P (.cond (.t 102) (.reg L193_59) C193_19) T L (rdy h) Q := rfl
def C193_21 : ACode := .seq (.reg L193_55) C193_20
theorem u193_21 : wpC P C193_21 T L (rdy h) Q = wpC P (.seq (.reg L193_55) C193_20) T L (rdy h) Q := rfl
def C193_22 : ACode := .block 5 C193_21
theorem u193_22 : wpC P C193_22 T L (rdy h) Q = wpC P (.block 5 C193_21) T L (rdy h) Q := rfl
def C193_23 : ACode := .seq (.reg L193_53) C193_22
theorem u193_23 : wpC P C193_23 T L (rdy h) Q = wpC P (.seq (.reg L193_53) C193_22) T L (rdy h) Q := rfl
def C193_24 : ACode := .seq (.reg L193_50) C193_23
theorem u193_24 : wpC P C193_24 T L (rdy h) Q = wpC P (.seq (.reg L193_50) C193_23) T L (rdy h) Q := rfl
def C193_25 : ACode := .block 4 C193_24
theorem u193_25 : wpC P C193_25 T L (rdy h) Q = wpC P (.block 4 C193_24) T L (rdy h) Q := rfl
def C193_26 : ACode := .seq C193_25 (.reg L193_86)
theorem u193_26 : wpC P C193_26 T L (rdy h) Q = wpC P (.seq C193_25 (.reg L193_86)) T L (rdy h) Q := rfl
def C193_27 : ACode := .seq C193_15 C193_26
theorem u193_27 : wpC P C193_27 T L (rdy h) Q = wpC P (.seq C193_15 C193_26) T L (rdy h) Q := rfl
def C193_28 : ACode := .block 3 (.loop C193_27)
theorem u193_28 : wpC P C193_28 T L (rdy h) Q = wpC P (.block 3 (.loop C193_27)) T L (rdy h) Q := rfl
def C193_29 : ACode := .seq (.reg L193_43) C193_28
theorem u193_29 : wpC P C193_29 T L (rdy h) Q = wpC P (.seq (.reg L193_43) C193_28) T L (rdy h) Q := rfl
def C193_30 : ACode := .seq (.reg L193_88) .ret
theorem u193_30 : wpC P C193_30 T L (rdy h) Q = wpC P (.seq (.reg L193_88) .ret) T L (rdy h) Q := rfl
def C193_31 : ACode := .seq C193_29 C193_30
theorem u193_31 : wpC P C193_31 T L (rdy h) Q = wpC P (.seq C193_29 C193_30) T L (rdy h) Q := rfl
def C193_32 : ACode := .seq C193_13 C193_31
theorem u193_32 : wpC P C193_32 T L (rdy h) Q = wpC P (.seq C193_13 C193_31) T L (rdy h) Q := rfl
def C193_33 : ACode := .seq C193_11 C193_32
theorem u193_33 : wpC P C193_33 T L (rdy h) Q = wpC P (.seq C193_11 C193_32) T L (rdy h) Q := rfl
def C193_34 : ACode := .seq (.reg L193_8) C193_33
theorem u193_34 : wpC P C193_34 T L (rdy h) Q = wpC P (.seq (.reg L193_8) C193_33) T L (rdy h) Q := rfl
def C193_35 : ACode := .seq (.reg L193_6) C193_34
theorem u193_35 : wpC P C193_35 T L (rdy h) Q = wpC P (.seq (.reg L193_6) C193_34) T L (rdy h) Q := rfl
def C193_36 : ACode := .seq (.reg L193_4) C193_35
theorem u193_36 : wpC P C193_36 T L (rdy h) Q = wpC P (.seq (.reg L193_4) C193_35) T L (rdy h) Q := rfl
def C193_37 : ACode := .seq (.reg L193_3) C193_36
theorem u193_37 : wpC P C193_37 T L (rdy h) Q = wpC P (.seq (.reg L193_3) C193_36) T L (rdy h) Q := rfl
def C193_38 : ACode := .seq (.reg L193_1) C193_37
theorem u193_38 : wpC P C193_38 T L (rdy h) Q = wpC P (.seq (.reg L193_1) C193_37) T L (rdy h) Q := rfl
def F193 : AFunc := ⟨148, [.cell 4 1 true, .tmp 5], C193_38⟩
theorem cF193 : compB Try.prog 193 = some F193 := by kernel_rfl
end
attribute [local go_sem ↓] u193_0 u193_1 u193_2 u193_3 u193_4 u193_5 u193_6 u193_7 u193_8 u193_9 u193_10 u193_11 u193_12 u193_13 u193_14 u193_15 u193_16 u193_17 u193_18 u193_19 u193_20 u193_21 u193_22 u193_23 u193_24 u193_25 u193_26 u193_27 u193_28 u193_29 u193_30 u193_31 u193_32 u193_33 u193_34 u193_35 u193_36 u193_37 u193_38 v193_0 v193_1 v193_2 v193_3 v193_4 v193_5 v193_6 v193_7 v193_8 v193_9 v193_10 v193_11 v193_12 v193_13 v193_14 v193_15 v193_16 v193_17 v193_18 v193_19 v193_20 v193_21 v193_22 v193_23 v193_24 v193_25 v193_26 v193_27 v193_28 v193_29 v193_30 v193_31 v193_32 v193_33 v193_34 v193_35 v193_36 v193_37 v193_38 v193_39 v193_40 v193_41 v193_42 v193_43 v193_44 v193_45 v193_46 v193_47 v193_48 v193_49 v193_50 v193_51 v193_52 v193_53 v193_54 v193_55 v193_56 v193_57 v193_58 v193_59 v193_60 v193_61 v193_62 v193_63 v193_64 v193_65 v193_66 v193_67 v193_68 v193_69 v193_70 v193_71 v193_72 v193_73 v193_74 v193_75 v193_76 v193_77 v193_78 v193_79 v193_80 v193_81 v193_82 v193_83 v193_84 v193_85 v193_86 v193_87 v193_88
theorem c_bound (l : List Param) (f : Flat) (q p n : CV) (h : H) (hl : SlQ h (.one q) l) (hf : SlF h p n f) (ok1 : okSig l = true) (ok2 : okFlat f = true) :
    callK (bm Try.prog 193 [.agg [q], .agg [p, n]] h) fun r h' => Grow h h' ∧ ∃ v w rs, r = .tup [.agg [v], .one w] ∧ BdY h h' v w rs (boundS l f) (boundB l f) := by
  refine bm_of cF193 ?_
  have o := Ord.of ok1
  have hn := okSig_len ok1
  obtain ⟨hb1, hb2, hb3⟩ := okFlat_sm ok2
  have sq : smQ l := ⟨by unfold big; omega, fun x hx => by have := okSig_name ok1 x hx; unfold big; omega⟩
  have pl0 := places_le (l := l)
  simp +contextual (maxSteps := 2000000) only [go_sem, Nat.reduceEqDiff, reduceCtorEq, Nat.reduceAdd, Nat.reduceLeDiff, F193]
  refine wp_call (c_emptyBinding l q h hl sq.1) ?_
  rintro r h1 ⟨g1, v, rfl, x0⟩
  have k1 := hl.grow g1
  simp +contextual (maxSteps := 2000000) only [go_sem, Nat.reduceEqDiff, reduceCtorEq, Nat.reduceAdd, Nat.reduceLeDiff]
  refine wp_lit (enc := encB) (k := 2) (l := []) rfl rfl ?_
  intro h2 w g2 n2 _
  obtain ⟨w, rfl⟩ := n2.one
  have k2 := k1.grow g2
  simp +contextual (maxSteps := 2000000) only [go_sem, Nat.reduceEqDiff, reduceCtorEq, Nat.reduceAdd, Nat.reduceLeDiff, c_placeCount _ _ _ k2 sq, c_kindAt _ _ _ _ k2 sq]
  have ep : (l.countP byPlace : Nat) = places l := rfl
  rw [ep]
  have z0 : BdY h h2 v w (List.replicate l.length zeroR) (bindPl l (f.pl.take 0)) [] := by
    rw [List.take_zero, bindPl_nil]
    exact ⟨x0.grow g2, n2.from g1.n, fun i hi hj => by have := (n2.lt hi).2; have := (x0.out.out.lt hj).1; omega, fun i hi => by rw [List.getElem_replicate]; exact Sep.nil.symm, fun i hi => by rw [List.getElem_replicate]; exact Sep.nil.symm⟩
  refine wpC_loop (fun i T L h' => Grow h h' ∧ T 2 = .lp 2 0 ∧ (L 2).2 = [q] ∧ T 3 = .lp 3 0 ∧ (L 3).2 = [p, n] ∧ T 4 = .lp 4 0 ∧ (L 4).2 = [.sl none 0 (some 0)] ∧ T 6 = .lp 6 0 ∧ (L 6).2 = [v] ∧ T 7 = .v (.one w) ∧ T 8 = .v (.one (.int .i64 (places l : Nat))) ∧ T 9 = .v (.one (.int .i64 (kindAt l 2))) ∧ T 10 = .v (.one (.int .i64 i)) ∧ ∃ rs, BdY h h' v w rs (bindPl l (f.pl.take i)) []) f.pl.length ?_ ?_ (Nat.zero_le _) ?_
  · rintro i T L h' hi ⟨gg, t2, l2, t3, l3, t4, l4, t6, l6, t7, t8, t9, t10, rs, x⟩
    have k := hf.grow gg
    have hrs : rs.length = l.length := x.len.trans bindPl_len
    by_cases hp : i < places l
    · have hio : i < rs.length := by omega
      have yi := x.sl.out.out.iaddr hio (kd := .i64)
      simp +contextual (maxSteps := 2000000) only [go_sem, Nat.reduceEqDiff, reduceCtorEq, Nat.reduceAdd, Nat.reduceLeDiff, t2, l2, t3, l3, t4, l4, t6, l6, t7, t8, t9, t10, k.pl.len, k.pl.iaddr hi, k.pl.oneO hi, lt_true hi, lt_true hp, yi]
      refine wp_lit (enc := encI) (k := 1) (l := [f.pl[i]]) rfl rfl ?_
      intro h3 w3 g3 n3 b3
      obtain ⟨d, rfl⟩ := n3.one
      simp +contextual (maxSteps := 2000000) only [go_sem, Nat.reduceEqDiff, reduceCtorEq, Nat.reduceAdd, Nat.reduceLeDiff, t2, l2, t3, l3, t4, l4, t6, l6, t7, t8, t9, t10, yi]
      refine wp_setE (x := ⟨true, d, .sl none 0 (some 0)⟩) lenY (x.sl.out.out.grow g3) hio rfl rfl (gg.trans g3) ?_
      intro h4 g4 n4 s4
      simp +contextual (maxSteps := 2000000) only [go_sem, Nat.reduceEqDiff, reduceCtorEq, Nat.reduceAdd, Nat.reduceLeDiff, t2, l2, t3, l3, t4, l4, t6, l6, t7, t8, t9, t10]
      rw [bindPl_place o hp hi]
      exact ⟨g4, by rw [wrap_next hi (by omega)], _, x.put hio g3 ⟨rfl, n3, .nil⟩ Sep.nil.symm n4 s4 gg.n⟩
    · have d1 : decide ((i : Int) < (places l : Nat)) = false := decide_eq_false (by omega)
      cases hr : hasRest l with
      | false =>
        have d2 : decide (kindAt l 2 ≥ 0) = false := hr
        simp +contextual (maxSteps := 2000000) only [go_sem, Nat.reduceEqDiff, reduceCtorEq, Nat.reduceAdd, Nat.reduceLeDiff, t2, l2, t3, l3, t4, l4, t6, l6, t7, t8, t9, t10, k.pl.len, lt_true hi, d1, d2]
        rw [bindPl_over o hp hi hr]
        exact ⟨gg, by rw [wrap_next hi (by omega)], _, x⟩
      | true =>
        obtain ⟨r0, r1, r2⟩ := o.rest_at hr
        have hio : places l < rs.length := by omega
        have hpb : places l < (bindPl l (f.pl.take i)).length := by rw [bindPl_len]; exact r0
        have yi := x.sl.out.out.iaddr hio (kd := .i64)
        have y1 := (x.sl.out.out.sl lenY).fieldO (off := 1) hio (by omega)
        rw [encY_1] at y1
        have d2 : decide (((places l : Nat) : Int) ≥ 0) = true := decide_eq_true (by omega)
        rw [r2] at t9
        have hlen : (bindPl l (f.pl.take i))[places l].list.length ≤ i := by rw [bindPl_at, slotPl_rest r0 r1]; simp; omega
        simp +contextual (maxSteps := 2000000) only [go_sem, Nat.reduceEqDiff, reduceCtorEq, Nat.reduceAdd, Nat.reduceLeDiff, t2, l2, t3, l3, t4, l4, t6, l6, t7, t8, t9, t10, k.pl.len, k.pl.iaddr hi, k.pl.oneO hi, lt_true hi, d1, d2, yi, y1]
        refine wp_lit (enc := encI) (k := 1) (l := [f.pl[i]]) rfl rfl ?_
        intro h3 w3 g3 n3 b3
        simp +contextual (maxSteps := 2000000) only [go_sem, Nat.reduceEqDiff, reduceCtorEq, Nat.reduceAdd, Nat.reduceLeDiff, t2, l2, t3, l3, t4, l4, t6, l6, t7, t8, t9, t10]
        refine wp_append lenI ((x.sl.at hio hpb).list.grow g3) (n3.sl lenI) (gg.trans g3) (by simp; omega) ?_
        intro h4 s4 g4 n4 st4 hb4
        obtain ⟨c4, rfl⟩ := n4.one
        simp +contextual (maxSteps := 2000000) only [go_sem, Nat.reduceEqDiff, reduceCtorEq, Nat.reduceAdd, Nat.reduceLeDiff, t2, l2, t3, l3, t4, l4, t6, l6, t7, t8, t9, t10, yi]
        refine wp_set (x := { rs[places l] with lv := c4 }) (off := 1) (vs := [c4]) lenY ((x.sl.out.out.grow g3).stay st4 (x.sl.out.vlv _ hio)) hio rfl rfl (Nat.le_of_ble_eq_true rfl) g4 ?_
        intro h5 g5 n5 s5
        simp +contextual (maxSteps := 2000000) only [go_sem, Nat.reduceEqDiff, reduceCtorEq, Nat.reduceAdd, Nat.reduceLeDiff, t2, l2, t3, l3, t4, l4, t6, l6, t7, t8, t9, t10]
        rw [bindPl_rest o hp hi hr hpb]
        exact ⟨g5, by rw [r2], by rw [wrap_next hi (by omega)], _, (x.grow g3).app_list hio hpb n4 st4 hb4 n5 s5⟩
  · rintro T L h' ⟨gg, t2, l2, t3, l3, t4, l4, t6, l6, t7, t8, t9, t10, rs, x⟩
    have k := hf.grow gg
    rw [List.take_length] at x
    by_cases hm : places l < f.pl.length
    · have d1 : decide ((f.pl.length : Int) > (places l : Nat)) = true := decide_eq_true (by omega)
      cases hr : hasRest l with
      | true =>
        obtain ⟨r0, r1, r2⟩ := o.rest_at hr
        have d2 : decide (kindAt l 2 < 0) = false := decide_eq_false (by omega)
        have em : manyB l f.pl = [] := by unfold manyB; rw [if_neg (by simp [hr])]
        rw [← em] at x
        simp +contextual (maxSteps := 2000000) only [go_sem, Nat.reduceEqDiff, reduceCtorEq, Nat.reduceAdd, Nat.reduceLeDiff, t2, l2, t3, l3, t4, l4, t6, l6, t7, t8, t9, t10, k.pl.len, lt_false, d1, d2]
        refine wpC_loop (fun i T L h' => Grow h h' ∧ T 2 = .lp 2 0 ∧ (L 2).2 = [q] ∧ T 3 = .lp 3 0 ∧ (L 3).2 = [p, n] ∧ T 4 = .lp 4 0 ∧ (L 4).2 = [.sl none 0 (some 0)] ∧ T 6 = .lp 6 0 ∧ (L 6).2 = [v] ∧ (∃ w rs, T 7 = .v (.one w) ∧ BdY h h' v w rs (nameF l f i).slots (nameF l f i).bad) ∧ T 11 = .v (.one (.int .i64 i))) f.nl.length ?_ ?_ (Nat.zero_le _) ?_
        · rintro i T L h' hi ⟨gg, t2, l2, t3, l3, t4, l4, t6, l6, ⟨w, rs, t7, x⟩, tx⟩
          have k := hf.grow gg
          have kl := hl.grow gg
          have ok := BOk.nameF (l := l) (f := f) hb3 (i := i) (by omega)
          have hrs : rs.length = l.length := x.len.trans ok.len
          have tk := c_takesName l q f.nl[i].name h' kl sq
          rw [nameF_next hi]
          rcases takes_cases l f.nl[i].name with e | ⟨j, hj, e⟩
          · rw [nameStep_no e]
            rw [e] at tk
            simp +contextual (maxSteps := 2000000) only [go_sem, Nat.reduceEqDiff, reduceCtorEq, Nat.reduceAdd, Nat.reduceLeDiff, t2, l2, t3, l3, t4, l4, t6, l6, t7, tx, k.nl.len, k.nl.iaddr hi, k.nl.whole hi, encP, lt_true hi, tk]
            refine wp_lit (enc := encB) (k := 2) (l := [⟨1, f.nl[i].name⟩]) rfl rfl ?_
            intro h3 w3 g3 n3 _
            simp +contextual (maxSteps := 2000000) only [go_sem, Nat.reduceEqDiff, reduceCtorEq, Nat.reduceAdd, Nat.reduceLeDiff, t2, l2, t3, l3, t4, l4, t6, l6, t7, tx]
            refine wp_append lenB (x.pr.grow g3) (n3.sl lenB) (gg.trans g3) (by have := ok.bad; simp; omega) ?_
            intro h4 s4 g4 n4 st4 hb4
            obtain ⟨c4, rfl⟩ := n4.one
            simp +contextual (maxSteps := 2000000) only [go_sem, Nat.reduceEqDiff, reduceCtorEq, Nat.reduceAdd, Nat.reduceLeDiff, t2, l2, t3, l3, t4, l4, t6, l6, t7, tx]
            exact ⟨g4, ⟨c4, rs, rfl, (x.grow g3).push n4 st4 hb4⟩, by rw [wrap_next hi (by omega)]⟩
          · rw [e] at tk
            have hs : j < (nameF l f i).slots.length := by rw [ok.len]; exact hj
            have hio : j < rs.length := by omega
            have z := x.sl.at hio hs
            have yi := x.sl.out.out.iaddr hio (kd := .i64)
            have y0 := (x.sl.out.out.sl lenY).fieldO (off := 0) hio (by omega)
            have y2 := (x.sl.out.out.sl lenY).fieldO (off := 2) hio (by omega)
            rw [encY_0] at y0
            rw [encY_2] at y2
            have dj : decide ((j : Int) < 0) = false := decide_eq_false (by omega)
            by_cases kk : l[j].kind = 4
            · rw [nameStep_map e hj hs kk]
              have dk : decide (l[j].kind = 4) = true := decide_eq_true kk
              simp +contextual (maxSteps := 2000000) only [go_sem, Nat.reduceEqDiff, reduceCtorEq, Nat.reduceAdd, Nat.reduceLeDiff, t2, l2, t3, l3, t4, l4, t6, l6, t7, tx, k.nl.len, k.nl.iaddr hi, k.nl.whole hi, encP, lt_true hi, tk, dj, kl.iaddr hj, kl.fieldO hj, dk, yi, y2]
              refine wp_lit (enc := encP) (k := 2) (l := [f.nl[i]]) rfl rfl ?_
              intro h3 w3 g3 n3 _
              simp +contextual (maxSteps := 2000000) only [go_sem, Nat.reduceEqDiff, reduceCtorEq, Nat.reduceAdd, Nat.reduceLeDiff, t2, l2, t3, l3, t4, l4, t6, l6, t7, tx]
              refine wp_append lenP (z.pairs.grow g3) (n3.sl lenP) (gg.trans g3) (by have := ok.pairs _ (List.getElem_mem hs); simp; omega) ?_
              intro h4 s4 g4 n4 st4 hb4
              obtain ⟨c4, rfl⟩ := n4.one
              simp +contextual (maxSteps := 2000000) only [go_sem, Nat.reduceEqDiff, reduceCtorEq, Nat.reduceAdd, Nat.reduceLeDiff, t2, l2, t3, l3, t4, l4, t6, l6, t7, tx, yi]
              refine wp_set (x := { rs[j] with pv := c4 }) (off := 2) (vs := [c4]) lenY ((x.sl.out.out.grow g3).stay st4 (x.sl.out.vpv _ hio)) hio rfl rfl (Nat.le_of_ble_eq_true rfl) g4 ?_
              intro h5 g5 n5 s5
              simp +contextual (maxSteps := 2000000) only [go_sem, Nat.reduceEqDiff, reduceCtorEq, Nat.reduceAdd, Nat.reduceLeDiff, t2, l2, t3, l3, t4, l4, t6, l6, t7, tx]
              exact ⟨g5, ⟨w, _, rfl, (x.grow g3).app_pairs hio hs n4 st4 hb4 n5 s5⟩, by rw [wrap_next hi (by omega)]⟩
            · have dk : decide (l[j].kind = 4) = false := decide_eq_false kk
              cases b : (nameF l f i).slots[j].given with
              | true =>
                rw [nameStep_twice e hj hs kk b]
                rw [z.given, b] at y0
                simp +contextual (maxSteps := 2000000) only [go_sem, Nat.reduceEqDiff, reduceCtorEq, Nat.reduceAdd, Nat.reduceLeDiff, t2, l2, t3, l3, t4, l4, t6, l6, t7, tx, k.nl.len, k.nl.iaddr hi, k.nl.whole hi, encP, lt_true hi, tk, dj, kl.iaddr hj, kl.fieldO hj, dk, yi, y0]
                refine wp_lit (enc := encB) (k := 2) (l := [⟨2, f.nl[i].name⟩]) rfl rfl ?_
                intro h3 w3 g3 n3 _
                simp +contextual (maxSteps := 2000000) only [go_sem, Nat.reduceEqDiff, reduceCtorEq, Nat.reduceAdd, Nat.reduceLeDiff, t2, l2, t3, l3, t4, l4, t6, l6, t7, tx]
                refine wp_append lenB (x.pr.grow g3) (n3.sl lenB) (gg.trans g3) (by have := ok.bad; simp; omega) ?_
                intro h4 s4 g4 n4 st4 hb4
                obtain ⟨c4, rfl⟩ := n4.one
                simp +contextual (maxSteps := 2000000) only [go_sem, Nat.reduceEqDiff, reduceCtorEq, Nat.reduceAdd, Nat.reduceLeDiff, t2, l2, t3, l3, t4, l4, t6, l6, t7, tx]
                exact ⟨g4, ⟨c4, rs, rfl, (x.grow g3).push n4 st4 hb4⟩, by rw [wrap_next hi (by omega)]⟩
              | false =>
                rw [nameStep_give e hj hs kk b]
                rw [z.given, b] at y0
                simp +contextual (maxSteps := 2000000) only [go_sem, Nat.reduceEqDiff, reduceCtorEq, Nat.reduceAdd, Nat.reduceLeDiff, t2, l2, t3, l3, t4, l4, t6, l6, t7, tx, k.nl.len, k.nl.iaddr hi, k.nl.whole hi, encP, lt_true hi, tk, dj, kl.iaddr hj, kl.fieldO hj, dk, yi, y0]
                refine wp_lit (enc := encI) (k := 1) (l := [f.nl[i].value]) rfl rfl ?_
                intro h3 w3 g3 n3 b3
                obtain ⟨d, rfl⟩ := n3.one
                simp +contextual (maxSteps := 2000000) only [go_sem, Nat.reduceEqDiff, reduceCtorEq, Nat.reduceAdd, Nat.reduceLeDiff, t2, l2, t3, l3, t4, l4, t6, l6, t7, tx, yi]
                refine wp_setE (x := ⟨true, d, .sl none 0 (some 0)⟩) lenY (x.sl.out.out.grow g3) hio rfl rfl (gg.trans g3) ?_
                intro h4 g4 n4 s4
                simp +contextual (maxSteps := 2000000) only [go_sem, Nat.reduceEqDiff, reduceCtorEq, Nat.reduceAdd, Nat.reduceLeDiff, t2, l2, t3, l3, t4, l4, t6, l6, t7, tx]
                exact ⟨g4, ⟨w, _, rfl, x.put hio g3 ⟨rfl, n3, .nil⟩ Sep.nil.symm n4 s4 gg.n⟩, by rw [wrap_next hi (by omega)]⟩
        · rintro T L h' ⟨gg, t2, l2, t3, l3, t4, l4, t6, l6, ⟨w, rs, t7, x⟩, tx⟩
          have k := hf.grow gg
          simp +contextual (maxSteps := 2000000) only [go_sem, Nat.reduceEqDiff, reduceCtorEq, Nat.reduceAdd, Nat.reduceLeDiff, t2, l2, t3, l3, t4, l4, t6, l6, t7, tx, k.nl.len, lt_false]
          exact gcK_of ⟨gg, _, _, _, rfl, x⟩ (fun hs _ => by
            simp only [AV.scalar, AV.scalars, List.all_cons, List.all_nil, Bool.and_true, Bool.and_eq_true] at hs
            exact ⟨Grow.refl h, _, _, _, rfl, x.scalar hs.1 hs.2 h⟩)
        · simp +contextual (maxSteps := 2000000) only [go_sem, Nat.reduceEqDiff, reduceCtorEq, Nat.reduceAdd, Nat.reduceLeDiff, t2, l2, t3, l3, t4, l4, t6, l6, t7]
          rw [nameF_zero]
          exact ⟨gg, ⟨w, rs, rfl, x⟩, rfl⟩
      | false =>
        have d2 : decide (kindAt l 2 < 0) = true := by
          unfold hasRest at hr
          have := of_decide_eq_false hr
          exact decide_eq_true (by omega)
        have em : manyB l f.pl = [⟨0, strOfNums []⟩] := by unfold manyB; rw [if_pos ⟨hm, hr⟩]
        simp +contextual (maxSteps := 2000000) only [go_sem, Nat.reduceEqDiff, reduceCtorEq, Nat.reduceAdd, Nat.reduceLeDiff, t2, l2, t3, l3, t4, l4, t6, l6, t7, t8, t9, t10, k.pl.len, lt_false, d1, d2]
        refine wp_lit (enc := encB) (k := 2) (l := [⟨0, strOfNums []⟩]) rfl rfl ?_
        intro h3 w3 g3 n3 _
        simp +contextual (maxSteps := 2000000) only [go_sem, Nat.reduceEqDiff, reduceCtorEq, Nat.reduceAdd, Nat.reduceLeDiff, t2, l2, t3, l3, t4, l4, t6, l6, t7, t8, t9, t10]
        refine wp_append lenB (x.pr.grow g3) (n3.sl lenB) (gg.trans g3) (by simp) ?_
        intro h4 s4 g4 n4 st4 hb4
        obtain ⟨c4, rfl⟩ := n4.one
        have x := (x.grow g3).push n4 st4 hb4
        rw [List.nil_append, ← em] at x
        simp +contextual (maxSteps := 2000000) only [go_sem, Nat.reduceEqDiff, reduceCtorEq, Nat.reduceAdd, Nat.reduceLeDiff, t2, l2, t3, l3, t4, l4, t6, l6, t7, t8, t9, t10]
        refine wpC_loop (fun i T L h' => Grow h h' ∧ T 2 = .lp 2 0 ∧ (L 2).2 = [q] ∧ T 3 = .lp 3 0 ∧ (L 3).2 = [p, n] ∧ T 4 = .lp 4 0 ∧ (L 4).2 = [.sl none 0 (some 0)] ∧ T 6 = .lp 6 0 ∧ (L 6).2 = [v] ∧ (∃ w rs, T 7 = .v (.one w) ∧ BdY h h' v w rs (nameF l f i).slots (nameF l f i).bad) ∧ T 11 = .v (.one (.int .i64 i))) f.nl.length ?_ ?_ (Nat.zero_le _) ?_
        · rintro i T L h' hi ⟨gg, t2, l2, t3, l3, t4, l4, t6, l6, ⟨w, rs, t7, x⟩, tx⟩
          have k := hf.grow gg
          have kl := hl.grow gg
          have ok := BOk.nameF (l := l) (f := f) hb3 (i := i) (by omega)
          have hrs : rs.length = l.length := x.len.trans ok.len
          have tk := c_takesName l q f.nl[i].name h' kl sq
          rw [nameF_next hi]
          rcases takes_cases l f.nl[i].name with e | ⟨j, hj, e⟩
          · rw [nameStep_no e]
            rw [e] at tk
            simp +contextual (maxSteps := 2000000) only [go_sem, Nat.reduceEqDiff, reduceCtorEq, Nat.reduceAdd, Nat.reduceLeDiff, t2, l2, t3, l3, t4, l4, t6, l6, t7, tx, k.nl.len, k.nl.iaddr hi, k.nl.whole hi, encP, lt_true hi, tk]
            refine wp_lit (enc := encB) (k := 2) (l := [⟨1, f.nl[i].name⟩]) rfl rfl ?_
            intro h3 w3 g3 n3 _
            simp +contextual (maxSteps := 2000000) only [go_sem, Nat.reduceEqDiff, reduceCtorEq, Nat.reduceAdd, Nat.reduceLeDiff, t2, l2, t3, l3, t4, l4, t6, l6, t7, tx]
            refine wp_append lenB (x.pr.grow g3) (n3.sl lenB) (gg.trans g3) (by have := ok.bad; simp; omega) ?_
            intro h4 s4 g4 n4 st4 hb4
            obtain ⟨c4, rfl⟩ := n4.one
            simp +contextual (maxSteps := 2000000) only [go_sem, Nat.reduceEqDiff, reduceCtorEq, Nat.reduceAdd, Nat.reduceLeDiff, t2, l2, t3, l3, t4, l4, t6, l6, t7, tx]
            exact ⟨g4, ⟨c4, rs, rfl, (x.grow g3).push n4 st4 hb4⟩, by rw [wrap_next hi (by omega)]⟩
          · rw [e] at tk
            have hs : j < (nameF l f i).slots.length := by rw [ok.len]; exact hj
            have hio : j < rs.length := by omega
            have z := x.sl.at hio hs
            have yi := x.sl.out.out.iaddr hio (kd := .i64)
            have y0 := (x.sl.out.out.sl lenY).fieldO (off := 0) hio (by omega)
            have y2 := (x.sl.out.out.sl lenY).fieldO (off := 2) hio (by omega)
            rw [encY_0] at y0
            rw [encY_2] at y2
            have dj : decide ((j : Int) < 0) = false := decide_eq_false (by omega)
            by_cases kk : l[j].kind = 4
            · rw [nameStep_map e hj hs kk]
              have dk : decide (l[j].kind = 4) = true := decide_eq_true kk
              simp +contextual (maxSteps := 2000000) only [go_sem, Nat.reduceEqDiff, reduceCtorEq, Nat.reduceAdd, Nat.reduceLeDiff, t2, l2, t3, l3, t4, l4, t6, l6, t7, tx, k.nl.len, k.nl.iaddr hi, k.nl.whole hi, encP, lt_true hi, tk, dj, kl.iaddr hj, kl.fieldO hj, dk, yi, y2]
              refine wp_lit (enc := encP) (k := 2) (l := [f.nl[i]]) rfl rfl ?_
              intro h3 w3 g3 n3 _
              simp +contextual (maxSteps := 2000000) only [go_sem, Nat.reduceEqDiff, reduceCtorEq, Nat.reduceAdd, Nat.reduceLeDiff, t2, l2, t3, l3, t4, l4, t6, l6, t7, tx]
              refine wp_append lenP (z.pairs.grow g3) (n3.sl lenP) (gg.trans g3) (by have := ok.pairs _ (List.getElem_mem hs); simp; omega) ?_
              intro h4 s4 g4 n4 st4 hb4
              obtain ⟨c4, rfl⟩ := n4.one
              simp +contextual (maxSteps := 2000000) only [go_sem, Nat.reduceEqDiff, reduceCtorEq, Nat.reduceAdd, Nat.reduceLeDiff, t2, l2, t3, l3, t4, l4, t6, l6, t7, tx, yi]
              refine wp_set (x := { rs[j] with pv := c4 }) (off := 2) (vs := [c4]) lenY ((x.sl.out.out.grow g3).stay st4 (x.sl.out.vpv _ hio)) hio rfl rfl (Nat.le_of_ble_eq_true rfl) g4 ?_
              intro h5 g5 n5 s5
              simp +contextual (maxSteps := 2000000) only [go_sem, Nat.reduceEqDiff, reduceCtorEq, Nat.reduceAdd, Nat.reduceLeDiff, t2, l2, t3, l3, t4, l4, t6, l6, t7, tx]
              exact ⟨g5, ⟨w, _, rfl, (x.grow g3).app_pairs hio hs n4 st4 hb4 n5 s5⟩, by rw [wrap_next hi (by omega)]⟩
            · have dk : decide (l[j].kind = 4) = false := decide_eq_false kk
              cases b : (nameF l f i).slots[j].given with
              | true =>
                rw [nameStep_twice e hj hs kk b]
                rw [z.given, b] at y0
                simp +contextual (maxSteps := 2000000) only [go_sem, Nat.reduceEqDiff, reduceCtorEq, Nat.reduceAdd, Nat.reduceLeDiff, t2, l2, t3, l3, t4, l4, t6, l6, t7, tx, k.nl.len, k.nl.iaddr hi, k.nl.whole hi, encP, lt_true hi, tk, dj, kl.iaddr hj, kl.fieldO hj, dk, yi, y0]
                refine wp_lit (enc := encB) (k := 2) (l := [⟨2, f.nl[i].name⟩]) rfl rfl ?_
                intro h3 w3 g3 n3 _
                simp +contextual (maxSteps := 2000000) only [go_sem, Nat.reduceEqDiff, reduceCtorEq, Nat.reduceAdd, Nat.reduceLeDiff, t2, l2, t3, l3, t4, l4, t6, l6, t7, tx]
                refine wp_append lenB (x.pr.grow g3) (n3.sl lenB) (gg.trans g3) (by have := ok.bad; simp; omega) ?_
                intro h4 s4 g4 n4 st4 hb4
                obtain ⟨c4, rfl⟩ := n4.one
                simp +contextual (maxSteps := 2000000) only [go_sem, Nat.reduceEqDiff, reduceCtorEq, Nat.reduceAdd, Nat.reduceLeDiff, t2, l2, t3, l3, t4, l4, t6, l6, t7, tx]
                exact ⟨g4, ⟨c4, rs, rfl, (x.grow g3).push n4 st4 hb4⟩, by rw [wrap_next hi (by omega)]⟩
              | false =>
                rw [nameStep_give e hj hs kk b]
                rw [z.given, b] at y0
                simp +contextual (maxSteps := 2000000) only [go_sem, Nat.reduceEqDiff, reduceCtorEq, Nat.reduceAdd, Nat.reduceLeDiff, t2, l2, t3, l3, t4, l4, t6, l6, t7, tx, k.nl.len, k.nl.iaddr hi, k.nl.whole hi, encP, lt_true hi, tk, dj, kl.iaddr hj, kl.fieldO hj, dk, yi, y0]
                refine wp_lit (enc := encI) (k := 1) (l := [f.nl[i].value]) rfl rfl ?_
                intro h3 w3 g3 n3 b3
                obtain ⟨d, rfl⟩ := n3.one
                simp +contextual (maxSteps := 2000000) only [go_sem, Nat.reduceEqDiff, reduceCtorEq, Nat.reduceAdd, Nat.reduceLeDiff, t2, l2, t3, l3, t4, l4, t6, l6, t7, tx, yi]
                refine wp_setE (x := ⟨true, d, .sl none 0 (some 0)⟩) lenY (x.sl.out.out.grow g3) hio rfl rfl (gg.trans g3) ?_
                intro h4 g4 n4 s4
                simp +contextual (maxSteps := 2000000) only [go_sem, Nat.reduceEqDiff, reduceCtorEq, Nat.reduceAdd, Nat.reduceLeDiff, t2, l2, t3, l3, t4, l4, t6, l6, t7, tx]
                exact ⟨g4, ⟨w, _, rfl, x.put hio g3 ⟨rfl, n3, .nil⟩ Sep.nil.symm n4 s4 gg.n⟩, by rw [wrap_next hi (by omega)]⟩
        · rintro T L h' ⟨gg, t2, l2, t3, l3, t4, l4, t6, l6, ⟨w, rs, t7, x⟩, tx⟩
          have k := hf.grow gg
          simp +contextual (maxSteps := 2000000) only [go_sem, Nat.reduceEqDiff, reduceCtorEq, Nat.reduceAdd, Nat.reduceLeDiff, t2, l2, t3, l3, t4, l4, t6, l6, t7, tx, k.nl.len, lt_false]
          exact gcK_of ⟨gg, _, _, _, rfl, x⟩ (fun hs _ => by
            simp only [AV.scalar, AV.scalars, List.all_cons, List.all_nil, Bool.and_true, Bool.and_eq_true] at hs
            exact ⟨Grow.refl h, _, _, _, rfl, x.scalar hs.1 hs.2 h⟩)
        · simp +contextual (maxSteps := 2000000) only [go_sem, Nat.reduceEqDiff, reduceCtorEq, Nat.reduceAdd, Nat.reduceLeDiff, t2, l2, t3, l3, t4, l4, t6, l6, t7]
          rw [nameF_zero]
          exact ⟨g4, ⟨c4, rs, rfl, x⟩, rfl⟩
    · have d1 : decide ((f.pl.length : Int) > (places l : Nat)) = false := decide_eq_false (by omega)
      have em : manyB l f.pl = [] := by unfold manyB; rw [if_neg (by omega)]
      rw [← em] at x
      simp +contextual (maxSteps := 2000000) only [go_sem, Nat.reduceEqDiff, reduceCtorEq, Nat.reduceAdd, Nat.reduceLeDiff, t2, l2, t3, l3, t4, l4, t6, l6, t7, t8, t9, t10, k.pl.len, lt_false, d1]
      refine wpC_loop (fun i T L h' => Grow h h' ∧ T 2 = .lp 2 0 ∧ (L 2).2 = [q] ∧ T 3 = .lp 3 0 ∧ (L 3).2 = [p, n] ∧ T 4 = .lp 4 0 ∧ (L 4).2 = [.sl none 0 (some 0)] ∧ T 6 = .lp 6 0 ∧ (L 6).2 = [v] ∧ (∃ w rs, T 7 = .v (.one w) ∧ BdY h h' v w rs (nameF l f i).slots (nameF l f i).bad) ∧ T 11 = .v (.one (.int .i64 i))) f.nl.length ?_ ?_ (Nat.zero_le _) ?_
      · rintro i T L h' hi ⟨gg, t2, l2, t3, l3, t4, l4, t6, l6, ⟨w, rs, t7, x⟩, tx⟩
        have k := hf.grow gg
        have kl := hl.grow gg
        have ok := BOk.nameF (l := l) (f := f) hb3 (i := i) (by omega)
        have hrs : rs.length = l.length := x.len.trans ok.len
        have tk := c_takesName l q f.nl[i].name h' kl sq
        rw [nameF_next hi]
        rcases takes_cases l f.nl[i].name with e | ⟨j, hj, e⟩
        · rw [nameStep_no e]
          rw [e] at tk
          simp +contextual (maxSteps := 2000000) only [go_sem, Nat.reduceEqDiff, reduceCtorEq, Nat.reduceAdd, Nat.reduceLeDiff, t2, l2, t3, l3, t4, l4, t6, l6, t7, tx, k.nl.len, k.nl.iaddr hi, k.nl.whole hi, encP, lt_true hi, tk]
          refine wp_lit (enc := encB) (k := 2) (l := [⟨1, f.nl[i].name⟩]) rfl rfl ?_
          intro h3 w3 g3 n3 _
          simp +contextual (maxSteps := 2000000) only [go_sem, Nat.reduceEqDiff, reduceCtorEq, Nat.reduceAdd, Nat.reduceLeDiff, t2, l2, t3, l3, t4, l4, t6, l6, t7, tx]
          refine wp_append lenB (x.pr.grow g3) (n3.sl lenB) (gg.trans g3) (by have := ok.bad; simp; omega) ?_
          intro h4 s4 g4 n4 st4 hb4
          obtain ⟨c4, rfl⟩ := n4.one
          simp +contextual (maxSteps := 2000000) only [go_sem, Nat.reduceEqDiff, reduceCtorEq, Nat.reduceAdd, Nat.reduceLeDiff, t2, l2, t3, l3, t4, l4, t6, l6, t7, tx]
          exact ⟨g4, ⟨c4, rs, rfl, (x.grow g3).push n4 st4 hb4⟩, by rw [wrap_next hi (by omega)]⟩
        · rw [e] at tk
          have hs : j < (nameF l f i).slots.length := by rw [ok.len]; exact hj
          have hio : j < rs.length := by omega
          have z := x.sl.at hio hs
          have yi := x.sl.out.out.iaddr hio (kd := .i64)
          have y0 := (x.sl.out.out.sl lenY).fieldO (off := 0) hio (by omega)
          have y2 := (x.sl.out.out.sl lenY).fieldO (off := 2) hio (by omega)
          rw [encY_0] at y0
          rw [encY_2] at y2
          have dj : decide ((j : Int) < 0) = false := decide_eq_false (by omega)
          by_cases kk : l[j].kind = 4
          · rw [nameStep_map e hj hs kk]
            have dk : decide (l[j].kind = 4) = true := decide_eq_true kk
            simp +contextual (maxSteps := 2000000) only [go_sem, Nat.reduceEqDiff, reduceCtorEq, Nat.reduceAdd, Nat.reduceLeDiff, t2, l2, t3, l3, t4, l4, t6, l6, t7, tx, k.nl.len, k.nl.iaddr hi, k.nl.whole hi, encP, lt_true hi, tk, dj, kl.iaddr hj, kl.fieldO hj, dk, yi, y2]
            refine wp_lit (enc := encP) (k := 2) (l := [f.nl[i]]) rfl rfl ?_
            intro h3 w3 g3 n3 _
            simp +contextual (maxSteps := 2000000) only [go_sem, Nat.reduceEqDiff, reduceCtorEq, Nat.reduceAdd, Nat.reduceLeDiff, t2, l2, t3, l3, t4, l4, t6, l6, t7, tx]
            refine wp_append lenP (z.pairs.grow g3) (n3.sl lenP) (gg.trans g3) (by have := ok.pairs _ (List.getElem_mem hs); simp; omega) ?_
            intro h4 s4 g4 n4 st4 hb4
            obtain ⟨c4, rfl⟩ := n4.one
            simp +contextual (maxSteps := 2000000) only [go_sem, Nat.reduceEqDiff, reduceCtorEq, Nat.reduceAdd, Nat.reduceLeDiff, t2, l2, t3, l3, t4, l4, t6, l6, t7, tx, yi]
            refine wp_set (x := { rs[j] with pv := c4 }) (off := 2) (vs := [c4]) lenY ((x.sl.out.out.grow g3).stay st4 (x.sl.out.vpv _ hio)) hio rfl rfl (Nat.le_of_ble_eq_true rfl) g4 ?_
            intro h5 g5 n5 s5
            simp +contextual (maxSteps := 2000000) only [go_sem, Nat.reduceEqDiff, reduceCtorEq, Nat.reduceAdd, Nat.reduceLeDiff, t2, l2, t3, l3, t4, l4, t6, l6, t7, tx]
            exact ⟨g5, ⟨w, _, rfl, (x.grow g3).app_pairs hio hs n4 st4 hb4 n5 s5⟩, by rw [wrap_next hi (by omega)]⟩
          · have dk : decide (l[j].kind = 4) = false := decide_eq_false kk
            cases b : (nameF l f i).slots[j].given with
            | true =>
              rw [nameStep_twice e hj hs kk b]
              rw [z.given, b] at y0
              simp +contextual (maxSteps := 2000000) only [go_sem, Nat.reduceEqDiff, reduceCtorEq, Nat.reduceAdd, Nat.reduceLeDiff, t2, l2, t3, l3, t4, l4, t6, l6, t7, tx, k.nl.len, k.nl.iaddr hi, k.nl.whole hi, encP, lt_true hi, tk, dj, kl.iaddr hj, kl.fieldO hj, dk, yi, y0]
              refine wp_lit (enc := encB) (k := 2) (l := [⟨2, f.nl[i].name⟩]) rfl rfl ?_
              intro h3 w3 g3 n3 _
              simp +contextual (maxSteps := 2000000) only [go_sem, Nat.reduceEqDiff, reduceCtorEq, Nat.reduceAdd, Nat.reduceLeDiff, t2, l2, t3, l3, t4, l4, t6, l6, t7, tx]
              refine wp_append lenB (x.pr.grow g3) (n3.sl lenB) (gg.trans g3) (by have := ok.bad; simp; omega) ?_
              intro h4 s4 g4 n4 st4 hb4
              obtain ⟨c4, rfl⟩ := n4.one
              simp +contextual (maxSteps := 2000000) only [go_sem, Nat.reduceEqDiff, reduceCtorEq, Nat.reduceAdd, Nat.reduceLeDiff, t2, l2, t3, l3, t4, l4, t6, l6, t7, tx]
              exact ⟨g4, ⟨c4, rs, rfl, (x.grow g3).push n4 st4 hb4⟩, by rw [wrap_next hi (by omega)]⟩
            | false =>
              rw [nameStep_give e hj hs kk b]
              rw [z.given, b] at y0
              simp +contextual (maxSteps := 2000000) only [go_sem, Nat.reduceEqDiff, reduceCtorEq, Nat.reduceAdd, Nat.reduceLeDiff, t2, l2, t3, l3, t4, l4, t6, l6, t7, tx, k.nl.len, k.nl.iaddr hi, k.nl.whole hi, encP, lt_true hi, tk, dj, kl.iaddr hj, kl.fieldO hj, dk, yi, y0]
              refine wp_lit (enc := encI) (k := 1) (l := [f.nl[i].value]) rfl rfl ?_
              intro h3 w3 g3 n3 b3
              obtain ⟨d, rfl⟩ := n3.one
              simp +contextual (maxSteps := 2000000) only [go_sem, Nat.reduceEqDiff, reduceCtorEq, Nat.reduceAdd, Nat.reduceLeDiff, t2, l2, t3, l3, t4, l4, t6, l6, t7, tx, yi]
              refine wp_setE (x := ⟨true, d, .sl none 0 (some 0)⟩) lenY (x.sl.out.out.grow g3) hio rfl rfl (gg.trans g3) ?_
              intro h4 g4 n4 s4
              simp +contextual (maxSteps := 2000000) only [go_sem, Nat.reduceEqDiff, reduceCtorEq, Nat.reduceAdd, Nat.reduceLeDiff, t2, l2, t3, l3, t4, l4, t6, l6, t7, tx]
              exact ⟨g4, ⟨w, _, rfl, x.put hio g3 ⟨rfl, n3, .nil⟩ Sep.nil.symm n4 s4 gg.n⟩, by rw [wrap_next hi (by omega)]⟩
      · rintro T L h' ⟨gg, t2, l2, t3, l3, t4, l4, t6, l6, ⟨w, rs, t7, x⟩, tx⟩
        have k := hf.grow gg
        simp +contextual (maxSteps := 2000000) only [go_sem, Nat.reduceEqDiff, reduceCtorEq, Nat.reduceAdd, Nat.reduceLeDiff, t2, l2, t3, l3, t4, l4, t6, l6, t7, tx, k.nl.len, lt_false]
        exact gcK_of ⟨gg, _, _, _, rfl, x⟩ (fun hs _ => by
          simp only [AV.scalar, AV.scalars, List.all_cons, List.all_nil, Bool.and_true, Bool.and_eq_true] at hs
          exact ⟨Grow.refl h, _, _, _, rfl, x.scalar hs.1 hs.2 h⟩)
      · simp +contextual (maxSteps := 2000000) only [go_sem, Nat.reduceEqDiff, reduceCtorEq, Nat.reduceAdd, Nat.reduceLeDiff, t2, l2, t3, l3, t4, l4, t6, l6, t7]
        rw [nameF_zero]
        exact ⟨gg, ⟨w, rs, rfl, x⟩, rfl⟩
  · simp +contextual (maxSteps := 2000000) only [go_sem, Nat.reduceEqDiff, reduceCtorEq, Nat.reduceAdd, Nat.reduceLeDiff]
    exact ⟨g1.trans g2, rfl, _, by rw [List.take_zero] at z0; exact z0⟩
end Go.Proofs.Ytnphlonhogcedaa.Am
