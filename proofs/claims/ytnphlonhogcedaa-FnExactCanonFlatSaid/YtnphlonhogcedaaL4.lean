/- Contracts of the laws: copies, marks, and what is held, of structs of slices. -/
import Derived.Test.YtnphlonhogcedaaL3
namespace Go.Proofs.Ytnphlonhogcedaa.Am
open Go
set_option maxRecDepth 100000
set_option maxHeartbeats 4000000
set_option linter.unusedSimpArgs false
set_option linter.unusedVariables false
attribute [local go_sem ↓] bv_t bv_c ev_t ev_c put_same put_ne put_none kill_at pro_at lb_same lb_ne start_zero start_succ wpC_seq wpC_reg wpC_cond wpC_block wpC_skip wpC_exit wpC_ret thenQ_normal thenQ_exit thenQ_ret inBlk_normal inBlk_exit inBlk_ret wpS_nil wpS_step wpS_again wpS_guard wpO_mov wpO_load wpO_faddr wpO_nilCheck wpO_pick wpO_build wpO_bin wpO_eqb wpO_eqst wpO_eqnil wpO_not wpO_conv wpO_bytesStr wpO_iaddr wpO_idxStr wpO_field wpO_extract wpO_len wpO_lenStr wpO_cap wpO_min wpO_slice wpO_sliceStr wpO_alloc wpO_box wpO_store wpO_call wpO_callv wpO_mkfn wpO_buildSlice wpO_mkslice wpO_append wpO_appz proA_nil proA_cons tmpX_nil tmpX_tmp tmpX_cell doneB_normal doneB_ret agK_cons agK_nil pureB_load results_one results_two results_nil resBs_cons resBs_nil resB_tmp resB_cell
attribute [local go_sem] kill_v kill_lp_ne kill_lp_same pro_v pro_lp_same pro_lp_ne av_v av_lp optB_some optX_some valX_eq ldX_lp ldX_v faX_lp faX_v ncX_lp ncX_ptr ncX_fn boxK_one boxK_agg stL_some stK_lp_one stK_lp_agg stK_v_one stK_v_agg proM_v proM_lp callG_mk callVG_mk callvK_fn fnG_mk ptrsA_nil ptrsA_cons callH_some whenA_true whenA_false guardH_tt guardH_ff guardH_tf guardH_ft guardH_undef agV_one agV_agg lenO_sl lenStrO_str notO_bool pickO_bool convO_int eqbO_bool eqnilO_sl extractO_tup capO_sl minO_int loadL_one loadL_all storeL_eq fillA_nil fillA_one fillA_agg nat_ge neg_ge nat_lt neg_lt buildO bin_add bin_sub bin_mul bin_eql bin_neq bin_lss bin_leq bin_gtr bin_geq str_eql str_neq str_lss str_leq str_gtr str_geq retK_some endK_mk gcK_same gcK_int gcK_bool tupO_one tupO_agg rdy_self ib ii Option.map_none Option.map_some Option.some.injEq exists_eq_left' exists_eq_left ne_eq not_false_eq_true if_true if_false List.map_cons List.map_nil List.getElem?_cons_zero List.getElem?_cons_succ List.length_cons List.length_nil List.take_succ_cons List.take_zero List.take_nil List.drop_succ_cons List.drop_zero List.drop_nil List.cons_append List.nil_append List.append_nil List.set_cons_zero List.set_cons_succ Nat.zero_add forall_const true_and and_true and_self Bool.false_eq_true false_implies true_implies implies_true Bool.not_true Bool.not_false Bool.not_eq_true' Bool.not_eq_false' beq_self_eq_true Bool.bne_true Bool.bne_false
attribute [local go_sem] lenI lenS lenP lenQ lenB lenL lenT encI_0 encS_0 encP_0 encP_1 encQ_0 encQ_1 encQ_2 encQ_3 encB_0 encB_1 encL_0 encL_1 encT_0 encT_1
attribute [local go_sem low] whenA_bool guardH_bool
section
variable {P : Program} {T : Tb} {L : Lb} {h : H} {Q : PostC} {K : Post}
/-! laws.toFlat -/
def L35_0 : List AStep := [⟨.box 63 (.t 0), (some 1), none, []⟩, ⟨.alloc 30 [(.sl none 0 (some 0)), (.sl none 0 (some 0))], (some 2), none, []⟩]
theorem v35_0 : wpS P L35_0 T L (rdy h) K = wpS P ([⟨.box 63 (.t 0), (some 1), none, []⟩, ⟨.alloc 30 [(.sl none 0 (some 0)), (.sl none 0 (some 0))], (some 2), none, []⟩]) T L (rdy h) K := rfl
def L35_1 : List AStep := [⟨.alloc 30 [(.sl none 0 (some 0)), (.sl none 0 (some 0))], (some 3), none, []⟩]
theorem v35_1 : wpS P L35_1 T L (rdy h) K = wpS P ([⟨.alloc 30 [(.sl none 0 (some 0)), (.sl none 0 (some 0))], (some 3), none, []⟩]) T L (rdy h) K := rfl
def L35_2 : List AStep := [⟨.store 1 (.t 7) (.t 6), none, none, []⟩]
theorem v35_2 : wpS P L35_2 T L (rdy h) K = wpS P ([⟨.store 1 (.t 7) (.t 6), none, none, []⟩]) T L (rdy h) K := rfl
def L35_3 : List AStep := ⟨.call 107 [(.t 5)], (some 6), none, []⟩ :: ⟨.faddr 0 (.t 3), (some 7), none, []⟩ :: L35_2
theorem v35_3 : wpS P L35_3 T L (rdy h) K = wpS P (⟨.call 107 [(.t 5)], (some 6), none, []⟩ :: ⟨.faddr 0 (.t 3), (some 7), none, []⟩ :: L35_2) T L (rdy h) K := rfl
def L35_4 : List AStep := ⟨.faddr 0 (.t 1), (some 4), none, []⟩ :: ⟨.load 1 false (.t 4), (some 5), none, []⟩ :: L35_3
theorem v35_4 : wpS P L35_4 T L (rdy h) K = wpS P (⟨.faddr 0 (.t 1), (some 4), none, []⟩ :: ⟨.load 1 false (.t 4), (some 5), none, []⟩ :: L35_3) T L (rdy h) K := rfl
def L35_5 : List AStep := [⟨.store 1 (.t 11) (.t 10), none, none, []⟩]
theorem v35_5 : wpS P L35_5 T L (rdy h) K = wpS P ([⟨.store 1 (.t 11) (.t 10), none, none, []⟩]) T L (rdy h) K := rfl
def L35_6 : List AStep := ⟨.call 108 [(.t 9)], (some 10), none, []⟩ :: ⟨.faddr 1 (.t 3), (some 11), none, []⟩ :: L35_5
theorem v35_6 : wpS P L35_6 T L (rdy h) K = wpS P (⟨.call 108 [(.t 9)], (some 10), none, []⟩ :: ⟨.faddr 1 (.t 3), (some 11), none, []⟩ :: L35_5) T L (rdy h) K := rfl
def L35_7 : List AStep := ⟨.faddr 1 (.t 1), (some 8), none, []⟩ :: ⟨.load 1 false (.t 8), (some 9), none, []⟩ :: L35_6
theorem v35_7 : wpS P L35_7 T L (rdy h) K = wpS P (⟨.faddr 1 (.t 1), (some 8), none, []⟩ :: ⟨.load 1 false (.t 8), (some 9), none, []⟩ :: L35_6) T L (rdy h) K := rfl
def L35_8 : List AStep := [⟨.load 2 true (.t 3), (some 12), none, []⟩, ⟨.store 2 (.t 2) (.t 12), none, none, []⟩]
theorem v35_8 : wpS P L35_8 T L (rdy h) K = wpS P ([⟨.load 2 true (.t 3), (some 12), none, []⟩, ⟨.store 2 (.t 2) (.t 12), none, none, []⟩]) T L (rdy h) K := rfl
def C35_0 : ACode := .seq (.reg L35_8) .ret
theorem u35_0 : wpC P C35_0 T L (rdy h) Q = wpC P (.seq (.reg L35_8) .ret) T L (rdy h) Q := rfl
def C35_1 : ACode := .seq (.reg L35_7) C35_0
theorem u35_1 : wpC P C35_1 T L (rdy h) Q = wpC P (.seq (.reg L35_7) C35_0) T L (rdy h) Q := rfl
def C35_2 : ACode := .seq (.reg L35_4) C35_1
theorem u35_2 : wpC P C35_2 T L (rdy h) Q = wpC P (.seq (.reg L35_4) C35_1) T L (rdy h) Q := rfl
def C35_3 : ACode := .seq (.reg L35_1) C35_2
theorem u35_3 : wpC P C35_3 T L (rdy h) Q = wpC P (.seq (.reg L35_1) C35_2) T L (rdy h) Q := rfl
def C35_4 : ACode := .seq (.reg L35_0) C35_3
theorem u35_4 : wpC P C35_4 T L (rdy h) Q = wpC P (.seq (.reg L35_0) C35_3) T L (rdy h) Q := rfl
def F35 : AFunc := ⟨13, [.cell 2 2 true], C35_4⟩
theorem cF35 : compB Try.prog 35 = some F35 := by kernel_rfl
end
attribute [local go_sem ↓] u35_0 u35_1 u35_2 u35_3 u35_4 v35_0 v35_1 v35_2 v35_3 v35_4 v35_5 v35_6 v35_7 v35_8
theorem c_toFlat {t1 t2 : Nat} (f : Flat) (p n : CV) (h : H) (hp : Sl encI 1 t1 h (.one p) f.pl) (hq : Sl encP 2 t2 h (.one n) f.nl) (k0 : f.pl.length ≤ 1048576) (k1 : f.nl.length ≤ 1048576) :
    callK (bm Try.prog 35 [.agg [p, n]] h) fun r h' => Grow h h' ∧ ∃ p' n', r = .agg [p', n'] ∧ NwF h h' p' n' f := by
  refine bm_of cF35 ?_
  simp +contextual (maxSteps := 2000000) only [go_sem, Nat.reduceEqDiff, reduceCtorEq, Nat.reduceAdd, Nat.reduceLeDiff, F35]
  refine wp_call (c_toIntS f.pl _ _ hp k0) ?_
  rintro r h1 ⟨g1, n1⟩
  obtain ⟨c, rfl⟩ := n1.one
  simp +contextual (maxSteps := 2000000) only [go_sem, Nat.reduceEqDiff, reduceCtorEq, Nat.reduceAdd, Nat.reduceLeDiff]
  refine wp_call (c_toPairS f.nl _ _ (hq.grow g1) k1) ?_
  rintro r h2 ⟨g2, n2⟩
  obtain ⟨d, rfl⟩ := n2.one
  simp +contextual (maxSteps := 2000000) only [go_sem, Nat.reduceEqDiff, reduceCtorEq, Nat.reduceAdd, Nat.reduceLeDiff]
  have n3 : NwF h h2 c d f := ⟨n1.grow g2, n2.from g1.n, n1.apart n2⟩
  exact gcK_of ⟨g1.trans g2, _, _, rfl, n3⟩ (fun hs _ => ⟨Grow.refl h, _, _, rfl, n3.scalar hs h⟩)
section
variable {P : Program} {T : Tb} {L : Lb} {h : H} {Q : PostC} {K : Post}
/-! laws.markFlat -/
def L38_0 : List AStep := [⟨.box 30 (.t 0), (some 2), none, []⟩, ⟨.mov (.c (.int .i64 0)), (some 4), none, []⟩]
theorem v38_0 : wpS P L38_0 T L (rdy h) K = wpS P ([⟨.box 30 (.t 0), (some 2), none, []⟩, ⟨.mov (.c (.int .i64 0)), (some 4), none, []⟩]) T L (rdy h) K := rfl
def L38_1 : List AStep := [⟨.mov (.t 8), (some 1), none, []⟩]
theorem v38_1 : wpS P L38_1 T L (rdy h) K = wpS P ([⟨.mov (.t 8), (some 1), none, []⟩]) T L (rdy h) K := rfl
def L38_2 : List AStep := ⟨.mov (.t 1), (some 7), none, []⟩ :: ⟨.call 112 [(.t 6), (.t 7)], (some 8), none, []⟩ :: L38_1
theorem v38_2 : wpS P L38_2 T L (rdy h) K = wpS P (⟨.mov (.t 1), (some 7), none, []⟩ :: ⟨.call 112 [(.t 6), (.t 7)], (some 8), none, []⟩ :: L38_1) T L (rdy h) K := rfl
def L38_3 : List AStep := ⟨.faddr 0 (.t 2), (some 5), none, []⟩ :: ⟨.load 1 false (.t 5), (some 6), none, []⟩ :: L38_2
theorem v38_3 : wpS P L38_3 T L (rdy h) K = wpS P (⟨.faddr 0 (.t 2), (some 5), none, []⟩ :: ⟨.load 1 false (.t 5), (some 6), none, []⟩ :: L38_2) T L (rdy h) K := rfl
def L38_4 : List AStep := [⟨.mov (.t 12), (some 1), none, []⟩]
theorem v38_4 : wpS P L38_4 T L (rdy h) K = wpS P ([⟨.mov (.t 12), (some 1), none, []⟩]) T L (rdy h) K := rfl
def L38_5 : List AStep := ⟨.mov (.t 1), (some 11), none, []⟩ :: ⟨.call 113 [(.t 10), (.t 11)], (some 12), none, []⟩ :: L38_4
theorem v38_5 : wpS P L38_5 T L (rdy h) K = wpS P (⟨.mov (.t 1), (some 11), none, []⟩ :: ⟨.call 113 [(.t 10), (.t 11)], (some 12), none, []⟩ :: L38_4) T L (rdy h) K := rfl
def L38_6 : List AStep := ⟨.faddr 1 (.t 2), (some 9), none, []⟩ :: ⟨.load 1 false (.t 9), (some 10), none, []⟩ :: L38_5
theorem v38_6 : wpS P L38_6 T L (rdy h) K = wpS P (⟨.faddr 1 (.t 2), (some 9), none, []⟩ :: ⟨.load 1 false (.t 9), (some 10), none, []⟩ :: L38_5) T L (rdy h) K := rfl
def L38_7 : List AStep := [⟨.mov (.t 1), (some 13), none, []⟩, ⟨.mov (.t 13), (some 4), none, []⟩]
theorem v38_7 : wpS P L38_7 T L (rdy h) K = wpS P ([⟨.mov (.t 1), (some 13), none, []⟩, ⟨.mov (.t 13), (some 4), none, []⟩]) T L (rdy h) K := rfl
def C38_0 : ACode := .seq (.reg L38_7) .ret
theorem u38_0 : wpC P C38_0 T L (rdy h) Q = wpC P (.seq (.reg L38_7) .ret) T L (rdy h) Q := rfl
def C38_1 : ACode := .seq (.reg L38_6) C38_0
theorem u38_1 : wpC P C38_1 T L (rdy h) Q = wpC P (.seq (.reg L38_6) C38_0) T L (rdy h) Q := rfl
def C38_2 : ACode := .seq (.reg L38_3) C38_1
theorem u38_2 : wpC P C38_2 T L (rdy h) Q = wpC P (.seq (.reg L38_3) C38_1) T L (rdy h) Q := rfl
def C38_3 : ACode := .seq (.reg L38_0) C38_2
theorem u38_3 : wpC P C38_3 T L (rdy h) Q = wpC P (.seq (.reg L38_0) C38_2) T L (rdy h) Q := rfl
def F38 : AFunc := ⟨14, [.tmp 4], C38_3⟩
theorem cF38 : compB Try.prog 38 = some F38 := by kernel_rfl
end
attribute [local go_sem ↓] u38_0 u38_1 u38_2 u38_3 v38_0 v38_1 v38_2 v38_3 v38_4 v38_5 v38_6 v38_7
theorem c_markFlat (f : Flat) (p n : CV) (k : Int) (h0 hb h : H) {f0 : Flat} (hf : NwF h0 h p n f) (ho : NwF h0 hb p n f0) (g : Grow h0 h) (k1 : 0 ≤ k) (k2 : k ≤ 2 ^ 32) (hn : f.pl.length ≤ 1048576) (hm : f.nl.length ≤ 1048576) :
    callK (bm Try.prog 38 [.agg [p, n], .one (.int .i64 k)] h) fun r h' => r = ii (k + (cellsF f : Nat)) ∧ Grow h0 h' ∧ NwF h0 h' p n (mkF k f) ∧ Mid h0.n hb.n h h' := by
  refine bm_of cF38 ?_
  simp +contextual (maxSteps := 2000000) only [go_sem, Nat.reduceEqDiff, reduceCtorEq, Nat.reduceAdd, Nat.reduceLeDiff, F38]
  refine wp_call (c_markIntS f.pl _ k h0 h hf.pl g k1 (by omega) (by omega)) ?_
  rintro r h1 ⟨rfl, g1, n1, s1⟩
  simp +contextual (maxSteps := 2000000) only [go_sem, Nat.reduceEqDiff, reduceCtorEq, Nat.reduceAdd, Nat.reduceLeDiff]
  refine wp_call (c_markPairS f.nl _ _ h0 h1 (hf.nl.stay s1 hf.sep.symm) g1 (by omega) (by omega) (by omega)) ?_
  rintro r h2 ⟨rfl, g2, n2, s2⟩
  simp +contextual (maxSteps := 2000000) only [go_sem, Nat.reduceEqDiff, reduceCtorEq, Nat.reduceAdd, Nat.reduceLeDiff]
  have e : k + ((1 * f.pl.length : Nat) : Int) + ((2 * f.nl.length : Nat) : Int) = k + (cellsF f : Nat) := by unfold cellsF; omega
  have m1 := n1.stay s2 hf.sep
  rw [e]
  exact gcK_of ⟨rfl, g2, ⟨m1, n2, hf.sep⟩, (ho.pl.mid s1).trans (ho.nl.mid s2)⟩ (fun _ gg => ⟨rfl, g, ⟨m1.back hf.pl gg, n2.back hf.nl gg, hf.sep⟩, (Grow.refl h).mid⟩)
section
variable {P : Program} {T : Tb} {L : Lb} {h : H} {Q : PostC} {K : Post}
/-! laws.heldFlat -/
def L43_0 : List AStep := [⟨.box 30 (.t 0), (some 2), none, []⟩, ⟨.mov (.c (.int .i64 0)), (some 4), none, []⟩]
theorem v43_0 : wpS P L43_0 T L (rdy h) K = wpS P ([⟨.box 30 (.t 0), (some 2), none, []⟩, ⟨.mov (.c (.int .i64 0)), (some 4), none, []⟩]) T L (rdy h) K := rfl
def L43_1 : List AStep := [⟨.mov (.t 8), (some 1), none, []⟩]
theorem v43_1 : wpS P L43_1 T L (rdy h) K = wpS P ([⟨.mov (.t 8), (some 1), none, []⟩]) T L (rdy h) K := rfl
def L43_2 : List AStep := ⟨.mov (.t 1), (some 7), none, []⟩ :: ⟨.call 119 [(.t 6), (.t 7)], (some 8), none, []⟩ :: L43_1
theorem v43_2 : wpS P L43_2 T L (rdy h) K = wpS P (⟨.mov (.t 1), (some 7), none, []⟩ :: ⟨.call 119 [(.t 6), (.t 7)], (some 8), none, []⟩ :: L43_1) T L (rdy h) K := rfl
def L43_3 : List AStep := ⟨.faddr 0 (.t 2), (some 5), none, []⟩ :: ⟨.load 1 false (.t 5), (some 6), none, []⟩ :: L43_2
theorem v43_3 : wpS P L43_3 T L (rdy h) K = wpS P (⟨.faddr 0 (.t 2), (some 5), none, []⟩ :: ⟨.load 1 false (.t 5), (some 6), none, []⟩ :: L43_2) T L (rdy h) K := rfl
def L43_4 : List AStep := [⟨.mov (.t 1), (some 9), none, []⟩, ⟨.bin .lss (.t 9) (.c (.int .i64 0)), (some 10), none, []⟩]
theorem v43_4 : wpS P L43_4 T L (rdy h) K = wpS P ([⟨.mov (.t 1), (some 9), none, []⟩, ⟨.bin .lss (.t 9) (.c (.int .i64 0)), (some 10), none, []⟩]) T L (rdy h) K := rfl
def L43_5 : List AStep := [⟨.mov (.c (.int .i64 (-1))), (some 4), none, []⟩]
theorem v43_5 : wpS P L43_5 T L (rdy h) K = wpS P ([⟨.mov (.c (.int .i64 (-1))), (some 4), none, []⟩]) T L (rdy h) K := rfl
def L43_6 : List AStep := [⟨.mov (.t 14), (some 1), none, []⟩]
theorem v43_6 : wpS P L43_6 T L (rdy h) K = wpS P ([⟨.mov (.t 14), (some 1), none, []⟩]) T L (rdy h) K := rfl
def L43_7 : List AStep := ⟨.mov (.t 1), (some 13), none, []⟩ :: ⟨.call 120 [(.t 12), (.t 13)], (some 14), none, []⟩ :: L43_6
theorem v43_7 : wpS P L43_7 T L (rdy h) K = wpS P (⟨.mov (.t 1), (some 13), none, []⟩ :: ⟨.call 120 [(.t 12), (.t 13)], (some 14), none, []⟩ :: L43_6) T L (rdy h) K := rfl
def L43_8 : List AStep := ⟨.faddr 1 (.t 2), (some 11), none, []⟩ :: ⟨.load 1 false (.t 11), (some 12), none, []⟩ :: L43_7
theorem v43_8 : wpS P L43_8 T L (rdy h) K = wpS P (⟨.faddr 1 (.t 2), (some 11), none, []⟩ :: ⟨.load 1 false (.t 11), (some 12), none, []⟩ :: L43_7) T L (rdy h) K := rfl
def L43_9 : List AStep := [⟨.mov (.t 1), (some 15), none, []⟩, ⟨.bin .lss (.t 15) (.c (.int .i64 0)), (some 16), none, []⟩]
theorem v43_9 : wpS P L43_9 T L (rdy h) K = wpS P ([⟨.mov (.t 1), (some 15), none, []⟩, ⟨.bin .lss (.t 15) (.c (.int .i64 0)), (some 16), none, []⟩]) T L (rdy h) K := rfl
def L43_10 : List AStep := [⟨.mov (.c (.int .i64 (-1))), (some 4), none, []⟩]
theorem v43_10 : wpS P L43_10 T L (rdy h) K = wpS P ([⟨.mov (.c (.int .i64 (-1))), (some 4), none, []⟩]) T L (rdy h) K := rfl
def L43_11 : List AStep := [⟨.mov (.t 1), (some 17), none, []⟩, ⟨.mov (.t 17), (some 4), none, []⟩]
theorem v43_11 : wpS P L43_11 T L (rdy h) K = wpS P ([⟨.mov (.t 1), (some 17), none, []⟩, ⟨.mov (.t 17), (some 4), none, []⟩]) T L (rdy h) K := rfl
def C43_0 : ACode := .seq (.reg L43_5) .ret
theorem u43_0 : wpC P C43_0 T L (rdy h) Q = wpC P (.seq (.reg L43_5) .ret) T L (rdy h) Q := rfl
def C43_1 : ACode := .cond (.t 10) C43_0 .skip
theorem u43_1 : wpC P C43_1 T L (rdy h) Q = wpC P (.cond (.t 10) C43_0 .skip) T L (rdy h) Q := rfl
def C43_2 : ACode := .seq (.reg L43_4) C43_1
theorem u43_2 : wpC P C43_2 T L (rdy h) Q = wpC P (.seq (.reg L43_4) C43_1) T L (rdy h) Q := rfl
def C43_3 : ACode := .seq (.reg L43_10) .ret
theorem u43_3 : wpC P C43_3 T L (rdy h) Q = wpC P (.seq (.reg L43_10) .ret) T L (rdy h) Q := rfl
def C43_4 : ACode := .cond (.t 16) C43_3 .skip
theorem u43_4 : wpC P C43_4 T L (rdy h) Q = wpC P (.cond (.t 16) C43_3 .skip) T L (rdy h) Q := rfl
def C43_5 : ACode := .seq (.reg L43_9) C43_4
theorem u43_5 : wpC P C43_5 T L (rdy h) Q = wpC P (.seq (.reg L43_9) C43_4) T L (rdy h) Q := rfl
def C43_6 : ACode := .seq (.reg L43_11) .ret
theorem u43_6 : wpC P C43_6 T L (rdy h) Q = wpC P (.seq (.reg L43_11) .ret) T L (rdy h) Q := rfl
def C43_7 : ACode := .seq C43_5 C43_6
theorem u43_7 : wpC P C43_7 T L (rdy h) Q = wpC P (.seq C43_5 C43_6) T L (rdy h) Q := rfl
def C43_8 : ACode := .seq (.reg L43_8) C43_7
theorem u43_8 : wpC P C43_8 T L (rdy h) Q = wpC P (.seq (.reg L43_8) C43_7) T L (rdy h) Q := rfl
def C43_9 : ACode := .seq C43_2 C43_8
theorem u43_9 : wpC P C43_9 T L (rdy h) Q = wpC P (.seq C43_2 C43_8) T L (rdy h) Q := rfl
def C43_10 : ACode := .seq (.reg L43_3) C43_9
theorem u43_10 : wpC P C43_10 T L (rdy h) Q = wpC P (.seq (.reg L43_3) C43_9) T L (rdy h) Q := rfl
def C43_11 : ACode := .seq (.reg L43_0) C43_10
theorem u43_11 : wpC P C43_11 T L (rdy h) Q = wpC P (.seq (.reg L43_0) C43_10) T L (rdy h) Q := rfl
def F43 : AFunc := ⟨18, [.tmp 4], C43_11⟩
theorem cF43 : compB Try.prog 43 = some F43 := by kernel_rfl
end
attribute [local go_sem ↓] u43_0 u43_1 u43_2 u43_3 u43_4 u43_5 u43_6 u43_7 u43_8 u43_9 u43_10 u43_11 v43_0 v43_1 v43_2 v43_3 v43_4 v43_5 v43_6 v43_7 v43_8 v43_9 v43_10 v43_11
theorem c_heldFlat (f : Flat) (p n : CV) (k : Int) (h : H) (hf : SlF h p n (mkF k f)) (k1 : 0 ≤ k) (k2 : k ≤ 2 ^ 32) (hn : f.pl.length ≤ 1048576) (hm : f.nl.length ≤ 1048576) :
    bm Try.prog 43 [.agg [p, n], .one (.int .i64 k)] h = some (ii (k + (cellsF f : Nat)), h) := by
  refine bm_eq cF43 ?_
  have e1 := c_heldIntS f.pl.length (.one p) k h hf.pl k1 (by omega) (by omega)
  have e2 := c_heldPairS f.nl.length (.one n) _ h hf.nl (by omega) (by omega) (by omega)
  have e3 : k + ((1 * f.pl.length : Nat) : Int) + ((2 * f.nl.length : Nat) : Int) = k + (cellsF f : Nat) := by unfold cellsF; omega
  rw [e3] at e2
  simp +contextual (maxSteps := 2000000) only [go_sem, Nat.reduceEqDiff, reduceCtorEq, Nat.reduceAdd, Nat.reduceLeDiff, F43, e1, e2, decide_eq_false (show ¬ (k + ((1 * f.pl.length : Nat) : Int) < 0) by omega), decide_eq_false (show ¬ (k + (cellsF f : Nat) < 0) by omega)]
end Go.Proofs.Ytnphlonhogcedaa.Am
