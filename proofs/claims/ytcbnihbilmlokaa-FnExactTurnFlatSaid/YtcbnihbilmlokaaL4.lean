/- Contracts of the laws: copies, marks, and what is held, of structs of slices. -/
import Derived.Test.YtcbnihbilmlokaaL3
namespace Go.Proofs.Ytcbnihbilmlokaa.Am
open Go
set_option maxRecDepth 100000
set_option maxHeartbeats 4000000
set_option linter.unusedSimpArgs false
set_option linter.unusedVariables false
attribute [local go_sem ↓] bv_t bv_c ev_t ev_c put_same put_ne put_none kill_at pro_at lb_same lb_ne start_zero start_succ wpC_seq wpC_reg wpC_cond wpC_block wpC_skip wpC_exit wpC_ret thenQ_normal thenQ_exit thenQ_ret inBlk_normal inBlk_exit inBlk_ret wpS_nil wpS_step wpS_again wpS_guard wpO_mov wpO_load wpO_faddr wpO_nilCheck wpO_pick wpO_build wpO_bin wpO_eqb wpO_eqst wpO_eqnil wpO_not wpO_conv wpO_bytesStr wpO_iaddr wpO_idxStr wpO_field wpO_extract wpO_len wpO_lenStr wpO_cap wpO_min wpO_slice wpO_sliceStr wpO_alloc wpO_box wpO_store wpO_call wpO_callv wpO_mkfn wpO_buildSlice wpO_mkslice wpO_append wpO_appz proA_nil proA_cons tmpX_nil tmpX_tmp tmpX_cell doneB_normal doneB_ret agK_cons agK_nil pureB_load results_one results_two results_nil resBs_cons resBs_nil resB_tmp resB_cell
attribute [local go_sem] kill_v kill_lp_ne kill_lp_same pro_v pro_lp_same pro_lp_ne av_v av_lp optB_some optX_some valX_eq ldX_lp ldX_v faX_lp faX_v ncX_lp ncX_ptr ncX_fn boxK_one boxK_agg stL_some stK_lp_one stK_lp_agg stK_v_one stK_v_agg proM_v proM_lp callG_mk callVG_mk callvK_fn fnG_mk ptrsA_nil ptrsA_cons callH_some whenA_true whenA_false guardH_tt guardH_ff guardH_tf guardH_ft guardH_undef agV_one agV_agg lenO_sl lenStrO_str notO_bool pickO_bool convO_int eqbO_bool eqnilO_sl extractO_tup capO_sl minO_int loadL_one loadL_all storeL_eq fillA_nil fillA_one fillA_agg nat_ge neg_ge nat_lt neg_lt buildO bin_add bin_sub bin_mul bin_eql bin_neq bin_lss bin_leq bin_gtr bin_geq str_eql str_neq str_lss str_leq str_gtr str_geq retK_some endK_mk gcK_same gcK_int gcK_bool tupO_one tupO_agg rdy_self ib ii Option.map_none Option.map_some Option.some.injEq exists_eq_left' exists_eq_left ne_eq not_false_eq_true if_true if_false List.map_cons List.map_nil List.getElem?_cons_zero List.getElem?_cons_succ List.length_cons List.length_nil List.take_succ_cons List.take_zero List.take_nil List.drop_succ_cons List.drop_zero List.drop_nil List.cons_append List.nil_append List.append_nil List.set_cons_zero List.set_cons_succ Nat.zero_add forall_const true_and and_true and_self Bool.false_eq_true false_implies true_implies implies_true Bool.not_true Bool.not_false Bool.not_eq_true' Bool.not_eq_false' beq_self_eq_true Bool.bne_true Bool.bne_false
attribute [local go_sem] lenI lenS lenP lenQ lenB lenL lenT encI_0 encS_0 encP_0 encP_1 encQ_0 encQ_1 encQ_2 encQ_3 encB_0 encB_1 encL_0 encL_1 encT_0 encT_1
attribute [local go_sem low] whenA_bool guardH_bool
section
variable {P : Program} {T : Tb} {L : Lb} {h : H} {Q : PostC} {K : Post}
/-! laws.toFlat -/
def L17_0 : List AStep := [⟨.box 26 (.t 0), (some 1), none, []⟩, ⟨.alloc 31 [(.sl none 0 (some 0)), (.sl none 0 (some 0))], (some 2), none, []⟩]
theorem v17_0 : wpS P L17_0 T L (rdy h) K = wpS P ([⟨.box 26 (.t 0), (some 1), none, []⟩, ⟨.alloc 31 [(.sl none 0 (some 0)), (.sl none 0 (some 0))], (some 2), none, []⟩]) T L (rdy h) K := rfl
def L17_1 : List AStep := [⟨.alloc 31 [(.sl none 0 (some 0)), (.sl none 0 (some 0))], (some 3), none, []⟩]
theorem v17_1 : wpS P L17_1 T L (rdy h) K = wpS P ([⟨.alloc 31 [(.sl none 0 (some 0)), (.sl none 0 (some 0))], (some 3), none, []⟩]) T L (rdy h) K := rfl
def L17_2 : List AStep := [⟨.store 1 (.t 7) (.t 6), none, none, []⟩]
theorem v17_2 : wpS P L17_2 T L (rdy h) K = wpS P ([⟨.store 1 (.t 7) (.t 6), none, none, []⟩]) T L (rdy h) K := rfl
def L17_3 : List AStep := ⟨.call 81 [(.t 5)], (some 6), none, []⟩ :: ⟨.faddr 0 (.t 3), (some 7), none, []⟩ :: L17_2
theorem v17_3 : wpS P L17_3 T L (rdy h) K = wpS P (⟨.call 81 [(.t 5)], (some 6), none, []⟩ :: ⟨.faddr 0 (.t 3), (some 7), none, []⟩ :: L17_2) T L (rdy h) K := rfl
def L17_4 : List AStep := ⟨.faddr 0 (.t 1), (some 4), none, []⟩ :: ⟨.load 1 false (.t 4), (some 5), none, []⟩ :: L17_3
theorem v17_4 : wpS P L17_4 T L (rdy h) K = wpS P (⟨.faddr 0 (.t 1), (some 4), none, []⟩ :: ⟨.load 1 false (.t 4), (some 5), none, []⟩ :: L17_3) T L (rdy h) K := rfl
def L17_5 : List AStep := [⟨.store 1 (.t 11) (.t 10), none, none, []⟩]
theorem v17_5 : wpS P L17_5 T L (rdy h) K = wpS P ([⟨.store 1 (.t 11) (.t 10), none, none, []⟩]) T L (rdy h) K := rfl
def L17_6 : List AStep := ⟨.call 82 [(.t 9)], (some 10), none, []⟩ :: ⟨.faddr 1 (.t 3), (some 11), none, []⟩ :: L17_5
theorem v17_6 : wpS P L17_6 T L (rdy h) K = wpS P (⟨.call 82 [(.t 9)], (some 10), none, []⟩ :: ⟨.faddr 1 (.t 3), (some 11), none, []⟩ :: L17_5) T L (rdy h) K := rfl
def L17_7 : List AStep := ⟨.faddr 1 (.t 1), (some 8), none, []⟩ :: ⟨.load 1 false (.t 8), (some 9), none, []⟩ :: L17_6
theorem v17_7 : wpS P L17_7 T L (rdy h) K = wpS P (⟨.faddr 1 (.t 1), (some 8), none, []⟩ :: ⟨.load 1 false (.t 8), (some 9), none, []⟩ :: L17_6) T L (rdy h) K := rfl
def L17_8 : List AStep := [⟨.load 2 true (.t 3), (some 12), none, []⟩, ⟨.store 2 (.t 2) (.t 12), none, none, []⟩]
theorem v17_8 : wpS P L17_8 T L (rdy h) K = wpS P ([⟨.load 2 true (.t 3), (some 12), none, []⟩, ⟨.store 2 (.t 2) (.t 12), none, none, []⟩]) T L (rdy h) K := rfl
def C17_0 : ACode := .seq (.reg L17_8) .ret
theorem u17_0 : wpC P C17_0 T L (rdy h) Q = wpC P (.seq (.reg L17_8) .ret) T L (rdy h) Q := rfl
def C17_1 : ACode := .seq (.reg L17_7) C17_0
theorem u17_1 : wpC P C17_1 T L (rdy h) Q = wpC P (.seq (.reg L17_7) C17_0) T L (rdy h) Q := rfl
def C17_2 : ACode := .seq (.reg L17_4) C17_1
theorem u17_2 : wpC P C17_2 T L (rdy h) Q = wpC P (.seq (.reg L17_4) C17_1) T L (rdy h) Q := rfl
def C17_3 : ACode := .seq (.reg L17_1) C17_2
theorem u17_3 : wpC P C17_3 T L (rdy h) Q = wpC P (.seq (.reg L17_1) C17_2) T L (rdy h) Q := rfl
def C17_4 : ACode := .seq (.reg L17_0) C17_3
theorem u17_4 : wpC P C17_4 T L (rdy h) Q = wpC P (.seq (.reg L17_0) C17_3) T L (rdy h) Q := rfl
def F17 : AFunc := ⟨13, [.cell 2 2 true], C17_4⟩
theorem cF17 : compB Try.prog 17 = some F17 := by kernel_rfl
end
attribute [local go_sem ↓] u17_0 u17_1 u17_2 u17_3 u17_4 v17_0 v17_1 v17_2 v17_3 v17_4 v17_5 v17_6 v17_7 v17_8
theorem c_toFlat {t1 t2 : Nat} (f : Flat) (p n : CV) (h : H) (hp : Sl encI 1 t1 h (.one p) f.pl) (hq : Sl encP 2 t2 h (.one n) f.nl) (k0 : f.pl.length ≤ 1048576) (k1 : f.nl.length ≤ 1048576) :
    callK (bm Try.prog 17 [.agg [p, n]] h) fun r h' => Grow h h' ∧ ∃ p' n', r = .agg [p', n'] ∧ NwF h h' p' n' f := by
  refine bm_of cF17 ?_
  simp +contextual (maxSteps := 2000000) only [go_sem, Nat.reduceEqDiff, reduceCtorEq, Nat.reduceAdd, Nat.reduceLeDiff, F17]
  refine wp_call (c_toIntS f.pl _ _ hp k0) ?_
  rintro r h1 ⟨g1, n1⟩
  obtain ⟨c, rfl⟩ := n1.one
  simp +contextual (maxSteps := 2000000) only [go_sem, Nat.reduceEqDiff, reduceCtorEq, Nat.reduceAdd, Nat.reduceLeDiff]
  refine wp_call (c_toPairS f.nl _ _ (hq.grow g1) k1) ?_
  rintro r h2 ⟨g2, n2⟩
  obtain ⟨d, rfl⟩ := n2.one
  simp +contextual (maxSteps := 2000000) only [go_sem, Nat.reduceEqDiff, reduceCtorEq, Nat.reduceAdd, Nat.reduceLeDiff]
  have n3 : NwF h h2 c d f := ⟨n1.grow g2, n2.from g1.n, n1.apart n2⟩
  exact gcK_of ⟨g1.trans g2, _, _, rfl, n3⟩ (fun hs _ => ⟨Grow.refl h, _, _, rfl, n3.scalar hs h⟩)
section
variable {P : Program} {T : Tb} {L : Lb} {h : H} {Q : PostC} {K : Post}
/-! laws.markFlat -/
def L22_0 : List AStep := [⟨.box 31 (.t 0), (some 2), none, []⟩, ⟨.mov (.c (.int .i64 0)), (some 4), none, []⟩]
theorem v22_0 : wpS P L22_0 T L (rdy h) K = wpS P ([⟨.box 31 (.t 0), (some 2), none, []⟩, ⟨.mov (.c (.int .i64 0)), (some 4), none, []⟩]) T L (rdy h) K := rfl
def L22_1 : List AStep := [⟨.mov (.t 8), (some 1), none, []⟩]
theorem v22_1 : wpS P L22_1 T L (rdy h) K = wpS P ([⟨.mov (.t 8), (some 1), none, []⟩]) T L (rdy h) K := rfl
def L22_2 : List AStep := ⟨.mov (.t 1), (some 7), none, []⟩ :: ⟨.call 90 [(.t 6), (.t 7)], (some 8), none, []⟩ :: L22_1
theorem v22_2 : wpS P L22_2 T L (rdy h) K = wpS P (⟨.mov (.t 1), (some 7), none, []⟩ :: ⟨.call 90 [(.t 6), (.t 7)], (some 8), none, []⟩ :: L22_1) T L (rdy h) K := rfl
def L22_3 : List AStep := ⟨.faddr 0 (.t 2), (some 5), none, []⟩ :: ⟨.load 1 false (.t 5), (some 6), none, []⟩ :: L22_2
theorem v22_3 : wpS P L22_3 T L (rdy h) K = wpS P (⟨.faddr 0 (.t 2), (some 5), none, []⟩ :: ⟨.load 1 false (.t 5), (some 6), none, []⟩ :: L22_2) T L (rdy h) K := rfl
def L22_4 : List AStep := [⟨.mov (.t 12), (some 1), none, []⟩]
theorem v22_4 : wpS P L22_4 T L (rdy h) K = wpS P ([⟨.mov (.t 12), (some 1), none, []⟩]) T L (rdy h) K := rfl
def L22_5 : List AStep := ⟨.mov (.t 1), (some 11), none, []⟩ :: ⟨.call 91 [(.t 10), (.t 11)], (some 12), none, []⟩ :: L22_4
theorem v22_5 : wpS P L22_5 T L (rdy h) K = wpS P (⟨.mov (.t 1), (some 11), none, []⟩ :: ⟨.call 91 [(.t 10), (.t 11)], (some 12), none, []⟩ :: L22_4) T L (rdy h) K := rfl
def L22_6 : List AStep := ⟨.faddr 1 (.t 2), (some 9), none, []⟩ :: ⟨.load 1 false (.t 9), (some 10), none, []⟩ :: L22_5
theorem v22_6 : wpS P L22_6 T L (rdy h) K = wpS P (⟨.faddr 1 (.t 2), (some 9), none, []⟩ :: ⟨.load 1 false (.t 9), (some 10), none, []⟩ :: L22_5) T L (rdy h) K := rfl
def L22_7 : List AStep := [⟨.mov (.t 1), (some 13), none, []⟩, ⟨.mov (.t 13), (some 4), none, []⟩]
theorem v22_7 : wpS P L22_7 T L (rdy h) K = wpS P ([⟨.mov (.t 1), (some 13), none, []⟩, ⟨.mov (.t 13), (some 4), none, []⟩]) T L (rdy h) K := rfl
def C22_0 : ACode := .seq (.reg L22_7) .ret
theorem u22_0 : wpC P C22_0 T L (rdy h) Q = wpC P (.seq (.reg L22_7) .ret) T L (rdy h) Q := rfl
def C22_1 : ACode := .seq (.reg L22_6) C22_0
theorem u22_1 : wpC P C22_1 T L (rdy h) Q = wpC P (.seq (.reg L22_6) C22_0) T L (rdy h) Q := rfl
def C22_2 : ACode := .seq (.reg L22_3) C22_1
theorem u22_2 : wpC P C22_2 T L (rdy h) Q = wpC P (.seq (.reg L22_3) C22_1) T L (rdy h) Q := rfl
def C22_3 : ACode := .seq (.reg L22_0) C22_2
theorem u22_3 : wpC P C22_3 T L (rdy h) Q = wpC P (.seq (.reg L22_0) C22_2) T L (rdy h) Q := rfl
def F22 : AFunc := ⟨14, [.tmp 4], C22_3⟩
theorem cF22 : compB Try.prog 22 = some F22 := by kernel_rfl
end
attribute [local go_sem ↓] u22_0 u22_1 u22_2 u22_3 v22_0 v22_1 v22_2 v22_3 v22_4 v22_5 v22_6 v22_7
theorem c_markFlat (f : Flat) (p n : CV) (k : Int) (h0 hb h : H) {f0 : Flat} (hf : NwF h0 h p n f) (ho : NwF h0 hb p n f0) (g : Grow h0 h) (k1 : 0 ≤ k) (k2 : k ≤ 2 ^ 32) (hn : f.pl.length ≤ 1048576) (hm : f.nl.length ≤ 1048576) :
    callK (bm Try.prog 22 [.agg [p, n], .one (.int .i64 k)] h) fun r h' => r = ii (k + (cellsF f : Nat)) ∧ Grow h0 h' ∧ NwF h0 h' p n (mkF k f) ∧ Mid h0.n hb.n h h' := by
  refine bm_of cF22 ?_
  simp +contextual (maxSteps := 2000000) only [go_sem, Nat.reduceEqDiff, reduceCtorEq, Nat.reduceAdd, Nat.reduceLeDiff, F22]
  refine wp_call (c_markIntS f.pl _ k h0 h hf.pl g k1 (by omega) (by omega)) ?_
  rintro r h1 ⟨rfl, g1, n1, s1⟩
  simp +contextual (maxSteps := 2000000) only [go_sem, Nat.reduceEqDiff, reduceCtorEq, Nat.reduceAdd, Nat.reduceLeDiff]
  refine wp_call (c_markPairS f.nl _ _ h0 h1 (hf.nl.stay s1 hf.sep.symm) g1 (by omega) (by omega) (by omega)) ?_
  rintro r h2 ⟨rfl, g2, n2, s2⟩
  simp +contextual (maxSteps := 2000000) only [go_sem, Nat.reduceEqDiff, reduceCtorEq, Nat.reduceAdd, Nat.reduceLeDiff]
  have e : k + ((1 * f.pl.length : Nat) : Int) + ((2 * f.nl.length : Nat) : Int) = k + (cellsF f : Nat) := by unfold cellsF; omega
  have m1 := n1.stay s2 hf.sep
  rw [e]
  exact gcK_of ⟨rfl, g2, ⟨m1, n2, hf.sep⟩, (ho.pl.mid s1).trans (ho.nl.mid s2)⟩ (fun _ gg => ⟨rfl, g, ⟨m1.back hf.pl gg, n2.back hf.nl gg, hf.sep⟩, (Grow.refl h).mid⟩)
section
variable {P : Program} {T : Tb} {L : Lb} {h : H} {Q : PostC} {K : Post}
/-! laws.heldFlat -/
def L23_0 : List AStep := [⟨.box 31 (.t 0), (some 2), none, []⟩, ⟨.mov (.c (.int .i64 0)), (some 4), none, []⟩]
theorem v23_0 : wpS P L23_0 T L (rdy h) K = wpS P ([⟨.box 31 (.t 0), (some 2), none, []⟩, ⟨.mov (.c (.int .i64 0)), (some 4), none, []⟩]) T L (rdy h) K := rfl
def L23_1 : List AStep := [⟨.mov (.t 8), (some 1), none, []⟩]
theorem v23_1 : wpS P L23_1 T L (rdy h) K = wpS P ([⟨.mov (.t 8), (some 1), none, []⟩]) T L (rdy h) K := rfl
def L23_2 : List AStep := ⟨.mov (.t 1), (some 7), none, []⟩ :: ⟨.call 92 [(.t 6), (.t 7)], (some 8), none, []⟩ :: L23_1
theorem v23_2 : wpS P L23_2 T L (rdy h) K = wpS P (⟨.mov (.t 1), (some 7), none, []⟩ :: ⟨.call 92 [(.t 6), (.t 7)], (some 8), none, []⟩ :: L23_1) T L (rdy h) K := rfl
def L23_3 : List AStep := ⟨.faddr 0 (.t 2), (some 5), none, []⟩ :: ⟨.load 1 false (.t 5), (some 6), none, []⟩ :: L23_2
theorem v23_3 : wpS P L23_3 T L (rdy h) K = wpS P (⟨.faddr 0 (.t 2), (some 5), none, []⟩ :: ⟨.load 1 false (.t 5), (some 6), none, []⟩ :: L23_2) T L (rdy h) K := rfl
def L23_4 : List AStep := [⟨.mov (.t 1), (some 9), none, []⟩, ⟨.bin .lss (.t 9) (.c (.int .i64 0)), (some 10), none, []⟩]
theorem v23_4 : wpS P L23_4 T L (rdy h) K = wpS P ([⟨.mov (.t 1), (some 9), none, []⟩, ⟨.bin .lss (.t 9) (.c (.int .i64 0)), (some 10), none, []⟩]) T L (rdy h) K := rfl
def L23_5 : List AStep := [⟨.mov (.c (.int .i64 (-1))), (some 4), none, []⟩]
theorem v23_5 : wpS P L23_5 T L (rdy h) K = wpS P ([⟨.mov (.c (.int .i64 (-1))), (some 4), none, []⟩]) T L (rdy h) K := rfl
def L23_6 : List AStep := [⟨.mov (.t 14), (some 1), none, []⟩]
theorem v23_6 : wpS P L23_6 T L (rdy h) K = wpS P ([⟨.mov (.t 14), (some 1), none, []⟩]) T L (rdy h) K := rfl
def L23_7 : List AStep := ⟨.mov (.t 1), (some 13), none, []⟩ :: ⟨.call 93 [(.t 12), (.t 13)], (some 14), none, []⟩ :: L23_6
theorem v23_7 : wpS P L23_7 T L (rdy h) K = wpS P (⟨.mov (.t 1), (some 13), none, []⟩ :: ⟨.call 93 [(.t 12), (.t 13)], (some 14), none, []⟩ :: L23_6) T L (rdy h) K := rfl
def L23_8 : List AStep := ⟨.faddr 1 (.t 2), (some 11), none, []⟩ :: ⟨.load 1 false (.t 11), (some 12), none, []⟩ :: L23_7
theorem v23_8 : wpS P L23_8 T L (rdy h) K = wpS P (⟨.faddr 1 (.t 2), (some 11), none, []⟩ :: ⟨.load 1 false (.t 11), (some 12), none, []⟩ :: L23_7) T L (rdy h) K := rfl
def L23_9 : List AStep := [⟨.mov (.t 1), (some 15), none, []⟩, ⟨.bin .lss (.t 15) (.c (.int .i64 0)), (some 16), none, []⟩]
theorem v23_9 : wpS P L23_9 T L (rdy h) K = wpS P ([⟨.mov (.t 1), (some 15), none, []⟩, ⟨.bin .lss (.t 15) (.c (.int .i64 0)), (some 16), none, []⟩]) T L (rdy h) K := rfl
def L23_10 : List AStep := [⟨.mov (.c (.int .i64 (-1))), (some 4), none, []⟩]
theorem v23_10 : wpS P L23_10 T L (rdy h) K = wpS P ([⟨.mov (.c (.int .i64 (-1))), (some 4), none, []⟩]) T L (rdy h) K := rfl
def L23_11 : List AStep := [⟨.mov (.t 1), (some 17), none, []⟩, ⟨.mov (.t 17), (some 4), none, []⟩]
theorem v23_11 : wpS P L23_11 T L (rdy h) K = wpS P ([⟨.mov (.t 1), (some 17), none, []⟩, ⟨.mov (.t 17), (some 4), none, []⟩]) T L (rdy h) K := rfl
def C23_0 : ACode := .seq (.reg L23_5) .ret
theorem u23_0 : wpC P C23_0 T L (rdy h) Q = wpC P (.seq (.reg L23_5) .ret) T L (rdy h) Q := rfl
def C23_1 : ACode := .cond (.t 10) C23_0 .skip
theorem u23_1 : wpC P C23_1 T L (rdy h) Q = wpC P (.cond (.t 10) C23_0 .skip) T L (rdy h) Q := rfl
def C23_2 : ACode := .seq (.reg L23_4) C23_1
theorem u23_2 : wpC P C23_2 T L (rdy h) Q = wpC P (.seq (.reg L23_4) C23_1) T L (rdy h) Q := rfl
def C23_3 : ACode := .seq (.reg L23_10) .ret
theorem u23_3 : wpC P C23_3 T L (rdy h) Q = wpC P (.seq (.reg L23_10) .ret) T L (rdy h) Q := rfl
def C23_4 : ACode := .cond (.t 16) C23_3 .skip
theorem u23_4 : wpC P C23_4 T L (rdy h) Q = wpC P (.cond (.t 16) C23_3 .skip) T L (rdy h) Q := rfl
def C23_5 : ACode := .seq (.reg L23_9) C23_4
theorem u23_5 : wpC P C23_5 T L (rdy h) Q = wpC P (.seq (.reg L23_9) C23_4) T L (rdy h) Q := rfl
def C23_6 : ACode := .seq (.reg L23_11) .ret
theorem u23_6 : wpC P C23_6 T L (rdy h) Q = wpC P (.seq (.reg L23_11) .ret) T L (rdy h) Q := rfl
def C23_7 : ACode := .seq C23_5 C23_6
theorem u23_7 : wpC P C23_7 T L (rdy h) Q = wpC P (.seq C23_5 C23_6) T L (rdy h) Q := rfl
def C23_8 : ACode := .seq (.reg L23_8) C23_7
theorem u23_8 : wpC P C23_8 T L (rdy h) Q = wpC P (.seq (.reg L23_8) C23_7) T L (rdy h) Q := rfl
def C23_9 : ACode := .seq C23_2 C23_8
theorem u23_9 : wpC P C23_9 T L (rdy h) Q = wpC P (.seq C23_2 C23_8) T L (rdy h) Q := rfl
def C23_10 : ACode := .seq (.reg L23_3) C23_9
theorem u23_10 : wpC P C23_10 T L (rdy h) Q = wpC P (.seq (.reg L23_3) C23_9) T L (rdy h) Q := rfl
def C23_11 : ACode := .seq (.reg L23_0) C23_10
theorem u23_11 : wpC P C23_11 T L (rdy h) Q = wpC P (.seq (.reg L23_0) C23_10) T L (rdy h) Q := rfl
def F23 : AFunc := ⟨18, [.tmp 4], C23_11⟩
theorem cF23 : compB Try.prog 23 = some F23 := by kernel_rfl
end
attribute [local go_sem ↓] u23_0 u23_1 u23_2 u23_3 u23_4 u23_5 u23_6 u23_7 u23_8 u23_9 u23_10 u23_11 v23_0 v23_1 v23_2 v23_3 v23_4 v23_5 v23_6 v23_7 v23_8 v23_9 v23_10 v23_11
theorem c_heldFlat (f : Flat) (p n : CV) (k : Int) (h : H) (hf : SlF h p n (mkF k f)) (k1 : 0 ≤ k) (k2 : k ≤ 2 ^ 32) (hn : f.pl.length ≤ 1048576) (hm : f.nl.length ≤ 1048576) :
    bm Try.prog 23 [.agg [p, n], .one (.int .i64 k)] h = some (ii (k + (cellsF f : Nat)), h) := by
  refine bm_eq cF23 ?_
  have e1 := c_heldIntS f.pl.length (.one p) k h hf.pl k1 (by omega) (by omega)
  have e2 := c_heldPairS f.nl.length (.one n) _ h hf.nl (by omega) (by omega) (by omega)
  have e3 : k + ((1 * f.pl.length : Nat) : Int) + ((2 * f.nl.length : Nat) : Int) = k + (cellsF f : Nat) := by unfold cellsF; omega
  rw [e3] at e2
  simp +contextual (maxSteps := 2000000) only [go_sem, Nat.reduceEqDiff, reduceCtorEq, Nat.reduceAdd, Nat.reduceLeDiff, F23, e1, e2, decide_eq_false (show ¬ (k + ((1 * f.pl.length : Nat) : Int) < 0) by omega), decide_eq_false (show ¬ (k + (cellsF f : Nat) < 0) by omega)]
end Go.Proofs.Ytcbnihbilmlokaa.Am
