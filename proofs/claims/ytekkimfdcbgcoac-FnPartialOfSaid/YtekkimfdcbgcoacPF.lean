/- Contracts: partial calls that are called, and small functions of the laws. -/
import Derived.Test.YtekkimfdcbgcoacLQ
import Derived.Test.YtekkimfdcbgcoacPA
import Derived.Test.YtekkimfdcbgcoacB3
import Derived.Test.YtekkimfdcbgcoacPM
namespace Go.Proofs.Ytekkimfdcbgcoac.Am
open Go
attribute [local go_sem] loadL_agg
set_option maxRecDepth 100000
set_option maxHeartbeats 4000000
set_option linter.unusedSimpArgs false
set_option linter.unusedVariables false
attribute [local go_sem ↓] bv_t bv_c ev_t ev_c put_same put_ne put_none kill_at pro_at lb_same lb_ne start_zero start_succ wpC_seq wpC_reg wpC_cond wpC_block wpC_skip wpC_exit wpC_ret thenQ_normal thenQ_exit thenQ_ret inBlk_normal inBlk_exit inBlk_ret wpS_nil wpS_step wpS_again wpS_guard wpO_mov wpO_load wpO_faddr wpO_nilCheck wpO_pick wpO_build wpO_bin wpO_eqb wpO_eqst wpO_eqnil wpO_not wpO_conv wpO_bytesStr wpO_iaddr wpO_idxStr wpO_field wpO_extract wpO_len wpO_lenStr wpO_cap wpO_min wpO_slice wpO_sliceStr wpO_alloc wpO_box wpO_store wpO_call wpO_callv wpO_mkfn wpO_buildSlice wpO_mkslice wpO_append wpO_appz proA_nil proA_cons tmpX_nil tmpX_tmp tmpX_cell doneB_normal doneB_ret agK_cons agK_nil agK_guard agG_tt agG_ff agG_tf agG_ft agG_undef pureB_load results_one results_two results_nil resBs_cons resBs_nil resB_tmp resB_cell
attribute [local go_sem] kill_v kill_lp_ne kill_lp_same pro_v pro_lp_same pro_lp_ne av_v av_lp optB_some optX_some valX_eq ldX_lp ldX_v faX_lp faX_v ncX_lp ncX_ptr ncX_fn boxK_one boxK_agg stL_some stK_lp_one stK_lp_agg stK_v_one stK_v_agg proM_v proM_lp callG_mk callVG_mk callvK_fn fnG_mk ptrsA_nil ptrsA_cons callH_some whenA_true whenA_false guardH_tt guardH_ff guardH_tf guardH_ft guardH_undef agV_one agV_agg lenO_sl lenStrO_str notO_bool pickO_bool convO_int eqbO_bool eqnilO_sl extractO_tup capO_sl minO_int loadL_one loadL_all storeL_eq fillA_nil fillA_one fillA_agg nat_ge neg_ge nat_lt neg_lt buildO bin_add bin_sub bin_mul bin_eql bin_neq bin_lss bin_leq bin_gtr bin_geq str_eql str_neq str_lss str_leq str_gtr str_geq retK_some endK_mk gcK_same gcK_int gcK_bool tupO_one tupO_agg rdy_self ib ii Option.map_none Option.map_some Option.some.injEq exists_eq_left' exists_eq_left ne_eq not_false_eq_true if_true if_false List.map_cons List.map_nil List.getElem?_cons_zero List.getElem?_cons_succ List.length_cons List.length_nil List.take_succ_cons List.take_zero List.take_nil List.drop_succ_cons List.drop_zero List.drop_nil List.cons_append List.nil_append List.append_nil List.set_cons_zero List.set_cons_succ Nat.zero_add forall_const true_and and_true and_self Bool.false_eq_true false_implies true_implies implies_true Bool.not_true Bool.not_false Bool.not_eq_true' Bool.not_eq_false' beq_self_eq_true Bool.bne_true Bool.bne_false
attribute [local go_sem] lenI lenS lenP lenQ lenB lenL lenT encI_0 encS_0 encP_0 encP_1 encQ_0 encQ_1 encQ_2 encQ_3 encB_0 encB_1 encL_0 encL_1 encT_0 encT_1
attribute [local go_sem low] whenA_bool guardH_bool
def FullF (l : List Param) (f g : Flat) : Option Flat := if partOk l f = true then OverFlat f g else none
theorem miniF.full {l : List Param} {f g : Flat} : miniF (orF (FullF l f g)) := by
  unfold FullF
  split
  · exact .over
  · exact .nil
theorem full_nil {l : List Param} {f : Flat} (h : partOk l f = true) : FullF l f ⟨[], []⟩ = some f := by
  unfold FullF
  rw [if_pos h, over_nil (part_fits h).2]
/-! impl.FullFlat -/
def L35_0 : List AStep := [⟨.alloc 29 [(.sl none 0 (some 0)), (.sl none 0 (some 0))], (some 4), none, []⟩, ⟨.mov (.c (.bool false)), (some 5), none, []⟩]
theorem v35_0 : VS L35_0.eq_1 := rfl
def L35_1 : List AStep := ⟨.box 31 (.t 0), (some 2), none, []⟩ :: ⟨.box 29 (.t 1), (some 3), none, []⟩ :: L35_0
theorem v35_1 : VS L35_1.eq_1 := rfl
def L35_2 : List AStep := [⟨.not (.t 7), (some 8), none, []⟩]
theorem v35_2 : VS L35_2.eq_1 := rfl
def L35_3 : List AStep := ⟨.load 3 true (.t 2), (some 6), none, []⟩ :: ⟨.call 13 [(.t 6)], (some 7), none, []⟩ :: L35_2
theorem v35_3 : VS L35_3.eq_1 := rfl
def L35_4 : List AStep := [⟨.mov (.c (.bool false)), (some 5), none, []⟩]
theorem v35_4 : VS L35_4.eq_1 := rfl
def L35_5 : List AStep := ⟨.build [(.sl none 0 (some 0)), (.sl none 0 (some 0))] [], (some 9), none, []⟩ :: ⟨.store 2 (.t 4) (.t 9), none, none, []⟩ :: L35_4
theorem v35_5 : VS L35_5.eq_1 := rfl
def L35_6 : List AStep := [⟨.store 2 (.t 4) (.t 14), none, none, []⟩, ⟨.mov (.t 15), (some 5), none, []⟩]
theorem v35_6 : VS L35_6.eq_1 := rfl
def L35_7 : List AStep := ⟨.extract (.t 13) 0, (some 14), none, []⟩ :: ⟨.extract (.t 13) 1, (some 15), none, []⟩ :: L35_6
theorem v35_7 : VS L35_7.eq_1 := rfl
def L35_8 : List AStep := ⟨.load 2 true (.t 3), (some 12), none, []⟩ :: ⟨.call 38 [(.t 11), (.t 12)], (some 13), none, []⟩ :: L35_7
theorem v35_8 : VS L35_8.eq_1 := rfl
def L35_9 : List AStep := ⟨.faddr 1 (.t 2), (some 10), none, []⟩ :: ⟨.load 2 true (.t 10), (some 11), none, []⟩ :: L35_8
theorem v35_9 : VS L35_9.eq_1 := rfl
def C35_0 : ACode := .seq (.reg L35_5) .ret
theorem u35_0 : VC C35_0.eq_1 := rfl
def C35_1 : ACode := .cond (.t 8) C35_0 .skip
theorem u35_1 : VC C35_1.eq_1 := rfl
def C35_2 : ACode := .seq (.reg L35_3) C35_1
theorem u35_2 : VC C35_2.eq_1 := rfl
def C35_3 : ACode := .seq (.reg L35_9) .ret
theorem u35_3 : VC C35_3.eq_1 := rfl
def C35_4 : ACode := .seq C35_2 C35_3
theorem u35_4 : VC C35_4.eq_1 := rfl
def C35_5 : ACode := .seq (.reg L35_1) C35_4
theorem u35_5 : VC C35_5.eq_1 := rfl
def F35 : AFunc := ⟨16, [.cell 4 2 true, .tmp 5], C35_5⟩
theorem cF35 : compB Try.prog 35 = some F35 := by kernel_rfl
attribute [local go_sem ↓] u35_0 u35_1 u35_2 u35_3 u35_4 u35_5 v35_0 v35_1 v35_2 v35_3 v35_4 v35_5 v35_6 v35_7 v35_8 v35_9
theorem k_iFullFlat (x : Part) (g : Flat) (q p n c d : CV) (h : H) (a : SlD h q p n x) (hg : SlF h c d g) (m : miniD x) (mg : miniF g) :
    callK (bm Try.prog 35 [.agg [q, p, n], .agg [c, d]] h) fun r h' => Grow h h' ∧ ∃ p' n', r = .tup [.agg [p', n'], .one (.bool (FullF x.sig x.flat g).isSome)] ∧ NwF h h' p' n' (orF (FullF x.sig x.flat g)) := by
  refine bm_of cF35 ?_
  have ev := k_iValidPartial x q p n h a m
  unfold FullF
  cases b : partOk x.sig x.flat with
  | false =>
    simp +contextual (maxSteps := 2000000) only [go_sem, Nat.reduceEqDiff, reduceCtorEq, Nat.reduceAdd, Nat.reduceLeDiff, F35, ev, b]
    exact ⟨Grow.refl h, _, _, rfl, .nil⟩
  | true =>
    simp +contextual (maxSteps := 2000000) only [go_sem, Nat.reduceEqDiff, reduceCtorEq, Nat.reduceAdd, Nat.reduceLeDiff, F35, ev, b]
    refine wp_call (k_iOverFlat x.flat g p n c d h a.f hg m.f mg) ?_
    rintro r h1 ⟨g1, p', n', rfl, y⟩
    simp +contextual (maxSteps := 2000000) only [go_sem, Nat.reduceEqDiff, reduceCtorEq, Nat.reduceAdd, Nat.reduceLeDiff]
    exact gcK_of ⟨g1, _, _, rfl, y⟩ (fun hs _ => ⟨Grow.refl h, _, _, rfl, y.scalar (by simpa [AV.scalar, AV.scalars, CV.scalar] using hs) h⟩)
/-! impl.CallPartial -/
def L21_0 : List AStep := [⟨.alloc 39 [(.sl none 0 (some 0))], (some 4), none, []⟩, ⟨.mov (.c (.bool false)), (some 5), none, []⟩]
theorem v21_0 : VS L21_0.eq_1 := rfl
def L21_1 : List AStep := ⟨.box 31 (.t 0), (some 2), none, []⟩ :: ⟨.box 29 (.t 1), (some 3), none, []⟩ :: L21_0
theorem v21_1 : VS L21_1.eq_1 := rfl
def L21_2 : List AStep := [⟨.mov (.t 13), (some 7), none, []⟩]
theorem v21_2 : VS L21_2.eq_1 := rfl
def L21_3 : List AStep := ⟨.alloc 29 [(.sl none 0 (some 0)), (.sl none 0 (some 0))], (some 6), none, []⟩ :: ⟨.store 2 (.t 6) (.t 12), none, none, []⟩ :: L21_2
theorem v21_3 : VS L21_3.eq_1 := rfl
def L21_4 : List AStep := ⟨.extract (.t 8) 0, (some 12), none, []⟩ :: ⟨.extract (.t 8) 1, (some 13), none, []⟩ :: L21_3
theorem v21_4 : VS L21_4.eq_1 := rfl
def L21_5 : List AStep := ⟨.call 35 [(.t 9), (.t 10)], (some 11), none, []⟩ :: ⟨.mov (.t 11), (some 8), none, []⟩ :: L21_4
theorem v21_5 : VS L21_5.eq_1 := rfl
def L21_6 : List AStep := ⟨.load 3 true (.t 2), (some 9), none, []⟩ :: ⟨.load 2 true (.t 3), (some 10), none, []⟩ :: L21_5
theorem v21_6 : VS L21_6.eq_1 := rfl
def L21_7 : List AStep := [⟨.mov (.t 7), (some 14), none, []⟩, ⟨.not (.t 14), (some 15), none, []⟩]
theorem v21_7 : VS L21_7.eq_1 := rfl
def L21_8 : List AStep := [⟨.mov (.c (.bool false)), (some 5), none, []⟩]
theorem v21_8 : VS L21_8.eq_1 := rfl
def L21_9 : List AStep := ⟨.build [(.sl none 0 (some 0))] [], (some 16), none, []⟩ :: ⟨.store 1 (.t 4) (.t 16), none, none, []⟩ :: L21_8
theorem v21_9 : VS L21_9.eq_1 := rfl
def L21_10 : List AStep := [⟨.store 1 (.t 4) (.t 21), none, none, []⟩, ⟨.mov (.t 22), (some 5), none, []⟩]
theorem v21_10 : VS L21_10.eq_1 := rfl
def L21_11 : List AStep := ⟨.extract (.t 20) 0, (some 21), none, []⟩ :: ⟨.extract (.t 20) 1, (some 22), none, []⟩ :: L21_10
theorem v21_11 : VS L21_11.eq_1 := rfl
def L21_12 : List AStep := ⟨.load 2 true (.t 6), (some 19), none, []⟩ :: ⟨.call 32 [(.t 18), (.t 19)], (some 20), none, []⟩ :: L21_11
theorem v21_12 : VS L21_12.eq_1 := rfl
def L21_13 : List AStep := ⟨.faddr 0 (.t 2), (some 17), none, []⟩ :: ⟨.load 1 true (.t 17), (some 18), none, []⟩ :: L21_12
theorem v21_13 : VS L21_13.eq_1 := rfl
def C21_0 : ACode := .seq (.reg L21_9) .ret
theorem u21_0 : VC C21_0.eq_1 := rfl
def C21_1 : ACode := .cond (.t 15) C21_0 .skip
theorem u21_1 : VC C21_1.eq_1 := rfl
def C21_2 : ACode := .seq (.reg L21_7) C21_1
theorem u21_2 : VC C21_2.eq_1 := rfl
def C21_3 : ACode := .seq (.reg L21_13) .ret
theorem u21_3 : VC C21_3.eq_1 := rfl
def C21_4 : ACode := .seq C21_2 C21_3
theorem u21_4 : VC C21_4.eq_1 := rfl
def C21_5 : ACode := .seq (.reg L21_6) C21_4
theorem u21_5 : VC C21_5.eq_1 := rfl
def C21_6 : ACode := .seq (.reg L21_1) C21_5
theorem u21_6 : VC C21_6.eq_1 := rfl
def F21 : AFunc := ⟨23, [.cell 4 1 true, .tmp 5], C21_6⟩
theorem cF21 : compB Try.prog 21 = some F21 := by kernel_rfl
attribute [local go_sem ↓] u21_0 u21_1 u21_2 u21_3 u21_4 u21_5 u21_6 v21_0 v21_1 v21_2 v21_3 v21_4 v21_5 v21_6 v21_7 v21_8 v21_9 v21_10 v21_11 v21_12 v21_13
theorem k_iCallPartial (x : Part) (g w : Flat) (q p n c d : CV) (h : H) (a : SlD h q p n x) (hg : SlF h c d g) (m : miniD x) (mg : miniF g) (e : FullF x.sig x.flat g = some w) :
    callK (bm Try.prog 21 [.agg [q, p, n], .agg [c, d]] h) fun r h' => Grow h h' ∧ ∃ v rs, r = .tup [.agg [v], .one (.bool (acceptsF x.sig w))] ∧ NwY h h' v rs (bindF x.sig w) := by
  refine bm_of cF21 ?_
  simp +contextual (maxSteps := 2000000) only [go_sem, Nat.reduceEqDiff, reduceCtorEq, Nat.reduceAdd, Nat.reduceLeDiff, F21]
  refine wp_call (k_iFullFlat x g q p n c d h a hg m mg) ?_
  rintro r h1 ⟨g1, p', n', rfl, y⟩
  have mw : miniF (orF (FullF x.sig x.flat g)) := .full
  rw [e] at y mw
  rw [e]
  simp +contextual (maxSteps := 2000000) only [go_sem, Nat.reduceEqDiff, reduceCtorEq, Nat.reduceAdd, Nat.reduceLeDiff, Option.isSome_some]
  refine wp_call (k_iBind x.sig w q p' n' h1 (a.g.grow g1) y.sl m.g mw) ?_
  rintro r h2 ⟨g2, v, rs, rfl, z⟩
  have z := z.from g1.n
  simp +contextual (maxSteps := 2000000) only [go_sem, Nat.reduceEqDiff, reduceCtorEq, Nat.reduceAdd, Nat.reduceLeDiff]
  exact gcK_of ⟨g1.trans g2, v, rs, rfl, z⟩ (fun hs _ => ⟨Grow.refl h, v, rs, rfl, z.scalar (by simp [AV.scalar, AV.scalars] at hs; exact hs.1) h⟩)
/-! laws.equalPartial -/
def L31_0 : List AStep := [⟨.mov (.c (.bool false)), (some 4), none, []⟩]
theorem v31_0 : VS L31_0.eq_1 := rfl
def L31_1 : List AStep := ⟨.box 31 (.t 0), (some 2), none, []⟩ :: ⟨.box 31 (.t 1), (some 3), none, []⟩ :: L31_0
theorem v31_1 : VS L31_1.eq_1 := rfl
def L31_2 : List AStep := [⟨.mov (.t 16), (some 4), none, []⟩]
theorem v31_2 : VS L31_2.eq_1 := rfl
def L31_3 : List AStep := ⟨.call 37 [(.t 12), (.t 14)], (some 15), (some (10, true)), []⟩ :: ⟨.pick (.t 10) (.t 15) (.c (.bool false)), (some 16), none, []⟩ :: L31_2
theorem v31_3 : VS L31_3.eq_1 := rfl
def L31_4 : List AStep := ⟨.faddr 1 (.t 3), (some 13), (some (10, true)), []⟩ :: ⟨.load 2 true (.t 13), (some 14), (some (10, true)), []⟩ :: L31_3
theorem v31_4 : VS L31_4.eq_1 := rfl
def L31_5 : List AStep := ⟨.faddr 1 (.t 2), (some 11), (some (10, true)), []⟩ :: ⟨.load 2 true (.t 11), (some 12), (some (10, true)), []⟩ :: L31_4
theorem v31_5 : VS L31_5.eq_1 := rfl
def L31_6 : List AStep := ⟨.call 25 [(.t 6), (.t 8)], (some 9), none, []⟩ :: ⟨.mov (.t 9), (some 10), none, []⟩ :: L31_5
theorem v31_6 : VS L31_6.eq_1 := rfl
def L31_7 : List AStep := ⟨.faddr 0 (.t 3), (some 7), none, []⟩ :: ⟨.load 1 true (.t 7), (some 8), none, []⟩ :: L31_6
theorem v31_7 : VS L31_7.eq_1 := rfl
def L31_8 : List AStep := ⟨.faddr 0 (.t 2), (some 5), none, []⟩ :: ⟨.load 1 true (.t 5), (some 6), none, []⟩ :: L31_7
theorem v31_8 : VS L31_8.eq_1 := rfl
def C31_0 : ACode := .seq (.reg L31_8) .ret
theorem u31_0 : VC C31_0.eq_1 := rfl
def C31_1 : ACode := .seq (.reg L31_1) C31_0
theorem u31_1 : VC C31_1.eq_1 := rfl
def F31 : AFunc := ⟨17, [.tmp 4], C31_1⟩
theorem cF31 : compB Try.prog 31 = some F31 := by kernel_rfl
attribute [local go_sem ↓] u31_0 u31_1 v31_0 v31_1 v31_2 v31_3 v31_4 v31_5 v31_6 v31_7 v31_8
theorem c_equalPartial (x : Part) (q p n q2 p2 n2 : CV) (h : H) (a : SlD h q p n x) (b : SlD h q2 p2 n2 x) (m : miniD x) : bm Try.prog 31 [.agg [q, p, n], .agg [q2, p2, n2]] h = some (ib true, h) := by
  refine bm_eq cF31 ?_
  have e1 := c_equalSignature x.sig x.sig q q2 h a.g.out b.g.out (Nat.le_trans m.g.len (by decide))
  have e2 := c_equalFlat x.flat x.flat p n p2 n2 h a.f.pl a.f.nl b.f.pl b.f.nl (Nat.le_trans m.f.pl (by decide)) (Nat.le_trans m.f.nl (by decide))
  rw [decide_eq_true rfl] at e1 e2
  simp +contextual (maxSteps := 2000000) only [go_sem, Nat.reduceEqDiff, reduceCtorEq, Nat.reduceAdd, Nat.reduceLeDiff, F31, e1, e2]
theorem miniZ.all {q : Param → Bool} {l : List Param} {f : Flat} : (freeF q l f).length ≤ big := Nat.le_trans miniZ.free.len (by decide)
end Go.Proofs.Ytekkimfdcbgcoac.Am
