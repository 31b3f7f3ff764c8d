/- Contracts: partial calls that are called, and small functions of the laws. -/
import Derived.Test.YtekkimfdcbgcoacLQ
import Derived.Test.YtekkimfdcbgcoacPA
import Derived.Test.YtekkimfdcbgcoacB3
import Derived.Test.YtekkimfdcbgcoacPM
namespace Go.Proofs.Ytekkimfdcbgcoac.Am
open Go
attribute [local go_sem] loadL_agg
set_option maxRecDepth 100000
set_option maxHeartbeats 4000000
set_option linter.unusedSimpArgs false
set_option linter.unusedVariables false
attribute [local go_sem ↓] bv_t bv_c ev_t ev_c put_same put_ne put_none kill_at pro_at lb_same lb_ne start_zero start_succ wpC_seq wpC_reg wpC_cond wpC_block wpC_skip wpC_exit wpC_ret thenQ_normal thenQ_exit thenQ_ret inBlk_normal inBlk_exit inBlk_ret wpS_nil wpS_step wpS_again wpS_guard wpO_mov wpO_load wpO_faddr wpO_nilCheck wpO_pick wpO_build wpO_bin wpO_eqb wpO_eqst wpO_eqnil wpO_not wpO_conv wpO_bytesStr wpO_iaddr wpO_idxStr wpO_field wpO_extract wpO_len wpO_lenStr wpO_cap wpO_min wpO_slice wpO_sliceStr wpO_alloc wpO_box wpO_store wpO_call wpO_callv wpO_mkfn wpO_buildSlice wpO_mkslice wpO_append wpO_appz proA_nil proA_cons tmpX_nil tmpX_tmp tmpX_cell doneB_normal doneB_ret agK_cons agK_nil agK_guard agG_tt agG_ff agG_tf agG_ft agG_undef pureB_load results_one results_two results_nil resBs_cons resBs_nil resB_tmp resB_cell
attribute [local go_sem] kill_v kill_lp_ne kill_lp_same pro_v pro_lp_same pro_lp_ne av_v av_lp optB_some optX_some valX_eq ldX_lp ldX_v faX_lp faX_v ncX_lp ncX_ptr ncX_fn boxK_one boxK_agg stL_some stK_lp_one stK_lp_agg stK_v_one stK_v_agg proM_v proM_lp callG_mk callVG_mk callvK_fn fnG_mk ptrsA_nil ptrsA_cons callH_some whenA_true whenA_false guardH_tt guardH_ff guardH_tf guardH_ft guardH_undef agV_one agV_agg lenO_sl lenStrO_str notO_bool pickO_bool convO_int eqbO_bool eqnilO_sl extractO_tup capO_sl minO_int loadL_one loadL_all storeL_eq fillA_nil fillA_one fillA_agg nat_ge neg_ge nat_lt neg_lt buildO bin_add bin_sub bin_mul bin_eql bin_neq bin_lss bin_leq bin_gtr bin_geq str_eql str_neq str_lss str_leq str_gtr str_geq retK_some endK_mk gcK_same gcK_int gcK_bool tupO_one tupO_agg rdy_self ib ii Option.map_none Option.map_some Option.some.injEq exists_eq_left' exists_eq_left ne_eq not_false_eq_true if_true if_false List.map_cons List.map_nil List.getElem?_cons_zero List.getElem?_cons_succ List.length_cons List.length_nil List.take_succ_cons List.take_zero List.take_nil List.drop_succ_cons List.drop_zero List.drop_nil List.cons_append List.nil_append List.append_nil List.set_cons_zero List.set_cons_succ Nat.zero_add forall_const true_and and_true and_self Bool.false_eq_true false_implies true_implies implies_true Bool.not_true Bool.not_false Bool.not_eq_true' Bool.not_eq_false' beq_self_eq_true Bool.bne_true Bool.bne_false
attribute [local go_sem] lenI lenS lenP lenQ lenB lenL lenT encI_0 encS_0 encP_0 encP_1 encQ_0 encQ_1 encQ_2 encQ_3 encB_0 encB_1 encL_0 encL_1 encT_0 encT_1
attribute [local go_sem low] whenA_bool guardH_bool
def FullF (l : List Param) (f g : Flat) : Option Flat := if partOk l f = true then OverFlat f g else none
theorem miniF.full {l : List Param} {f g : Flat} : miniF (orF (FullF l f g)) := by
  unfold FullF
  split
  · exact .over
  · exact .nil
theorem full_nil {l : List Param} {f : Flat} (h : partOk l f = true) : FullF l f ⟨[], []⟩ = some f := by
  unfold FullF
  rw [if_pos h, over_nil (part_fits h).2]
/-! impl.FullFlat -/
def L35_0 : List AStep := [⟨.alloc 29 [(.sl none 0 (some 0)), (.sl none 0 (some 0))], (some 4), none, []⟩, ⟨.mov (.c (.bool false)), (some 5), none, []⟩]
theorem v35_0 : VS L35_0.eq_1 := rfl
def L35_1 : List AStep := ⟨.box 31 (.t 0), (some 2), none, []⟩ :: ⟨.box 29 (.t 1), (some 3), none, []⟩ :: L35_0
theorem v35_1 : VS L35_1.eq_1 := rfl
def L35_2 : List AStep := [⟨.not (.t 7), (some 8), none, []⟩]
theorem v35_2 : VS L35_2.eq_1 := rfl
def L35_3 : List AStep := ⟨.load 3 true (.t 2), (some 6), none, []⟩ :: ⟨.call 13 [(.t 6)], (some 7), none, []⟩ :: L35_2
theorem v35_3 : VS L35_3.eq_1 := rfl
def L35_4 : List AStep := [⟨.mov (.c (.bool false)), (some 5), none, []⟩]
theorem v35_4 : VS L35_4.eq_1 := rfl
def L35_5 : List AStep := ⟨.build [(.sl none 0 (some 0)), (.sl none 0 (some 0))] [], (some 9), none, []⟩ :: ⟨.store 2 (.t 4) (.t 9), none, none, []⟩ :: L35_4
theorem v35_5 : VS L35_5.eq_1 := rfl
def L35_6 : List AStep := [⟨.store 2 (.t 4) (.t 14), none, none, []⟩, ⟨.mov (.t 15), (some 5), none, []⟩]
theorem v35_6 : VS L35_6.eq_1 := rfl
def L35_7 : List AStep := ⟨.extract (.t 13) 0, (some 14), none, []⟩ :: ⟨.extract (.t 13) 1, (some 15), none, []⟩ :: L35_6
theorem v35_7 : VS L35_7.eq_1 := rfl
def L35_8 : List AStep := ⟨.load 2 true (.t 3), (some 12), none, []⟩ :: ⟨.call 38 [(.t 11), (.t 12)], (some 13), none, []⟩ :: L35_7
theorem v35_8 : VS L35_8.eq_1 := rfl
def L35_9 : List AStep := ⟨.faddr 1 (.t 2), (some 10), none, []⟩ :: ⟨.load 2 true (.t 10), (some 11), none, []⟩ :: L35_8
theorem v35_9 : VS L35_9.eq_1 := rfl
def C35_0 : ACode := .seq (.reg L35_5) .ret
theorem u35_0 : VC C35_0.eq_1 := rfl
def C35_1 : ACode := .cond (.t 8) C35_0 .skip
theorem u35_1 : VC C35_1.eq_1 := rfl
def C35_2 : ACode := .seq (.reg L35_3) C35_1
theorem u35_2 : VC C35_2.eq_1 := rfl
def C35_3 : ACode := .seq (.reg L35_9) .ret
theorem u35_3 : VC C35_3.eq_1 := rfl
def C35_4 : ACode := .seq C35_2 C35_3
theorem u35_4 : VC C35_4.eq_1 := rfl
def C35_5 : ACode := .seq (.reg L35_1) C35_4
theorem u35_5 : VC C35_5.eq_1 := rfl
def F35 : AFunc := ⟨16, [.cell 4 2 true, .tmp 5], C35_5⟩
theorem cF35 : compB Try.prog 35 = some F35 := by kernel_rfl
attribute [local go_sem ↓] u35_0 u35_1 u35_2 u35_3 u35_4 u35_5 v35_0 v35_1 v35_2 v35_3 v35_4 v35_5 v35_6 v35_7 v35_8 v35_9
theorem k_iFullFlat (x : Part) (g : Flat) (q p n c d : CV) (h : H) (a : SlD h q p n x) (hg : SlF h c d g) (m : miniD x) (mg : miniF g) :
    callK (bm Try.prog 35 [.agg [q, p, n], .agg [c, d]] h) fun r h' => Grow h h' ∧ ∃ p' n', r = .tup [.agg [p', n'], .one (.bool (FullF x.sig x.flat g).isSome)] ∧ NwF h h' p' n' (orF (FullF x.sig x.flat g)) := by
  refine bm_of cF35 ?_
  have ev := k_iValidPartial x q p n h a m
  unfold FullF
  cases b : partOk x.sig x.flat with
  | false =>
    simp +contextual (maxSteps := 2000000) only [go_sem, Nat.reduceEqDiff, reduceCtorEq, Nat.reduceAdd, Nat.reduceLeDiff, F35, ev, b]
    exact ⟨Grow.refl h, _, _, rfl, .nil⟩
  | true =>
    simp +contextual (maxSteps := 2000000) only [go_sem, Nat.reduceEqDiff, reduceCtorEq, Nat.reduceAdd, Nat.reduceLeDiff, F35, ev, b]
    refine wp_call (k_iOverFlat x.flat g p n c d h a.f hg m.f mg) ?_
    rintro r h1 ⟨g1, p', n', rfl, y⟩
    simp +contextual (maxSteps := 2000000) only [go_sem, Nat.reduceEqDiff, reduceCtorEq, Nat.reduceAdd, Nat.reduceLeDiff]
    exact gcK_of ⟨g1, _, _, rfl, y⟩ (fun hs _ => ⟨Grow.refl h, _, _, rfl, y.scalar (by simpa [AV.scalar, AV.scalars, CV.scalar] using hs) h⟩)
/-! spec.FullFlat -/
def L36_0 : List AStep := [⟨.alloc 29 [(.sl none 0 (some 0)), (.sl none 0 (some 0))], (some 4), none, []⟩, ⟨.mov (.c (.bool false)), (some 5), none, []⟩]
theorem v36_0 : VS L36_0.eq_1 := rfl
def L36_1 : List AStep := ⟨.box 31 (.t 0), (some 2), none, []⟩ :: ⟨.box 29 (.t 1), (some 3), none, []⟩ :: L36_0
theorem v36_1 : VS L36_1.eq_1 := rfl
def L36_2 : List AStep := [⟨.not (.t 11), (some 12), (some (9, false)), []⟩, ⟨.pick (.t 9) (.c (.bool true)) (.t 12), (some 13), none, []⟩]
theorem v36_2 : VS L36_2.eq_1 := rfl
def L36_3 : List AStep := ⟨.load 2 true (.t 3), (some 10), (some (9, false)), []⟩ :: ⟨.call 78 [(.t 10)], (some 11), (some (9, false)), []⟩ :: L36_2
theorem v36_3 : VS L36_3.eq_1 := rfl
def L36_4 : List AStep := ⟨.not (.t 7), (some 8), none, []⟩ :: ⟨.mov (.t 8), (some 9), none, []⟩ :: L36_3
theorem v36_4 : VS L36_4.eq_1 := rfl
def L36_5 : List AStep := ⟨.load 3 true (.t 2), (some 6), none, []⟩ :: ⟨.call 51 [(.t 6)], (some 7), none, []⟩ :: L36_4
theorem v36_5 : VS L36_5.eq_1 := rfl
def L36_6 : List AStep := [⟨.mov (.c (.bool false)), (some 5), none, []⟩]
theorem v36_6 : VS L36_6.eq_1 := rfl
def L36_7 : List AStep := ⟨.build [(.sl none 0 (some 0)), (.sl none 0 (some 0))] [], (some 14), none, []⟩ :: ⟨.store 2 (.t 4) (.t 14), none, none, []⟩ :: L36_6
theorem v36_7 : VS L36_7.eq_1 := rfl
def L36_8 : List AStep := [⟨.mov (.t 21), (some 5), none, []⟩]
theorem v36_8 : VS L36_8.eq_1 := rfl
def L36_9 : List AStep := ⟨.extract (.t 19) 1, (some 21), none, []⟩ :: ⟨.store 2 (.t 4) (.t 20), none, none, []⟩ :: L36_8
theorem v36_9 : VS L36_9.eq_1 := rfl
def L36_10 : List AStep := ⟨.call 79 [(.t 18)], (some 19), none, []⟩ :: ⟨.extract (.t 19) 0, (some 20), none, []⟩ :: L36_9
theorem v36_10 : VS L36_10.eq_1 := rfl
def L36_11 : List AStep := ⟨.load 2 true (.t 3), (some 17), none, []⟩ :: ⟨.call 80 [(.t 16), (.t 17)], (some 18), none, []⟩ :: L36_10
theorem v36_11 : VS L36_11.eq_1 := rfl
def L36_12 : List AStep := ⟨.faddr 1 (.t 2), (some 15), none, []⟩ :: ⟨.load 2 true (.t 15), (some 16), none, []⟩ :: L36_11
theorem v36_12 : VS L36_12.eq_1 := rfl
def C36_0 : ACode := .seq (.reg L36_7) .ret
theorem u36_0 : VC C36_0.eq_1 := rfl
def C36_1 : ACode := .cond (.t 13) C36_0 .skip
theorem u36_1 : VC C36_1.eq_1 := rfl
def C36_2 : ACode := .seq (.reg L36_5) C36_1
theorem u36_2 : VC C36_2.eq_1 := rfl
def C36_3 : ACode := .seq (.reg L36_12) .ret
theorem u36_3 : VC C36_3.eq_1 := rfl
def C36_4 : ACode := .seq C36_2 C36_3
theorem u36_4 : VC C36_4.eq_1 := rfl
def C36_5 : ACode := .seq (.reg L36_1) C36_4
theorem u36_5 : VC C36_5.eq_1 := rfl
def F36 : AFunc := ⟨22, [.cell 4 2 true, .tmp 5], C36_5⟩
theorem cF36 : compB Try.prog 36 = some F36 := by kernel_rfl
attribute [local go_sem ↓] u36_0 u36_1 u36_2 u36_3 u36_4 u36_5 v36_0 v36_1 v36_2 v36_3 v36_4 v36_5 v36_6 v36_7 v36_8 v36_9 v36_10 v36_11 v36_12
theorem k_sFullFlat (x : Part) (g : Flat) (q p n c d : CV) (h : H) (a : SlD h q p n x) (hg : SlF h c d g) (m : miniD x) (mg : miniF g) :
    callK (bm Try.prog 36 [.agg [q, p, n], .agg [c, d]] h) fun r h' => Grow h h' ∧ ∃ p' n', r = .tup [.agg [p', n'], .one (.bool (FullF x.sig x.flat g).isSome)] ∧ NwF h h' p' n' (orF (FullF x.sig x.flat g)) := by
  refine bm_of cF36 ?_
  have ev := c_validPartial x.sig x.flat q p n h a.g a.f m.g m.f
  have ef := c_validFlat g c d h hg.pl hg.nl mg.sm
  unfold FullF
  cases b : partOk x.sig x.flat with
  | false =>
    simp +contextual (maxSteps := 2000000) only [go_sem, Nat.reduceEqDiff, reduceCtorEq, Nat.reduceAdd, Nat.reduceLeDiff, F36, ev, b]
    exact ⟨Grow.refl h, _, _, rfl, .nil⟩
  | true =>
  have b1 := (part_fits b).2
  unfold OverFlat
  cases b2 : okFlat g with
  | false =>
    simp +contextual (maxSteps := 2000000) only [go_sem, Nat.reduceEqDiff, reduceCtorEq, Nat.reduceAdd, Nat.reduceLeDiff, F36, ev, b, ef, b2, and_false]
    exact ⟨Grow.refl h, _, _, rfl, .nil⟩
  | true =>
    have k1 := okFlat_sm b1
    have k2 := okFlat_sm b2
    simp +contextual (maxSteps := 2000000) only [go_sem, Nat.reduceEqDiff, reduceCtorEq, Nat.reduceAdd, Nat.reduceLeDiff, F36, ev, b, ef, b2, b1, and_self]
    refine wp_call (c_over x.flat g p n c d h a.f hg m.f.sm mg.sm (by unfold big; omega) (by unfold big; omega)) ?_
    rintro r h3 ⟨g3, p3, n3, rfl, f3⟩
    have hsm : smF (overF x.flat g) := ⟨by simp [overF]; unfold big; omega, by
      have := putAll_sm (i := g.nl.length) (l := x.flat.nl) (m := g.nl) (by unfold big; omega) m.f.sm.nl.2 mg.sm.nl.2
      rwa [List.take_length] at this⟩
    cases h4 : okFlat (overF x.flat g) with
    | false =>
      have e : okF (overF x.flat g) = none := by unfold Am.okF; rw [if_neg (by simp [h4])]
      simp +contextual (maxSteps := 2000000) only [go_sem, Nat.reduceEqDiff, reduceCtorEq, Nat.reduceAdd, Nat.reduceLeDiff, c_checkedFlat _ _ _ _ f3.sl hsm, h4]
      rw [e]
      exact gcK_of ⟨g3, _, _, rfl, .nil⟩ (fun _ _ => ⟨Grow.refl h, _, _, rfl, .nil⟩)
    | true =>
      have e : okF (overF x.flat g) = some (overF x.flat g) := by unfold Am.okF; rw [if_pos h4]
      simp +contextual (maxSteps := 2000000) only [go_sem, Nat.reduceEqDiff, reduceCtorEq, Nat.reduceAdd, Nat.reduceLeDiff, c_checkedFlat _ _ _ _ f3.sl hsm, h4]
      rw [e]
      exact gcK_of ⟨g3, _, _, rfl, f3⟩ (fun hs _ => ⟨Grow.refl h, _, _, rfl, f3.scalar (by simpa [AV.scalar, AV.scalars, CV.scalar] using hs) h⟩)
theorem miniZ.all {q : Param → Bool} {l : List Param} {f : Flat} : (freeF q l f).length ≤ big := Nat.le_trans miniZ.free.len (by decide)
end Go.Proofs.Ytekkimfdcbgcoac.Am
