/- Contracts: partial calls that are drawn. -/
import Derived.Test.YtekkimfdcbgcoacDT
import Derived.Test.YtekkimfdcbgcoacBY
import Derived.Test.YtekkimfdcbgcoacK2
namespace Go.Proofs.Ytekkimfdcbgcoac.Am
open Go
attribute [local go_sem] loadL_agg
set_option maxRecDepth 100000
set_option maxHeartbeats 4000000
set_option linter.unusedSimpArgs false
set_option linter.unusedVariables false
attribute [local go_sem ↓] bv_t bv_c ev_t ev_c put_same put_ne put_none kill_at pro_at lb_same lb_ne start_zero start_succ wpC_seq wpC_reg wpC_cond wpC_block wpC_skip wpC_exit wpC_ret thenQ_normal thenQ_exit thenQ_ret inBlk_normal inBlk_exit inBlk_ret wpS_nil wpS_step wpS_again wpS_guard wpO_mov wpO_load wpO_faddr wpO_nilCheck wpO_pick wpO_build wpO_bin wpO_eqb wpO_eqst wpO_eqnil wpO_not wpO_conv wpO_bytesStr wpO_iaddr wpO_idxStr wpO_field wpO_extract wpO_len wpO_lenStr wpO_cap wpO_min wpO_slice wpO_sliceStr wpO_alloc wpO_box wpO_store wpO_call wpO_callv wpO_mkfn wpO_buildSlice wpO_mkslice wpO_append wpO_appz proA_nil proA_cons tmpX_nil tmpX_tmp tmpX_cell doneB_normal doneB_ret agK_cons agK_nil agK_guard agG_tt agG_ff agG_tf agG_ft agG_undef pureB_load results_one results_two results_nil resBs_cons resBs_nil resB_tmp resB_cell
attribute [local go_sem] kill_v kill_lp_ne kill_lp_same pro_v pro_lp_same pro_lp_ne av_v av_lp optB_some optX_some valX_eq ldX_lp ldX_v faX_lp faX_v ncX_lp ncX_ptr ncX_fn boxK_one boxK_agg stL_some stK_lp_one stK_lp_agg stK_v_one stK_v_agg proM_v proM_lp callG_mk callVG_mk callvK_fn fnG_mk ptrsA_nil ptrsA_cons callH_some whenA_true whenA_false guardH_tt guardH_ff guardH_tf guardH_ft guardH_undef agV_one agV_agg lenO_sl lenStrO_str notO_bool pickO_bool convO_int eqbO_bool eqnilO_sl extractO_tup capO_sl minO_int loadL_one loadL_all storeL_eq fillA_nil fillA_one fillA_agg nat_ge neg_ge nat_lt neg_lt buildO bin_add bin_sub bin_mul bin_eql bin_neq bin_lss bin_leq bin_gtr bin_geq str_eql str_neq str_lss str_leq str_gtr str_geq retK_some endK_mk gcK_same gcK_int gcK_bool tupO_one tupO_agg rdy_self ib ii Option.map_none Option.map_some Option.some.injEq exists_eq_left' exists_eq_left ne_eq not_false_eq_true if_true if_false List.map_cons List.map_nil List.getElem?_cons_zero List.getElem?_cons_succ List.length_cons List.length_nil List.take_succ_cons List.take_zero List.take_nil List.drop_succ_cons List.drop_zero List.drop_nil List.cons_append List.nil_append List.append_nil List.set_cons_zero List.set_cons_succ Nat.zero_add forall_const true_and and_true and_self Bool.false_eq_true false_implies true_implies implies_true Bool.not_true Bool.not_false Bool.not_eq_true' Bool.not_eq_false' beq_self_eq_true Bool.bne_true Bool.bne_false
attribute [local go_sem] lenI lenS lenP lenQ lenB lenL lenT encI_0 encS_0 encP_0 encP_1 encQ_0 encQ_1 encQ_2 encQ_3 encB_0 encB_1 encL_0 encL_1 encT_0 encT_1
attribute [local go_sem low] whenA_bool guardH_bool
/-- A flat call that is read, of a later time. -/
structure FrF (h0 h : H) (x y : CV) (f : Flat) : Prop where
  sl : SlF h x y f
  bx : ∀ j, baseOf (.one x) = some j → h0.n ≤ j
  bY : ∀ j, baseOf (.one y) = some j → h0.n ≤ j
theorem FrF.of {h0 h : H} {x y : CV} {f : Flat} (z : NwF h0 h x y f) : FrF h0 h x y f := ⟨z.sl, fun _ hj => (z.pl.lt hj).2, fun _ hj => (z.nl.lt hj).2⟩
theorem FrF.grow {h0 h h1 : H} {x y : CV} {f : Flat} (z : FrF h0 h x y f) (g : Grow h h1) : FrF h0 h1 x y f := ⟨z.sl.grow g, z.bx, z.bY⟩
theorem FrF.from {h0 h h1 : H} {x y : CV} {f : Flat} (z : FrF h1 h x y f) (g : h0.n ≤ h1.n) : FrF h0 h x y f := ⟨z.sl, fun j hj => Nat.le_trans g (z.bx j hj), fun j hj => Nat.le_trans g (z.bY j hj)⟩
theorem FrF.drew {h0 h h1 : H} {x y : CV} {f : Flat} {b c : Nat} {p : Int} (z : FrF h0 h x y f) (d : Drew b p c h h1) (hb : b < h0.n) : FrF h0 h1 x y f :=
  ⟨⟨z.sl.pl.of_stay d.st fun j hj e => by have := z.bx j hj; simp [bR, baseOf] at e; omega, z.sl.nl.of_stay d.st fun j hj e => by have := z.bY j hj; simp [bR, baseOf] at e; omega⟩, z.bx, z.bY⟩
theorem FrF.nil {h0 h : H} : FrF h0 h (.sl none 0 (some 0)) (.sl none 0 (some 0)) ⟨[], []⟩ := .of .nil
theorem Sl.takeB {α : Type} {enc : α → List CV} {k ty : Nat} {h : H} {v : AV} {l : List α} (hs : Sl enc k ty h v l) {i : Nat} (hi : i ≤ l.length) {kd : IntKind} : ∃ v', cutO ty k h v none (some (.one (.int kd i))) none = some v' ∧ Sl enc k ty h v' (l.take i) ∧ ∀ j, baseOf v' = some j → baseOf v = some j := by
  obtain ⟨v', h1, h2, h3⟩ := hs.cut (lo := 0) (hi := i) (alo := none) (ahi := some (.t 2)) (amx := none) (x := .t 0) (T := fun t => if t = 0 then v else if t = 1 then undefA else if t = 2 then .one (.int kd i) else undefA) rfl (Nat.zero_le _) hi (fun c hc => ⟨c, by
    have : i ≤ c.getD l.length := by cases c with | none => exact hi | some c => exact Nat.le_trans hi hc
    simp only [boundsA, maxA, highA, lowA]
    rw [boundA_at (i := i) (kd := kd) rfl this], by cases c with | none => trivial | some c => exact Nat.le_trans hi hc⟩)
  exact ⟨v', h1, by simpa using h2, h3⟩
/-- Something was drawn, or nothing was done. -/
def Dr0 (b : Nat) (p : Int) (c : Nat) (h h' : H) : Prop := Drew b p c h h' ∨ h' = h
theorem Dr0.ex {b c : Nat} {p : Int} {h h' : H} (d : Dr0 b p c h h') (r : Rd h b p) : Stay (bR b) h h' ∧ ∃ p', p ≤ p' ∧ p' ≤ p + c ∧ Rd h' b p' := by
  rcases d with d | rfl
  · obtain ⟨p1, a, b, c⟩ := d.ex
    exact ⟨d.st, p1, by omega, b, c⟩
  · exact ⟨(Grow.refl _).stay _, p, by omega, by omega, r⟩
theorem Dr0.more {b c c2 : Nat} {p : Int} {h h' : H} (d : Dr0 b p c h h') (hc : c ≤ c2) : Dr0 b p c2 h h' := d.imp (fun d => d.more hc) id
theorem gcK_dr0 {h h1 : H} {b c : Nat} {p : Int} {v : AV} {K : AV → H → Prop} (r : Rd h b p) (d : Dr0 b p c h h1) (hk : K v h1) : gcK h v (rdy h1) K := by
  rcases d with d | rfl
  · exact gcK_drew r d hk
  · rw [gcK_same]; exact hk
theorem part_out {h h1 : H} {u x y : CV} {l : List Param} {f : Flat} (zq : SlQ h1 (.one u) l) (zf : SlF h1 x y f) (hs : (AV.agg [u, x, y]).scalar = true) : SlQ h (.one u) l ∧ SlF h x y f := by
  simp [AV.scalar] at hs
  exact ⟨zq.scalar hs.1 h, zf.pl.scalar hs.2.1 h, zf.nl.scalar hs.2.2 h⟩
end Go.Proofs.Ytekkimfdcbgcoac.Am
