/- Contracts: draws of two: calls with holes and flat calls. -/
import Derived.Test.YtoeceafibmafpaaDoorDH
import Derived.Test.YtoeceafibmafpaaDoorDom
namespace Go.Proofs.YtoeceafibmafpaaDoor.Am
open Go
set_option maxRecDepth 100000
set_option maxHeartbeats 4000000
set_option linter.unusedSimpArgs false
set_option linter.unusedVariables false
attribute [local go_sem ↓] bv_t bv_c ev_t ev_c put_same put_ne put_none kill_at pro_at lb_same lb_ne start_zero start_succ wpC_seq wpC_reg wpC_cond wpC_block wpC_skip wpC_exit wpC_ret thenQ_normal thenQ_exit thenQ_ret inBlk_normal inBlk_exit inBlk_ret wpS_nil wpS_step wpS_again wpS_guard wpO_mov wpO_load wpO_faddr wpO_nilCheck wpO_pick wpO_build wpO_bin wpO_eqb wpO_eqst wpO_eqnil wpO_not wpO_conv wpO_bytesStr wpO_iaddr wpO_idxStr wpO_field wpO_extract wpO_len wpO_lenStr wpO_cap wpO_min wpO_slice wpO_sliceStr wpO_alloc wpO_box wpO_store wpO_call wpO_callv wpO_mkfn wpO_buildSlice wpO_mkslice wpO_append wpO_appz proA_nil proA_cons tmpX_nil tmpX_tmp tmpX_cell doneB_normal doneB_ret agK_cons agK_nil agK_guard agG_tt agG_ff agG_tf agG_ft agG_undef pureB_load results_one results_two results_nil resBs_cons resBs_nil resB_tmp resB_cell
attribute [local go_sem] kill_v kill_lp_ne kill_lp_same pro_v pro_lp_same pro_lp_ne av_v av_lp optB_some optX_some valX_eq ldX_lp ldX_v faX_lp faX_v ncX_lp ncX_ptr ncX_fn boxK_one boxK_agg stL_some stK_lp_one stK_lp_agg stK_v_one stK_v_agg proM_v proM_lp callG_mk callVG_mk callvK_fn fnG_mk ptrsA_nil ptrsA_cons callH_some whenA_true whenA_false guardH_tt guardH_ff guardH_tf guardH_ft guardH_undef agV_one agV_agg lenO_sl lenStrO_str notO_bool pickO_bool convO_int eqbO_bool eqnilO_sl extractO_tup capO_sl minO_int loadL_one loadL_all storeL_eq fillA_nil fillA_one fillA_agg nat_ge neg_ge nat_lt neg_lt buildO bin_add bin_sub bin_mul bin_eql bin_neq bin_lss bin_leq bin_gtr bin_geq str_eql str_neq str_lss str_leq str_gtr str_geq retK_some endK_mk gcK_same gcK_int gcK_bool tupO_one tupO_agg rdy_self ib ii Option.map_none Option.map_some Option.some.injEq exists_eq_left' exists_eq_left ne_eq not_false_eq_true if_true if_false List.map_cons List.map_nil List.getElem?_cons_zero List.getElem?_cons_succ List.length_cons List.length_nil List.take_succ_cons List.take_zero List.take_nil List.drop_succ_cons List.drop_zero List.drop_nil List.cons_append List.nil_append List.append_nil List.set_cons_zero List.set_cons_succ Nat.zero_add forall_const true_and and_true and_self Bool.false_eq_true false_implies true_implies implies_true Bool.not_true Bool.not_false Bool.not_eq_true' Bool.not_eq_false' beq_self_eq_true Bool.bne_true Bool.bne_false
attribute [local go_sem] lenI lenS lenP lenQ lenB lenL lenT encI_0 encS_0 encP_0 encP_1 encQ_0 encQ_1 encQ_2 encQ_3 encB_0 encB_1 encL_0 encL_1 encT_0 encT_1
attribute [local go_sem low] whenA_bool guardH_bool
theorem dByte {h : H} {m : Nat} (cs : List CV) (hk : okA Tryd.prog h (m + 1) 5 cs) : ∃ x : Int, cs = encBy x ∧ (0 ≤ x ∧ x ≤ 255) := by
  obtain ⟨x, e, w⟩ := okA_int (k := .u8) Tryd.underlying5 hk
  refine ⟨x, e, ?_⟩
  have e1 : IntKind.u8.min = 0 := rfl
  have e2 : IntKind.u8.max = 255 := rfl
  simp [Lit.wf] at w
  omega
theorem dBytes {h : H} {m : Nat} {v : AV} (hk : okV Tryd.prog h (m + 2) 42 v) : ∃ p l, v = .one p ∧ Sl encBy 1 5 h (.one p) l ∧ (∀ x ∈ l, 0 ≤ x ∧ x ≤ 255) ∧ l.length ≤ far := by
  obtain ⟨c, rfl, hj⟩ := okV_one (by kernel_rfl) hk
  obtain ⟨p, l, e, s1, k1, k2⟩ := okA_list lenBy Tryd.underlying42 (by kernel_rfl) dByte hj
  obtain rfl : c = p := by simpa using e
  exact ⟨c, l, rfl, s1, k2, k1⟩
theorem Drew.out {h h1 h2 : H} {b c : Nat} {p : Int} (d : Drew b p c h1 h2) (g : Grow h h1) (hb : h.n ≤ b) : Grow h h2 :=
  ⟨Nat.le_trans g.n d.st.n, fun i hi => (d.st.f i (Nat.lt_of_lt_of_le hi g.n) (fun e => by simp [bR, baseOf] at e; omega)).trans (g.f i hi)⟩
end Go.Proofs.YtoeceafibmafpaaDoor.Am
