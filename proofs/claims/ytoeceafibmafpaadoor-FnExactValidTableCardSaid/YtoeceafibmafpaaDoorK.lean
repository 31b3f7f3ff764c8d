/- The kinds of the laws' arguments and answers. -/
import Derived.Test.YtoeceafibmafpaaDoorL1
import Derived.Test.YtoeceafibmafpaaDoorL2
import Derived.Test.YtoeceafibmafpaaDoorL4
import Derived.Test.YtoeceafibmafpaaDoorDom
namespace Go.Proofs.YtoeceafibmafpaaDoor.Am
open Go
set_option maxRecDepth 100000
set_option maxHeartbeats 4000000
set_option linter.unusedSimpArgs false
set_option linter.unusedVariables false
attribute [local go_sem ↓] bv_t bv_c ev_t ev_c put_same put_ne put_none kill_at pro_at lb_same lb_ne start_zero start_succ wpC_seq wpC_reg wpC_cond wpC_block wpC_skip wpC_exit wpC_ret thenQ_normal thenQ_exit thenQ_ret inBlk_normal inBlk_exit inBlk_ret wpS_nil wpS_step wpS_again wpS_guard wpO_mov wpO_load wpO_faddr wpO_nilCheck wpO_pick wpO_build wpO_bin wpO_eqb wpO_eqst wpO_eqnil wpO_not wpO_conv wpO_bytesStr wpO_iaddr wpO_idxStr wpO_field wpO_extract wpO_len wpO_lenStr wpO_cap wpO_min wpO_slice wpO_sliceStr wpO_alloc wpO_box wpO_store wpO_call wpO_callv wpO_mkfn wpO_buildSlice wpO_mkslice wpO_append wpO_appz proA_nil proA_cons tmpX_nil tmpX_tmp tmpX_cell doneB_normal doneB_ret agK_cons agK_nil agK_guard agG_tt agG_ff agG_tf agG_ft agG_undef pureB_load results_one results_two results_nil resBs_cons resBs_nil resB_tmp resB_cell
attribute [local go_sem] kill_v kill_lp_ne kill_lp_same pro_v pro_lp_same pro_lp_ne av_v av_lp optB_some optX_some valX_eq ldX_lp ldX_v faX_lp faX_v ncX_lp ncX_ptr ncX_fn boxK_one boxK_agg stL_some stK_lp_one stK_lp_agg stK_v_one stK_v_agg proM_v proM_lp callG_mk callVG_mk callvK_fn fnG_mk ptrsA_nil ptrsA_cons callH_some whenA_true whenA_false guardH_tt guardH_ff guardH_tf guardH_ft guardH_undef agV_one agV_agg lenO_sl lenStrO_str notO_bool pickO_bool convO_int eqbO_bool eqnilO_sl extractO_tup capO_sl minO_int loadL_one loadL_all storeL_eq fillA_nil fillA_one fillA_agg nat_ge neg_ge nat_lt neg_lt buildO bin_add bin_sub bin_mul bin_eql bin_neq bin_lss bin_leq bin_gtr bin_geq str_eql str_neq str_lss str_leq str_gtr str_geq retK_some endK_mk gcK_same gcK_int gcK_bool tupO_one tupO_agg rdy_self ib ii Option.map_none Option.map_some Option.some.injEq exists_eq_left' exists_eq_left ne_eq not_false_eq_true if_true if_false List.map_cons List.map_nil List.getElem?_cons_zero List.getElem?_cons_succ List.length_cons List.length_nil List.take_succ_cons List.take_zero List.take_nil List.drop_succ_cons List.drop_zero List.drop_nil List.cons_append List.nil_append List.append_nil List.set_cons_zero List.set_cons_succ Nat.zero_add forall_const true_and and_true and_self Bool.false_eq_true false_implies true_implies implies_true Bool.not_true Bool.not_false Bool.not_eq_true' Bool.not_eq_false' beq_self_eq_true Bool.bne_true Bool.bne_false
attribute [local go_sem] lenI lenS lenP lenQ lenB lenL lenT encI_0 encS_0 encP_0 encP_1 encQ_0 encQ_1 encQ_2 encQ_3 encB_0 encB_1 encL_0 encL_1 encT_0 encT_1
attribute [local go_sem low] whenA_bool guardH_bool
theorem k_szG (x : List Param) (p : CV) (left : Int) (h : H) (h1 : 0 ≤ left) (h2 : left ≤ 1048576) (d : DomG h p x) : bm Tryd.prog 14 [.agg [p], .one (.int .i64 left)] h = some (ii (szr left (wtG x)), h) := c_szSignature x _ left h h1 h2 d.sl d.k0 d.k1
/-! laws.toSignature -/
def L16_0 : List AStep := [⟨.box 33 (.t 0), (some 1), none, []⟩, ⟨.alloc 38 [(.sl none 0 (some 0))], (some 2), none, []⟩]
theorem v16_0 : VS L16_0.eq_1 := rfl
def L16_1 : List AStep := [⟨.alloc 38 [(.sl none 0 (some 0))], (some 3), none, []⟩]
theorem v16_1 : VS L16_1.eq_1 := rfl
def L16_2 : List AStep := [⟨.store 1 (.t 7) (.t 6), none, none, []⟩]
theorem v16_2 : VS L16_2.eq_1 := rfl
def L16_3 : List AStep := ⟨.call 47 [(.t 5)], (some 6), none, []⟩ :: ⟨.faddr 0 (.t 3), (some 7), none, []⟩ :: L16_2
theorem v16_3 : VS L16_3.eq_1 := rfl
def L16_4 : List AStep := ⟨.faddr 0 (.t 1), (some 4), none, []⟩ :: ⟨.load 1 false (.t 4), (some 5), none, []⟩ :: L16_3
theorem v16_4 : VS L16_4.eq_1 := rfl
def L16_5 : List AStep := [⟨.load 1 true (.t 3), (some 8), none, []⟩, ⟨.store 1 (.t 2) (.t 8), none, none, []⟩]
theorem v16_5 : VS L16_5.eq_1 := rfl
def C16_0 : ACode := .seq (.reg L16_5) .ret
theorem u16_0 : VC C16_0.eq_1 := rfl
def C16_1 : ACode := .seq (.reg L16_4) C16_0
theorem u16_1 : VC C16_1.eq_1 := rfl
def C16_2 : ACode := .seq (.reg L16_1) C16_1
theorem u16_2 : VC C16_2.eq_1 := rfl
def C16_3 : ACode := .seq (.reg L16_0) C16_2
theorem u16_3 : VC C16_3.eq_1 := rfl
def F16 : AFunc := ⟨9, [.cell 2 1 true], C16_3⟩
theorem cF16 : compB Tryd.prog 16 = some F16 := by kernel_rfl
attribute [local go_sem ↓] u16_0 u16_1 u16_2 u16_3 v16_0 v16_1 v16_2 v16_3 v16_4 v16_5
theorem k_toG (x : List Param) (p : CV) (h : H) (d : DomG h p x) (m : miniG x) : callK (bm Tryd.prog 16 [.agg [p]] h) fun r h' => Grow h h' ∧ ∃ p', r = .agg [p'] ∧ NwG h h' p' x := by
  refine bm_of cF16 ?_
  simp +contextual (maxSteps := 2000000) only [go_sem, Nat.reduceEqDiff, reduceCtorEq, Nat.reduceAdd, Nat.reduceLeDiff, F16]
  refine wp_call (c_toParamS x _ _ d.sl m.len) ?_
  rintro r h1 ⟨g1, n1⟩
  obtain ⟨c, rfl⟩ := n1.one
  simp +contextual (maxSteps := 2000000) only [go_sem, Nat.reduceEqDiff, reduceCtorEq, Nat.reduceAdd, Nat.reduceLeDiff]
  exact gcK_of ⟨g1, _, rfl, ⟨n1⟩⟩ (fun hs _ => ⟨Grow.refl h, _, rfl, ⟨n1.scalar (by simpa [AV.scalar] using hs) h⟩⟩)
theorem c_to1G {ty : Nat} (x : List Param) (p : CV) (h : H) (d : Sl encQ 4 ty h (.one p) x) (m : x.length ≤ 1048576) : callK (bm Tryd.prog 16 [.agg [p]] h) fun r h' => Grow h h' ∧ ∃ p', r = .agg [p'] ∧ NwQ h h' (.one p') x := by
  refine bm_of cF16 ?_
  simp +contextual (maxSteps := 2000000) only [go_sem, Nat.reduceEqDiff, reduceCtorEq, Nat.reduceAdd, Nat.reduceLeDiff, F16]
  refine wp_call (c_toParamS x _ _ d m) ?_
  rintro r h1 ⟨g1, n1⟩
  obtain ⟨c, rfl⟩ := n1.one
  simp +contextual (maxSteps := 2000000) only [go_sem, Nat.reduceEqDiff, reduceCtorEq, Nat.reduceAdd, Nat.reduceLeDiff]
  exact gcK_of ⟨g1, _, rfl, n1⟩ (fun hs _ => ⟨Grow.refl h, _, rfl, n1.scalar (by simpa [AV.scalar] using hs) h⟩)
theorem k_eqG (x y : List Param) (p q : CV) (h : H) (a : SlG h p x) (b : SlG h q y) (m : miniG x) : bm Tryd.prog 18 [.agg [p], .agg [q]] h = some (ib (decide (x = y)), h) := c_eqSignature x y _ _ h a.out b.out (Nat.le_trans m.len (by decide))
end Go.Proofs.YtoeceafibmafpaaDoor.Am
