/- Contracts: whether a signature has a parameter of a kind. -/
import Derived.Test.YtekkimfdcbgcoaaA3
import Derived.Test.YtekkimfdcbgcoaaBD
namespace Go.Proofs.Ytekkimfdcbgcoaa.Am
open Go
set_option maxRecDepth 100000
set_option maxHeartbeats 4000000
set_option linter.unusedSimpArgs false
set_option linter.unusedVariables false
attribute [local go_sem ↓] bv_t bv_c ev_t ev_c put_same put_ne put_none kill_at pro_at lb_same lb_ne start_zero start_succ wpC_seq wpC_reg wpC_cond wpC_block wpC_skip wpC_exit wpC_ret thenQ_normal thenQ_exit thenQ_ret inBlk_normal inBlk_exit inBlk_ret wpS_nil wpS_step wpS_again wpS_guard wpO_mov wpO_load wpO_faddr wpO_nilCheck wpO_pick wpO_build wpO_bin wpO_eqb wpO_eqst wpO_eqnil wpO_not wpO_conv wpO_bytesStr wpO_iaddr wpO_idxStr wpO_field wpO_extract wpO_len wpO_lenStr wpO_cap wpO_min wpO_slice wpO_sliceStr wpO_alloc wpO_box wpO_store wpO_call wpO_callv wpO_mkfn wpO_buildSlice wpO_mkslice wpO_append wpO_appz proA_nil proA_cons tmpX_nil tmpX_tmp tmpX_cell doneB_normal doneB_ret agK_cons agK_nil agK_guard agG_tt agG_ff agG_tf agG_ft agG_undef pureB_load results_one results_two results_nil resBs_cons resBs_nil resB_tmp resB_cell
attribute [local go_sem] kill_v kill_lp_ne kill_lp_same pro_v pro_lp_same pro_lp_ne av_v av_lp optB_some optX_some valX_eq ldX_lp ldX_v faX_lp faX_v ncX_lp ncX_ptr ncX_fn boxK_one boxK_agg stL_some stK_lp_one stK_lp_agg stK_v_one stK_v_agg proM_v proM_lp callG_mk callVG_mk callvK_fn fnG_mk ptrsA_nil ptrsA_cons callH_some whenA_true whenA_false guardH_tt guardH_ff guardH_tf guardH_ft guardH_undef agV_one agV_agg lenO_sl lenStrO_str notO_bool pickO_bool convO_int eqbO_bool eqnilO_sl extractO_tup capO_sl minO_int loadL_one loadL_all storeL_eq fillA_nil fillA_one fillA_agg nat_ge neg_ge nat_lt neg_lt buildO bin_add bin_sub bin_mul bin_eql bin_neq bin_lss bin_leq bin_gtr bin_geq str_eql str_neq str_lss str_leq str_gtr str_geq retK_some endK_mk gcK_same gcK_int gcK_bool tupO_one tupO_agg rdy_self ib ii Option.map_none Option.map_some Option.some.injEq exists_eq_left' exists_eq_left ne_eq not_false_eq_true if_true if_false List.map_cons List.map_nil List.getElem?_cons_zero List.getElem?_cons_succ List.length_cons List.length_nil List.take_succ_cons List.take_zero List.take_nil List.drop_succ_cons List.drop_zero List.drop_nil List.cons_append List.nil_append List.append_nil List.set_cons_zero List.set_cons_succ Nat.zero_add forall_const true_and and_true and_self Bool.false_eq_true false_implies true_implies implies_true Bool.not_true Bool.not_false Bool.not_eq_true' Bool.not_eq_false' beq_self_eq_true Bool.bne_true Bool.bne_false
attribute [local go_sem] lenI lenS lenP lenQ lenB lenL lenT encI_0 encS_0 encP_0 encP_1 encQ_0 encQ_1 encQ_2 encQ_3 encB_0 encB_1 encL_0 encL_1 encT_0 encT_1
attribute [local go_sem low] whenA_bool guardH_bool
/-! (impl.Signature).has$1 -/
def L137_0 : List AStep := [⟨.box 35 (.t 0), (some 2), none, []⟩, ⟨.mov (.c (.bool false)), (some 3), none, []⟩]
theorem v137_0 : VS L137_0.eq_1 := rfl
def L137_1 : List AStep := [⟨.mov (.t 7), (some 3), none, []⟩]
theorem v137_1 : VS L137_1.eq_1 := rfl
def L137_2 : List AStep := ⟨.load 1 false (.t 1), (some 6), none, []⟩ :: ⟨.bin .eql (.t 5) (.t 6), (some 7), none, []⟩ :: L137_1
theorem v137_2 : VS L137_2.eq_1 := rfl
def L137_3 : List AStep := ⟨.faddr 1 (.t 2), (some 4), none, []⟩ :: ⟨.load 1 false (.t 4), (some 5), none, []⟩ :: L137_2
theorem v137_3 : VS L137_3.eq_1 := rfl
def C137_0 : ACode := .seq (.reg L137_3) .ret
theorem u137_0 : VC C137_0.eq_1 := rfl
def C137_1 : ACode := .seq (.reg L137_0) C137_0
theorem u137_1 : VC C137_1.eq_1 := rfl
def F137 : AFunc := ⟨8, [.tmp 3], C137_1⟩
theorem cF137 : compB Try.prog 137 = some F137 := by kernel_rfl
attribute [local go_sem ↓] u137_0 u137_1 v137_0 v137_1 v137_2 v137_3
theorem c_has1 (x : Param) (a : Nat × Nat) (k : Int) (h : H) (ha : loadO 1 false h (.one (.ptr (some a))) = some (.one (.int .i64 k))) : bm Try.prog 137 [.agg (encQ x), .one (.ptr (some a))] h = some (ib (decide (x.kind = k)), h) := by
  refine bm_eq cF137 ?_
  simp +contextual (maxSteps := 2000000) only [go_sem, Nat.reduceEqDiff, reduceCtorEq, Nat.reduceAdd, Nat.reduceLeDiff, F137, ha]
/-! (impl.Signature).has -/
def L91_0 : List AStep := [⟨.mov (.c (.bool false)), (some 4), none, []⟩]
theorem v91_0 : VS L91_0.eq_1 := rfl
def L91_1 : List AStep := ⟨.box 38 (.t 0), (some 2), none, []⟩ :: ⟨.box 3 (.t 1), (some 3), none, []⟩ :: L91_0
theorem v91_1 : VS L91_1.eq_1 := rfl
def L91_2 : List AStep := [⟨.mov (.t 8), (some 4), none, []⟩]
theorem v91_2 : VS L91_2.eq_1 := rfl
def L91_3 : List AStep := ⟨.mkfn 137 [(.t 3)], (some 7), none, []⟩ :: ⟨.call 136 [(.t 6), (.t 7)], (some 8), none, []⟩ :: L91_2
theorem v91_3 : VS L91_3.eq_1 := rfl
def L91_4 : List AStep := ⟨.faddr 0 (.t 2), (some 5), none, []⟩ :: ⟨.load 1 false (.t 5), (some 6), none, []⟩ :: L91_3
theorem v91_4 : VS L91_4.eq_1 := rfl
def C91_0 : ACode := .seq (.reg L91_4) .ret
theorem u91_0 : VC C91_0.eq_1 := rfl
def C91_1 : ACode := .seq (.reg L91_1) C91_0
theorem u91_1 : VC C91_1.eq_1 := rfl
def F91 : AFunc := ⟨9, [.tmp 4], C91_1⟩
theorem cF91 : compB Try.prog 91 = some F91 := by kernel_rfl
attribute [local go_sem ↓] u91_0 u91_1 v91_0 v91_1 v91_2 v91_3 v91_4
theorem c_has (l : List Param) (q : CV) (k : Int) (h : H) (hl : SlQ h (.one q) l) (hn : smQ l) : bm Try.prog 91 [.agg [q], .one (.int .i64 k)] h = some (ib (decide (0 ≤ kindAt l k)), h) := by
  refine bm_eq cF91 ?_
  have e := c_hasQ l (.one q) 137 [(h.n, 0)] (fun p => decide (p.kind = k)) (h.alloc [.int .i64 k] 3) (hl.grow (Grow.alloc _ _ _)) hn.1 (fun i hi x hx => c_has1 x (h.n, 0) k _ (Box.new.one rfl))
  have e2 : l.any (fun p => decide (p.kind = k)) = decide (0 ≤ kindAt l k) := (idx_any (p := fun p : Param => decide (p.kind = k)) (l := l)).symm
  rw [e2] at e
  simp +contextual (maxSteps := 2000000) only [go_sem, Nat.reduceEqDiff, reduceCtorEq, Nat.reduceAdd, Nat.reduceLeDiff, F91, e]
end Go.Proofs.Ytekkimfdcbgcoaa.Am
