/- Contracts: whether a signature has a parameter of a kind. -/
import Derived.Test.YtoeceafibmafpaaDoorA3
import Derived.Test.YtoeceafibmafpaaDoorBD
namespace Go.Proofs.YtoeceafibmafpaaDoor.Am
open Go
set_option maxRecDepth 100000
set_option maxHeartbeats 4000000
set_option linter.unusedSimpArgs false
set_option linter.unusedVariables false
attribute [local go_sem ↓] bv_t bv_c ev_t ev_c put_same put_ne put_none kill_at pro_at lb_same lb_ne start_zero start_succ wpC_seq wpC_reg wpC_cond wpC_block wpC_skip wpC_exit wpC_ret thenQ_normal thenQ_exit thenQ_ret inBlk_normal inBlk_exit inBlk_ret wpS_nil wpS_step wpS_again wpS_guard wpO_mov wpO_load wpO_faddr wpO_nilCheck wpO_pick wpO_build wpO_bin wpO_eqb wpO_eqst wpO_eqnil wpO_not wpO_conv wpO_bytesStr wpO_iaddr wpO_idxStr wpO_field wpO_extract wpO_len wpO_lenStr wpO_cap wpO_min wpO_slice wpO_sliceStr wpO_alloc wpO_box wpO_store wpO_call wpO_callv wpO_mkfn wpO_buildSlice wpO_mkslice wpO_append wpO_appz proA_nil proA_cons tmpX_nil tmpX_tmp tmpX_cell doneB_normal doneB_ret agK_cons agK_nil agK_guard agG_tt agG_ff agG_tf agG_ft agG_undef pureB_load results_one results_two results_nil resBs_cons resBs_nil resB_tmp resB_cell
attribute [local go_sem] kill_v kill_lp_ne kill_lp_same pro_v pro_lp_same pro_lp_ne av_v av_lp optB_some optX_some valX_eq ldX_lp ldX_v faX_lp faX_v ncX_lp ncX_ptr ncX_fn boxK_one boxK_agg stL_some stK_lp_one stK_lp_agg stK_v_one stK_v_agg proM_v proM_lp callG_mk callVG_mk callvK_fn fnG_mk ptrsA_nil ptrsA_cons callH_some whenA_true whenA_false guardH_tt guardH_ff guardH_tf guardH_ft guardH_undef agV_one agV_agg lenO_sl lenStrO_str notO_bool pickO_bool convO_int eqbO_bool eqnilO_sl extractO_tup capO_sl minO_int loadL_one loadL_all storeL_eq fillA_nil fillA_one fillA_agg nat_ge neg_ge nat_lt neg_lt buildO bin_add bin_sub bin_mul bin_eql bin_neq bin_lss bin_leq bin_gtr bin_geq str_eql str_neq str_lss str_leq str_gtr str_geq retK_some endK_mk gcK_same gcK_int gcK_bool tupO_one tupO_agg rdy_self ib ii Option.map_none Option.map_some Option.some.injEq exists_eq_left' exists_eq_left ne_eq not_false_eq_true if_true if_false List.map_cons List.map_nil List.getElem?_cons_zero List.getElem?_cons_succ List.length_cons List.length_nil List.take_succ_cons List.take_zero List.take_nil List.drop_succ_cons List.drop_zero List.drop_nil List.cons_append List.nil_append List.append_nil List.set_cons_zero List.set_cons_succ Nat.zero_add forall_const true_and and_true and_self Bool.false_eq_true false_implies true_implies implies_true Bool.not_true Bool.not_false Bool.not_eq_true' Bool.not_eq_false' beq_self_eq_true Bool.bne_true Bool.bne_false
attribute [local go_sem] lenI lenS lenP lenQ lenB lenL lenT encI_0 encS_0 encP_0 encP_1 encQ_0 encQ_1 encQ_2 encQ_3 encB_0 encB_1 encL_0 encL_1 encT_0 encT_1
attribute [local go_sem low] whenA_bool guardH_bool
/-! (impl.Signature).has$1 -/
def L86_0 : List AStep := [⟨.box 83 (.t 0), (some 2), none, []⟩, ⟨.mov (.c (.bool false)), (some 3), none, []⟩]
theorem v86_0 : VS L86_0.eq_1 := rfl
def L86_1 : List AStep := [⟨.mov (.t 7), (some 3), none, []⟩]
theorem v86_1 : VS L86_1.eq_1 := rfl
def L86_2 : List AStep := ⟨.load 1 false (.t 1), (some 6), none, []⟩ :: ⟨.bin .eql (.t 5) (.t 6), (some 7), none, []⟩ :: L86_1
theorem v86_2 : VS L86_2.eq_1 := rfl
def L86_3 : List AStep := ⟨.faddr 1 (.t 2), (some 4), none, []⟩ :: ⟨.load 1 false (.t 4), (some 5), none, []⟩ :: L86_2
theorem v86_3 : VS L86_3.eq_1 := rfl
def C86_0 : ACode := .seq (.reg L86_3) .ret
theorem u86_0 : VC C86_0.eq_1 := rfl
def C86_1 : ACode := .seq (.reg L86_0) C86_0
theorem u86_1 : VC C86_1.eq_1 := rfl
def F86 : AFunc := ⟨8, [.tmp 3], C86_1⟩
theorem cF86 : compB Tryd.prog 86 = some F86 := by kernel_rfl
attribute [local go_sem ↓] u86_0 u86_1 v86_0 v86_1 v86_2 v86_3
theorem c_has1 (x : Param) (a : Nat × Nat) (k : Int) (h : H) (ha : loadO 1 false h (.one (.ptr (some a))) = some (.one (.int .i64 k))) : bm Tryd.prog 86 [.agg (encQ x), .one (.ptr (some a))] h = some (ib (decide (x.kind = k)), h) := by
  refine bm_eq cF86 ?_
  simp +contextual (maxSteps := 2000000) only [go_sem, Nat.reduceEqDiff, reduceCtorEq, Nat.reduceAdd, Nat.reduceLeDiff, F86, ha]
/-! (impl.Signature).has -/
def L49_0 : List AStep := [⟨.mov (.c (.bool false)), (some 4), none, []⟩]
theorem v49_0 : VS L49_0.eq_1 := rfl
def L49_1 : List AStep := ⟨.box 38 (.t 0), (some 2), none, []⟩ :: ⟨.box 3 (.t 1), (some 3), none, []⟩ :: L49_0
theorem v49_1 : VS L49_1.eq_1 := rfl
def L49_2 : List AStep := [⟨.mov (.t 8), (some 4), none, []⟩]
theorem v49_2 : VS L49_2.eq_1 := rfl
def L49_3 : List AStep := ⟨.mkfn 86 [(.t 3)], (some 7), none, []⟩ :: ⟨.call 85 [(.t 6), (.t 7)], (some 8), none, []⟩ :: L49_2
theorem v49_3 : VS L49_3.eq_1 := rfl
def L49_4 : List AStep := ⟨.faddr 0 (.t 2), (some 5), none, []⟩ :: ⟨.load 1 false (.t 5), (some 6), none, []⟩ :: L49_3
theorem v49_4 : VS L49_4.eq_1 := rfl
def C49_0 : ACode := .seq (.reg L49_4) .ret
theorem u49_0 : VC C49_0.eq_1 := rfl
def C49_1 : ACode := .seq (.reg L49_1) C49_0
theorem u49_1 : VC C49_1.eq_1 := rfl
def F49 : AFunc := ⟨9, [.tmp 4], C49_1⟩
theorem cF49 : compB Tryd.prog 49 = some F49 := by kernel_rfl
attribute [local go_sem ↓] u49_0 u49_1 v49_0 v49_1 v49_2 v49_3 v49_4
theorem c_has (l : List Param) (q : CV) (k : Int) (h : H) (hl : SlQ h (.one q) l) (hn : smQ l) : bm Tryd.prog 49 [.agg [q], .one (.int .i64 k)] h = some (ib (decide (0 ≤ kindAt l k)), h) := by
  refine bm_eq cF49 ?_
  have e := c_hasQ l (.one q) 86 [(h.n, 0)] (fun p => decide (p.kind = k)) (h.alloc [.int .i64 k] 3) (hl.grow (Grow.alloc _ _ _)) hn.1 (fun i hi x hx => c_has1 x (h.n, 0) k _ (Box.new.one rfl))
  have e2 : l.any (fun p => decide (p.kind = k)) = decide (0 ≤ kindAt l k) := (idx_any (p := fun p : Param => decide (p.kind = k)) (l := l)).symm
  rw [e2] at e
  simp +contextual (maxSteps := 2000000) only [go_sem, Nat.reduceEqDiff, reduceCtorEq, Nat.reduceAdd, Nat.reduceLeDiff, F49, e]
end Go.Proofs.YtoeceafibmafpaaDoor.Am
