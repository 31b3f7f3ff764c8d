/- Contracts: partial calls that are called, and small functions of the laws. -/
import Derived.Test.YtekkimfdcbgcoabLQ
import Derived.Test.YtekkimfdcbgcoabPA
import Derived.Test.YtekkimfdcbgcoabB3
import Derived.Test.YtekkimfdcbgcoabPM
namespace Go.Proofs.Ytekkimfdcbgcoab.Am
open Go
attribute [local go_sem] loadL_agg
set_option maxRecDepth 100000
set_option maxHeartbeats 4000000
set_option linter.unusedSimpArgs false
set_option linter.unusedVariables false
attribute [local go_sem ↓] bv_t bv_c ev_t ev_c put_same put_ne put_none kill_at pro_at lb_same lb_ne start_zero start_succ wpC_seq wpC_reg wpC_cond wpC_block wpC_skip wpC_exit wpC_ret thenQ_normal thenQ_exit thenQ_ret inBlk_normal inBlk_exit inBlk_ret wpS_nil wpS_step wpS_again wpS_guard wpO_mov wpO_load wpO_faddr wpO_nilCheck wpO_pick wpO_build wpO_bin wpO_eqb wpO_eqst wpO_eqnil wpO_not wpO_conv wpO_bytesStr wpO_iaddr wpO_idxStr wpO_field wpO_extract wpO_len wpO_lenStr wpO_cap wpO_min wpO_slice wpO_sliceStr wpO_alloc wpO_box wpO_store wpO_call wpO_callv wpO_mkfn wpO_buildSlice wpO_mkslice wpO_append wpO_appz proA_nil proA_cons tmpX_nil tmpX_tmp tmpX_cell doneB_normal doneB_ret agK_cons agK_nil agK_guard agG_tt agG_ff agG_tf agG_ft agG_undef pureB_load results_one results_two results_nil resBs_cons resBs_nil resB_tmp resB_cell
attribute [local go_sem] kill_v kill_lp_ne kill_lp_same pro_v pro_lp_same pro_lp_ne av_v av_lp optB_some optX_some valX_eq ldX_lp ldX_v faX_lp faX_v ncX_lp ncX_ptr ncX_fn boxK_one boxK_agg stL_some stK_lp_one stK_lp_agg stK_v_one stK_v_agg proM_v proM_lp callG_mk callVG_mk callvK_fn fnG_mk ptrsA_nil ptrsA_cons callH_some whenA_true whenA_false guardH_tt guardH_ff guardH_tf guardH_ft guardH_undef agV_one agV_agg lenO_sl lenStrO_str notO_bool pickO_bool convO_int eqbO_bool eqnilO_sl extractO_tup capO_sl minO_int loadL_one loadL_all storeL_eq fillA_nil fillA_one fillA_agg nat_ge neg_ge nat_lt neg_lt buildO bin_add bin_sub bin_mul bin_eql bin_neq bin_lss bin_leq bin_gtr bin_geq str_eql str_neq str_lss str_leq str_gtr str_geq retK_some endK_mk gcK_same gcK_int gcK_bool tupO_one tupO_agg rdy_self ib ii Option.map_none Option.map_some Option.some.injEq exists_eq_left' exists_eq_left ne_eq not_false_eq_true if_true if_false List.map_cons List.map_nil List.getElem?_cons_zero List.getElem?_cons_succ List.length_cons List.length_nil List.take_succ_cons List.take_zero List.take_nil List.drop_succ_cons List.drop_zero List.drop_nil List.cons_append List.nil_append List.append_nil List.set_cons_zero List.set_cons_succ Nat.zero_add forall_const true_and and_true and_self Bool.false_eq_true false_implies true_implies implies_true Bool.not_true Bool.not_false Bool.not_eq_true' Bool.not_eq_false' beq_self_eq_true Bool.bne_true Bool.bne_false
attribute [local go_sem] lenI lenS lenP lenQ lenB lenL lenT encI_0 encS_0 encP_0 encP_1 encQ_0 encQ_1 encQ_2 encQ_3 encB_0 encB_1 encL_0 encL_1 encT_0 encT_1
attribute [local go_sem low] whenA_bool guardH_bool
def FullF (l : List Param) (f g : Flat) : Option Flat := if partOk l f = true then OverFlat f g else none
theorem miniF.full {l : List Param} {f g : Flat} : miniF (orF (FullF l f g)) := by
  unfold FullF
  split
  · exact .over
  · exact .nil
theorem full_nil {l : List Param} {f : Flat} (h : partOk l f = true) : FullF l f ⟨[], []⟩ = some f := by
  unfold FullF
  rw [if_pos h, over_nil (part_fits h).2]
/-! impl.FindParam -/
def L35_0 : List AStep := [⟨.box 25 (.t 0), (some 2), none, []⟩, ⟨.mov (.c (.int .i64 0)), (some 4), none, []⟩]
theorem v35_0 : VS L35_0.eq_1 := rfl
def L35_1 : List AStep := [⟨.not (.t 6), (some 7), none, []⟩]
theorem v35_1 : VS L35_1.eq_1 := rfl
def L35_2 : List AStep := ⟨.load 1 true (.t 2), (some 5), none, []⟩ :: ⟨.call 31 [(.t 5)], (some 6), none, []⟩ :: L35_1
theorem v35_2 : VS L35_2.eq_1 := rfl
def L35_3 : List AStep := [⟨.mov (.c (.int .i64 (-1))), (some 4), none, []⟩]
theorem v35_3 : VS L35_3.eq_1 := rfl
def L35_4 : List AStep := [⟨.mov (.t 11), (some 4), none, []⟩]
theorem v35_4 : VS L35_4.eq_1 := rfl
def L35_5 : List AStep := ⟨.mov (.t 1), (some 10), none, []⟩ :: ⟨.call 77 [(.t 9), (.t 10)], (some 11), none, []⟩ :: L35_4
theorem v35_5 : VS L35_5.eq_1 := rfl
def L35_6 : List AStep := ⟨.faddr 0 (.t 2), (some 8), none, []⟩ :: ⟨.load 1 false (.t 8), (some 9), none, []⟩ :: L35_5
theorem v35_6 : VS L35_6.eq_1 := rfl
def C35_0 : ACode := .seq (.reg L35_3) .ret
theorem u35_0 : VC C35_0.eq_1 := rfl
def C35_1 : ACode := .cond (.t 7) C35_0 .skip
theorem u35_1 : VC C35_1.eq_1 := rfl
def C35_2 : ACode := .seq (.reg L35_2) C35_1
theorem u35_2 : VC C35_2.eq_1 := rfl
def C35_3 : ACode := .seq (.reg L35_6) .ret
theorem u35_3 : VC C35_3.eq_1 := rfl
def C35_4 : ACode := .seq C35_2 C35_3
theorem u35_4 : VC C35_4.eq_1 := rfl
def C35_5 : ACode := .seq (.reg L35_0) C35_4
theorem u35_5 : VC C35_5.eq_1 := rfl
def F35 : AFunc := ⟨12, [.tmp 4], C35_5⟩
theorem cF35 : compB Try.prog 35 = some F35 := by kernel_rfl
attribute [local go_sem ↓] u35_0 u35_1 u35_2 u35_3 u35_4 u35_5 v35_0 v35_1 v35_2 v35_3 v35_4 v35_5 v35_6
theorem c_FindParam (l : List Param) (q : CV) (s : ByteArray) (h : H) (hl : SlG h q l) (hn : miniG l) (ok : okSig l = true) : bm Try.prog 35 [.agg [q], .one (.str s)] h = some (ii (paramAt l s), h) := by
  refine bm_eq cF35 ?_
  simp +contextual (maxSteps := 2000000) only [go_sem, Nat.reduceEqDiff, reduceCtorEq, Nat.reduceAdd, Nat.reduceLeDiff, F35, c_ValidSignature _ _ _ hl.out hn.sm, ok, c_find _ _ _ _ hl.out hn.sm]
theorem miniZ.all {q : Param → Bool} {l : List Param} {f : Flat} : (freeF q l f).length ≤ big := Nat.le_trans miniZ.free.len (by decide)
end Go.Proofs.Ytekkimfdcbgcoab.Am
