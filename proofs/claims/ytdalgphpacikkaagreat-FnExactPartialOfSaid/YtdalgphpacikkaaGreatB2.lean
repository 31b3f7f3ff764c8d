/- Contracts: one call over the other, of the laws' own reckoning. -/
import Derived.Test.YtdalgphpacikkaaGreatA1
namespace Go.Proofs.YtdalgphpacikkaaGreat.Am
open Go
set_option maxRecDepth 100000
set_option maxHeartbeats 4000000
set_option linter.unusedSimpArgs false
set_option linter.unusedVariables false
attribute [local go_sem ↓] bv_t bv_c ev_t ev_c put_same put_ne put_none kill_at pro_at lb_same lb_ne start_zero start_succ wpC_seq wpC_reg wpC_cond wpC_block wpC_skip wpC_exit wpC_ret thenQ_normal thenQ_exit thenQ_ret inBlk_normal inBlk_exit inBlk_ret wpS_nil wpS_step wpS_again wpS_guard wpO_mov wpO_load wpO_faddr wpO_nilCheck wpO_pick wpO_build wpO_bin wpO_eqb wpO_eqst wpO_eqnil wpO_not wpO_conv wpO_bytesStr wpO_iaddr wpO_idxStr wpO_field wpO_extract wpO_len wpO_lenStr wpO_cap wpO_min wpO_slice wpO_sliceStr wpO_alloc wpO_box wpO_store wpO_call wpO_callv wpO_mkfn wpO_buildSlice wpO_mkslice wpO_append wpO_appz proA_nil proA_cons tmpX_nil tmpX_tmp tmpX_cell doneB_normal doneB_ret agK_cons agK_nil agK_guard agG_tt agG_ff agG_tf agG_ft agG_undef pureB_load results_one results_two results_nil resBs_cons resBs_nil resB_tmp resB_cell
attribute [local go_sem] kill_v kill_lp_ne kill_lp_same pro_v pro_lp_same pro_lp_ne av_v av_lp optB_some optX_some valX_eq ldX_lp ldX_v faX_lp faX_v ncX_lp ncX_ptr ncX_fn boxK_one boxK_agg stL_some stK_lp_one stK_lp_agg stK_v_one stK_v_agg proM_v proM_lp callG_mk callVG_mk callvK_fn fnG_mk ptrsA_nil ptrsA_cons callH_some whenA_true whenA_false guardH_tt guardH_ff guardH_tf guardH_ft guardH_undef agV_one agV_agg lenO_sl lenStrO_str notO_bool pickO_bool convO_int eqbO_bool eqnilO_sl extractO_tup capO_sl minO_int loadL_one loadL_all storeL_eq fillA_nil fillA_one fillA_agg nat_ge neg_ge nat_lt neg_lt buildO bin_add bin_sub bin_mul bin_eql bin_neq bin_lss bin_leq bin_gtr bin_geq str_eql str_neq str_lss str_leq str_gtr str_geq retK_some endK_mk gcK_same gcK_int gcK_bool tupO_one tupO_agg rdy_self ib ii Option.map_none Option.map_some Option.some.injEq exists_eq_left' exists_eq_left ne_eq not_false_eq_true if_true if_false List.map_cons List.map_nil List.getElem?_cons_zero List.getElem?_cons_succ List.length_cons List.length_nil List.take_succ_cons List.take_zero List.take_nil List.drop_succ_cons List.drop_zero List.drop_nil List.cons_append List.nil_append List.append_nil List.set_cons_zero List.set_cons_succ Nat.zero_add forall_const true_and and_true and_self Bool.false_eq_true false_implies true_implies implies_true Bool.not_true Bool.not_false Bool.not_eq_true' Bool.not_eq_false' beq_self_eq_true Bool.bne_true Bool.bne_false
attribute [local go_sem] lenI lenS lenP lenQ lenB lenL lenT encI_0 encS_0 encP_0 encP_1 encQ_0 encQ_1 encQ_2 encQ_3 encB_0 encB_1 encL_0 encL_1 encT_0 encT_1
attribute [local go_sem low] whenA_bool guardH_bool
/-! spec.copyParams -/
def L21_0 : List AStep := [⟨.mov (.c (.sl none 0 (some 0))), (some 2), none, []⟩]
theorem v21_0 : VS L21_0.eq_1 := rfl
def L21_1 : List AStep := [⟨.append 79 4 40 (.t 3) (.t 4), (some 5), none, []⟩, ⟨.mov (.t 5), (some 2), none, []⟩]
theorem v21_1 : VS L21_1.eq_1 := rfl
def L21_2 : List AStep := ⟨.buildSlice 79 0 [(.str (strOfNums [])), (.int .i64 0), (.bool false), (.int .i64 0)] [], (some 3), none, []⟩ :: ⟨.mov (.t 0), (some 4), none, []⟩ :: L21_1
theorem v21_2 : VS L21_2.eq_1 := rfl
def C21_0 : ACode := .seq (.reg L21_2) .ret
theorem u21_0 : VC C21_0.eq_1 := rfl
def C21_1 : ACode := .seq (.reg L21_0) C21_0
theorem u21_1 : VC C21_1.eq_1 := rfl
def F21 : AFunc := ⟨6, [.tmp 2], C21_1⟩
theorem cF21 : compB Tryz.prog 21 = some F21 := by kernel_rfl
attribute [local go_sem ↓] u21_0 u21_1 v21_0 v21_1 v21_2
theorem c_copyParams (l : List Param) (v : AV) (h : H) (hl : SlQ h v l) (hn : l.length ≤ big) : callK (bm Tryz.prog 21 [v] h) fun r h' => Grow h h' ∧ NwQ h h' r l := by
  refine bm_of cF21 ?_
  simp +contextual (maxSteps := 2000000) only [go_sem, Nat.reduceEqDiff, reduceCtorEq, Nat.reduceAdd, Nat.reduceLeDiff, F21]
  refine wp_lit (enc := encQ) (k := 4) (l := []) rfl rfl ?_
  intro h1 w g1 n1 _
  simp +contextual (maxSteps := 2000000) only [go_sem, Nat.reduceEqDiff, reduceCtorEq, Nat.reduceAdd, Nat.reduceLeDiff]
  refine wp_append lenQ n1 (hl.grow g1) g1 (by have := hn; unfold big at this; simp; omega) ?_
  intro h2 s g2 n2 _ _
  simp +contextual (maxSteps := 2000000) only [go_sem, Nat.reduceEqDiff, reduceCtorEq, Nat.reduceAdd, Nat.reduceLeDiff]
  exact gcK_of ⟨g2, n2⟩ (fun hs _ => ⟨Grow.refl h, n2.scalar hs h⟩)
/-! spec.copyFlat -/
def L22_0 : List AStep := [⟨.box 36 (.t 0), (some 1), none, []⟩, ⟨.alloc 36 [(.sl none 0 (some 0)), (.sl none 0 (some 0))], (some 2), none, []⟩]
theorem v22_0 : VS L22_0.eq_1 := rfl
def L22_1 : List AStep := [⟨.build [(.sl none 0 (some 0)), (.sl none 0 (some 0))] [(0, 1, (.t 6)), (1, 1, (.t 10))], (some 11), none, []⟩, ⟨.store 2 (.t 2) (.t 11), none, none, []⟩]
theorem v22_1 : VS L22_1.eq_1 := rfl
def L22_2 : List AStep := ⟨.append 3 1 8 (.t 3) (.t 5), (some 6), none, [(.load 1 false (.t 8), (some 9), none)]⟩ :: ⟨.append 81 2 24 (.t 7) (.t 9), (some 10), none, []⟩ :: L22_1
theorem v22_2 : VS L22_2.eq_1 := rfl
def L22_3 : List AStep := ⟨.faddr 1 (.t 1), (some 8), none, []⟩ :: ⟨.load 1 false (.t 8), (some 9), none, []⟩ :: L22_2
theorem v22_3 : VS L22_3.eq_1 := rfl
def L22_4 : List AStep := ⟨.load 1 false (.t 4), (some 5), none, []⟩ :: ⟨.buildSlice 81 0 [(.str (strOfNums [])), (.int .i64 0)] [], (some 7), none, []⟩ :: L22_3
theorem v22_4 : VS L22_4.eq_1 := rfl
def L22_5 : List AStep := ⟨.buildSlice 3 0 [(.int .i64 0)] [], (some 3), none, []⟩ :: ⟨.faddr 0 (.t 1), (some 4), none, []⟩ :: L22_4
theorem v22_5 : VS L22_5.eq_1 := rfl
def C22_0 : ACode := .seq (.reg L22_5) .ret
theorem u22_0 : VC C22_0.eq_1 := rfl
def C22_1 : ACode := .seq (.reg L22_0) C22_0
theorem u22_1 : VC C22_1.eq_1 := rfl
def F22 : AFunc := ⟨12, [.cell 2 2 true], C22_1⟩
theorem cF22 : compB Tryz.prog 22 = some F22 := by kernel_rfl
attribute [local go_sem ↓] u22_0 u22_1 v22_0 v22_1 v22_2 v22_3 v22_4 v22_5
theorem c_copyFlat (f : Flat) (p n : CV) (h : H) (hf : SlF h p n f) (hn : smF f) : callK (bm Tryz.prog 22 [.agg [p, n]] h) fun r h' => Grow h h' ∧ ∃ p' n', r = .agg [p', n'] ∧ NwF h h' p' n' f := by
  refine bm_of cF22 ?_
  simp +contextual (maxSteps := 2000000) only [go_sem, Nat.reduceEqDiff, reduceCtorEq, Nat.reduceAdd, Nat.reduceLeDiff, F22]
  have b1 := hn.pl
  have b2 := hn.nl.1
  unfold big at b1 b2
  refine wp_lit (enc := encI) (k := 1) (l := []) rfl rfl ?_
  intro h1 w1 g1 n1 _
  simp +contextual (maxSteps := 2000000) only [go_sem, Nat.reduceEqDiff, reduceCtorEq, Nat.reduceAdd, Nat.reduceLeDiff]
  refine wp_lit (enc := encP) (k := 2) (l := []) rfl rfl ?_
  intro h2 w2 g2 n2 _
  simp +contextual (maxSteps := 2000000) only [go_sem, Nat.reduceEqDiff, reduceCtorEq, Nat.reduceAdd, Nat.reduceLeDiff]
  refine wp_append lenI (n1.grow g2) ((hf.pl.grow g1).grow g2) (g1.trans g2) (by simp; omega) ?_
  intro h3 s3 g3 n3 st3 hb3
  simp +contextual (maxSteps := 2000000) only [go_sem, Nat.reduceEqDiff, reduceCtorEq, Nat.reduceAdd, Nat.reduceLeDiff]
  have m2 := (n2.stay st3 (n1.apart n2).symm).from g1.n
  refine wp_append lenP m2 (hf.nl.grow g3) g3 (by simp; omega) ?_
  intro h4 s4 g4 n4 st4 hb4
  obtain ⟨c, rfl⟩ := n3.one
  obtain ⟨d, rfl⟩ := n4.one
  simp +contextual (maxSteps := 2000000) only [go_sem, Nat.reduceEqDiff, reduceCtorEq, Nat.reduceAdd, Nat.reduceLeDiff]
  have sp : Sep (.one c) w2 := fun i hi hw => by
    rcases hb3 i hi with e | e
    · exact n1.apart n2 i e hw
    · have := (n2.lt hw).1
      omega
  have n5 : NwF h h4 c d f := ⟨(by simpa using n3.stay st4 sp), (by simpa using n4), fun i hi hd => by
    rcases hb4 i hd with e | e
    · exact sp i hi e
    · have := (n3.lt hi).1
      omega⟩
  exact gcK_of ⟨g4, _, _, rfl, n5⟩ (fun hs _ => ⟨Grow.refl h, _, _, rfl, n5.scalar hs h⟩)
end Go.Proofs.YtdalgphpacikkaaGreat.Am
