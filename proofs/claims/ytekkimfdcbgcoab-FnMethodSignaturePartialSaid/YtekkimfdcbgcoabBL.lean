/- Contracts: partial calls, and what is free, of both sides. -/
import Derived.Test.YtekkimfdcbgcoabBK
import Derived.Test.YtekkimfdcbgcoabB1
import Derived.Test.YtekkimfdcbgcoabB2
import Derived.Test.YtekkimfdcbgcoabK2
import Derived.Test.YtekkimfdcbgcoabPD
namespace Go.Proofs.Ytekkimfdcbgcoab.Am
open Go
set_option maxRecDepth 100000
set_option maxHeartbeats 4000000
set_option linter.unusedSimpArgs false
set_option linter.unusedVariables false
attribute [local go_sem ↓] bv_t bv_c ev_t ev_c put_same put_ne put_none kill_at pro_at lb_same lb_ne start_zero start_succ wpC_seq wpC_reg wpC_cond wpC_block wpC_skip wpC_exit wpC_ret thenQ_normal thenQ_exit thenQ_ret inBlk_normal inBlk_exit inBlk_ret wpS_nil wpS_step wpS_again wpS_guard wpO_mov wpO_load wpO_faddr wpO_nilCheck wpO_pick wpO_build wpO_bin wpO_eqb wpO_eqst wpO_eqnil wpO_not wpO_conv wpO_bytesStr wpO_iaddr wpO_idxStr wpO_field wpO_extract wpO_len wpO_lenStr wpO_cap wpO_min wpO_slice wpO_sliceStr wpO_alloc wpO_box wpO_store wpO_call wpO_callv wpO_mkfn wpO_buildSlice wpO_mkslice wpO_append wpO_appz proA_nil proA_cons tmpX_nil tmpX_tmp tmpX_cell doneB_normal doneB_ret agK_cons agK_nil agK_guard agG_tt agG_ff agG_tf agG_ft agG_undef pureB_load results_one results_two results_nil resBs_cons resBs_nil resB_tmp resB_cell
attribute [local go_sem] kill_v kill_lp_ne kill_lp_same pro_v pro_lp_same pro_lp_ne av_v av_lp optB_some optX_some valX_eq ldX_lp ldX_v faX_lp faX_v ncX_lp ncX_ptr ncX_fn boxK_one boxK_agg stL_some stK_lp_one stK_lp_agg stK_v_one stK_v_agg proM_v proM_lp callG_mk callVG_mk callvK_fn fnG_mk ptrsA_nil ptrsA_cons callH_some whenA_true whenA_false guardH_tt guardH_ff guardH_tf guardH_ft guardH_undef agV_one agV_agg lenO_sl lenStrO_str notO_bool pickO_bool convO_int eqbO_bool eqnilO_sl extractO_tup capO_sl minO_int loadL_one loadL_all storeL_eq fillA_nil fillA_one fillA_agg nat_ge neg_ge nat_lt neg_lt buildO bin_add bin_sub bin_mul bin_eql bin_neq bin_lss bin_leq bin_gtr bin_geq str_eql str_neq str_lss str_leq str_gtr str_geq retK_some endK_mk gcK_same gcK_int gcK_bool tupO_one tupO_agg rdy_self ib ii Option.map_none Option.map_some Option.some.injEq exists_eq_left' exists_eq_left ne_eq not_false_eq_true if_true if_false List.map_cons List.map_nil List.getElem?_cons_zero List.getElem?_cons_succ List.length_cons List.length_nil List.take_succ_cons List.take_zero List.take_nil List.drop_succ_cons List.drop_zero List.drop_nil List.cons_append List.nil_append List.append_nil List.set_cons_zero List.set_cons_succ Nat.zero_add forall_const true_and and_true and_self Bool.false_eq_true false_implies true_implies implies_true Bool.not_true Bool.not_false Bool.not_eq_true' Bool.not_eq_false' beq_self_eq_true Bool.bne_true Bool.bne_false
attribute [local go_sem] lenI lenS lenP lenQ lenB lenL lenT encI_0 encS_0 encP_0 encP_1 encQ_0 encQ_1 encQ_2 encQ_3 encB_0 encB_1 encL_0 encL_1 encT_0 encT_1
attribute [local go_sem low] whenA_bool guardH_bool
attribute [local go_sem] lenY encY_0 encY_1 encY_2
theorem miniG.of {l : List Param} (ok1 : okSig l = true) : miniG l := ⟨by have := okSig_len ok1; omega, fun x hx => by have := okSig_name ok1 x hx; omega⟩
def partF (l : List Param) (f : Flat) : Part := if partOk l f = true then ⟨l, f⟩ else ⟨[], ⟨[], []⟩⟩
theorem miniD.part {l : List Param} {f : Flat} : miniD (partF l f) := by
  unfold partF
  split
  · rename_i h
    obtain ⟨ok1, ok2⟩ := part_fits h
    exact ⟨.of ok1, .of ok2⟩
  · exact ⟨.nil, .nil⟩
theorem miniO.problems {l : List Param} {f : Flat} : miniO (problemsF l f) := by
  unfold problemsF
  split
  · rename_i h
    obtain ⟨ok1, ok2⟩ := fits_ok h
    have hn := okSig_len ok1
    obtain ⟨hb1, hb2, hb3⟩ := okFlat_sm ok2
    have h1 := (BOk.nameF (l := l) (f := f) hb3 (Nat.le_refl _)).bad
    have h2 := missF_len (l := l) (sl := boundS l f) (i := l.length)
    refine ⟨by unfold wrong boundB missing; rw [List.length_append]; omega, fun x hx => ?_⟩
    have := wrong_name ok1 ok2 x hx
    omega
  · exact ⟨by simp, fun x hx => by simp at hx⟩
theorem miniZ.free {q : Param → Bool} {l : List Param} {f : Flat} : miniZ (freeF q l f) := by
  unfold freeF
  split
  · rename_i h
    obtain ⟨ok1, ok2⟩ := part_fits h
    have hn := okSig_len ok1
    refine ⟨by have := pickF_len (t := isFree q l (boundS l f)) (nm := nameAt l) (i := l.length); omega, fun x hx => ?_⟩
    obtain ⟨j, hj, _, rfl⟩ := pickF_mem hx
    rw [nameAt_eq hj]
    have := okSig_name ok1 _ (List.getElem_mem hj)
    omega
  · exact ⟨by simp, fun x hx => by simp at hx⟩
theorem k_iValidPartial (x : Part) (q p n : CV) (h : H) (a : SlD h q p n x) (m : miniD x) : bm Try.prog 59 [.agg [q, p, n]] h = some (ib (partOk x.sig x.flat), h) := c_ValidPartial x.sig x.flat q p n h a.g a.f m.g m.f
/-! impl.PartialOf -/
def L20_0 : List AStep := [⟨.alloc 44 [(.sl none 0 (some 0)), (.sl none 0 (some 0)), (.sl none 0 (some 0))], (some 4), none, []⟩, ⟨.mov (.c (.bool false)), (some 5), none, []⟩]
theorem v20_0 : VS L20_0.eq_1 := rfl
def L20_1 : List AStep := ⟨.box 25 (.t 0), (some 2), none, []⟩ :: ⟨.box 29 (.t 1), (some 3), none, []⟩ :: L20_0
theorem v20_1 : VS L20_1.eq_1 := rfl
def L20_2 : List AStep := [⟨.not (.t 9), (some 10), none, []⟩]
theorem v20_2 : VS L20_2.eq_1 := rfl
def L20_3 : List AStep := ⟨.build [(.sl none 0 (some 0)), (.sl none 0 (some 0)), (.sl none 0 (some 0))] [(0, 1, (.t 6)), (1, 2, (.t 7))], (some 8), none, []⟩ :: ⟨.call 59 [(.t 8)], (some 9), none, []⟩ :: L20_2
theorem v20_3 : VS L20_3.eq_1 := rfl
def L20_4 : List AStep := ⟨.load 1 true (.t 2), (some 6), none, []⟩ :: ⟨.load 2 true (.t 3), (some 7), none, []⟩ :: L20_3
theorem v20_4 : VS L20_4.eq_1 := rfl
def L20_5 : List AStep := [⟨.mov (.c (.bool false)), (some 5), none, []⟩]
theorem v20_5 : VS L20_5.eq_1 := rfl
def L20_6 : List AStep := ⟨.build [(.sl none 0 (some 0)), (.sl none 0 (some 0)), (.sl none 0 (some 0))] [], (some 11), none, []⟩ :: ⟨.store 3 (.t 4) (.t 11), none, none, []⟩ :: L20_5
theorem v20_6 : VS L20_6.eq_1 := rfl
def L20_7 : List AStep := [⟨.mov (.c (.bool true)), (some 5), none, []⟩]
theorem v20_7 : VS L20_7.eq_1 := rfl
def L20_8 : List AStep := ⟨.build [(.sl none 0 (some 0)), (.sl none 0 (some 0)), (.sl none 0 (some 0))] [(0, 1, (.t 13)), (1, 2, (.t 15))], (some 16), none, []⟩ :: ⟨.store 3 (.t 4) (.t 16), none, none, []⟩ :: L20_7
theorem v20_8 : VS L20_8.eq_1 := rfl
def L20_9 : List AStep := ⟨.call 60 [(.t 12)], (some 13), none, [(.load 2 true (.t 3), (some 14), none)]⟩ :: ⟨.call 61 [(.t 14)], (some 15), none, []⟩ :: L20_8
theorem v20_9 : VS L20_9.eq_1 := rfl
def L20_10 : List AStep := ⟨.load 1 true (.t 2), (some 12), none, []⟩ :: ⟨.load 2 true (.t 3), (some 14), none, []⟩ :: L20_9
theorem v20_10 : VS L20_10.eq_1 := rfl
def C20_0 : ACode := .seq (.reg L20_6) .ret
theorem u20_0 : VC C20_0.eq_1 := rfl
def C20_1 : ACode := .cond (.t 10) C20_0 .skip
theorem u20_1 : VC C20_1.eq_1 := rfl
def C20_2 : ACode := .seq (.reg L20_4) C20_1
theorem u20_2 : VC C20_2.eq_1 := rfl
def C20_3 : ACode := .seq (.reg L20_10) .ret
theorem u20_3 : VC C20_3.eq_1 := rfl
def C20_4 : ACode := .seq C20_2 C20_3
theorem u20_4 : VC C20_4.eq_1 := rfl
def C20_5 : ACode := .seq (.reg L20_1) C20_4
theorem u20_5 : VC C20_5.eq_1 := rfl
def F20 : AFunc := ⟨17, [.cell 4 3 true, .tmp 5], C20_5⟩
theorem cF20 : compB Try.prog 20 = some F20 := by kernel_rfl
attribute [local go_sem ↓] u20_0 u20_1 u20_2 u20_3 u20_4 u20_5 v20_0 v20_1 v20_2 v20_3 v20_4 v20_5 v20_6 v20_7 v20_8 v20_9 v20_10
theorem k_iPartialOf (l : List Param) (f : Flat) (q p n : CV) (h : H) (hl : SlG h q l) (hf : SlF h p n f) (hn : miniG l) (hm : miniF f) :
    callK (bm Try.prog 20 [.agg [q], .agg [p, n]] h) fun r h' => Grow h h' ∧ ∃ q' p' n', r = .tup [.agg [q', p', n'], .one (.bool (partOk l f))] ∧ NwD h h' q' p' n' (partF l f) := by
  refine bm_of cF20 ?_
  have vp := c_ValidPartial l f q p n h hl hf hn hm
  unfold partF
  cases b1 : partOk l f with
  | false =>
    rw [b1] at vp
    simp +contextual (maxSteps := 2000000) only [go_sem, Nat.reduceEqDiff, reduceCtorEq, Nat.reduceAdd, Nat.reduceLeDiff, F20, vp, if_false]
    exact ⟨Grow.refl h, _, _, _, rfl, .nil⟩
  | true =>
    rw [b1] at vp
    simp +contextual (maxSteps := 2000000) only [go_sem, Nat.reduceEqDiff, reduceCtorEq, Nat.reduceAdd, Nat.reduceLeDiff, F20, vp, if_true, loadL_agg]
    refine wp_call (c_copyOfS l _ h hl.out hn.sm.1) ?_
    rintro r h1 ⟨g1, c, rfl, n1⟩
    simp +contextual (maxSteps := 2000000) only [go_sem, Nat.reduceEqDiff, reduceCtorEq, Nat.reduceAdd, Nat.reduceLeDiff, loadL_agg]
    refine wp_call (c_copyOfF f p n h1 (hf.grow g1) hm.sm) ?_
    rintro r h2 ⟨g2, p', n', rfl, n2⟩
    simp +contextual (maxSteps := 2000000) only [go_sem, Nat.reduceEqDiff, reduceCtorEq, Nat.reduceAdd, Nat.reduceLeDiff]
    have z : NwD h h2 c p' n' ⟨l, f⟩ := ⟨⟨n1.grow g2⟩, n2.from g1.n, n1.apart n2.pl, n1.apart n2.nl⟩
    exact gcK_of ⟨g1.trans g2, _, _, _, rfl, z⟩ (fun hs _ => ⟨Grow.refl h, _, _, _, rfl, z.scalar (by simpa [AV.scalar, AV.scalars, CV.scalar] using hs) h⟩)
end Go.Proofs.Ytekkimfdcbgcoab.Am
