/- Contracts of the program: copies, calls over each other. -/
import Derived.Test.YtnphlonhogcedaaA3
namespace Go.Proofs.Ytnphlonhogcedaa.Am
open Go
set_option maxRecDepth 100000
set_option maxHeartbeats 4000000
set_option linter.unusedSimpArgs false
set_option linter.unusedVariables false
attribute [local go_sem ↓] bv_t bv_c ev_t ev_c put_same put_ne put_none kill_at pro_at lb_same lb_ne start_zero start_succ wpC_seq wpC_reg wpC_cond wpC_block wpC_skip wpC_exit wpC_ret thenQ_normal thenQ_exit thenQ_ret inBlk_normal inBlk_exit inBlk_ret wpS_nil wpS_step wpS_again wpS_guard wpO_mov wpO_load wpO_faddr wpO_nilCheck wpO_pick wpO_build wpO_bin wpO_eqb wpO_eqst wpO_eqnil wpO_not wpO_conv wpO_bytesStr wpO_iaddr wpO_idxStr wpO_field wpO_extract wpO_len wpO_lenStr wpO_cap wpO_min wpO_slice wpO_sliceStr wpO_alloc wpO_box wpO_store wpO_call wpO_callv wpO_mkfn wpO_buildSlice wpO_mkslice wpO_append wpO_appz proA_nil proA_cons tmpX_nil tmpX_tmp tmpX_cell doneB_normal doneB_ret agK_cons agK_nil pureB_load results_one results_two results_nil resBs_cons resBs_nil resB_tmp resB_cell
attribute [local go_sem] kill_v kill_lp_ne kill_lp_same pro_v pro_lp_same pro_lp_ne av_v av_lp optB_some optX_some valX_eq ldX_lp ldX_v faX_lp faX_v ncX_lp ncX_ptr ncX_fn boxK_one boxK_agg stL_some stK_lp_one stK_lp_agg stK_v_one stK_v_agg proM_v proM_lp callG_mk callVG_mk callvK_fn fnG_mk ptrsA_nil ptrsA_cons callH_some whenA_true whenA_false guardH_tt guardH_ff guardH_tf guardH_ft guardH_undef agV_one agV_agg lenO_sl lenStrO_str notO_bool pickO_bool convO_int eqbO_bool eqnilO_sl extractO_tup capO_sl minO_int loadL_one loadL_all storeL_eq fillA_nil fillA_one fillA_agg nat_ge neg_ge nat_lt neg_lt buildO bin_add bin_sub bin_mul bin_eql bin_neq bin_lss bin_leq bin_gtr bin_geq str_eql str_neq str_lss str_leq str_gtr str_geq retK_some endK_mk gcK_same gcK_int gcK_bool tupO_one tupO_agg rdy_self ib ii Option.map_none Option.map_some Option.some.injEq exists_eq_left' exists_eq_left ne_eq not_false_eq_true if_true if_false List.map_cons List.map_nil List.getElem?_cons_zero List.getElem?_cons_succ List.length_cons List.length_nil List.take_succ_cons List.take_zero List.take_nil List.drop_succ_cons List.drop_zero List.drop_nil List.cons_append List.nil_append List.append_nil List.set_cons_zero List.set_cons_succ Nat.zero_add forall_const true_and and_true and_self Bool.false_eq_true false_implies true_implies implies_true Bool.not_true Bool.not_false Bool.not_eq_true' Bool.not_eq_false' beq_self_eq_true Bool.bne_true Bool.bne_false
attribute [local go_sem] lenI lenS lenP lenQ lenB lenL lenT encI_0 encS_0 encP_0 encP_1 encQ_0 encQ_1 encQ_2 encQ_3 encB_0 encB_1 encL_0 encL_1 encT_0 encT_1
attribute [local go_sem low] whenA_bool guardH_bool
section
variable {P : Program} {T : Tb} {L : Lb} {h : H} {Q : PostC} {K : Post}
/-! slices.Clip(()impl.Param,impl.Param) -/
def L174_0 : List AStep := [⟨.mov (.c (.sl none 0 (some 0))), (some 2), none, []⟩]
theorem v174_0 : wpS P L174_0 T L (rdy h) K = wpS P ([⟨.mov (.c (.sl none 0 (some 0))), (some 2), none, []⟩]) T L (rdy h) K := rfl
def L174_1 : List AStep := [⟨.mov (.t 8), (some 2), none, []⟩]
theorem v174_1 : wpS P L174_1 T L (rdy h) K = wpS P ([⟨.mov (.t 8), (some 2), none, []⟩]) T L (rdy h) K := rfl
def L174_2 : List AStep := ⟨.len (.t 6), (some 7), none, []⟩ :: ⟨.slice 108 4 (.t 3) none (some (.t 5)) (some (.t 7)), (some 8), none, []⟩ :: L174_1
theorem v174_2 : wpS P L174_2 T L (rdy h) K = wpS P (⟨.len (.t 6), (some 7), none, []⟩ :: ⟨.slice 108 4 (.t 3) none (some (.t 5)) (some (.t 7)), (some 8), none, []⟩ :: L174_1) T L (rdy h) K := rfl
def L174_3 : List AStep := ⟨.len (.t 4), (some 5), none, []⟩ :: ⟨.mov (.t 0), (some 6), none, []⟩ :: L174_2
theorem v174_3 : wpS P L174_3 T L (rdy h) K = wpS P (⟨.len (.t 4), (some 5), none, []⟩ :: ⟨.mov (.t 0), (some 6), none, []⟩ :: L174_2) T L (rdy h) K := rfl
def L174_4 : List AStep := ⟨.mov (.t 0), (some 3), none, []⟩ :: ⟨.mov (.t 0), (some 4), none, []⟩ :: L174_3
theorem v174_4 : wpS P L174_4 T L (rdy h) K = wpS P (⟨.mov (.t 0), (some 3), none, []⟩ :: ⟨.mov (.t 0), (some 4), none, []⟩ :: L174_3) T L (rdy h) K := rfl
def C174_0 : ACode := .seq (.reg L174_4) .ret
theorem u174_0 : wpC P C174_0 T L (rdy h) Q = wpC P (.seq (.reg L174_4) .ret) T L (rdy h) Q := rfl
def C174_1 : ACode := .seq (.reg L174_0) C174_0
theorem u174_1 : wpC P C174_1 T L (rdy h) Q = wpC P (.seq (.reg L174_0) C174_0) T L (rdy h) Q := rfl
def F174 : AFunc := ⟨9, [.tmp 2], C174_1⟩
theorem cF174 : compB Try.prog 174 = some F174 := by kernel_rfl
end
attribute [local go_sem ↓] u174_0 u174_1 v174_0 v174_1 v174_2 v174_3 v174_4
theorem c_clipQ {h0 : H} (l : List Param) (v : AV) (h : H) (hl : NwQ h0 h v l) : callK (bm Try.prog 174 [v] h) fun r h' => h' = h ∧ NwQ h0 h r l := by
  refine bm_of cF174 ?_
  obtain ⟨w, e1, n1⟩ := hl.clipO (kd := .i64) (kd' := .i64)
  simp +contextual (maxSteps := 2000000) only [go_sem, Nat.reduceEqDiff, reduceCtorEq, Nat.reduceAdd, Nat.reduceLeDiff, F174, hl.length, e1]
  exact n1
section
variable {P : Program} {T : Tb} {L : Lb} {h : H} {Q : PostC} {K : Post}
/-! slices.Clone(()impl.Param,impl.Param) -/
def L175_0 : List AStep := [⟨.mov (.c (.sl none 0 (some 0))), (some 2), none, []⟩]
theorem v175_0 : wpS P L175_0 T L (rdy h) K = wpS P ([⟨.mov (.c (.sl none 0 (some 0))), (some 2), none, []⟩]) T L (rdy h) K := rfl
def L175_1 : List AStep := [⟨.mov (.t 0), (some 3), none, []⟩, ⟨.eqnil false (.t 3) (.c (.sl none 0 (some 0))), (some 4), none, []⟩]
theorem v175_1 : wpS P L175_1 T L (rdy h) K = wpS P ([⟨.mov (.t 0), (some 3), none, []⟩, ⟨.eqnil false (.t 3) (.c (.sl none 0 (some 0))), (some 4), none, []⟩]) T L (rdy h) K := rfl
def L175_2 : List AStep := [⟨.mov (.c (.sl none 0 (some 0))), (some 2), none, []⟩]
theorem v175_2 : wpS P L175_2 T L (rdy h) K = wpS P ([⟨.mov (.c (.sl none 0 (some 0))), (some 2), none, []⟩]) T L (rdy h) K := rfl
def L175_3 : List AStep := [⟨.append 108 4 40 (.t 5) (.t 6), (some 7), none, []⟩, ⟨.mov (.t 7), (some 2), none, []⟩]
theorem v175_3 : wpS P L175_3 T L (rdy h) K = wpS P ([⟨.append 108 4 40 (.t 5) (.t 6), (some 7), none, []⟩, ⟨.mov (.t 7), (some 2), none, []⟩]) T L (rdy h) K := rfl
def L175_4 : List AStep := ⟨.buildSlice 108 0 [(.str (strOfNums [])), (.int .i64 0), (.bool false), (.int .i64 0)] [], (some 5), none, []⟩ :: ⟨.mov (.t 0), (some 6), none, []⟩ :: L175_3
theorem v175_4 : wpS P L175_4 T L (rdy h) K = wpS P (⟨.buildSlice 108 0 [(.str (strOfNums [])), (.int .i64 0), (.bool false), (.int .i64 0)] [], (some 5), none, []⟩ :: ⟨.mov (.t 0), (some 6), none, []⟩ :: L175_3) T L (rdy h) K := rfl
def C175_0 : ACode := .seq (.reg L175_2) .ret
theorem u175_0 : wpC P C175_0 T L (rdy h) Q = wpC P (.seq (.reg L175_2) .ret) T L (rdy h) Q := rfl
def C175_1 : ACode := .cond (.t 4) C175_0 .skip
theorem u175_1 : wpC P C175_1 T L (rdy h) Q = wpC P (.cond (.t 4) C175_0 .skip) T L (rdy h) Q := rfl
def C175_2 : ACode := .seq (.reg L175_1) C175_1
theorem u175_2 : wpC P C175_2 T L (rdy h) Q = wpC P (.seq (.reg L175_1) C175_1) T L (rdy h) Q := rfl
def C175_3 : ACode := .seq (.reg L175_4) .ret
theorem u175_3 : wpC P C175_3 T L (rdy h) Q = wpC P (.seq (.reg L175_4) .ret) T L (rdy h) Q := rfl
def C175_4 : ACode := .seq C175_2 C175_3
theorem u175_4 : wpC P C175_4 T L (rdy h) Q = wpC P (.seq C175_2 C175_3) T L (rdy h) Q := rfl
def C175_5 : ACode := .seq (.reg L175_0) C175_4
theorem u175_5 : wpC P C175_5 T L (rdy h) Q = wpC P (.seq (.reg L175_0) C175_4) T L (rdy h) Q := rfl
def F175 : AFunc := ⟨8, [.tmp 2], C175_5⟩
theorem cF175 : compB Try.prog 175 = some F175 := by kernel_rfl
end
attribute [local go_sem ↓] u175_0 u175_1 u175_2 u175_3 u175_4 u175_5 v175_0 v175_1 v175_2 v175_3 v175_4
theorem c_clone0Q (l : List Param) (v : AV) (h : H) (hl : SlQ h v l) (hn : l.length ≤ big) : callK (bm Try.prog 175 [v] h) fun r h' => Grow h h' ∧ NwQ h h' r l := by
  refine bm_of cF175 ?_
  obtain ⟨b, e1, e2⟩ := hl.isNil
  simp +contextual (maxSteps := 2000000) only [go_sem, Nat.reduceEqDiff, reduceCtorEq, Nat.reduceAdd, Nat.reduceLeDiff, F175, e1]
  cases b with
  | true =>
    obtain rfl := e2 rfl
    simp +contextual (maxSteps := 2000000) only [go_sem, Nat.reduceEqDiff, reduceCtorEq, Nat.reduceAdd, Nat.reduceLeDiff]
    exact ⟨Grow.refl h, .nil⟩
  | false =>
    simp +contextual (maxSteps := 2000000) only [go_sem, Nat.reduceEqDiff, reduceCtorEq, Nat.reduceAdd, Nat.reduceLeDiff]
    refine wp_lit (enc := encQ) (k := 4) (l := []) rfl rfl ?_
    intro h1 w g1 n1 _
    simp +contextual (maxSteps := 2000000) only [go_sem, Nat.reduceEqDiff, reduceCtorEq, Nat.reduceAdd, Nat.reduceLeDiff]
    refine wp_append lenQ n1 (hl.grow g1) g1 (by have := hn; unfold big at this; simp; omega) ?_
    intro h2 s g2 n2 _ _
    simp +contextual (maxSteps := 2000000) only [go_sem, Nat.reduceEqDiff, reduceCtorEq, Nat.reduceAdd, Nat.reduceLeDiff]
    exact gcK_of ⟨g2, n2⟩ (fun hs _ => ⟨Grow.refl h, n2.scalar hs h⟩)
section
variable {P : Program} {T : Tb} {L : Lb} {h : H} {Q : PostC} {K : Post}
/-! impl.clone(impl.Param) -/
def L95_0 : List AStep := [⟨.mov (.c (.sl none 0 (some 0))), (some 2), none, []⟩]
theorem v95_0 : wpS P L95_0 T L (rdy h) K = wpS P ([⟨.mov (.c (.sl none 0 (some 0))), (some 2), none, []⟩]) T L (rdy h) K := rfl
def L95_1 : List AStep := [⟨.call 174 [(.t 4)], (some 5), none, []⟩, ⟨.mov (.t 5), (some 2), none, []⟩]
theorem v95_1 : wpS P L95_1 T L (rdy h) K = wpS P ([⟨.call 174 [(.t 4)], (some 5), none, []⟩, ⟨.mov (.t 5), (some 2), none, []⟩]) T L (rdy h) K := rfl
def L95_2 : List AStep := ⟨.mov (.t 0), (some 3), none, []⟩ :: ⟨.call 175 [(.t 3)], (some 4), none, []⟩ :: L95_1
theorem v95_2 : wpS P L95_2 T L (rdy h) K = wpS P (⟨.mov (.t 0), (some 3), none, []⟩ :: ⟨.call 175 [(.t 3)], (some 4), none, []⟩ :: L95_1) T L (rdy h) K := rfl
def C95_0 : ACode := .seq (.reg L95_2) .ret
theorem u95_0 : wpC P C95_0 T L (rdy h) Q = wpC P (.seq (.reg L95_2) .ret) T L (rdy h) Q := rfl
def C95_1 : ACode := .seq (.reg L95_0) C95_0
theorem u95_1 : wpC P C95_1 T L (rdy h) Q = wpC P (.seq (.reg L95_0) C95_0) T L (rdy h) Q := rfl
def F95 : AFunc := ⟨6, [.tmp 2], C95_1⟩
theorem cF95 : compB Try.prog 95 = some F95 := by kernel_rfl
end
attribute [local go_sem ↓] u95_0 u95_1 v95_0 v95_1 v95_2
theorem c_cloneQ (l : List Param) (v : AV) (h : H) (hl : SlQ h v l) (hn : l.length ≤ big) : callK (bm Try.prog 95 [v] h) fun r h' => Grow h h' ∧ NwQ h h' r l := by
  refine bm_of cF95 ?_
  simp +contextual (maxSteps := 2000000) only [go_sem, Nat.reduceEqDiff, reduceCtorEq, Nat.reduceAdd, Nat.reduceLeDiff, F95]
  refine wp_call (c_clone0Q l v h hl hn) ?_
  rintro r h1 ⟨g1, n1⟩
  simp +contextual (maxSteps := 2000000) only [go_sem, Nat.reduceEqDiff, reduceCtorEq, Nat.reduceAdd, Nat.reduceLeDiff]
  refine wp_call (c_clipQ l r h1 n1) ?_
  rintro r2 h2 ⟨rfl, n2⟩
  simp +contextual (maxSteps := 2000000) only [go_sem, Nat.reduceEqDiff, reduceCtorEq, Nat.reduceAdd, Nat.reduceLeDiff]
  exact gcK_of ⟨g1, n2⟩ (fun hs _ => ⟨Grow.refl h, n2.scalar hs h⟩)
section
variable {P : Program} {T : Tb} {L : Lb} {h : H} {Q : PostC} {K : Post}
/-! (impl.Signature).copyOf -/
def L100_0 : List AStep := [⟨.box 51 (.t 0), (some 1), none, []⟩, ⟨.alloc 51 [(.sl none 0 (some 0))], (some 2), none, []⟩]
theorem v100_0 : wpS P L100_0 T L (rdy h) K = wpS P ([⟨.box 51 (.t 0), (some 1), none, []⟩, ⟨.alloc 51 [(.sl none 0 (some 0))], (some 2), none, []⟩]) T L (rdy h) K := rfl
def L100_1 : List AStep := [⟨.store 1 (.t 2) (.t 6), none, none, []⟩]
theorem v100_1 : wpS P L100_1 T L (rdy h) K = wpS P ([⟨.store 1 (.t 2) (.t 6), none, none, []⟩]) T L (rdy h) K := rfl
def L100_2 : List AStep := ⟨.call 95 [(.t 4)], (some 5), none, []⟩ :: ⟨.build [(.sl none 0 (some 0))] [(0, 1, (.t 5))], (some 6), none, []⟩ :: L100_1
theorem v100_2 : wpS P L100_2 T L (rdy h) K = wpS P (⟨.call 95 [(.t 4)], (some 5), none, []⟩ :: ⟨.build [(.sl none 0 (some 0))] [(0, 1, (.t 5))], (some 6), none, []⟩ :: L100_1) T L (rdy h) K := rfl
def L100_3 : List AStep := ⟨.faddr 0 (.t 1), (some 3), none, []⟩ :: ⟨.load 1 false (.t 3), (some 4), none, []⟩ :: L100_2
theorem v100_3 : wpS P L100_3 T L (rdy h) K = wpS P (⟨.faddr 0 (.t 1), (some 3), none, []⟩ :: ⟨.load 1 false (.t 3), (some 4), none, []⟩ :: L100_2) T L (rdy h) K := rfl
def C100_0 : ACode := .seq (.reg L100_3) .ret
theorem u100_0 : wpC P C100_0 T L (rdy h) Q = wpC P (.seq (.reg L100_3) .ret) T L (rdy h) Q := rfl
def C100_1 : ACode := .seq (.reg L100_0) C100_0
theorem u100_1 : wpC P C100_1 T L (rdy h) Q = wpC P (.seq (.reg L100_0) C100_0) T L (rdy h) Q := rfl
def F100 : AFunc := ⟨7, [.cell 2 1 true], C100_1⟩
theorem cF100 : compB Try.prog 100 = some F100 := by kernel_rfl
end
attribute [local go_sem ↓] u100_0 u100_1 v100_0 v100_1 v100_2 v100_3
theorem c_copyOfS (l : List Param) (v : CV) (h : H) (hl : SlQ h (.one v) l) (hn : l.length ≤ big) : callK (bm Try.prog 100 [.agg [v]] h) fun r h' => Grow h h' ∧ ∃ w, r = .agg [w] ∧ NwQ h h' (.one w) l := by
  refine bm_of cF100 ?_
  simp +contextual (maxSteps := 2000000) only [go_sem, Nat.reduceEqDiff, reduceCtorEq, Nat.reduceAdd, Nat.reduceLeDiff, F100]
  refine wp_call (c_cloneQ _ _ h hl hn) ?_
  rintro r h1 ⟨g1, n1⟩
  obtain ⟨w, rfl⟩ := n1.one
  simp +contextual (maxSteps := 2000000) only [go_sem, Nat.reduceEqDiff, reduceCtorEq, Nat.reduceAdd, Nat.reduceLeDiff]
  exact gcK_of ⟨g1, _, rfl, n1⟩ (fun hs _ => ⟨Grow.refl h, _, rfl, n1.scalar (by simpa [AV.scalar] using hs) h⟩)
end Go.Proofs.Ytnphlonhogcedaa.Am
