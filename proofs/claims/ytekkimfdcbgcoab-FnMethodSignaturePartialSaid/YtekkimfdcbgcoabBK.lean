/- Contracts: binding, of both sides. -/
import Derived.Test.YtekkimfdcbgcoabBJ
namespace Go.Proofs.Ytekkimfdcbgcoab.Am
open Go
set_option maxRecDepth 100000
set_option maxHeartbeats 4000000
set_option linter.unusedSimpArgs false
set_option linter.unusedVariables false
attribute [local go_sem ↓] bv_t bv_c ev_t ev_c put_same put_ne put_none kill_at pro_at lb_same lb_ne start_zero start_succ wpC_seq wpC_reg wpC_cond wpC_block wpC_skip wpC_exit wpC_ret thenQ_normal thenQ_exit thenQ_ret inBlk_normal inBlk_exit inBlk_ret wpS_nil wpS_step wpS_again wpS_guard wpO_mov wpO_load wpO_faddr wpO_nilCheck wpO_pick wpO_build wpO_bin wpO_eqb wpO_eqst wpO_eqnil wpO_not wpO_conv wpO_bytesStr wpO_iaddr wpO_idxStr wpO_field wpO_extract wpO_len wpO_lenStr wpO_cap wpO_min wpO_slice wpO_sliceStr wpO_alloc wpO_box wpO_store wpO_call wpO_callv wpO_mkfn wpO_buildSlice wpO_mkslice wpO_append wpO_appz proA_nil proA_cons tmpX_nil tmpX_tmp tmpX_cell doneB_normal doneB_ret agK_cons agK_nil agK_guard agG_tt agG_ff agG_tf agG_ft agG_undef pureB_load results_one results_two results_nil resBs_cons resBs_nil resB_tmp resB_cell
attribute [local go_sem] kill_v kill_lp_ne kill_lp_same pro_v pro_lp_same pro_lp_ne av_v av_lp optB_some optX_some valX_eq ldX_lp ldX_v faX_lp faX_v ncX_lp ncX_ptr ncX_fn boxK_one boxK_agg stL_some stK_lp_one stK_lp_agg stK_v_one stK_v_agg proM_v proM_lp callG_mk callVG_mk callvK_fn fnG_mk ptrsA_nil ptrsA_cons callH_some whenA_true whenA_false guardH_tt guardH_ff guardH_tf guardH_ft guardH_undef agV_one agV_agg lenO_sl lenStrO_str notO_bool pickO_bool convO_int eqbO_bool eqnilO_sl extractO_tup capO_sl minO_int loadL_one loadL_all storeL_eq fillA_nil fillA_one fillA_agg nat_ge neg_ge nat_lt neg_lt buildO bin_add bin_sub bin_mul bin_eql bin_neq bin_lss bin_leq bin_gtr bin_geq str_eql str_neq str_lss str_leq str_gtr str_geq retK_some endK_mk gcK_same gcK_int gcK_bool tupO_one tupO_agg rdy_self ib ii Option.map_none Option.map_some Option.some.injEq exists_eq_left' exists_eq_left ne_eq not_false_eq_true if_true if_false List.map_cons List.map_nil List.getElem?_cons_zero List.getElem?_cons_succ List.length_cons List.length_nil List.take_succ_cons List.take_zero List.take_nil List.drop_succ_cons List.drop_zero List.drop_nil List.cons_append List.nil_append List.append_nil List.set_cons_zero List.set_cons_succ Nat.zero_add forall_const true_and and_true and_self Bool.false_eq_true false_implies true_implies implies_true Bool.not_true Bool.not_false Bool.not_eq_true' Bool.not_eq_false' beq_self_eq_true Bool.bne_true Bool.bne_false
attribute [local go_sem] lenI lenS lenP lenQ lenB lenL lenT encI_0 encS_0 encP_0 encP_1 encQ_0 encQ_1 encQ_2 encQ_3 encB_0 encB_1 encL_0 encL_1 encT_0 encT_1
attribute [local go_sem low] whenA_bool guardH_bool
attribute [local go_sem] lenY encY_0 encY_1 encY_2
theorem miniG.smQ {l : List Param} (h : miniG l) : smQ l := h.sm
theorem miniY.bound {l : List Param} {f : Flat} (ok1 : okSig l = true) (ok2 : okFlat f = true) : miniY (boundS l f) := by
  have s := SOk.bound (l := l) ok2
  have hn := okSig_len ok1
  have hl : (boundS l f).length = l.length := boundS_len
  refine ⟨by omega, fun a ha => by have := s.list a ha; omega, fun a ha => by have := s.pairs a ha; omega, fun a ha x hx => by have := s.nm a ha x hx; omega, ?_⟩
  have := wsum_bound (f := cellsEY) (B := 26) (l := boundS l f) (fun a ha => by have := s.list a ha; have := s.pairs a ha; unfold cellsEY; omega)
  unfold cellsY
  have h2 : (boundS l f).length * 26 ≤ 8 * 26 := Nat.mul_le_mul_right _ (by omega)
  omega
theorem miniY.nil : miniY [] := ⟨by simp, fun a ha => by simp at ha, fun a ha => by simp at ha, fun a ha => by simp at ha, by simp [cellsY, wsum]⟩
theorem miniY.bind {l : List Param} {f : Flat} : miniY (bindF l f) := by
  unfold bindF
  split
  · rename_i h
    obtain ⟨ok1, ok2⟩ := fits_ok (accepts_fits h)
    exact .bound ok1 ok2
  · exact .nil
theorem miniY.part {l : List Param} {f : Flat} : miniY (bindPartF l f) := by
  unfold bindPartF
  split
  · rename_i h
    unfold partOk at h
    rw [Bool.and_eq_true] at h
    obtain ⟨ok1, ok2⟩ := fits_ok h.1
    exact .bound ok1 ok2
  · exact .nil
theorem smQ_of {l : List Param} (ok1 : okSig l = true) : smQ l := by
  have hn := okSig_len ok1
  exact ⟨by unfold big; omega, fun x hx => by have := okSig_name ok1 x hx; unfold big; omega⟩
theorem len_isEmpty {α : Type} (l : List α) : decide ((l.length : Int) = 0) = l.isEmpty := by
  cases l with
  | nil => rfl
  | cons a r => simp; omega
theorem len_pos {α : Type} (l : List α) : decide ((l.length : Int) > 0) = !l.isEmpty := by
  cases l with
  | nil => rfl
  | cons a r => simp
/-! impl.fit -/
def L64_0 : List AStep := [⟨.mov (.c (.bool false)), (some 4), none, []⟩]
theorem v64_0 : VS L64_0.eq_1 := rfl
def L64_1 : List AStep := ⟨.box 25 (.t 0), (some 2), none, []⟩ :: ⟨.box 29 (.t 1), (some 3), none, []⟩ :: L64_0
theorem v64_1 : VS L64_1.eq_1 := rfl
def L64_2 : List AStep := [⟨.mov (.t 10), (some 4), none, []⟩]
theorem v64_2 : VS L64_2.eq_1 := rfl
def L64_3 : List AStep := ⟨.call 32 [(.t 8)], (some 9), (some (7, true)), []⟩ :: ⟨.pick (.t 7) (.t 9) (.c (.bool false)), (some 10), none, []⟩ :: L64_2
theorem v64_3 : VS L64_3.eq_1 := rfl
def L64_4 : List AStep := ⟨.mov (.t 6), (some 7), none, []⟩ :: ⟨.load 2 true (.t 3), (some 8), (some (7, true)), []⟩ :: L64_3
theorem v64_4 : VS L64_4.eq_1 := rfl
def L64_5 : List AStep := ⟨.load 1 true (.t 2), (some 5), none, []⟩ :: ⟨.call 31 [(.t 5)], (some 6), none, []⟩ :: L64_4
theorem v64_5 : VS L64_5.eq_1 := rfl
def C64_0 : ACode := .seq (.reg L64_5) .ret
theorem u64_0 : VC C64_0.eq_1 := rfl
def C64_1 : ACode := .seq (.reg L64_1) C64_0
theorem u64_1 : VC C64_1.eq_1 := rfl
def F64 : AFunc := ⟨11, [.tmp 4], C64_1⟩
theorem cF64 : compB Try.prog 64 = some F64 := by kernel_rfl
attribute [local go_sem ↓] u64_0 u64_1 v64_0 v64_1 v64_2 v64_3 v64_4 v64_5
theorem c_fit (l : List Param) (f : Flat) (q p n : CV) (h : H) (hl : SlG h q l) (hf : SlF h p n f) (hn : miniG l) (hm : miniF f) : bm Try.prog 64 [.agg [q], .agg [p, n]] h = some (ib (fits l f), h) := by
  refine bm_eq cF64 ?_
  have c1 := c_ValidSignature l q h hl.out hn.sm
  have c2 := c_ValidFlat f p n h hf.pl hf.nl hm.sm
  unfold fits
  cases b1 : okSig l with
  | false =>
    rw [b1] at c1
    simp +contextual (maxSteps := 2000000) only [go_sem, Nat.reduceEqDiff, reduceCtorEq, Nat.reduceAdd, Nat.reduceLeDiff, F64, c1, Bool.false_and]
  | true =>
    rw [b1] at c1
    simp +contextual (maxSteps := 2000000) only [go_sem, Nat.reduceEqDiff, reduceCtorEq, Nat.reduceAdd, Nat.reduceLeDiff, F64, c1, c2, Bool.true_and]
/-! impl.Bind -/
def L33_0 : List AStep := [⟨.alloc 56 [(.sl none 0 (some 0))], (some 4), none, []⟩, ⟨.mov (.c (.bool false)), (some 5), none, []⟩]
theorem v33_0 : VS L33_0.eq_1 := rfl
def L33_1 : List AStep := ⟨.box 25 (.t 0), (some 2), none, []⟩ :: ⟨.box 29 (.t 1), (some 3), none, []⟩ :: L33_0
theorem v33_1 : VS L33_1.eq_1 := rfl
def L33_2 : List AStep := [⟨.call 64 [(.t 8), (.t 9)], (some 10), none, []⟩, ⟨.not (.t 10), (some 11), none, []⟩]
theorem v33_2 : VS L33_2.eq_1 := rfl
def L33_3 : List AStep := ⟨.load 1 true (.t 2), (some 8), none, []⟩ :: ⟨.load 2 true (.t 3), (some 9), none, []⟩ :: L33_2
theorem v33_3 : VS L33_3.eq_1 := rfl
def L33_4 : List AStep := [⟨.mov (.c (.bool false)), (some 5), none, []⟩]
theorem v33_4 : VS L33_4.eq_1 := rfl
def L33_5 : List AStep := ⟨.build [(.sl none 0 (some 0))] [], (some 12), none, []⟩ :: ⟨.store 1 (.t 4) (.t 12), none, none, []⟩ :: L33_4
theorem v33_5 : VS L33_5.eq_1 := rfl
def L33_6 : List AStep := [⟨.mov (.t 18), (some 7), none, []⟩]
theorem v33_6 : VS L33_6.eq_1 := rfl
def L33_7 : List AStep := ⟨.alloc 56 [(.sl none 0 (some 0))], (some 6), none, []⟩ :: ⟨.store 1 (.t 6) (.t 17), none, none, []⟩ :: L33_6
theorem v33_7 : VS L33_7.eq_1 := rfl
def L33_8 : List AStep := ⟨.extract (.t 13) 0, (some 17), none, []⟩ :: ⟨.extract (.t 13) 1, (some 18), none, []⟩ :: L33_7
theorem v33_8 : VS L33_8.eq_1 := rfl
def L33_9 : List AStep := ⟨.call 65 [(.t 14), (.t 15)], (some 16), none, []⟩ :: ⟨.mov (.t 16), (some 13), none, []⟩ :: L33_8
theorem v33_9 : VS L33_9.eq_1 := rfl
def L33_10 : List AStep := ⟨.load 1 true (.t 2), (some 14), none, []⟩ :: ⟨.load 2 true (.t 3), (some 15), none, []⟩ :: L33_9
theorem v33_10 : VS L33_10.eq_1 := rfl
def L33_11 : List AStep := [⟨.bin .gtr (.t 20) (.c (.int .i64 0)), (some 21), none, []⟩]
theorem v33_11 : VS L33_11.eq_1 := rfl
def L33_12 : List AStep := ⟨.mov (.t 7), (some 19), none, []⟩ :: ⟨.len (.t 19), (some 20), none, []⟩ :: L33_11
theorem v33_12 : VS L33_12.eq_1 := rfl
def L33_13 : List AStep := [⟨.mov (.c (.bool false)), (some 5), none, []⟩]
theorem v33_13 : VS L33_13.eq_1 := rfl
def L33_14 : List AStep := ⟨.build [(.sl none 0 (some 0))] [], (some 22), none, []⟩ :: ⟨.store 1 (.t 4) (.t 22), none, none, []⟩ :: L33_13
theorem v33_14 : VS L33_14.eq_1 := rfl
def L33_15 : List AStep := [⟨.mov (.c (.bool true)), (some 5), none, []⟩]
theorem v33_15 : VS L33_15.eq_1 := rfl
def L33_16 : List AStep := ⟨.load 1 true (.t 6), (some 23), none, []⟩ :: ⟨.store 1 (.t 4) (.t 23), none, none, []⟩ :: L33_15
theorem v33_16 : VS L33_16.eq_1 := rfl
def C33_0 : ACode := .seq (.reg L33_5) .ret
theorem u33_0 : VC C33_0.eq_1 := rfl
def C33_1 : ACode := .cond (.t 11) C33_0 .skip
theorem u33_1 : VC C33_1.eq_1 := rfl
def C33_2 : ACode := .seq (.reg L33_3) C33_1
theorem u33_2 : VC C33_2.eq_1 := rfl
def C33_3 : ACode := .seq (.reg L33_14) .ret
theorem u33_3 : VC C33_3.eq_1 := rfl
def C33_4 : ACode := .cond (.t 21) C33_3 .skip
theorem u33_4 : VC C33_4.eq_1 := rfl
def C33_5 : ACode := .seq (.reg L33_12) C33_4
theorem u33_5 : VC C33_5.eq_1 := rfl
def C33_6 : ACode := .seq (.reg L33_16) .ret
theorem u33_6 : VC C33_6.eq_1 := rfl
def C33_7 : ACode := .seq C33_5 C33_6
theorem u33_7 : VC C33_7.eq_1 := rfl
def C33_8 : ACode := .seq (.reg L33_10) C33_7
theorem u33_8 : VC C33_8.eq_1 := rfl
def C33_9 : ACode := .seq C33_2 C33_8
theorem u33_9 : VC C33_9.eq_1 := rfl
def C33_10 : ACode := .seq (.reg L33_1) C33_9
theorem u33_10 : VC C33_10.eq_1 := rfl
def F33 : AFunc := ⟨24, [.cell 4 1 true, .tmp 5], C33_10⟩
theorem cF33 : compB Try.prog 33 = some F33 := by kernel_rfl
attribute [local go_sem ↓] u33_0 u33_1 u33_2 u33_3 u33_4 u33_5 u33_6 u33_7 u33_8 u33_9 u33_10 v33_0 v33_1 v33_2 v33_3 v33_4 v33_5 v33_6 v33_7 v33_8 v33_9 v33_10 v33_11 v33_12 v33_13 v33_14 v33_15 v33_16
theorem k_iBind (l : List Param) (f : Flat) (q p n : CV) (h : H) (hl : SlG h q l) (hf : SlF h p n f) (hn : miniG l) (hm : miniF f) :
    callK (bm Try.prog 33 [.agg [q], .agg [p, n]] h) fun r h' => Grow h h' ∧ ∃ v rs, r = .tup [.agg [v], .one (.bool (acceptsF l f))] ∧ NwY h h' v rs (bindF l f) := by
  refine bm_of cF33 ?_
  have gc := c_fit l f q p n h hl hf hn hm
  unfold bindF acceptsF
  cases b1 : fits l f with
  | false =>
    rw [b1] at gc
    simp +contextual (maxSteps := 2000000) only [go_sem, Nat.reduceEqDiff, reduceCtorEq, Nat.reduceAdd, Nat.reduceLeDiff, F33, gc, Bool.false_and, if_false]
    exact ⟨Grow.refl h, _, [], rfl, .nil⟩
  | true =>
  rw [b1] at gc
  obtain ⟨ok1, ok2⟩ := fits_ok b1
  simp +contextual (maxSteps := 2000000) only [go_sem, Nat.reduceEqDiff, reduceCtorEq, Nat.reduceAdd, Nat.reduceLeDiff, F33, gc]
  refine wp_call (c_bind l f q p n h hl.out hf ok1 ok2) ?_
  rintro r h1 ⟨g1, v, w, rs, rfl, x⟩
  cases b2 : (wrong l f).isEmpty with
  | false =>
    simp +contextual (maxSteps := 2000000) only [go_sem, Nat.reduceEqDiff, reduceCtorEq, Nat.reduceAdd, Nat.reduceLeDiff, x.pr.length, len_pos, b2, Bool.true_and, if_false]
    exact gcK_of ⟨g1, _, [], rfl, .nil⟩ (fun hs _ => ⟨Grow.refl h, _, [], rfl, .nil⟩)
  | true =>
    simp +contextual (maxSteps := 2000000) only [go_sem, Nat.reduceEqDiff, reduceCtorEq, Nat.reduceAdd, Nat.reduceLeDiff, x.pr.length, len_pos, b2, Bool.true_and, if_true]
    exact gcK_of ⟨g1, _, _, rfl, x.sl⟩ (fun hs _ => ⟨Grow.refl h, _, _, rfl, x.sl.scalar (by simpa [AV.scalar, AV.scalars, CV.scalar] using hs) h⟩)
/-! impl.Accepts -/
def L18_0 : List AStep := [⟨.mov (.c (.bool false)), (some 4), none, []⟩]
theorem v18_0 : VS L18_0.eq_1 := rfl
def L18_1 : List AStep := ⟨.box 25 (.t 0), (some 2), none, []⟩ :: ⟨.box 29 (.t 1), (some 3), none, []⟩ :: L18_0
theorem v18_1 : VS L18_1.eq_1 := rfl
def L18_2 : List AStep := [⟨.mov (.t 12), (some 6), none, []⟩]
theorem v18_2 : VS L18_2.eq_1 := rfl
def L18_3 : List AStep := ⟨.alloc 56 [(.sl none 0 (some 0))], (some 5), none, []⟩ :: ⟨.store 1 (.t 5) (.t 11), none, none, []⟩ :: L18_2
theorem v18_3 : VS L18_3.eq_1 := rfl
def L18_4 : List AStep := ⟨.extract (.t 7) 0, (some 11), none, []⟩ :: ⟨.extract (.t 7) 1, (some 12), none, []⟩ :: L18_3
theorem v18_4 : VS L18_4.eq_1 := rfl
def L18_5 : List AStep := ⟨.call 33 [(.t 8), (.t 9)], (some 10), none, []⟩ :: ⟨.mov (.t 10), (some 7), none, []⟩ :: L18_4
theorem v18_5 : VS L18_5.eq_1 := rfl
def L18_6 : List AStep := ⟨.load 1 true (.t 2), (some 8), none, []⟩ :: ⟨.load 2 true (.t 3), (some 9), none, []⟩ :: L18_5
theorem v18_6 : VS L18_6.eq_1 := rfl
def L18_7 : List AStep := [⟨.mov (.t 6), (some 13), none, []⟩, ⟨.mov (.t 13), (some 4), none, []⟩]
theorem v18_7 : VS L18_7.eq_1 := rfl
def C18_0 : ACode := .seq (.reg L18_7) .ret
theorem u18_0 : VC C18_0.eq_1 := rfl
def C18_1 : ACode := .seq (.reg L18_6) C18_0
theorem u18_1 : VC C18_1.eq_1 := rfl
def C18_2 : ACode := .seq (.reg L18_1) C18_1
theorem u18_2 : VC C18_2.eq_1 := rfl
def F18 : AFunc := ⟨14, [.tmp 4], C18_2⟩
theorem cF18 : compB Try.prog 18 = some F18 := by kernel_rfl
attribute [local go_sem ↓] u18_0 u18_1 u18_2 v18_0 v18_1 v18_2 v18_3 v18_4 v18_5 v18_6 v18_7
theorem k_iAccepts (l : List Param) (f : Flat) (q p n : CV) (h : H) (hl : SlG h q l) (hf : SlF h p n f) (hn : miniG l) (hm : miniF f) : bm Try.prog 18 [.agg [q], .agg [p, n]] h = some (ib (acceptsF l f), h) := by
  refine bm_eq cF18 ?_
  simp +contextual (maxSteps := 2000000) only [go_sem, Nat.reduceEqDiff, reduceCtorEq, Nat.reduceAdd, Nat.reduceLeDiff, F18]
  refine wp_call (k_iBind l f q p n h hl hf hn hm) ?_
  rintro r h1 ⟨g1, v, rs, rfl, x⟩
  simp +contextual (maxSteps := 2000000) only [go_sem, Nat.reduceEqDiff, reduceCtorEq, Nat.reduceAdd, Nat.reduceLeDiff]
  exact gcR_of g1 rfl ⟨rfl, rfl⟩
/-! impl.BindPart$1 -/
def L71_0 : List AStep := [⟨.box 52 (.t 0), (some 1), none, []⟩, ⟨.mov (.c (.bool false)), (some 2), none, []⟩]
theorem v71_0 : VS L71_0.eq_1 := rfl
def L71_1 : List AStep := [⟨.bin .neq (.t 4) (.c (.int .i64 3)), (some 5), none, []⟩, ⟨.mov (.t 5), (some 2), none, []⟩]
theorem v71_1 : VS L71_1.eq_1 := rfl
def L71_2 : List AStep := ⟨.faddr 0 (.t 1), (some 3), none, []⟩ :: ⟨.load 1 false (.t 3), (some 4), none, []⟩ :: L71_1
theorem v71_2 : VS L71_2.eq_1 := rfl
def C71_0 : ACode := .seq (.reg L71_2) .ret
theorem u71_0 : VC C71_0.eq_1 := rfl
def C71_1 : ACode := .seq (.reg L71_0) C71_0
theorem u71_1 : VC C71_1.eq_1 := rfl
def F71 : AFunc := ⟨6, [.tmp 2], C71_1⟩
theorem cF71 : compB Try.prog 71 = some F71 := by kernel_rfl
attribute [local go_sem ↓] u71_0 u71_1 v71_0 v71_1 v71_2
theorem c_BindPart1 (x : Problem) (h : H) : bm Try.prog 71 [.agg (encB x)] h = some (ib (!(decide (x.kind = 3))), h) := by
  refine bm_eq cF71 ?_
  simp +contextual (maxSteps := 2000000) only [go_sem, Nat.reduceEqDiff, reduceCtorEq, Nat.reduceAdd, Nat.reduceLeDiff, F71]
/-! impl.BindPart -/
def L28_0 : List AStep := [⟨.alloc 56 [(.sl none 0 (some 0))], (some 4), none, []⟩, ⟨.mov (.c (.bool false)), (some 5), none, []⟩]
theorem v28_0 : VS L28_0.eq_1 := rfl
def L28_1 : List AStep := ⟨.box 25 (.t 0), (some 2), none, []⟩ :: ⟨.box 29 (.t 1), (some 3), none, []⟩ :: L28_0
theorem v28_1 : VS L28_1.eq_1 := rfl
def L28_2 : List AStep := [⟨.call 64 [(.t 8), (.t 9)], (some 10), none, []⟩, ⟨.not (.t 10), (some 11), none, []⟩]
theorem v28_2 : VS L28_2.eq_1 := rfl
def L28_3 : List AStep := ⟨.load 1 true (.t 2), (some 8), none, []⟩ :: ⟨.load 2 true (.t 3), (some 9), none, []⟩ :: L28_2
theorem v28_3 : VS L28_3.eq_1 := rfl
def L28_4 : List AStep := [⟨.mov (.c (.bool false)), (some 5), none, []⟩]
theorem v28_4 : VS L28_4.eq_1 := rfl
def L28_5 : List AStep := ⟨.build [(.sl none 0 (some 0))] [], (some 12), none, []⟩ :: ⟨.store 1 (.t 4) (.t 12), none, none, []⟩ :: L28_4
theorem v28_5 : VS L28_5.eq_1 := rfl
def L28_6 : List AStep := [⟨.mov (.t 18), (some 7), none, []⟩]
theorem v28_6 : VS L28_6.eq_1 := rfl
def L28_7 : List AStep := ⟨.alloc 56 [(.sl none 0 (some 0))], (some 6), none, []⟩ :: ⟨.store 1 (.t 6) (.t 17), none, none, []⟩ :: L28_6
theorem v28_7 : VS L28_7.eq_1 := rfl
def L28_8 : List AStep := ⟨.extract (.t 13) 0, (some 17), none, []⟩ :: ⟨.extract (.t 13) 1, (some 18), none, []⟩ :: L28_7
theorem v28_8 : VS L28_8.eq_1 := rfl
def L28_9 : List AStep := ⟨.call 65 [(.t 14), (.t 15)], (some 16), none, []⟩ :: ⟨.mov (.t 16), (some 13), none, []⟩ :: L28_8
theorem v28_9 : VS L28_9.eq_1 := rfl
def L28_10 : List AStep := ⟨.load 1 true (.t 2), (some 14), none, []⟩ :: ⟨.load 2 true (.t 3), (some 15), none, []⟩ :: L28_9
theorem v28_10 : VS L28_10.eq_1 := rfl
def L28_11 : List AStep := [⟨.mov (.t 7), (some 19), none, []⟩, ⟨.call 70 [(.t 19), (.c (.fn 71 []))], (some 20), none, []⟩]
theorem v28_11 : VS L28_11.eq_1 := rfl
def L28_12 : List AStep := [⟨.mov (.c (.bool false)), (some 5), none, []⟩]
theorem v28_12 : VS L28_12.eq_1 := rfl
def L28_13 : List AStep := ⟨.build [(.sl none 0 (some 0))] [], (some 21), none, []⟩ :: ⟨.store 1 (.t 4) (.t 21), none, none, []⟩ :: L28_12
theorem v28_13 : VS L28_13.eq_1 := rfl
def L28_14 : List AStep := [⟨.mov (.c (.bool true)), (some 5), none, []⟩]
theorem v28_14 : VS L28_14.eq_1 := rfl
def L28_15 : List AStep := ⟨.load 1 true (.t 6), (some 22), none, []⟩ :: ⟨.store 1 (.t 4) (.t 22), none, none, []⟩ :: L28_14
theorem v28_15 : VS L28_15.eq_1 := rfl
def C28_0 : ACode := .seq (.reg L28_5) .ret
theorem u28_0 : VC C28_0.eq_1 := rfl
def C28_1 : ACode := .cond (.t 11) C28_0 .skip
theorem u28_1 : VC C28_1.eq_1 := rfl
def C28_2 : ACode := .seq (.reg L28_3) C28_1
theorem u28_2 : VC C28_2.eq_1 := rfl
def C28_3 : ACode := .seq (.reg L28_13) .ret
theorem u28_3 : VC C28_3.eq_1 := rfl
def C28_4 : ACode := .cond (.t 20) C28_3 .skip
theorem u28_4 : VC C28_4.eq_1 := rfl
def C28_5 : ACode := .seq (.reg L28_11) C28_4
theorem u28_5 : VC C28_5.eq_1 := rfl
def C28_6 : ACode := .seq (.reg L28_15) .ret
theorem u28_6 : VC C28_6.eq_1 := rfl
def C28_7 : ACode := .seq C28_5 C28_6
theorem u28_7 : VC C28_7.eq_1 := rfl
def C28_8 : ACode := .seq (.reg L28_10) C28_7
theorem u28_8 : VC C28_8.eq_1 := rfl
def C28_9 : ACode := .seq C28_2 C28_8
theorem u28_9 : VC C28_9.eq_1 := rfl
def C28_10 : ACode := .seq (.reg L28_1) C28_9
theorem u28_10 : VC C28_10.eq_1 := rfl
def F28 : AFunc := ⟨23, [.cell 4 1 true, .tmp 5], C28_10⟩
theorem cF28 : compB Try.prog 28 = some F28 := by kernel_rfl
attribute [local go_sem ↓] u28_0 u28_1 u28_2 u28_3 u28_4 u28_5 u28_6 u28_7 u28_8 u28_9 u28_10 v28_0 v28_1 v28_2 v28_3 v28_4 v28_5 v28_6 v28_7 v28_8 v28_9 v28_10 v28_11 v28_12 v28_13 v28_14 v28_15
theorem k_iBindPart (l : List Param) (f : Flat) (q p n : CV) (h : H) (hl : SlG h q l) (hf : SlF h p n f) (hn : miniG l) (hm : miniF f) :
    callK (bm Try.prog 28 [.agg [q], .agg [p, n]] h) fun r h' => Grow h h' ∧ ∃ v rs, r = .tup [.agg [v], .one (.bool (partOk l f))] ∧ NwY h h' v rs (bindPartF l f) := by
  refine bm_of cF28 ?_
  have gc := c_fit l f q p n h hl hf hn hm
  unfold bindPartF partOk
  cases b1 : fits l f with
  | false =>
    rw [b1] at gc
    simp +contextual (maxSteps := 2000000) only [go_sem, Nat.reduceEqDiff, reduceCtorEq, Nat.reduceAdd, Nat.reduceLeDiff, F28, gc, Bool.false_and, if_false]
    exact ⟨Grow.refl h, _, [], rfl, .nil⟩
  | true =>
  rw [b1] at gc
  obtain ⟨ok1, ok2⟩ := fits_ok b1
  have hn8 := okSig_len ok1
  obtain ⟨hb1, hb2, hb3⟩ := okFlat_sm ok2
  have hbb : (wrong l f).length ≤ big := by
    have h1 := (BOk.nameF (l := l) (f := f) hb3 (Nat.le_refl _)).bad
    have h2 := missF_len (l := l) (sl := boundS l f) (i := l.length)
    unfold wrong boundB missing big
    rw [List.length_append]
    omega
  simp +contextual (maxSteps := 2000000) only [go_sem, Nat.reduceEqDiff, reduceCtorEq, Nat.reduceAdd, Nat.reduceLeDiff, F28, gc]
  refine wp_call (c_bind l f q p n h hl.out hf ok1 ok2) ?_
  rintro r h1 ⟨g1, v, w, rs, rfl, x⟩
  have e := c_hasB (wrong l f) _ 71 [] (fun p => !(decide (p.kind = 3))) h1 (x.pr.sl lenB) hbb (fun i hi x hx => c_BindPart1 x h1)
  rw [part_any] at e
  cases b2 : (boundB l f).isEmpty with
  | false =>
    rw [b2] at e
    simp +contextual (maxSteps := 2000000) only [go_sem, Nat.reduceEqDiff, reduceCtorEq, Nat.reduceAdd, Nat.reduceLeDiff, e, Bool.true_and, if_false]
    exact gcK_of ⟨g1, _, [], rfl, .nil⟩ (fun hs _ => ⟨Grow.refl h, _, [], rfl, .nil⟩)
  | true =>
    rw [b2] at e
    simp +contextual (maxSteps := 2000000) only [go_sem, Nat.reduceEqDiff, reduceCtorEq, Nat.reduceAdd, Nat.reduceLeDiff, e, Bool.true_and, if_true]
    exact gcK_of ⟨g1, _, _, rfl, x.sl⟩ (fun hs _ => ⟨Grow.refl h, _, _, rfl, x.sl.scalar (by simpa [AV.scalar, AV.scalars, CV.scalar] using hs) h⟩)
/-! impl.ValidPartial -/
def L59_0 : List AStep := [⟨.box 44 (.t 0), (some 1), none, []⟩, ⟨.mov (.c (.bool false)), (some 2), none, []⟩]
theorem v59_0 : VS L59_0.eq_1 := rfl
def L59_1 : List AStep := [⟨.mov (.t 12), (some 4), none, []⟩]
theorem v59_1 : VS L59_1.eq_1 := rfl
def L59_2 : List AStep := ⟨.alloc 56 [(.sl none 0 (some 0))], (some 3), none, []⟩ :: ⟨.store 1 (.t 3) (.t 11), none, none, []⟩ :: L59_1
theorem v59_2 : VS L59_2.eq_1 := rfl
def L59_3 : List AStep := ⟨.extract (.t 5) 0, (some 11), none, []⟩ :: ⟨.extract (.t 5) 1, (some 12), none, []⟩ :: L59_2
theorem v59_3 : VS L59_3.eq_1 := rfl
def L59_4 : List AStep := ⟨.call 28 [(.t 7), (.t 9)], (some 10), none, []⟩ :: ⟨.mov (.t 10), (some 5), none, []⟩ :: L59_3
theorem v59_4 : VS L59_4.eq_1 := rfl
def L59_5 : List AStep := ⟨.faddr 1 (.t 1), (some 8), none, []⟩ :: ⟨.load 2 true (.t 8), (some 9), none, []⟩ :: L59_4
theorem v59_5 : VS L59_5.eq_1 := rfl
def L59_6 : List AStep := ⟨.faddr 0 (.t 1), (some 6), none, []⟩ :: ⟨.load 1 true (.t 6), (some 7), none, []⟩ :: L59_5
theorem v59_6 : VS L59_6.eq_1 := rfl
def L59_7 : List AStep := [⟨.mov (.t 4), (some 13), none, []⟩, ⟨.mov (.t 13), (some 2), none, []⟩]
theorem v59_7 : VS L59_7.eq_1 := rfl
def C59_0 : ACode := .seq (.reg L59_7) .ret
theorem u59_0 : VC C59_0.eq_1 := rfl
def C59_1 : ACode := .seq (.reg L59_6) C59_0
theorem u59_1 : VC C59_1.eq_1 := rfl
def C59_2 : ACode := .seq (.reg L59_0) C59_1
theorem u59_2 : VC C59_2.eq_1 := rfl
def F59 : AFunc := ⟨14, [.tmp 2], C59_2⟩
theorem cF59 : compB Try.prog 59 = some F59 := by kernel_rfl
attribute [local go_sem ↓] u59_0 u59_1 u59_2 v59_0 v59_1 v59_2 v59_3 v59_4 v59_5 v59_6 v59_7
theorem c_ValidPartial (l : List Param) (f : Flat) (q p n : CV) (h : H) (hl : SlG h q l) (hf : SlF h p n f) (hn : miniG l) (hm : miniF f) : bm Try.prog 59 [.agg [q, p, n]] h = some (ib (partOk l f), h) := by
  refine bm_eq cF59 ?_
  simp +contextual (maxSteps := 2000000) only [go_sem, Nat.reduceEqDiff, reduceCtorEq, Nat.reduceAdd, Nat.reduceLeDiff, F59, loadL_agg]
  refine wp_call (k_iBindPart l f q p n h hl hf hn hm) ?_
  rintro r h1 ⟨g1, v, rs, rfl, x⟩
  simp +contextual (maxSteps := 2000000) only [go_sem, Nat.reduceEqDiff, reduceCtorEq, Nat.reduceAdd, Nat.reduceLeDiff]
  exact gcR_of g1 rfl ⟨rfl, rfl⟩
end Go.Proofs.Ytekkimfdcbgcoab.Am
