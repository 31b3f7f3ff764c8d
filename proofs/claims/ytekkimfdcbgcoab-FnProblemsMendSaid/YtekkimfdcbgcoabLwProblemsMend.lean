/- The law FnProblemsMend. -/
import Derived.Test.YtekkimfdcbgcoabLwMostPlaces
import Derived.Test.YtekkimfdcbgcoabDT
import Derived.Test.YtekkimfdcbgcoabDL
import Derived.Test.YtekkimfdcbgcoabBK
import Derived.Test.YtekkimfdcbgcoabL1
import Derived.Test.YtekkimfdcbgcoabPM
namespace Go.Proofs.Ytekkimfdcbgcoab.Am
open Go
attribute [local go_sem] loadL_agg
set_option maxRecDepth 100000
set_option maxHeartbeats 4000000
set_option linter.unusedSimpArgs false
set_option linter.unusedVariables false
attribute [local go_sem ↓] bv_t bv_c ev_t ev_c put_same put_ne put_none kill_at pro_at lb_same lb_ne start_zero start_succ wpC_seq wpC_reg wpC_cond wpC_block wpC_skip wpC_exit wpC_ret thenQ_normal thenQ_exit thenQ_ret inBlk_normal inBlk_exit inBlk_ret wpS_nil wpS_step wpS_again wpS_guard wpO_mov wpO_load wpO_faddr wpO_nilCheck wpO_pick wpO_build wpO_bin wpO_eqb wpO_eqst wpO_eqnil wpO_not wpO_conv wpO_bytesStr wpO_iaddr wpO_idxStr wpO_field wpO_extract wpO_len wpO_lenStr wpO_cap wpO_min wpO_slice wpO_sliceStr wpO_alloc wpO_box wpO_store wpO_call wpO_callv wpO_mkfn wpO_buildSlice wpO_mkslice wpO_append wpO_appz proA_nil proA_cons tmpX_nil tmpX_tmp tmpX_cell doneB_normal doneB_ret agK_cons agK_nil agK_guard agG_tt agG_ff agG_tf agG_ft agG_undef pureB_load results_one results_two results_nil resBs_cons resBs_nil resB_tmp resB_cell
attribute [local go_sem] kill_v kill_lp_ne kill_lp_same pro_v pro_lp_same pro_lp_ne av_v av_lp optB_some optX_some valX_eq ldX_lp ldX_v faX_lp faX_v ncX_lp ncX_ptr ncX_fn boxK_one boxK_agg stL_some stK_lp_one stK_lp_agg stK_v_one stK_v_agg proM_v proM_lp callG_mk callVG_mk callvK_fn fnG_mk ptrsA_nil ptrsA_cons callH_some whenA_true whenA_false guardH_tt guardH_ff guardH_tf guardH_ft guardH_undef agV_one agV_agg lenO_sl lenStrO_str notO_bool pickO_bool convO_int eqbO_bool eqnilO_sl extractO_tup capO_sl minO_int loadL_one loadL_all storeL_eq fillA_nil fillA_one fillA_agg nat_ge neg_ge nat_lt neg_lt buildO bin_add bin_sub bin_mul bin_eql bin_neq bin_lss bin_leq bin_gtr bin_geq str_eql str_neq str_lss str_leq str_gtr str_geq retK_some endK_mk gcK_same gcK_int gcK_bool tupO_one tupO_agg rdy_self ib ii Option.map_none Option.map_some Option.some.injEq exists_eq_left' exists_eq_left ne_eq not_false_eq_true if_true if_false List.map_cons List.map_nil List.getElem?_cons_zero List.getElem?_cons_succ List.length_cons List.length_nil List.take_succ_cons List.take_zero List.take_nil List.drop_succ_cons List.drop_zero List.drop_nil List.cons_append List.nil_append List.append_nil List.set_cons_zero List.set_cons_succ Nat.zero_add forall_const true_and and_true and_self Bool.false_eq_true false_implies true_implies implies_true Bool.not_true Bool.not_false Bool.not_eq_true' Bool.not_eq_false' beq_self_eq_true Bool.bne_true Bool.bne_false
attribute [local go_sem] lenI lenS lenP lenQ lenB lenL lenT encI_0 encS_0 encP_0 encP_1 encQ_0 encQ_1 encQ_2 encQ_3 encB_0 encB_1 encL_0 encL_1 encT_0 encT_1
attribute [local go_sem low] whenA_bool guardH_bool
theorem pair_self {m : List Pair} (h : apart Pair.name m = true) {i : Nat} (hi : i < m.length) : pairAt m m[i].name = i := by
  have hp := apart_iff.1 h
  rcases idx_cases (fun p : Pair => decide (p.name = m[i].name)) m with e | ⟨j, hj, e, hs⟩
  · have := idx_neg.1 (show idx (fun p : Pair => decide (p.name = m[i].name)) m < 0 by omega) _ (List.getElem_mem hi)
    simp at this
  · have hs := of_decide_eq_true hs
    rcases Nat.lt_trichotomy j i with c | c | c
    · exact absurd hs (List.pairwise_iff_getElem.1 hp j i hj hi c)
    · subst c; exact e
    · exact absurd hs.symm (List.pairwise_iff_getElem.1 hp i j hi hj c)
theorem problems_len {l : List Param} {f : Flat} : (problemsF l f).length ≤ 100 := by
  unfold problemsF
  split
  · rename_i hf
    obtain ⟨b1, b2⟩ := fits_ok hf
    have h1 := (bound_ok (l := l) b2).bad
    have h2 := missF_len (l := l) (sl := boundS l f) (i := l.length)
    have h3 := okSig_len b1
    have h5 := (okFlat_sm b2).2.1
    simp only [wrong, missing, List.length_append] at h1 ⊢
    omega
  · simp
/-- What the last problem is. -/
theorem last_is {l : List Param} {f : Flat} (ok1 : okSig l = true) (ok2 : okFlat f = true) (h0 : 0 < (wrong l f).length) (x : Problem) (hx : x = (wrong l f)[(wrong l f).length - 1]'(by omega)) :
    (x.kind = 3 ∧ ∃ j, ∃ hj : j < l.length, lackB l f j = true ∧ x.name = l[j].name) ∨ ((x.kind = 1 ∨ x.kind = 2) ∧ ∃ k, ∃ hk : k < f.nl.length, badOf l f.pl.length f.nl[k] ≠ none ∧ x.name = f.nl[k].name) ∨ (x.kind = 0 ∧ places l < f.pl.length ∧ hasRest l = false) := by
  have ew := wrong_is ok1 ok2
  have h0' := h0
  rw [ew] at h0'
  have hx' : x = (manyB l f.pl ++ badAll l f.pl.length f.nl ++ lackL l f)[(manyB l f.pl ++ badAll l f.pl.length f.nl ++ lackL l f).length - 1]'(by omega) := by
    rw [hx]
    simp only [ew]
  rcases last_of h0' with h | ⟨e, h⟩
  · rw [← hx'] at h
    left
    unfold lackL at h
    obtain ⟨j, hj, e⟩ := List.mem_map.1 h
    obtain ⟨h1, h2⟩ := List.mem_filter.1 hj
    have hj := List.mem_range.1 h1
    rw [← e, nameAt_eq hj]
    exact ⟨rfl, j, hj, h2, rfl⟩
  · rw [← hx'] at h
    right
    have h00 : 0 < (manyB l f.pl ++ badAll l f.pl.length f.nl).length := by rw [e, List.append_nil] at h0'; exact h0'
    have hx2 : x = (manyB l f.pl ++ badAll l f.pl.length f.nl)[(manyB l f.pl ++ badAll l f.pl.length f.nl).length - 1]'(by omega) := by
      rw [hx']
      simp only [e, List.append_nil]
    rcases last_of h00 with h | ⟨_, h⟩
    · rw [← hx2] at h
      left
      unfold badAll at h
      obtain ⟨p, hp, e2⟩ := List.mem_filterMap.1 h
      obtain ⟨k, hk, rfl⟩ := List.getElem_of_mem hp
      obtain ⟨n1, n2⟩ := badOf_name e2
      exact ⟨n2, k, hk, by rw [e2]; simp, n1⟩
    · rw [← hx2] at h
      right
      unfold manyB at h
      split at h
      · rename_i hc
        rw [List.mem_singleton.1 h]
        exact ⟨rfl, hc⟩
      · simp at h
/-! impl.PutName -/
def L36_0 : List AStep := [⟨.mov (.c (.bool false)), (some 7), none, []⟩]
theorem v36_0 : VS L36_0.eq_1 := rfl
def L36_1 : List AStep := ⟨.box 29 (.t 0), (some 3), none, []⟩ :: ⟨.alloc 29 [(.sl none 0 (some 0)), (.sl none 0 (some 0))], (some 6), none, []⟩ :: L36_0
theorem v36_1 : VS L36_1.eq_1 := rfl
def L36_2 : List AStep := [⟨.mov (.t 16), (some 7), none, []⟩]
theorem v36_2 : VS L36_2.eq_1 := rfl
def L36_3 : List AStep := ⟨.extract (.t 14) 1, (some 16), none, []⟩ :: ⟨.store 2 (.t 6) (.t 15), none, none, []⟩ :: L36_2
theorem v36_3 : VS L36_3.eq_1 := rfl
def L36_4 : List AStep := ⟨.call 56 [(.t 11), (.t 13)], (some 14), none, []⟩ :: ⟨.extract (.t 14) 0, (some 15), none, []⟩ :: L36_3
theorem v36_4 : VS L36_4.eq_1 := rfl
def L36_5 : List AStep := ⟨.call 82 [(.t 8), (.t 9), (.t 10)], (some 11), none, [(.load 2 true (.t 3), (some 12), none)]⟩ :: ⟨.call 32 [(.t 12)], (some 13), none, []⟩ :: L36_4
theorem v36_5 : VS L36_5.eq_1 := rfl
def L36_6 : List AStep := ⟨.mov (.t 2), (some 10), none, []⟩ :: ⟨.load 2 true (.t 3), (some 12), none, []⟩ :: L36_5
theorem v36_6 : VS L36_6.eq_1 := rfl
def L36_7 : List AStep := ⟨.load 2 true (.t 3), (some 8), none, []⟩ :: ⟨.mov (.t 1), (some 9), none, []⟩ :: L36_6
theorem v36_7 : VS L36_7.eq_1 := rfl
def C36_0 : ACode := .seq (.reg L36_7) .ret
theorem u36_0 : VC C36_0.eq_1 := rfl
def C36_1 : ACode := .seq (.reg L36_1) C36_0
theorem u36_1 : VC C36_1.eq_1 := rfl
def F36 : AFunc := ⟨17, [.cell 6 2 true, .tmp 7], C36_1⟩
theorem cF36 : compB Try.prog 36 = some F36 := by kernel_rfl
attribute [local go_sem ↓] u36_0 u36_1 v36_0 v36_1 v36_2 v36_3 v36_4 v36_5 v36_6 v36_7
theorem k_iPutName (f : Flat) (p n : CV) (s : ByteArray) (k : Int) (h : H) (hf : SlF h p n f) (hm : miniF f) (hs : s.size ≤ 1048576) (ok : okFlat f = true) :
    callK (bm Try.prog 36 [.agg [p, n], .one (.str s), .one (.int .i64 k)] h) fun r h' => Grow h h' ∧ ∃ p' n', r = .tup [.agg [p', n'], .one (.bool (okFlat ⟨f.pl, putP f.nl ⟨s, k⟩⟩))] ∧ NwF h h' p' n' (if okFlat ⟨f.pl, putP f.nl ⟨s, k⟩⟩ = true then ⟨f.pl, putP f.nl ⟨s, k⟩⟩ else ⟨[], []⟩) := by
  refine bm_of cF36 ?_
  have hnl := hm.nl
  simp +contextual (maxSteps := 2000000) only [go_sem, Nat.reduceEqDiff, reduceCtorEq, Nat.reduceAdd, Nat.reduceLeDiff, F36]
  refine wp_call (c_put f p n s k h hf hm.sm) ?_
  rintro r h1 ⟨g1, p1, n1, rfl, z1⟩
  have f1 := hf.grow g1
  have ev := c_ValidFlat f p n h1 f1.pl f1.nl hm.sm
  rw [ok] at ev
  have sm : smF ⟨f.pl, putP f.nl ⟨s, k⟩⟩ := ⟨hm.sm.pl, Nat.le_trans (putP_len _ _) (by unfold big; omega), fun x hx => by
    rcases putP_mem hx with e | rfl
    · exact Nat.le_trans (hm.nm x e) (by decide)
    · exact Nat.le_trans hs (by decide)⟩
  simp +contextual (maxSteps := 2000000) only [go_sem, Nat.reduceEqDiff, reduceCtorEq, Nat.reduceAdd, Nat.reduceLeDiff, ev]
  refine wp_call (c_checked ⟨f.pl, putP f.nl ⟨s, k⟩⟩ p1 n1 true h1 z1.sl sm) ?_
  rintro r h2 ⟨g2, p', n', rfl, z⟩
  rw [Bool.true_and] at z ⊢
  have z := z.from g1.n
  simp +contextual (maxSteps := 2000000) only [go_sem, Nat.reduceEqDiff, reduceCtorEq, Nat.reduceAdd, Nat.reduceLeDiff]
  exact gcK_of ⟨g1.trans g2, _, _, rfl, z⟩ (fun hs _ => ⟨Grow.refl h, _, _, rfl, z.scalar (by simpa [AV.scalar, AV.scalars, CV.scalar] using hs) h⟩)
/-! impl.FindParam -/
def L35_0 : List AStep := [⟨.box 25 (.t 0), (some 2), none, []⟩, ⟨.mov (.c (.int .i64 0)), (some 4), none, []⟩]
theorem v35_0 : VS L35_0.eq_1 := rfl
def L35_1 : List AStep := [⟨.not (.t 6), (some 7), none, []⟩]
theorem v35_1 : VS L35_1.eq_1 := rfl
def L35_2 : List AStep := ⟨.load 1 true (.t 2), (some 5), none, []⟩ :: ⟨.call 31 [(.t 5)], (some 6), none, []⟩ :: L35_1
theorem v35_2 : VS L35_2.eq_1 := rfl
def L35_3 : List AStep := [⟨.mov (.c (.int .i64 (-1))), (some 4), none, []⟩]
theorem v35_3 : VS L35_3.eq_1 := rfl
def L35_4 : List AStep := [⟨.mov (.t 11), (some 4), none, []⟩]
theorem v35_4 : VS L35_4.eq_1 := rfl
def L35_5 : List AStep := ⟨.mov (.t 1), (some 10), none, []⟩ :: ⟨.call 77 [(.t 9), (.t 10)], (some 11), none, []⟩ :: L35_4
theorem v35_5 : VS L35_5.eq_1 := rfl
def L35_6 : List AStep := ⟨.faddr 0 (.t 2), (some 8), none, []⟩ :: ⟨.load 1 false (.t 8), (some 9), none, []⟩ :: L35_5
theorem v35_6 : VS L35_6.eq_1 := rfl
def C35_0 : ACode := .seq (.reg L35_3) .ret
theorem u35_0 : VC C35_0.eq_1 := rfl
def C35_1 : ACode := .cond (.t 7) C35_0 .skip
theorem u35_1 : VC C35_1.eq_1 := rfl
def C35_2 : ACode := .seq (.reg L35_2) C35_1
theorem u35_2 : VC C35_2.eq_1 := rfl
def C35_3 : ACode := .seq (.reg L35_6) .ret
theorem u35_3 : VC C35_3.eq_1 := rfl
def C35_4 : ACode := .seq C35_2 C35_3
theorem u35_4 : VC C35_4.eq_1 := rfl
def C35_5 : ACode := .seq (.reg L35_0) C35_4
theorem u35_5 : VC C35_5.eq_1 := rfl
def F35 : AFunc := ⟨12, [.tmp 4], C35_5⟩
theorem cF35 : compB Try.prog 35 = some F35 := by kernel_rfl
attribute [local go_sem ↓] u35_0 u35_1 u35_2 u35_3 u35_4 u35_5 v35_0 v35_1 v35_2 v35_3 v35_4 v35_5 v35_6
theorem c_FindParam2 (l : List Param) (q : CV) (s : ByteArray) (h : H) (hl : SlG h q l) (hn : miniG l) (ok : okSig l = true) : bm Try.prog 35 [.agg [q], .one (.str s)] h = some (ii (paramAt l s), h) := by
  refine bm_eq cF35 ?_
  simp +contextual (maxSteps := 2000000) only [go_sem, Nat.reduceEqDiff, reduceCtorEq, Nat.reduceAdd, Nat.reduceLeDiff, F35, c_ValidSignature _ _ _ hl.out hn.sm, ok, c_find _ _ _ _ hl.out hn.sm]
/-! laws.FnProblemsMend -/
def L8_0 : List AStep := [⟨.mov (.c (.bool false)), (some 2), none, []⟩]
theorem v8_0 : VS L8_0.eq_1 := rfl
def L8_1 : List AStep := [⟨.bin .gtr (.t 12) (.c (.int .i64 1048576)), (some 13), none, []⟩]
theorem v8_1 : VS L8_1.eq_1 := rfl
def L8_2 : List AStep := ⟨.mov (.t 0), (some 11), none, []⟩ :: ⟨.len (.t 11), (some 12), none, []⟩ :: L8_1
theorem v8_2 : VS L8_2.eq_1 := rfl
def L8_3 : List AStep := [⟨.mov (.c (.bool true)), (some 2), none, []⟩]
theorem v8_3 : VS L8_3.eq_1 := rfl
def L8_4 : List AStep := [⟨.store 2 (.t 4) (.t 18), none, none, []⟩]
theorem v8_4 : VS L8_4.eq_1 := rfl
def L8_5 : List AStep := ⟨.alloc 29 [(.sl none 0 (some 0)), (.sl none 0 (some 0))], (some 4), none, []⟩ :: ⟨.store 1 (.t 3) (.t 17), none, none, []⟩ :: L8_4
theorem v8_5 : VS L8_5.eq_1 := rfl
def L8_6 : List AStep := ⟨.extract (.t 14) 1, (some 18), none, []⟩ :: ⟨.alloc 25 [(.sl none 0 (some 0))], (some 3), none, []⟩ :: L8_5
theorem v8_6 : VS L8_6.eq_1 := rfl
def L8_7 : List AStep := ⟨.mov (.t 16), (some 14), none, []⟩ :: ⟨.extract (.t 14) 0, (some 17), none, []⟩ :: L8_6
theorem v8_7 : VS L8_7.eq_1 := rfl
def L8_8 : List AStep := ⟨.mov (.t 0), (some 15), none, []⟩ :: ⟨.call 22 [(.t 15)], (some 16), none, []⟩ :: L8_7
theorem v8_8 : VS L8_8.eq_1 := rfl
def L8_9 : List AStep := [⟨.call 23 [(.t 19), (.t 20)], (some 21), none, []⟩, ⟨.mov (.t 21), (some 5), none, []⟩]
theorem v8_9 : VS L8_9.eq_1 := rfl
def L8_10 : List AStep := ⟨.load 1 true (.t 3), (some 19), none, []⟩ :: ⟨.load 2 true (.t 4), (some 20), none, []⟩ :: L8_9
theorem v8_10 : VS L8_10.eq_1 := rfl
def L8_11 : List AStep := [⟨.pick (.t 28) (.c (.bool true)) (.t 31), (some 32), none, []⟩]
theorem v8_11 : VS L8_11.eq_1 := rfl
def L8_12 : List AStep := ⟨.len (.t 29), (some 30), (some (28, false)), []⟩ :: ⟨.bin .eql (.t 30) (.c (.int .i64 0)), (some 31), (some (28, false)), []⟩ :: L8_11
theorem v8_12 : VS L8_12.eq_1 := rfl
def L8_13 : List AStep := ⟨.mov (.t 27), (some 28), none, []⟩ :: ⟨.mov (.t 5), (some 29), (some (28, false)), []⟩ :: L8_12
theorem v8_13 : VS L8_13.eq_1 := rfl
def L8_14 : List AStep := ⟨.call 24 [(.t 22), (.t 25)], (some 26), none, []⟩ :: ⟨.not (.t 26), (some 27), none, []⟩ :: L8_13
theorem v8_14 : VS L8_14.eq_1 := rfl
def L8_15 : List AStep := ⟨.load 2 true (.t 4), (some 24), none, []⟩ :: ⟨.call 25 [(.t 23), (.t 24)], (some 25), none, []⟩ :: L8_14
theorem v8_15 : VS L8_15.eq_1 := rfl
def L8_16 : List AStep := ⟨.mov (.t 5), (some 22), none, []⟩ :: ⟨.load 1 true (.t 3), (some 23), none, []⟩ :: L8_15
theorem v8_16 : VS L8_16.eq_1 := rfl
def L8_17 : List AStep := [⟨.call 24 [(.t 33), (.t 36)], (some 37), none, []⟩, ⟨.mov (.t 37), (some 2), none, []⟩]
theorem v8_17 : VS L8_17.eq_1 := rfl
def L8_18 : List AStep := ⟨.load 2 true (.t 4), (some 35), none, []⟩ :: ⟨.call 25 [(.t 34), (.t 35)], (some 36), none, []⟩ :: L8_17
theorem v8_18 : VS L8_18.eq_1 := rfl
def L8_19 : List AStep := ⟨.mov (.t 5), (some 33), none, []⟩ :: ⟨.load 1 true (.t 3), (some 34), none, []⟩ :: L8_18
theorem v8_19 : VS L8_19.eq_1 := rfl
def L8_20 : List AStep := [⟨.alloc 52 [(.int .i64 0), (.str (strOfNums []))], (some 6), none, []⟩, ⟨.store 2 (.t 6) (.t 43), none, none, []⟩]
theorem v8_20 : VS L8_20.eq_1 := rfl
def L8_21 : List AStep := ⟨.iaddr 2 (.t 38) (.t 41), (some 42), none, []⟩ :: ⟨.load 2 true (.t 42), (some 43), none, []⟩ :: L8_20
theorem v8_21 : VS L8_21.eq_1 := rfl
def L8_22 : List AStep := ⟨.len (.t 39), (some 40), none, []⟩ :: ⟨.bin .sub (.t 40) (.c (.int .i64 1)), (some 41), none, []⟩ :: L8_21
theorem v8_22 : VS L8_22.eq_1 := rfl
def L8_23 : List AStep := ⟨.mov (.t 5), (some 38), none, []⟩ :: ⟨.mov (.t 5), (some 39), none, []⟩ :: L8_22
theorem v8_23 : VS L8_23.eq_1 := rfl
def L8_24 : List AStep := [⟨.faddr 0 (.t 6), (some 44), none, []⟩, ⟨.load 1 false (.t 44), (some 45), none, []⟩]
theorem v8_24 : VS L8_24.eq_1 := rfl
def L8_25 : List AStep := [⟨.bin .eql (.t 45) (.c (.int .i64 1)), (some 47), none, []⟩, ⟨.mov (.t 47), (some 46), none, []⟩]
theorem v8_25 : VS L8_25.eq_1 := rfl
def L8_26 : List AStep := [⟨.bin .eql (.t 45) (.c (.int .i64 2)), (some 48), none, []⟩, ⟨.mov (.t 48), (some 46), none, []⟩]
theorem v8_26 : VS L8_26.eq_1 := rfl
def L8_27 : List AStep := [⟨.store 2 (.t 7) (.t 54), none, none, []⟩, ⟨.mov (.t 55), (some 8), none, []⟩]
theorem v8_27 : VS L8_27.eq_1 := rfl
def L8_28 : List AStep := ⟨.extract (.t 49) 1, (some 55), none, []⟩ :: ⟨.alloc 29 [(.sl none 0 (some 0)), (.sl none 0 (some 0))], (some 7), none, []⟩ :: L8_27
theorem v8_28 : VS L8_28.eq_1 := rfl
def L8_29 : List AStep := ⟨.mov (.t 53), (some 49), none, []⟩ :: ⟨.extract (.t 49) 0, (some 54), none, []⟩ :: L8_28
theorem v8_29 : VS L8_29.eq_1 := rfl
def L8_30 : List AStep := ⟨.load 1 false (.t 51), (some 52), none, []⟩ :: ⟨.call 34 [(.t 50), (.t 52)], (some 53), none, []⟩ :: L8_29
theorem v8_30 : VS L8_30.eq_1 := rfl
def L8_31 : List AStep := ⟨.load 2 true (.t 4), (some 50), none, []⟩ :: ⟨.faddr 1 (.t 6), (some 51), none, []⟩ :: L8_30
theorem v8_31 : VS L8_31.eq_1 := rfl
def L8_32 : List AStep := [⟨.pick (.t 57) (.t 65) (.c (.bool false)), (some 66), none, []⟩, ⟨.mov (.t 66), (some 2), none, []⟩]
theorem v8_32 : VS L8_32.eq_1 := rfl
def L8_33 : List AStep := ⟨.bin .sub (.t 63) (.c (.int .i64 1)), (some 64), (some (57, true)), []⟩ :: ⟨.bin .eql (.t 61) (.t 64), (some 65), (some (57, true)), []⟩ :: L8_32
theorem v8_33 : VS L8_33.eq_1 := rfl
def L8_34 : List AStep := ⟨.mov (.t 5), (some 62), (some (57, true)), []⟩ :: ⟨.len (.t 62), (some 63), (some (57, true)), []⟩ :: L8_33
theorem v8_34 : VS L8_34.eq_1 := rfl
def L8_35 : List AStep := ⟨.call 23 [(.t 58), (.t 59)], (some 60), (some (57, true)), []⟩ :: ⟨.len (.t 60), (some 61), (some (57, true)), []⟩ :: L8_34
theorem v8_35 : VS L8_35.eq_1 := rfl
def L8_36 : List AStep := ⟨.load 1 true (.t 3), (some 58), (some (57, true)), []⟩ :: ⟨.load 2 true (.t 7), (some 59), (some (57, true)), []⟩ :: L8_35
theorem v8_36 : VS L8_36.eq_1 := rfl
def L8_37 : List AStep := ⟨.mov (.t 8), (some 56), none, []⟩ :: ⟨.mov (.t 56), (some 57), none, []⟩ :: L8_36
theorem v8_37 : VS L8_37.eq_1 := rfl
def L8_38 : List AStep := [⟨.bin .eql (.t 45) (.c (.int .i64 3)), (some 68), none, []⟩, ⟨.mov (.t 68), (some 67), none, []⟩]
theorem v8_38 : VS L8_38.eq_1 := rfl
def L8_39 : List AStep := [⟨.load 1 false (.t 76), (some 77), none, []⟩, ⟨.bin .eql (.t 77) (.c (.int .i64 0)), (some 78), none, []⟩]
theorem v8_39 : VS L8_39.eq_1 := rfl
def L8_40 : List AStep := ⟨.iaddr 4 (.t 70) (.t 74), (some 75), none, []⟩ :: ⟨.faddr 1 (.t 75), (some 76), none, []⟩ :: L8_39
theorem v8_40 : VS L8_40.eq_1 := rfl
def L8_41 : List AStep := ⟨.load 1 false (.t 72), (some 73), none, []⟩ :: ⟨.call 35 [(.t 71), (.t 73)], (some 74), none, [(.load 1 false (.t 69), (some 70), none)]⟩ :: L8_40
theorem v8_41 : VS L8_41.eq_1 := rfl
def L8_42 : List AStep := ⟨.load 1 true (.t 3), (some 71), none, []⟩ :: ⟨.faddr 1 (.t 6), (some 72), none, []⟩ :: L8_41
theorem v8_42 : VS L8_42.eq_1 := rfl
def L8_43 : List AStep := ⟨.faddr 0 (.t 3), (some 69), none, []⟩ :: ⟨.load 1 false (.t 69), (some 70), none, []⟩ :: L8_42
theorem v8_43 : VS L8_43.eq_1 := rfl
def L8_44 : List AStep := [⟨.bin .lss (.t 81) (.t 86), (some 87), none, []⟩, ⟨.mov (.t 87), (some 2), none, []⟩]
theorem v8_44 : VS L8_44.eq_1 := rfl
def L8_45 : List AStep := ⟨.call 35 [(.t 82), (.t 84)], (some 85), none, [(.load 1 false (.t 79), (some 80), none)]⟩ :: ⟨.bin .add (.t 85) (.c (.int .i64 1)), (some 86), none, []⟩ :: L8_44
theorem v8_45 : VS L8_45.eq_1 := rfl
def L8_46 : List AStep := ⟨.faddr 1 (.t 6), (some 83), none, []⟩ :: ⟨.load 1 false (.t 83), (some 84), none, []⟩ :: L8_45
theorem v8_46 : VS L8_46.eq_1 := rfl
def L8_47 : List AStep := ⟨.len (.t 80), (some 81), none, []⟩ :: ⟨.load 1 true (.t 3), (some 82), none, []⟩ :: L8_46
theorem v8_47 : VS L8_47.eq_1 := rfl
def L8_48 : List AStep := ⟨.faddr 0 (.t 4), (some 79), none, []⟩ :: ⟨.load 1 false (.t 79), (some 80), none, []⟩ :: L8_47
theorem v8_48 : VS L8_48.eq_1 := rfl
def L8_49 : List AStep := [⟨.store 2 (.t 9) (.t 93), none, none, []⟩, ⟨.mov (.t 94), (some 10), none, []⟩]
theorem v8_49 : VS L8_49.eq_1 := rfl
def L8_50 : List AStep := ⟨.extract (.t 88) 1, (some 94), none, []⟩ :: ⟨.alloc 29 [(.sl none 0 (some 0)), (.sl none 0 (some 0))], (some 9), none, []⟩ :: L8_49
theorem v8_50 : VS L8_50.eq_1 := rfl
def L8_51 : List AStep := ⟨.mov (.t 92), (some 88), none, []⟩ :: ⟨.extract (.t 88) 0, (some 93), none, []⟩ :: L8_50
theorem v8_51 : VS L8_51.eq_1 := rfl
def L8_52 : List AStep := ⟨.load 1 false (.t 90), (some 91), none, []⟩ :: ⟨.call 36 [(.t 89), (.t 91), (.c (.int .i64 1))], (some 92), none, []⟩ :: L8_51
theorem v8_52 : VS L8_52.eq_1 := rfl
def L8_53 : List AStep := ⟨.load 2 true (.t 4), (some 89), none, []⟩ :: ⟨.faddr 1 (.t 6), (some 90), none, []⟩ :: L8_52
theorem v8_53 : VS L8_53.eq_1 := rfl
def L8_54 : List AStep := [⟨.mov (.t 106), (some 2), none, []⟩]
theorem v8_54 : VS L8_54.eq_1 := rfl
def L8_55 : List AStep := ⟨.bin .eql (.t 101) (.t 104), (some 105), (some (97, false)), []⟩ :: ⟨.pick (.t 97) (.c (.bool true)) (.t 105), (some 106), none, []⟩ :: L8_54
theorem v8_55 : VS L8_55.eq_1 := rfl
def L8_56 : List AStep := ⟨.len (.t 102), (some 103), (some (97, false)), []⟩ :: ⟨.bin .sub (.t 103) (.c (.int .i64 1)), (some 104), (some (97, false)), []⟩ :: L8_55
theorem v8_56 : VS L8_56.eq_1 := rfl
def L8_57 : List AStep := ⟨.len (.t 100), (some 101), (some (97, false)), []⟩ :: ⟨.mov (.t 5), (some 102), (some (97, false)), []⟩ :: L8_56
theorem v8_57 : VS L8_57.eq_1 := rfl
def L8_58 : List AStep := ⟨.load 2 true (.t 9), (some 99), (some (97, false)), []⟩ :: ⟨.call 23 [(.t 98), (.t 99)], (some 100), (some (97, false)), []⟩ :: L8_57
theorem v8_58 : VS L8_58.eq_1 := rfl
def L8_59 : List AStep := ⟨.mov (.t 96), (some 97), none, []⟩ :: ⟨.load 1 true (.t 3), (some 98), (some (97, false)), []⟩ :: L8_58
theorem v8_59 : VS L8_59.eq_1 := rfl
def L8_60 : List AStep := ⟨.mov (.t 10), (some 95), none, []⟩ :: ⟨.not (.t 95), (some 96), none, []⟩ :: L8_59
theorem v8_60 : VS L8_60.eq_1 := rfl
def L8_61 : List AStep := [⟨.mov (.t 112), (some 2), none, []⟩]
theorem v8_61 : VS L8_61.eq_1 := rfl
def L8_62 : List AStep := ⟨.call 37 [(.t 110)], (some 111), none, [(.load 1 false (.t 107), (some 108), none)]⟩ :: ⟨.bin .gtr (.t 109) (.t 111), (some 112), none, []⟩ :: L8_61
theorem v8_62 : VS L8_62.eq_1 := rfl
def L8_63 : List AStep := ⟨.len (.t 108), (some 109), none, []⟩ :: ⟨.load 1 true (.t 3), (some 110), none, []⟩ :: L8_62
theorem v8_63 : VS L8_63.eq_1 := rfl
def L8_64 : List AStep := ⟨.faddr 0 (.t 4), (some 107), none, []⟩ :: ⟨.load 1 false (.t 107), (some 108), none, []⟩ :: L8_63
theorem v8_64 : VS L8_64.eq_1 := rfl
def C8_0 : ACode := .seq (.reg L8_3) .ret
theorem u8_0 : VC C8_0.eq_1 := rfl
def C8_1 : ACode := .cond (.t 13) C8_0 .skip
theorem u8_1 : VC C8_1.eq_1 := rfl
def C8_2 : ACode := .seq (.reg L8_2) C8_1
theorem u8_2 : VC C8_2.eq_1 := rfl
def C8_3 : ACode := .seq (.reg L8_19) .ret
theorem u8_3 : VC C8_3.eq_1 := rfl
def C8_4 : ACode := .cond (.t 32) C8_3 .skip
theorem u8_4 : VC C8_4.eq_1 := rfl
def C8_5 : ACode := .seq (.reg L8_16) C8_4
theorem u8_5 : VC C8_5.eq_1 := rfl
def C8_6 : ACode := .cond (.t 46) .skip (.reg L8_26)
theorem u8_6 : VC C8_6.eq_1 := rfl
def C8_7 : ACode := .seq (.reg L8_25) C8_6
theorem u8_7 : VC C8_7.eq_1 := rfl
def C8_8 : ACode := .seq (.reg L8_37) .ret
theorem u8_8 : VC C8_8.eq_1 := rfl
def C8_9 : ACode := .seq (.reg L8_31) C8_8
theorem u8_9 : VC C8_9.eq_1 := rfl
def C8_10 : ACode := .seq (.reg L8_48) .ret
theorem u8_10 : VC C8_10.eq_1 := rfl
def C8_11 : ACode := .cond (.t 78) C8_10 .skip
theorem u8_11 : VC C8_11.eq_1 := rfl
def C8_12 : ACode := .seq (.reg L8_43) C8_11
theorem u8_12 : VC C8_12.eq_1 := rfl
def C8_13 : ACode := .seq (.reg L8_60) .ret
theorem u8_13 : VC C8_13.eq_1 := rfl
def C8_14 : ACode := .seq (.reg L8_53) C8_13
theorem u8_14 : VC C8_14.eq_1 := rfl
def C8_15 : ACode := .seq C8_12 C8_14
theorem u8_15 : VC C8_15.eq_1 := rfl
def C8_16 : ACode := .cond (.t 67) C8_15 .skip
theorem u8_16 : VC C8_16.eq_1 := rfl
def C8_17 : ACode := .seq (.reg L8_38) C8_16
theorem u8_17 : VC C8_17.eq_1 := rfl
def C8_18 : ACode := .cond (.t 46) C8_9 C8_17
theorem u8_18 : VC C8_18.eq_1 := rfl
def C8_19 : ACode := .seq C8_7 C8_18
theorem u8_19 : VC C8_19.eq_1 := rfl
def C8_20 : ACode := .block 0 C8_19
theorem u8_20 : VC C8_20.eq_1 := rfl
def C8_21 : ACode := .seq (.reg L8_24) C8_20
theorem u8_21 : VC C8_21.eq_1 := rfl
def C8_22 : ACode := .seq (.reg L8_64) .ret
theorem u8_22 : VC C8_22.eq_1 := rfl
def C8_23 : ACode := .seq C8_21 C8_22
theorem u8_23 : VC C8_23.eq_1 := rfl
def C8_24 : ACode := .seq (.reg L8_23) C8_23
theorem u8_24 : VC C8_24.eq_1 := rfl
def C8_25 : ACode := .seq C8_5 C8_24
theorem u8_25 : VC C8_25.eq_1 := rfl
def C8_26 : ACode := .seq (.reg L8_10) C8_25
theorem u8_26 : VC C8_26.eq_1 := rfl
def C8_27 : ACode := .seq (.reg L8_8) C8_26
theorem u8_27 : VC C8_27.eq_1 := rfl
def C8_28 : ACode := .seq C8_2 C8_27
theorem u8_28 : VC C8_28.eq_1 := rfl
def C8_29 : ACode := .seq (.reg L8_0) C8_28
theorem u8_29 : VC C8_29.eq_1 := rfl
def F8 : AFunc := ⟨113, [.tmp 2], C8_29⟩
theorem cF8 : compB Try.prog 8 = some F8 := by kernel_rfl
attribute [local go_sem ↓] u8_0 u8_1 u8_2 u8_3 u8_4 u8_5 u8_6 u8_7 u8_8 u8_9 u8_10 u8_11 u8_12 u8_13 u8_14 u8_15 u8_16 u8_17 u8_18 u8_19 u8_20 u8_21 u8_22 u8_23 u8_24 u8_25 u8_26 u8_27 u8_28 u8_29 v8_0 v8_1 v8_2 v8_3 v8_4 v8_5 v8_6 v8_7 v8_8 v8_9 v8_10 v8_11 v8_12 v8_13 v8_14 v8_15 v8_16 v8_17 v8_18 v8_19 v8_20 v8_21 v8_22 v8_23 v8_24 v8_25 v8_26 v8_27 v8_28 v8_29 v8_30 v8_31 v8_32 v8_33 v8_34 v8_35 v8_36 v8_37 v8_38 v8_39 v8_40 v8_41 v8_42 v8_43 v8_44 v8_45 v8_46 v8_47 v8_48 v8_49 v8_50 v8_51 v8_52 v8_53 v8_54 v8_55 v8_56 v8_57 v8_58 v8_59 v8_60 v8_61 v8_62 v8_63 v8_64
theorem law8 (h : H) (avs : List AV) (hok : okVs Try.prog h 6 [ 22 ] avs) : callK (bm Try.prog 8 avs h) fun r _ => r = ib true := by
  obtain ⟨v0, avs, rfl, hv0, hok⟩ := okVs_cons hok
  obtain rfl := okVs_nil hok
  obtain ⟨v, code, rfl, s0, hc, k0⟩ := dBytes hv0
  refine bm_of cF8 ?_
  cases b0 : decide ((code.length : Int) > 1048576) with
  | true => simp +contextual (maxSteps := 2000000) only [go_sem, Nat.reduceEqDiff, reduceCtorEq, Nat.reduceAdd, Nat.reduceLeDiff, F8, s0.len, b0]
  | false =>
  simp +contextual (maxSteps := 2000000) only [go_sem, Nat.reduceEqDiff, reduceCtorEq, Nat.reduceAdd, Nat.reduceLeDiff, F8, s0.len, b0]
  refine wp_call (c_drawProblems code v h s0 hc) ?_
  rintro q h1 ⟨g1, x, u, w, l, f, rfl, zq, zf, tl, mf⟩
  have sg : SlG h1 x l := ⟨zq.sl lenQ⟩
  have ml := tl.mini
  simp +contextual (maxSteps := 2000000) only [go_sem, Nat.reduceEqDiff, reduceCtorEq, Nat.reduceAdd, Nat.reduceLeDiff]
  refine wp_call (k_iProblems l f x u w h1 sg zf.sl ml mf) ?_
  rintro q2 h2 ⟨g2, n2⟩
  have sg2 := sg.grow g2
  have sf2 := zf.sl.grow g2
  simp +contextual (maxSteps := 2000000) only [go_sem, Nat.reduceEqDiff, reduceCtorEq, Nat.reduceAdd, Nat.reduceLeDiff]
  refine wp_call (k_sProblems l f x u w h2 sg2 sf2 ml mf) ?_
  rintro q3 h3 ⟨g3, n3⟩
  have sm := (n2.grow g3).sl lenB
  have sg3 := sg2.grow g3
  have sf3 := sf2.grow g3
  have hpl := problems_len (l := l) (f := f)
  have eq1 := c_equalProblems _ _ q2 q3 h3 sm (n3.sl lenB) (Nat.le_trans hpl (by decide))
  rw [decide_eq_true rfl] at eq1
  cases en : decide (((problemsF l f).length : Int) = 0) with
  | true =>
    simp +contextual (maxSteps := 2000000) only [go_sem, Nat.reduceEqDiff, reduceCtorEq, Nat.reduceAdd, Nat.reduceLeDiff, eq1, sm.len, en]
    refine wp_call (k_sProblems l f x u w h3 sg3 sf3 ml mf) ?_
    rintro q4 h4 ⟨g4, n4⟩
    have eq2 := c_equalProblems _ _ q2 q4 h4 (sm.grow g4) (n4.sl lenB) (Nat.le_trans hpl (by decide))
    rw [decide_eq_true rfl] at eq2
    simp +contextual (maxSteps := 2000000) only [go_sem, Nat.reduceEqDiff, reduceCtorEq, Nat.reduceAdd, Nat.reduceLeDiff, eq2]
    exact gcK_of rfl (fun _ _ => rfl)
  | false =>
  have hf : fits l f = true := by
    cases hf : fits l f with
    | true => rfl
    | false =>
      unfold problemsF at en
      rw [hf] at en
      simp at en
  obtain ⟨b1, b2⟩ := fits_ok hf
  have em : problemsF l f = wrong l f := by unfold problemsF; rw [if_pos hf]
  rw [em] at sm hpl en
  have h0 : 0 < (wrong l f).length := by have := of_decide_eq_false en; omega
  have hlast : (wrong l f).length - 1 < (wrong l f).length := by omega
  have ew : IntKind.i64.wrap (((wrong l f).length : Int) - 1) = (((wrong l f).length - 1 : Nat) : Int) := by rw [i64_wrap (by omega) (by omega)]; omega
  have after : ∀ {g : Flat}, okFlat g = true → (wrong l g).length + 1 = (wrong l f).length → (problemsF l g).length = (wrong l f).length - 1 := fun {g} ok e => by
    have : fits l g = true := by unfold fits; rw [b1, ok]; rfl
    unfold problemsF
    rw [if_pos this]
    omega
  have li := last_is b1 b2 h0 _ rfl
  have ewh := sm.whole hlast
  generalize (wrong l f)[(wrong l f).length - 1] = y at li ewh
  simp only [encB] at ewh
  rcases li with ⟨k3, j, hj, hlk, hnm⟩ | ⟨k12, k, hk, hbad, hnm⟩ | ⟨k0', hpl2, hr⟩
  · have kn : decide (y.kind = 1) = false ∧ decide (y.kind = 2) = false ∧ decide (y.kind = 3) = true := ⟨decide_eq_false (by omega), decide_eq_false (by omega), decide_eq_true k3⟩
    have o := Ord.of b1
    have ef := c_FindParam2 l x y.name h3 sg3 ml b1
    rw [hnm, param_self o hj, ← hnm] at ef
    have hlk2 := hlk
    rw [lackB_at hj, gotB_at hj] at hlk2
    simp only [Bool.and_eq_true, Bool.not_eq_true', Bool.or_eq_false_iff] at hlk2
    cases c0 : decide (l[j].kind = 0) with
    | true =>
      have hp : byPlace l[j] = true := by simp [byPlace, of_decide_eq_true c0]
      have hge : ¬ j < f.pl.length := by
        have := hlk2.2.2.1
        rw [hp, Bool.true_and] at this
        exact of_decide_eq_false this
      simp +contextual (maxSteps := 2000000) only [go_sem, Nat.reduceEqDiff, reduceCtorEq, Nat.reduceAdd, Nat.reduceLeDiff, eq1, sm.len, en, ew, sm.iaddr hlast, ewh, kn.1, kn.2.1, kn.2.2, ef, sg3.out.iaddr hj, sg3.out.fieldO hj, c0, sf3.pl.len, wrap_next hj (show l.length < 2 ^ 62 by have := okSig_len b1; omega), decide_eq_true (show (f.pl.length : Int) < ((j + 1 : Nat) : Int) by omega)]
      try exact gcK_of rfl (fun _ _ => rfl)
    | false =>
      have hb : byName l[j] = true := by
        have h1 := hlk2.1
        unfold single at h1
        have hk := (o.kind j hj)
        have : ¬ l[j].kind = 0 := of_decide_eq_false c0
        simp only [byPlace, byName, Bool.or_eq_true, decide_eq_true_iff] at h1 ⊢
        omega
      have hnone : pairAt f.nl y.name = -1 := by
        have h1 := hlk2.2.2.2
        rw [hb, Bool.true_and] at h1
        rcases idx_cases (fun p : Pair => decide (p.name = y.name)) f.nl with e | ⟨m, hm, e, hs⟩
        · exact e
        · have := List.any_eq_false.1 h1 _ (List.getElem_mem hm)
          rw [← hnm] at this
          exact absurd hs this
      simp +contextual (maxSteps := 2000000) only [go_sem, Nat.reduceEqDiff, reduceCtorEq, Nat.reduceAdd, Nat.reduceLeDiff, eq1, sm.len, en, ew, sm.iaddr hlast, ewh, kn.1, kn.2.1, kn.2.2, ef, sg3.out.iaddr hj, sg3.out.fieldO hj, c0]
      refine wp_call (k_iPutName f u w y.name 1 h3 sf3 mf (by rw [hnm]; exact Nat.le_trans (okSig_name b1 _ (List.getElem_mem hj)) (by decide)) b2) ?_
      rintro r h4 ⟨g4, p', n', rfl, z⟩
      rw [putP_none hnone] at z ⊢
      cases ok3 : okFlat ⟨f.pl, f.nl ++ [⟨y.name, 1⟩]⟩ with
      | false =>
        simp +contextual (maxSteps := 2000000) only [go_sem, Nat.reduceEqDiff, reduceCtorEq, Nat.reduceAdd, Nat.reduceLeDiff]
        try exact gcK_of rfl (fun _ _ => rfl)
      | true =>
        rw [if_pos ok3] at z
        have ok4 : okFlat ⟨f.pl, f.nl ++ [⟨l[j].name, 1⟩]⟩ = true := by rw [← hnm]; exact ok3
        have ma := mend_add b1 b2 hj hlk hb ok4
        rw [← hnm] at ma
        have hlen := after ok3 ma
        simp +contextual (maxSteps := 2000000) only [go_sem, Nat.reduceEqDiff, reduceCtorEq, Nat.reduceAdd, Nat.reduceLeDiff]
        refine wp_call (k_iProblems l ⟨f.pl, f.nl ++ [⟨y.name, 1⟩]⟩ x p' n' h4 (sg3.grow g4) z.sl ml (.of ok3)) ?_
        rintro q5 h5 ⟨g5, n5⟩
        have s5 := n5.length
        rw [hlen] at s5
        have sm5 := (sm.grow g4).grow g5
        simp +contextual (maxSteps := 2000000) only [go_sem, Nat.reduceEqDiff, reduceCtorEq, Nat.reduceAdd, Nat.reduceLeDiff, s5, sm5.len, ew, decide_true]
        try exact gcK_of rfl (fun _ _ => rfl)
  · have hap := okFlat_apart b2
    have ok3 : okFlat ⟨f.pl, f.nl.eraseIdx k⟩ = true := okFlat_sub (f := f) (List.Sublist.refl _) (List.eraseIdx_sublist _ _) b2
    have me := mend_erase b1 b2 hk hbad ok3
    have hlen := after ok3 me
    have hdn := k_iDropName f u w y.name h3 sf3 mf b2 hk (by rw [hnm]; exact pair_self hap hk)
    rw [← List.eraseIdx_eq_take_drop_succ] at hdn
    have fin : ∀ {h4 : H} {p' n' : CV} (g4 : Grow h3 h4) (z : SlF h4 p' n' ⟨f.pl, f.nl.eraseIdx k⟩), callK (bm Try.prog 23 [.agg [x], .agg [p', n']] h4) fun r h5 => lenO r = some (ii ((wrong l f).length - 1 : Nat)) ∧ lenO q2 = some (ii (wrong l f).length) := fun g4 z => by
      refine callK_mono (k_iProblems l ⟨f.pl, f.nl.eraseIdx k⟩ x _ _ _ (sg3.grow g4) z ml (.of ok3)) ?_
      rintro q5 h5 ⟨g5, n5⟩
      have s5 := n5.length
      rw [hlen] at s5
      exact ⟨s5, sm.len⟩
    rcases k12 with k1 | k2
    · simp +contextual (maxSteps := 2000000) only [go_sem, Nat.reduceEqDiff, reduceCtorEq, Nat.reduceAdd, Nat.reduceLeDiff, eq1, sm.len, en, ew, sm.iaddr hlast, ewh, decide_eq_true k1]
      refine wp_call hdn ?_
      rintro r h4 ⟨g4, p', n', rfl, z⟩
      simp +contextual (maxSteps := 2000000) only [go_sem, Nat.reduceEqDiff, reduceCtorEq, Nat.reduceAdd, Nat.reduceLeDiff]
      refine wp_call (fin g4 z) ?_
      rintro q5 h5 ⟨s5, s2⟩
      simp +contextual (maxSteps := 2000000) only [go_sem, Nat.reduceEqDiff, reduceCtorEq, Nat.reduceAdd, Nat.reduceLeDiff, s5, s2, ew, decide_true]
      try exact gcK_of rfl (fun _ _ => rfl)
    · simp +contextual (maxSteps := 2000000) only [go_sem, Nat.reduceEqDiff, reduceCtorEq, Nat.reduceAdd, Nat.reduceLeDiff, eq1, sm.len, en, ew, sm.iaddr hlast, ewh, decide_eq_false (show ¬ y.kind = 1 by omega), decide_eq_true k2]
      refine wp_call hdn ?_
      rintro r h4 ⟨g4, p', n', rfl, z⟩
      simp +contextual (maxSteps := 2000000) only [go_sem, Nat.reduceEqDiff, reduceCtorEq, Nat.reduceAdd, Nat.reduceLeDiff]
      refine wp_call (fin g4 z) ?_
      rintro q5 h5 ⟨s5, s2⟩
      simp +contextual (maxSteps := 2000000) only [go_sem, Nat.reduceEqDiff, reduceCtorEq, Nat.reduceAdd, Nat.reduceLeDiff, s5, s2, ew, decide_true]
      try exact gcK_of rfl (fun _ _ => rfl)
  · have hmp : mostP l = (places l : Int) := by
      have : ¬ 0 ≤ kindAt l 2 := of_decide_eq_false hr
      unfold mostP
      rw [b1, if_pos rfl, if_neg this]
      rfl
    have emp := c_iMostPlaces l x h3 sg3 ml
    rw [hmp] at emp
    simp +contextual (maxSteps := 2000000) only [go_sem, Nat.reduceEqDiff, reduceCtorEq, Nat.reduceAdd, Nat.reduceLeDiff, eq1, sm.len, en, ew, sm.iaddr hlast, ewh, decide_eq_false (show ¬ y.kind = 1 by omega), decide_eq_false (show ¬ y.kind = 2 by omega), decide_eq_false (show ¬ y.kind = 3 by omega), sf3.pl.len, emp, decide_eq_true (show (f.pl.length : Int) > (places l : Int) by omega)]
    try exact gcK_of rfl (fun _ _ => rfl)
end Go.Proofs.Ytekkimfdcbgcoab.Am
