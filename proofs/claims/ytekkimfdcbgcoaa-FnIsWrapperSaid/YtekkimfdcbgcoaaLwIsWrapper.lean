/- The law FnIsWrapper. -/
import Derived.Test.YtekkimfdcbgcoaaTC
import Derived.Test.YtekkimfdcbgcoaaPB
import Derived.Test.YtekkimfdcbgcoaaDW
import Derived.Test.YtekkimfdcbgcoaaLwMostPlaces
import Derived.Test.YtekkimfdcbgcoaaBP
namespace Go.Proofs.Ytekkimfdcbgcoaa.Am
open Go
set_option maxRecDepth 100000
set_option maxHeartbeats 4000000
set_option linter.unusedSimpArgs false
set_option linter.unusedVariables false
attribute [local go_sem ↓] bv_t bv_c ev_t ev_c put_same put_ne put_none kill_at pro_at lb_same lb_ne start_zero start_succ wpC_seq wpC_reg wpC_cond wpC_block wpC_skip wpC_exit wpC_ret thenQ_normal thenQ_exit thenQ_ret inBlk_normal inBlk_exit inBlk_ret wpS_nil wpS_step wpS_again wpS_guard wpO_mov wpO_load wpO_faddr wpO_nilCheck wpO_pick wpO_build wpO_bin wpO_eqb wpO_eqst wpO_eqnil wpO_not wpO_conv wpO_bytesStr wpO_iaddr wpO_idxStr wpO_field wpO_extract wpO_len wpO_lenStr wpO_cap wpO_min wpO_slice wpO_sliceStr wpO_alloc wpO_box wpO_store wpO_call wpO_callv wpO_mkfn wpO_buildSlice wpO_mkslice wpO_append wpO_appz proA_nil proA_cons tmpX_nil tmpX_tmp tmpX_cell doneB_normal doneB_ret agK_cons agK_nil agK_guard agG_tt agG_ff agG_tf agG_ft agG_undef pureB_load results_one results_two results_nil resBs_cons resBs_nil resB_tmp resB_cell
attribute [local go_sem] kill_v kill_lp_ne kill_lp_same pro_v pro_lp_same pro_lp_ne av_v av_lp optB_some optX_some valX_eq ldX_lp ldX_v faX_lp faX_v ncX_lp ncX_ptr ncX_fn boxK_one boxK_agg stL_some stK_lp_one stK_lp_agg stK_v_one stK_v_agg proM_v proM_lp callG_mk callVG_mk callvK_fn fnG_mk ptrsA_nil ptrsA_cons callH_some whenA_true whenA_false guardH_tt guardH_ff guardH_tf guardH_ft guardH_undef agV_one agV_agg lenO_sl lenStrO_str notO_bool pickO_bool convO_int eqbO_bool eqnilO_sl extractO_tup capO_sl minO_int loadL_one loadL_all storeL_eq fillA_nil fillA_one fillA_agg nat_ge neg_ge nat_lt neg_lt buildO bin_add bin_sub bin_mul bin_eql bin_neq bin_lss bin_leq bin_gtr bin_geq str_eql str_neq str_lss str_leq str_gtr str_geq retK_some endK_mk gcK_same gcK_int gcK_bool tupO_one tupO_agg rdy_self ib ii Option.map_none Option.map_some Option.some.injEq exists_eq_left' exists_eq_left ne_eq not_false_eq_true if_true if_false List.map_cons List.map_nil List.getElem?_cons_zero List.getElem?_cons_succ List.length_cons List.length_nil List.take_succ_cons List.take_zero List.take_nil List.drop_succ_cons List.drop_zero List.drop_nil List.cons_append List.nil_append List.append_nil List.set_cons_zero List.set_cons_succ Nat.zero_add forall_const true_and and_true and_self Bool.false_eq_true false_implies true_implies implies_true Bool.not_true Bool.not_false Bool.not_eq_true' Bool.not_eq_false' beq_self_eq_true Bool.bne_true Bool.bne_false
attribute [local go_sem] lenI lenS lenP lenQ lenB lenL lenT encI_0 encS_0 encP_0 encP_1 encQ_0 encQ_1 encQ_2 encQ_3 encB_0 encB_1 encL_0 encL_1 encT_0 encT_1
attribute [local go_sem low] whenA_bool guardH_bool
/-! impl.ParamNames$1 -/
def L104_0 : List AStep := [⟨.box 35 (.t 0), (some 2), none, []⟩, ⟨.mov (.c (.bool false)), (some 3), none, []⟩]
theorem v104_0 : VS L104_0.eq_1 := rfl
def L104_1 : List AStep := [⟨.mov (.t 7), (some 3), none, []⟩]
theorem v104_1 : VS L104_1.eq_1 := rfl
def L104_2 : List AStep := ⟨.load 1 false (.t 1), (some 6), none, []⟩ :: ⟨.bin .eql (.t 5) (.t 6), (some 7), none, []⟩ :: L104_1
theorem v104_2 : VS L104_2.eq_1 := rfl
def L104_3 : List AStep := ⟨.faddr 1 (.t 2), (some 4), none, []⟩ :: ⟨.load 1 false (.t 4), (some 5), none, []⟩ :: L104_2
theorem v104_3 : VS L104_3.eq_1 := rfl
def C104_0 : ACode := .seq (.reg L104_3) .ret
theorem u104_0 : VC C104_0.eq_1 := rfl
def C104_1 : ACode := .seq (.reg L104_0) C104_0
theorem u104_1 : VC C104_1.eq_1 := rfl
def F104 : AFunc := ⟨8, [.tmp 3], C104_1⟩
theorem cF104 : compB Try.prog 104 = some F104 := by kernel_rfl
attribute [local go_sem ↓] u104_0 u104_1 v104_0 v104_1 v104_2 v104_3
theorem c_ParamNames1 (x : Param) (a : Nat × Nat) (k : Int) (h : H) (ha : loadO 1 false h (.one (.ptr (some a))) = some (.one (.int .i64 k))) : bm Try.prog 104 [.agg (encQ x), .one (.ptr (some a))] h = some (ib (decide (x.kind = k)), h) := by
  refine bm_eq cF104 ?_
  simp +contextual (maxSteps := 2000000) only [go_sem, Nat.reduceEqDiff, reduceCtorEq, Nat.reduceAdd, Nat.reduceLeDiff, F104, ha]
/-! impl.ParamNames -/
def L50_0 : List AStep := [⟨.mov (.c (.sl none 0 (some 0))), (some 4), none, []⟩]
theorem v50_0 : VS L50_0.eq_1 := rfl
def L50_1 : List AStep := ⟨.box 38 (.t 0), (some 2), none, []⟩ :: ⟨.box 3 (.t 1), (some 3), none, []⟩ :: L50_0
theorem v50_1 : VS L50_1.eq_1 := rfl
def L50_2 : List AStep := [⟨.not (.t 6), (some 7), none, []⟩]
theorem v50_2 : VS L50_2.eq_1 := rfl
def L50_3 : List AStep := ⟨.load 1 true (.t 2), (some 5), none, []⟩ :: ⟨.call 49 [(.t 5)], (some 6), none, []⟩ :: L50_2
theorem v50_3 : VS L50_3.eq_1 := rfl
def L50_4 : List AStep := [⟨.mov (.c (.sl none 0 (some 0))), (some 4), none, []⟩]
theorem v50_4 : VS L50_4.eq_1 := rfl
def L50_5 : List AStep := [⟨.call 103 [(.t 8), (.t 9)], (some 10), none, []⟩, ⟨.mov (.t 10), (some 4), none, []⟩]
theorem v50_5 : VS L50_5.eq_1 := rfl
def L50_6 : List AStep := ⟨.load 1 true (.t 2), (some 8), none, []⟩ :: ⟨.mkfn 104 [(.t 3)], (some 9), none, []⟩ :: L50_5
theorem v50_6 : VS L50_6.eq_1 := rfl
def C50_0 : ACode := .seq (.reg L50_4) .ret
theorem u50_0 : VC C50_0.eq_1 := rfl
def C50_1 : ACode := .cond (.t 7) C50_0 .skip
theorem u50_1 : VC C50_1.eq_1 := rfl
def C50_2 : ACode := .seq (.reg L50_3) C50_1
theorem u50_2 : VC C50_2.eq_1 := rfl
def C50_3 : ACode := .seq (.reg L50_6) .ret
theorem u50_3 : VC C50_3.eq_1 := rfl
def C50_4 : ACode := .seq C50_2 C50_3
theorem u50_4 : VC C50_4.eq_1 := rfl
def C50_5 : ACode := .seq (.reg L50_1) C50_4
theorem u50_5 : VC C50_5.eq_1 := rfl
def F50 : AFunc := ⟨11, [.tmp 4], C50_5⟩
theorem cF50 : compB Try.prog 50 = some F50 := by kernel_rfl
attribute [local go_sem ↓] u50_0 u50_1 u50_2 u50_3 u50_4 u50_5 v50_0 v50_1 v50_2 v50_3 v50_4 v50_5 v50_6
theorem c_ParamNames (l : List Param) (q : CV) (k : Int) (h : H) (hl : SlG h q l) (hn : miniG l) (ok : okSig l = true) : callK (bm Try.prog 50 [.agg [q], .one (.int .i64 k)] h) fun r h' => Grow h h' ∧ NwS h h' r ((l.filter fun p => decide (p.kind = k)).map Param.name) := by
  refine bm_of cF50 ?_
  have hb : Box (h.alloc [.int .i64 k] 3) h.n [.int .i64 k] 3 := Box.new
  have e := c_namesG l q 104 [(h.n, 0)] (fun p => decide (p.kind = k)) (h.alloc [.int .i64 k] 3) (hl.out.grow (Grow.alloc _ _ _)) (by have := okSig_len ok; omega) (fun h' g x => c_ParamNames1 x (h.n, 0) k h' ((hb.grow g).one rfl))
  simp +contextual (maxSteps := 2000000) only [go_sem, Nat.reduceEqDiff, reduceCtorEq, Nat.reduceAdd, Nat.reduceLeDiff, F50, c_ValidSignature _ _ _ hl.out hn.sm, ok]
  refine wp_call e ?_
  rintro r h1 ⟨g1, n1⟩
  have G := (Grow.alloc h [.int .i64 k] 3).trans g1
  have n1 := n1.from (Grow.alloc h [.int .i64 k] 3).n
  simp +contextual (maxSteps := 2000000) only [go_sem, Nat.reduceEqDiff, reduceCtorEq, Nat.reduceAdd, Nat.reduceLeDiff]
  exact gcK_of ⟨G, n1⟩ (fun hs _ => ⟨Grow.refl h, n1.scalar hs h⟩)
theorem kind_one {l : List Param} (ok : okSig l = true) {k : Int} (hk : ∀ p : Param, p.kind = k → single p = false) : decide ((((l.filter fun p => decide (p.kind = k)).map Param.name).length : Int) = 1) = decide (0 ≤ kindAt l k) := by
  have o := Ord.of ok
  rw [List.length_map]
  rcases idx_cases (fun p : Param => decide (p.kind = k)) l with e | ⟨j, hj, e, hs⟩
  · have e : kindAt l k = -1 := e
    have h0 : l.filter (fun p => decide (p.kind = k)) = [] := by
      rw [List.filter_eq_nil_iff]
      intro x hx
      have := idx_neg.1 (show idx (fun p : Param => decide (p.kind = k)) l < 0 by have : idx (fun p : Param => decide (p.kind = k)) l = -1 := e; omega) x hx
      simpa using this
    rw [h0, e]
    rfl
  · have e : kindAt l k = j := e
    have hs := of_decide_eq_true hs
    have one : ∀ i (hi : i < l.length), l[i].kind = k → i = j := fun i hi h => by
      rcases Nat.lt_trichotomy i j with c | c | c
      · have := o.same hj c (h.trans hs.symm)
        rw [hk _ hs] at this
        simp at this
      · exact c
      · have := o.same hi c (hs.trans h.symm)
        rw [hk _ h] at this
        simp at this
    have h1 : (l.filter fun p => decide (p.kind = k)).length = 1 := by
      rw [← List.countP_eq_length_filter]
      have hsplit : l = l.take j ++ l[j] :: l.drop (j + 1) := by rw [← List.drop_eq_getElem_cons hj, List.take_append_drop]
      have z1 : (l.take j).countP (fun p => decide (p.kind = k)) = 0 := List.countP_eq_zero.2 fun x hx => by
        rw [List.mem_take_iff_getElem] at hx
        obtain ⟨i, hi, rfl⟩ := hx
        simp only [decide_eq_true_iff]
        intro h
        have := one i (by omega) h
        omega
      have z2 : (l.drop (j + 1)).countP (fun p => decide (p.kind = k)) = 0 := List.countP_eq_zero.2 fun x hx => by
        obtain ⟨i, hi, rfl⟩ := List.getElem_of_mem hx
        have hi2 : j + 1 + i < l.length := by rw [List.length_drop] at hi; omega
        rw [List.getElem_drop]
        simp only [decide_eq_true_iff]
        intro h
        have := one _ hi2 h
        omega
      conv => lhs; rw [hsplit]
      rw [List.countP_append, List.countP_cons_of_pos (by simpa using hs), z1, z2]
    rw [h1, e, decide_eq_true (by omega), decide_eq_true (by omega)]
/-! spec.IsWrapper -/
def L48_0 : List AStep := [⟨.box 38 (.t 0), (some 1), none, []⟩, ⟨.mov (.c (.bool false)), (some 2), none, []⟩]
theorem v48_0 : VS L48_0.eq_1 := rfl
def L48_1 : List AStep := [⟨.mov (.t 4), (some 2), none, []⟩]
theorem v48_1 : VS L48_1.eq_1 := rfl
def L48_2 : List AStep := ⟨.load 1 true (.t 1), (some 3), none, []⟩ :: ⟨.call 98 [(.t 3)], (some 4), none, []⟩ :: L48_1
theorem v48_2 : VS L48_2.eq_1 := rfl
def C48_0 : ACode := .seq (.reg L48_2) .ret
theorem u48_0 : VC C48_0.eq_1 := rfl
def C48_1 : ACode := .seq (.reg L48_0) C48_0
theorem u48_1 : VC C48_1.eq_1 := rfl
def F48 : AFunc := ⟨5, [.tmp 2], C48_1⟩
theorem cF48 : compB Try.prog 48 = some F48 := by kernel_rfl
attribute [local go_sem ↓] u48_0 u48_1 v48_0 v48_1 v48_2
theorem k_sIsWrapper (l : List Param) (q : CV) (h : H) (hl : SlG h q l) (m : miniG l) : bm Try.prog 48 [.agg [q]] h = some (ib (isWrap l), h) := by
  refine bm_eq cF48 ?_
  simp +contextual (maxSteps := 2000000) only [go_sem, Nat.reduceEqDiff, reduceCtorEq, Nat.reduceAdd, Nat.reduceLeDiff, F48, c_isWrapper _ _ _ hl m]
/-! laws.FnIsWrapper -/
def L11_0 : List AStep := [⟨.mov (.c (.bool false)), (some 2), none, []⟩]
theorem v11_0 : VS L11_0.eq_1 := rfl
def L11_1 : List AStep := [⟨.bin .gtr (.t 7) (.c (.int .i64 1048576)), (some 8), none, []⟩]
theorem v11_1 : VS L11_1.eq_1 := rfl
def L11_2 : List AStep := ⟨.mov (.t 0), (some 6), none, []⟩ :: ⟨.len (.t 6), (some 7), none, []⟩ :: L11_1
theorem v11_2 : VS L11_2.eq_1 := rfl
def L11_3 : List AStep := [⟨.mov (.c (.bool true)), (some 2), none, []⟩]
theorem v11_3 : VS L11_3.eq_1 := rfl
def L11_4 : List AStep := [⟨.alloc 38 [(.sl none 0 (some 0))], (some 3), none, []⟩, ⟨.store 1 (.t 3) (.t 10), none, none, []⟩]
theorem v11_4 : VS L11_4.eq_1 := rfl
def L11_5 : List AStep := ⟨.mov (.t 0), (some 9), none, []⟩ :: ⟨.call 46 [(.t 9)], (some 10), none, []⟩ :: L11_4
theorem v11_5 : VS L11_5.eq_1 := rfl
def L11_6 : List AStep := [⟨.mov (.t 12), (some 4), none, []⟩]
theorem v11_6 : VS L11_6.eq_1 := rfl
def L11_7 : List AStep := ⟨.load 1 true (.t 3), (some 11), none, []⟩ :: ⟨.call 47 [(.t 11)], (some 12), none, []⟩ :: L11_6
theorem v11_7 : VS L11_7.eq_1 := rfl
def L11_8 : List AStep := [⟨.pick (.t 17) (.c (.bool true)) (.t 20), (some 21), none, []⟩]
theorem v11_8 : VS L11_8.eq_1 := rfl
def L11_9 : List AStep := ⟨.call 49 [(.t 18)], (some 19), (some (17, false)), []⟩ :: ⟨.not (.t 19), (some 20), (some (17, false)), []⟩ :: L11_8
theorem v11_9 : VS L11_9.eq_1 := rfl
def L11_10 : List AStep := ⟨.mov (.t 16), (some 17), none, []⟩ :: ⟨.load 1 true (.t 3), (some 18), (some (17, false)), []⟩ :: L11_9
theorem v11_10 : VS L11_10.eq_1 := rfl
def L11_11 : List AStep := ⟨.call 48 [(.t 14)], (some 15), none, []⟩ :: ⟨.eqb true (.t 13) (.t 15), (some 16), none, []⟩ :: L11_10
theorem v11_11 : VS L11_11.eq_1 := rfl
def L11_12 : List AStep := ⟨.mov (.t 4), (some 13), none, []⟩ :: ⟨.load 1 true (.t 3), (some 14), none, []⟩ :: L11_11
theorem v11_12 : VS L11_12.eq_1 := rfl
def L11_13 : List AStep := [⟨.mov (.t 25), (some 2), none, []⟩]
theorem v11_13 : VS L11_13.eq_1 := rfl
def L11_14 : List AStep := ⟨.call 48 [(.t 23)], (some 24), none, []⟩ :: ⟨.eqb false (.t 22) (.t 24), (some 25), none, []⟩ :: L11_13
theorem v11_14 : VS L11_14.eq_1 := rfl
def L11_15 : List AStep := ⟨.mov (.t 4), (some 22), none, []⟩ :: ⟨.load 1 true (.t 3), (some 23), none, []⟩ :: L11_14
theorem v11_15 : VS L11_15.eq_1 := rfl
def L11_16 : List AStep := [⟨.mov (.t 35), (some 5), none, []⟩]
theorem v11_16 : VS L11_16.eq_1 := rfl
def L11_17 : List AStep := ⟨.bin .eql (.t 33) (.c (.int .i64 1)), (some 34), (some (30, true)), []⟩ :: ⟨.pick (.t 30) (.t 34) (.c (.bool false)), (some 35), none, []⟩ :: L11_16
theorem v11_17 : VS L11_17.eq_1 := rfl
def L11_18 : List AStep := ⟨.call 50 [(.t 31), (.c (.int .i64 4))], (some 32), (some (30, true)), []⟩ :: ⟨.len (.t 32), (some 33), (some (30, true)), []⟩ :: L11_17
theorem v11_18 : VS L11_18.eq_1 := rfl
def L11_19 : List AStep := ⟨.mov (.t 29), (some 30), none, []⟩ :: ⟨.load 1 true (.t 3), (some 31), (some (30, true)), []⟩ :: L11_18
theorem v11_19 : VS L11_19.eq_1 := rfl
def L11_20 : List AStep := ⟨.len (.t 27), (some 28), none, []⟩ :: ⟨.bin .eql (.t 28) (.c (.int .i64 1)), (some 29), none, []⟩ :: L11_19
theorem v11_20 : VS L11_20.eq_1 := rfl
def L11_21 : List AStep := ⟨.load 1 true (.t 3), (some 26), none, []⟩ :: ⟨.call 50 [(.t 26), (.c (.int .i64 2))], (some 27), none, []⟩ :: L11_20
theorem v11_21 : VS L11_21.eq_1 := rfl
def L11_22 : List AStep := [⟨.pick (.t 39) (.t 45) (.c (.bool false)), (some 46), none, []⟩, ⟨.mov (.t 46), (some 2), none, []⟩]
theorem v11_22 : VS L11_22.eq_1 := rfl
def L11_23 : List AStep := ⟨.call 45 [(.t 43), (.c (.int .i64 8))], (some 44), (some (42, false)), []⟩ :: ⟨.pick (.t 42) (.c (.bool true)) (.t 44), (some 45), (some (39, true)), []⟩ :: L11_22
theorem v11_23 : VS L11_23.eq_1 := rfl
def L11_24 : List AStep := ⟨.mov (.t 41), (some 42), (some (39, true)), []⟩ :: ⟨.load 1 true (.t 3), (some 43), (some (42, false)), []⟩ :: L11_23
theorem v11_24 : VS L11_24.eq_1 := rfl
def L11_25 : List AStep := ⟨.mov (.t 4), (some 40), (some (39, true)), []⟩ :: ⟨.not (.t 40), (some 41), (some (39, true)), []⟩ :: L11_24
theorem v11_25 : VS L11_25.eq_1 := rfl
def L11_26 : List AStep := ⟨.eqb false (.t 36) (.t 37), (some 38), none, []⟩ :: ⟨.mov (.t 38), (some 39), none, []⟩ :: L11_25
theorem v11_26 : VS L11_26.eq_1 := rfl
def L11_27 : List AStep := ⟨.mov (.t 4), (some 36), none, []⟩ :: ⟨.mov (.t 5), (some 37), none, []⟩ :: L11_26
theorem v11_27 : VS L11_27.eq_1 := rfl
def C11_0 : ACode := .seq (.reg L11_3) .ret
theorem u11_0 : VC C11_0.eq_1 := rfl
def C11_1 : ACode := .cond (.t 8) C11_0 .skip
theorem u11_1 : VC C11_1.eq_1 := rfl
def C11_2 : ACode := .seq (.reg L11_2) C11_1
theorem u11_2 : VC C11_2.eq_1 := rfl
def C11_3 : ACode := .seq (.reg L11_15) .ret
theorem u11_3 : VC C11_3.eq_1 := rfl
def C11_4 : ACode := .cond (.t 21) C11_3 .skip
theorem u11_4 : VC C11_4.eq_1 := rfl
def C11_5 : ACode := .seq (.reg L11_12) C11_4
theorem u11_5 : VC C11_5.eq_1 := rfl
def C11_6 : ACode := .seq (.reg L11_27) .ret
theorem u11_6 : VC C11_6.eq_1 := rfl
def C11_7 : ACode := .seq (.reg L11_21) C11_6
theorem u11_7 : VC C11_7.eq_1 := rfl
def C11_8 : ACode := .seq C11_5 C11_7
theorem u11_8 : VC C11_8.eq_1 := rfl
def C11_9 : ACode := .seq (.reg L11_7) C11_8
theorem u11_9 : VC C11_9.eq_1 := rfl
def C11_10 : ACode := .seq (.reg L11_5) C11_9
theorem u11_10 : VC C11_10.eq_1 := rfl
def C11_11 : ACode := .seq C11_2 C11_10
theorem u11_11 : VC C11_11.eq_1 := rfl
def C11_12 : ACode := .seq (.reg L11_0) C11_11
theorem u11_12 : VC C11_12.eq_1 := rfl
def F11 : AFunc := ⟨47, [.tmp 2], C11_12⟩
theorem cF11 : compB Try.prog 11 = some F11 := by kernel_rfl
attribute [local go_sem ↓] u11_0 u11_1 u11_2 u11_3 u11_4 u11_5 u11_6 u11_7 u11_8 u11_9 u11_10 u11_11 u11_12 v11_0 v11_1 v11_2 v11_3 v11_4 v11_5 v11_6 v11_7 v11_8 v11_9 v11_10 v11_11 v11_12 v11_13 v11_14 v11_15 v11_16 v11_17 v11_18 v11_19 v11_20 v11_21 v11_22 v11_23 v11_24 v11_25 v11_26 v11_27
theorem law11 (h : H) (avs : List AV) (hok : okVs Try.prog h 6 [ 22 ] avs) : callK (bm Try.prog 11 avs h) fun r _ => r = ib true := by
  obtain ⟨v0, avs, rfl, hv0, hok⟩ := okVs_cons hok
  obtain rfl := okVs_nil hok
  obtain ⟨v, code, rfl, s0, hc, k0⟩ := dBytes hv0
  refine bm_of cF11 ?_
  cases b0 : decide ((code.length : Int) > 1048576) with
  | true => simp +contextual (maxSteps := 2000000) only [go_sem, Nat.reduceEqDiff, reduceCtorEq, Nat.reduceAdd, Nat.reduceLeDiff, F11, s0.len, b0]
  | false =>
  simp +contextual (maxSteps := 2000000) only [go_sem, Nat.reduceEqDiff, reduceCtorEq, Nat.reduceAdd, Nat.reduceLeDiff, F11, s0.len, b0]
  refine wp_call (c_drawIsWrapper code v h s0 hc) ?_
  rintro q h1 ⟨g1, x, l, rfl, zq, tl⟩
  have sg : SlG h1 x l := ⟨zq.sl lenQ⟩
  have ml := tl.mini
  have e1 := c_IsWrapper l x h1 sg ml
  have e2 := k_sIsWrapper l x h1 sg ml
  have ev := c_ValidSignature l x h1 sg.out ml.sm
  have ebb : ∀ b : Bool, (b == b) = true := fun b => by cases b <;> rfl
  cases b1 : okSig l with
  | false =>
    simp +contextual (maxSteps := 2000000) only [go_sem, Nat.reduceEqDiff, reduceCtorEq, Nat.reduceAdd, Nat.reduceLeDiff, e1, e2, ebb, ev, b1]
    exact gcK_of rfl (fun _ _ => rfl)
  | true =>
  have w : isWrap l = (decide (0 ≤ kindAt l 2) && decide (0 ≤ kindAt l 4)) := by unfold isWrap hasRest hasMap; rw [b1]; rfl
  have q2 := kind_one (k := 2) b1 (fun p hp => by simp [single, byPlace, byName, hp])
  have q4 := kind_one (k := 4) b1 (fun p hp => by simp [single, byPlace, byName, hp])
  simp +contextual (maxSteps := 2000000) only [go_sem, Nat.reduceEqDiff, reduceCtorEq, Nat.reduceAdd, Nat.reduceLeDiff, e1, e2, ebb, ev, b1]
  refine wp_call (c_ParamNames l x 2 h1 sg ml b1) ?_
  rintro r2 h2 ⟨g2, n2⟩
  have ln2 := n2.length
  have sg2 := sg.grow g2
  cases c2 : decide (0 ≤ kindAt l 2) with
  | false =>
    rw [c2] at q2 w
    rw [Bool.false_and] at w
    simp +contextual (maxSteps := 2000000) only [go_sem, Nat.reduceEqDiff, reduceCtorEq, Nat.reduceAdd, Nat.reduceLeDiff, ln2, q2, w]
    exact gcK_of rfl (fun _ _ => rfl)
  | true =>
  rw [c2] at q2 w
  rw [Bool.true_and] at w
  simp +contextual (maxSteps := 2000000) only [go_sem, Nat.reduceEqDiff, reduceCtorEq, Nat.reduceAdd, Nat.reduceLeDiff, ln2, q2]
  refine wp_call (c_ParamNames l x 4 h2 sg2 ml b1) ?_
  rintro r3 h3 ⟨g3, n3⟩
  have ln3 := n3.length
  have sg3 := sg2.grow g3
  have ec := k_iTakesCount l x 8 h3 sg3 ml
  rw [takes_rest b1 (of_decide_eq_true c2)] at ec
  cases c4 : decide (0 ≤ kindAt l 4) with
  | false =>
    rw [c4] at q4 w
    simp +contextual (maxSteps := 2000000) only [go_sem, Nat.reduceEqDiff, reduceCtorEq, Nat.reduceAdd, Nat.reduceLeDiff, ln3, q4, w]
    exact gcK_of rfl (fun _ _ => rfl)
  | true =>
    rw [c4] at q4 w
    simp +contextual (maxSteps := 2000000) only [go_sem, Nat.reduceEqDiff, reduceCtorEq, Nat.reduceAdd, Nat.reduceLeDiff, ln3, q4, w, ec]
    exact gcK_of rfl (fun _ _ => rfl)
end Go.Proofs.Ytekkimfdcbgcoaa.Am
