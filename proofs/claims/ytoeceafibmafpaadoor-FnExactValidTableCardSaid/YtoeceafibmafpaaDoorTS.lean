/- Contracts: the text of a signature, the reference's. -/
import Derived.Test.YtoeceafibmafpaaDoorTG
import Derived.Test.YtoeceafibmafpaaDoorK
namespace Go.Proofs.YtoeceafibmafpaaDoor.Am
open Go
set_option maxRecDepth 100000
set_option maxHeartbeats 4000000
set_option linter.unusedSimpArgs false
set_option linter.unusedVariables false
attribute [local go_sem ↓] bv_t bv_c ev_t ev_c put_same put_ne put_none kill_at pro_at lb_same lb_ne start_zero start_succ wpC_seq wpC_reg wpC_cond wpC_block wpC_skip wpC_exit wpC_ret thenQ_normal thenQ_exit thenQ_ret inBlk_normal inBlk_exit inBlk_ret wpS_nil wpS_step wpS_again wpS_guard wpO_mov wpO_load wpO_faddr wpO_nilCheck wpO_pick wpO_build wpO_bin wpO_eqb wpO_eqst wpO_eqnil wpO_not wpO_conv wpO_bytesStr wpO_iaddr wpO_idxStr wpO_field wpO_extract wpO_len wpO_lenStr wpO_cap wpO_min wpO_slice wpO_sliceStr wpO_alloc wpO_box wpO_store wpO_call wpO_callv wpO_mkfn wpO_buildSlice wpO_mkslice wpO_append wpO_appz proA_nil proA_cons tmpX_nil tmpX_tmp tmpX_cell doneB_normal doneB_ret agK_cons agK_nil agK_guard agG_tt agG_ff agG_tf agG_ft agG_undef pureB_load results_one results_two results_nil resBs_cons resBs_nil resB_tmp resB_cell
attribute [local go_sem] kill_v kill_lp_ne kill_lp_same pro_v pro_lp_same pro_lp_ne av_v av_lp optB_some optX_some valX_eq ldX_lp ldX_v faX_lp faX_v ncX_lp ncX_ptr ncX_fn boxK_one boxK_agg stL_some stK_lp_one stK_lp_agg stK_v_one stK_v_agg proM_v proM_lp callG_mk callVG_mk callvK_fn fnG_mk ptrsA_nil ptrsA_cons callH_some whenA_true whenA_false guardH_tt guardH_ff guardH_tf guardH_ft guardH_undef agV_one agV_agg lenO_sl lenStrO_str notO_bool pickO_bool convO_int eqbO_bool eqnilO_sl extractO_tup capO_sl minO_int loadL_one loadL_all storeL_eq fillA_nil fillA_one fillA_agg nat_ge neg_ge nat_lt neg_lt buildO bin_add bin_sub bin_mul bin_eql bin_neq bin_lss bin_leq bin_gtr bin_geq str_eql str_neq str_lss str_leq str_gtr str_geq retK_some endK_mk gcK_same gcK_int gcK_bool tupO_one tupO_agg rdy_self ib ii Option.map_none Option.map_some Option.some.injEq exists_eq_left' exists_eq_left ne_eq not_false_eq_true if_true if_false List.map_cons List.map_nil List.getElem?_cons_zero List.getElem?_cons_succ List.length_cons List.length_nil List.take_succ_cons List.take_zero List.take_nil List.drop_succ_cons List.drop_zero List.drop_nil List.cons_append List.nil_append List.append_nil List.set_cons_zero List.set_cons_succ Nat.zero_add forall_const true_and and_true and_self Bool.false_eq_true false_implies true_implies implies_true Bool.not_true Bool.not_false Bool.not_eq_true' Bool.not_eq_false' beq_self_eq_true Bool.bne_true Bool.bne_false
attribute [local go_sem] lenI lenS lenP lenQ lenB lenL lenT encI_0 encS_0 encP_0 encP_1 encQ_0 encQ_1 encQ_2 encQ_3 encB_0 encB_1 encL_0 encL_1 encT_0 encT_1
attribute [local go_sem low] whenA_bool guardH_bool
theorem starL_on {l : List Param} {i : Nat} (h : starB l i = true) : starL l i = [strOfNums [42]] := by unfold starL; rw [if_pos h]
theorem starL_off {l : List Param} {i : Nat} (h : starB l i = false) : starL l i = [] := by unfold starL; rw [h]; rfl
theorem slashL_on {l : List Param} {i : Nat} (h : slashB l i = true) : slashL l i = [strOfNums [47]] := by unfold slashL; rw [if_pos h]
theorem slashL_off {l : List Param} {i : Nat} (h : slashB l i = false) : slashL l i = [] := by unfold slashL; rw [h]; rfl
theorem starB_kind {l : List Param} {i : Nat} (hi : i < l.length) (h : ¬ l[i].kind = 3) : starB l i = false := by
  unfold starB
  rw [List.getElem?_eq_getElem hi]
  simp [h]
theorem slashB_kind {l : List Param} {i : Nat} (hi : i < l.length) (h : ¬ l[i].kind = 0) : slashB l i = false := by
  unfold slashB
  rw [List.getElem?_eq_getElem hi]
  simp [h]
theorem starL_len {l : List Param} {i : Nat} : (starL l i).length ≤ 1 := by unfold starL; split <;> simp
theorem hasRest_neg {l : List Param} : decide (kindAt l 2 < 0) = !(hasRest l) := by
  unfold hasRest
  rw [Bool.eq_iff_iff]
  simp
/-! spec.signatureText -/
def L46_0 : List AStep := [⟨.box 38 (.t 0), (some 1), none, []⟩, ⟨.mov (.c (.str (strOfNums []))), (some 2), none, []⟩]
theorem v46_0 : VS L46_0.eq_1 := rfl
def L46_1 : List AStep := [⟨.buildSlice 9 0 [(.str (strOfNums []))] [], (some 6), none, []⟩, ⟨.mov (.t 6), (some 3), none, []⟩]
theorem v46_1 : VS L46_1.eq_1 := rfl
def L46_2 : List AStep := [⟨.mov (.c (.int .i64 0)), (some 4), none, []⟩]
theorem v46_2 : VS L46_2.eq_1 := rfl
def L46_3 : List AStep := [⟨.bin .lss (.t 7) (.t 10), (some 11), none, []⟩]
theorem v46_3 : VS L46_3.eq_1 := rfl
def L46_4 : List AStep := ⟨.load 1 false (.t 8), (some 9), none, []⟩ :: ⟨.len (.t 9), (some 10), none, []⟩ :: L46_3
theorem v46_4 : VS L46_4.eq_1 := rfl
def L46_5 : List AStep := ⟨.mov (.t 4), (some 7), none, []⟩ :: ⟨.faddr 0 (.t 1), (some 8), none, []⟩ :: L46_4
theorem v46_5 : VS L46_5.eq_1 := rfl
def L46_6 : List AStep := [⟨.store 4 (.t 5) (.t 18), none, none, []⟩]
theorem v46_6 : VS L46_6.eq_1 := rfl
def L46_7 : List AStep := ⟨.load 4 true (.t 17), (some 18), none, []⟩ :: ⟨.alloc 83 [(.str (strOfNums [])), (.int .i64 0), (.bool false), (.int .i64 0)], (some 5), none, []⟩ :: L46_6
theorem v46_7 : VS L46_7.eq_1 := rfl
def L46_8 : List AStep := ⟨.mov (.t 4), (some 16), none, []⟩ :: ⟨.iaddr 4 (.t 15) (.t 16), (some 17), none, []⟩ :: L46_7
theorem v46_8 : VS L46_8.eq_1 := rfl
def L46_9 : List AStep := ⟨.faddr 0 (.t 1), (some 14), none, []⟩ :: ⟨.load 1 false (.t 14), (some 15), none, []⟩ :: L46_8
theorem v46_9 : VS L46_9.eq_1 := rfl
def L46_10 : List AStep := [⟨.bin .eql (.t 31) (.t 32), (some 33), (some (28, true)), []⟩, ⟨.pick (.t 28) (.t 33) (.c (.bool false)), (some 34), none, []⟩]
theorem v46_10 : VS L46_10.eq_1 := rfl
def L46_11 : List AStep := ⟨.call 77 [(.t 30), (.c (.int .i64 3))], (some 31), (some (28, true)), []⟩ :: ⟨.mov (.t 4), (some 32), (some (28, true)), []⟩ :: L46_10
theorem v46_11 : VS L46_11.eq_1 := rfl
def L46_12 : List AStep := ⟨.faddr 0 (.t 1), (some 29), (some (28, true)), []⟩ :: ⟨.load 1 false (.t 29), (some 30), (some (28, true)), []⟩ :: L46_11
theorem v46_12 : VS L46_12.eq_1 := rfl
def L46_13 : List AStep := ⟨.pick (.t 22) (.t 26) (.c (.bool false)), (some 27), none, []⟩ :: ⟨.mov (.t 27), (some 28), none, []⟩ :: L46_12
theorem v46_13 : VS L46_13.eq_1 := rfl
def L46_14 : List AStep := ⟨.call 77 [(.t 24), (.c (.int .i64 2))], (some 25), (some (22, true)), []⟩ :: ⟨.bin .lss (.t 25) (.c (.int .i64 0)), (some 26), (some (22, true)), []⟩ :: L46_13
theorem v46_14 : VS L46_14.eq_1 := rfl
def L46_15 : List AStep := ⟨.faddr 0 (.t 1), (some 23), (some (22, true)), []⟩ :: ⟨.load 1 false (.t 23), (some 24), (some (22, true)), []⟩ :: L46_14
theorem v46_15 : VS L46_15.eq_1 := rfl
def L46_16 : List AStep := ⟨.bin .eql (.t 20) (.c (.int .i64 3)), (some 21), none, []⟩ :: ⟨.mov (.t 21), (some 22), none, []⟩ :: L46_15
theorem v46_16 : VS L46_16.eq_1 := rfl
def L46_17 : List AStep := ⟨.faddr 1 (.t 5), (some 19), none, []⟩ :: ⟨.load 1 false (.t 19), (some 20), none, []⟩ :: L46_16
theorem v46_17 : VS L46_17.eq_1 := rfl
def L46_18 : List AStep := [⟨.append 9 1 16 (.t 35) (.t 36), (some 37), none, []⟩, ⟨.mov (.t 37), (some 3), none, []⟩]
theorem v46_18 : VS L46_18.eq_1 := rfl
def L46_19 : List AStep := ⟨.mov (.t 3), (some 35), none, []⟩ :: ⟨.buildSlice 9 1 [(.str (strOfNums []))] [(0, 1, (.c (.str (strOfNums [42]))))], (some 36), none, []⟩ :: L46_18
theorem v46_19 : VS L46_19.eq_1 := rfl
def L46_20 : List AStep := [⟨.append 9 1 16 (.t 38) (.t 41), (some 42), none, []⟩, ⟨.mov (.t 42), (some 3), none, []⟩]
theorem v46_20 : VS L46_20.eq_1 := rfl
def L46_21 : List AStep := ⟨.call 78 [(.t 39)], (some 40), none, []⟩ :: ⟨.buildSlice 9 1 [(.str (strOfNums []))] [(0, 1, (.t 40))], (some 41), none, []⟩ :: L46_20
theorem v46_21 : VS L46_21.eq_1 := rfl
def L46_22 : List AStep := ⟨.mov (.t 3), (some 38), none, []⟩ :: ⟨.load 4 true (.t 5), (some 39), none, []⟩ :: L46_21
theorem v46_22 : VS L46_22.eq_1 := rfl
def L46_23 : List AStep := [⟨.pick (.t 46) (.t 62) (.c (.bool false)), (some 63), none, []⟩]
theorem v46_23 : VS L46_23.eq_1 := rfl
def L46_24 : List AStep := ⟨.bin .neq (.t 60) (.c (.int .i64 0)), (some 61), (some (53, false)), []⟩ :: ⟨.pick (.t 53) (.c (.bool true)) (.t 61), (some 62), (some (46, true)), []⟩ :: L46_23
theorem v46_24 : VS L46_24.eq_1 := rfl
def L46_25 : List AStep := ⟨.faddr 1 (.t 58), (some 59), (some (53, false)), []⟩ :: ⟨.load 1 false (.t 59), (some 60), (some (53, false)), []⟩ :: L46_24
theorem v46_25 : VS L46_25.eq_1 := rfl
def L46_26 : List AStep := ⟨.bin .add (.t 56) (.c (.int .i64 1)), (some 57), (some (53, false)), []⟩ :: ⟨.iaddr 4 (.t 55) (.t 57), (some 58), (some (53, false)), []⟩ :: L46_25
theorem v46_26 : VS L46_26.eq_1 := rfl
def L46_27 : List AStep := ⟨.load 1 false (.t 54), (some 55), (some (53, false)), []⟩ :: ⟨.mov (.t 4), (some 56), (some (53, false)), []⟩ :: L46_26
theorem v46_27 : VS L46_27.eq_1 := rfl
def L46_28 : List AStep := ⟨.mov (.t 52), (some 53), (some (46, true)), []⟩ :: ⟨.faddr 0 (.t 1), (some 54), (some (53, false)), []⟩ :: L46_27
theorem v46_28 : VS L46_28.eq_1 := rfl
def L46_29 : List AStep := ⟨.len (.t 50), (some 51), (some (46, true)), []⟩ :: ⟨.bin .eql (.t 48) (.t 51), (some 52), (some (46, true)), []⟩ :: L46_28
theorem v46_29 : VS L46_29.eq_1 := rfl
def L46_30 : List AStep := ⟨.faddr 0 (.t 1), (some 49), (some (46, true)), []⟩ :: ⟨.load 1 false (.t 49), (some 50), (some (46, true)), []⟩ :: L46_29
theorem v46_30 : VS L46_30.eq_1 := rfl
def L46_31 : List AStep := ⟨.mov (.t 4), (some 47), (some (46, true)), []⟩ :: ⟨.bin .add (.t 47) (.c (.int .i64 1)), (some 48), (some (46, true)), []⟩ :: L46_30
theorem v46_31 : VS L46_31.eq_1 := rfl
def L46_32 : List AStep := ⟨.bin .eql (.t 44) (.c (.int .i64 0)), (some 45), none, []⟩ :: ⟨.mov (.t 45), (some 46), none, []⟩ :: L46_31
theorem v46_32 : VS L46_32.eq_1 := rfl
def L46_33 : List AStep := ⟨.faddr 1 (.t 5), (some 43), none, []⟩ :: ⟨.load 1 false (.t 43), (some 44), none, []⟩ :: L46_32
theorem v46_33 : VS L46_33.eq_1 := rfl
def L46_34 : List AStep := [⟨.append 9 1 16 (.t 64) (.t 65), (some 66), none, []⟩, ⟨.mov (.t 66), (some 3), none, []⟩]
theorem v46_34 : VS L46_34.eq_1 := rfl
def L46_35 : List AStep := ⟨.mov (.t 3), (some 64), none, []⟩ :: ⟨.buildSlice 9 1 [(.str (strOfNums []))] [(0, 1, (.c (.str (strOfNums [47]))))], (some 65), none, []⟩ :: L46_34
theorem v46_35 : VS L46_35.eq_1 := rfl
def L46_36 : List AStep := [⟨.mov (.t 13), (some 4), none, []⟩]
theorem v46_36 : VS L46_36.eq_1 := rfl
def L46_37 : List AStep := ⟨.mov (.t 4), (some 12), none, []⟩ :: ⟨.bin .add (.t 12) (.c (.int .i64 1)), (some 13), none, []⟩ :: L46_36
theorem v46_37 : VS L46_37.eq_1 := rfl
def L46_38 : List AStep := [⟨.mov (.t 68), (some 2), none, []⟩]
theorem v46_38 : VS L46_38.eq_1 := rfl
def L46_39 : List AStep := ⟨.mov (.t 3), (some 67), none, []⟩ :: ⟨.call 79 [(.t 67), (.c (.str (strOfNums [44, 32])))], (some 68), none, []⟩ :: L46_38
theorem v46_39 : VS L46_39.eq_1 := rfl
def C46_0 : ACode := .cond (.t 11) .skip (.exit 0)
theorem u46_0 : VC C46_0.eq_1 := rfl
def C46_1 : ACode := .seq (.reg L46_5) C46_0
theorem u46_1 : VC C46_1.eq_1 := rfl
def C46_2 : ACode := .cond (.t 34) (.reg L46_19) .skip
theorem u46_2 : VC C46_2.eq_1 := rfl
def C46_3 : ACode := .seq (.reg L46_17) C46_2
theorem u46_3 : VC C46_3.eq_1 := rfl
def C46_4 : ACode := .cond (.t 63) (.reg L46_35) .skip
theorem u46_4 : VC C46_4.eq_1 := rfl
def C46_5 : ACode := .seq (.reg L46_33) C46_4
theorem u46_5 : VC C46_5.eq_1 := rfl
def C46_6 : ACode := .seq (.reg L46_22) C46_5
theorem u46_6 : VC C46_6.eq_1 := rfl
def C46_7 : ACode := .seq C46_3 C46_6
theorem u46_7 : VC C46_7.eq_1 := rfl
def C46_8 : ACode := .seq (.reg L46_9) C46_7
theorem u46_8 : VC C46_8.eq_1 := rfl
def C46_9 : ACode := .block 1 C46_8
theorem u46_9 : VC C46_9.eq_1 := rfl
def C46_10 : ACode := .seq C46_9 (.reg L46_37)
theorem u46_10 : VC C46_10.eq_1 := rfl
def C46_11 : ACode := .seq C46_1 C46_10
theorem u46_11 : VC C46_11.eq_1 := rfl
def C46_12 : ACode := .block 0 (.loop C46_11)
theorem u46_12 : VC C46_12.eq_1 := rfl
def C46_13 : ACode := .seq (.reg L46_2) C46_12
theorem u46_13 : VC C46_13.eq_1 := rfl
def C46_14 : ACode := .seq (.reg L46_39) .ret
theorem u46_14 : VC C46_14.eq_1 := rfl
def C46_15 : ACode := .seq C46_13 C46_14
theorem u46_15 : VC C46_15.eq_1 := rfl
def C46_16 : ACode := .seq (.reg L46_1) C46_15
theorem u46_16 : VC C46_16.eq_1 := rfl
def C46_17 : ACode := .seq (.reg L46_0) C46_16
theorem u46_17 : VC C46_17.eq_1 := rfl
def F46 : AFunc := ⟨69, [.tmp 2], C46_17⟩
theorem cF46 : compB Tryd.prog 46 = some F46 := by kernel_rfl
attribute [local go_sem ↓] u46_0 u46_1 u46_2 u46_3 u46_4 u46_5 u46_7 u46_8 u46_9 u46_10 u46_11 u46_12 u46_13 u46_14 u46_15 u46_16 u46_17 v46_0 v46_1 v46_2 v46_3 v46_4 v46_5 v46_6 v46_7 v46_8 v46_9 v46_10 v46_11 v46_12 v46_13 v46_14 v46_15 v46_16 v46_17 v46_18 v46_19 v46_20 v46_21 v46_22 v46_23 v46_24 v46_25 v46_26 v46_27 v46_28 v46_29 v46_30 v46_31 v46_32 v46_33 v46_34 v46_35 v46_36 v46_37 v46_38 v46_39
theorem c_signatureText (l : List Param) (q : CV) (h : H) (hl : SlG h q l) (hn : miniG l) (ok : okSig l = true) : callK (bm Tryd.prog 46 [.agg [q]] h) fun r h' => Grow h h' ∧ r = .one (.str (sigT l)) := by
  refine bm_of cF46 ?_
  have o := Ord.of ok
  have hlen := okSig_len ok
  have hnm := okSig_name ok
  have hdf : ∀ i (hi : i < l.length), okNum l[i].dflt = true := fun i hi => by
    have := (okSig_param ok hi).1
    unfold okParam at this
    simp only [Bool.and_eq_true] at this
    exact this.2.2.1
  simp +contextual (maxSteps := 2000000) only [go_sem, Nat.reduceEqDiff, reduceCtorEq, Nat.reduceAdd, Nat.reduceLeDiff, F46]
  refine wp_lit (enc := encS) (k := 1) (l := []) rfl rfl ?_
  intro h1 w1 g1 n1 _
  simp +contextual (maxSteps := 2000000) only [go_sem, Nat.reduceEqDiff, reduceCtorEq, Nat.reduceAdd, Nat.reduceLeDiff]
  refine wpC_loop (fun i T L h' => Grow h h' ∧ T 1 = .lp 1 0 ∧ (L 1).2 = [q] ∧ (∃ s, T 3 = .v s ∧ NwS h h' s (partsT l i)) ∧ T 4 = .v (.one (.int .i64 i))) l.length ?_ ?_ (Nat.zero_le _) ?_
  · rintro i T L h' hi ⟨gh, t1, l1, ⟨s, t3, z⟩, t4⟩
    have k := hl.out.grow gh
    have pl := partsT_len (l := l) (i := i)
    apply joinT (P := Tryd.prog) (c := C46_6) (M := fun T L h2 => Grow h h2 ∧ T 1 = .lp 1 0 ∧ (L 1).2 = [q] ∧ (∃ s, T 3 = .v s ∧ NwS h h2 s (partsT l i ++ starL l i)) ∧ T 4 = .v (.one (.int .i64 i)) ∧ T 5 = .lp 5 0 ∧ (L 5).2 = encQ l[i])
    · intro J
      by_cases e3 : l[i].kind = 3
      · have es := star_first o hi e3
        cases hr : hasRest l with
        | true =>
          rw [hr] at es
          simp +contextual (maxSteps := 2000000) only [go_sem, Nat.reduceEqDiff, reduceCtorEq, Nat.reduceAdd, Nat.reduceLeDiff, t1, l1, t3, t4, k.len, k.iaddr hi, k.whole hi, encQ, lt_true hi, c_kindAt l (.one q) 2 h' k hn.sm, decide_eq_true e3, hasRest_neg, hr]
          refine J _ _ _ ?_
          simp +contextual (maxSteps := 2000000) only [go_sem, Nat.reduceEqDiff, reduceCtorEq, Nat.reduceAdd, Nat.reduceLeDiff, encQ, t1, l1, t3, t4]
          exact ⟨gh, ⟨s, rfl, by rw [starL_off es, List.append_nil]; exact z⟩⟩
        | false =>
          rw [hr, Bool.not_false, Bool.true_and] at es
          cases ek : decide (kindAt l 3 = (i : Int)) with
          | false =>
            rw [ek] at es
            simp +contextual (maxSteps := 2000000) only [go_sem, Nat.reduceEqDiff, reduceCtorEq, Nat.reduceAdd, Nat.reduceLeDiff, t1, l1, t3, t4, k.len, k.iaddr hi, k.whole hi, encQ, lt_true hi, c_kindAt l (.one q) 2 h' k hn.sm, c_kindAt l (.one q) 3 h' k hn.sm, decide_eq_true e3, hasRest_neg, hr, ek]
            refine J _ _ _ ?_
            simp +contextual (maxSteps := 2000000) only [go_sem, Nat.reduceEqDiff, reduceCtorEq, Nat.reduceAdd, Nat.reduceLeDiff, encQ, t1, l1, t3, t4]
            exact ⟨gh, ⟨s, rfl, by rw [starL_off es, List.append_nil]; exact z⟩⟩
          | true =>
            rw [ek] at es
            simp +contextual (maxSteps := 2000000) only [go_sem, Nat.reduceEqDiff, reduceCtorEq, Nat.reduceAdd, Nat.reduceLeDiff, t1, l1, t3, t4, k.len, k.iaddr hi, k.whole hi, encQ, lt_true hi, c_kindAt l (.one q) 2 h' k hn.sm, c_kindAt l (.one q) 3 h' k hn.sm, decide_eq_true e3, hasRest_neg, hr, ek]
            refine wp_lit (enc := encS) (k := 1) (l := [strOfNums [42]]) rfl rfl ?_
            intro h2 w2 g2 n2 _
            simp +contextual (maxSteps := 2000000) only [go_sem, Nat.reduceEqDiff, reduceCtorEq, Nat.reduceAdd, Nat.reduceLeDiff, t1, l1, t3, t4]
            refine wp_append lenS (z.grow g2) (n2.sl lenS) (gh.trans g2) (by simp; omega) ?_
            intro h3 s3 g3 n3 _ _
            simp +contextual (maxSteps := 2000000) only [go_sem, Nat.reduceEqDiff, reduceCtorEq, Nat.reduceAdd, Nat.reduceLeDiff, t1, l1, t3, t4]
            refine J _ _ _ ?_
            simp +contextual (maxSteps := 2000000) only [go_sem, Nat.reduceEqDiff, reduceCtorEq, Nat.reduceAdd, Nat.reduceLeDiff, encQ, t1, l1, t3, t4]
            exact ⟨g3, ⟨s3, rfl, by rw [starL_on es]; exact n3⟩⟩
      · have es := starB_kind hi e3
        simp +contextual (maxSteps := 2000000) only [go_sem, Nat.reduceEqDiff, reduceCtorEq, Nat.reduceAdd, Nat.reduceLeDiff, t1, l1, t3, t4, k.len, k.iaddr hi, k.whole hi, encQ, lt_true hi, decide_eq_false e3]
        refine J _ _ _ ?_
        simp +contextual (maxSteps := 2000000) only [go_sem, Nat.reduceEqDiff, reduceCtorEq, Nat.reduceAdd, Nat.reduceLeDiff, encQ, t1, l1, t3, t4]
        exact ⟨gh, ⟨s, rfl, by rw [starL_off es, List.append_nil]; exact z⟩⟩
    · rintro T L h2 ⟨g2, t1, l1, ⟨s, t3, z⟩, t4, t5, l5⟩
      have e1 := fun h => c_paramText l[i] h (by have := hnm _ (List.getElem_mem hi); omega) (hdf i hi)
      simp only [encQ] at e1 l5
      have sl := starL_len (l := l) (i := i)
      simp +contextual (maxSteps := 2000000) only [go_sem, Nat.reduceEqDiff, reduceCtorEq, Nat.reduceAdd, Nat.reduceLeDiff, ↓u46_6, t1, l1, t3, t4, t5, l5, e1]
      refine wp_lit (enc := encS) (k := 1) (l := [parT l[i]]) rfl rfl ?_
      intro h3 w3 g3 n3 _
      simp +contextual (maxSteps := 2000000) only [go_sem, Nat.reduceEqDiff, reduceCtorEq, Nat.reduceAdd, Nat.reduceLeDiff, t1, l1, t3, t4, t5, l5]
      refine wp_append lenS (z.grow g3) (n3.sl lenS) (g2.trans g3) (by simp; omega) ?_
      intro h4 s4 g4 n4 _ _
      have k4 := hl.out.grow g4
      have en : partsT l (i + 1) = partsT l i ++ starL l i ++ [parT l[i]] ++ slashL l i := partsT_next hi
      have ew : IntKind.i64.wrap ((i : Int) + 1) = ((i + 1 : Nat) : Int) := wrap_next hi (by omega)
      by_cases e0 : l[i].kind = 0
      · by_cases hl1 : i + 1 < l.length
        · have es := slashB_mid hl1
          have ne : decide (((i + 1 : Nat) : Int) = (l.length : Int)) = false := decide_eq_false (by omega)
          rw [decide_eq_true e0, Bool.true_and] at es
          cases e5 : decide (l[i + 1].kind = 0) with
          | true =>
            rw [e5] at es
            simp +contextual (maxSteps := 2000000) only [go_sem, Nat.reduceEqDiff, reduceCtorEq, Nat.reduceAdd, Nat.reduceLeDiff, t1, l1, t3, t4, t5, l5, k4.len, k4.iaddr hl1, k4.fieldO hl1, encQ, decide_eq_true e0, ew, ne, e5]
            exact ⟨g4, s4, rfl, by rw [en, slashL_off es, List.append_nil]; exact n4⟩
          | false =>
            rw [e5] at es
            simp +contextual (maxSteps := 2000000) only [go_sem, Nat.reduceEqDiff, reduceCtorEq, Nat.reduceAdd, Nat.reduceLeDiff, t1, l1, t3, t4, t5, l5, k4.len, k4.iaddr hl1, k4.fieldO hl1, encQ, decide_eq_true e0, ew, ne, e5]
            refine wp_lit (enc := encS) (k := 1) (l := [strOfNums [47]]) rfl rfl ?_
            intro h5 w5 g5 n5 _
            simp +contextual (maxSteps := 2000000) only [go_sem, Nat.reduceEqDiff, reduceCtorEq, Nat.reduceAdd, Nat.reduceLeDiff, t1, l1, t3, t4]
            refine wp_append lenS (n4.grow g5) (n5.sl lenS) (g4.trans g5) (by simp; omega) ?_
            intro h6 s6 g6 n6 _ _
            simp +contextual (maxSteps := 2000000) only [go_sem, Nat.reduceEqDiff, reduceCtorEq, Nat.reduceAdd, Nat.reduceLeDiff, t1, l1, t3, t4, ew]
            exact ⟨g6, s6, rfl, by rw [en, slashL_on es]; exact n6⟩
        · have es := slashB_last hi hl1
          have ne : decide (((i + 1 : Nat) : Int) = (l.length : Int)) = true := decide_eq_true (by omega)
          rw [decide_eq_true e0] at es
          simp +contextual (maxSteps := 2000000) only [go_sem, Nat.reduceEqDiff, reduceCtorEq, Nat.reduceAdd, Nat.reduceLeDiff, t1, l1, t3, t4, t5, l5, k4.len, encQ, decide_eq_true e0, ew, ne]
          refine wp_lit (enc := encS) (k := 1) (l := [strOfNums [47]]) rfl rfl ?_
          intro h5 w5 g5 n5 _
          simp +contextual (maxSteps := 2000000) only [go_sem, Nat.reduceEqDiff, reduceCtorEq, Nat.reduceAdd, Nat.reduceLeDiff, t1, l1, t3, t4]
          refine wp_append lenS (n4.grow g5) (n5.sl lenS) (g4.trans g5) (by simp; omega) ?_
          intro h6 s6 g6 n6 _ _
          simp +contextual (maxSteps := 2000000) only [go_sem, Nat.reduceEqDiff, reduceCtorEq, Nat.reduceAdd, Nat.reduceLeDiff, t1, l1, t3, t4, ew]
          exact ⟨g6, s6, rfl, by rw [en, slashL_on es]; exact n6⟩
      · have es := slashB_kind hi e0
        simp +contextual (maxSteps := 2000000) only [go_sem, Nat.reduceEqDiff, reduceCtorEq, Nat.reduceAdd, Nat.reduceLeDiff, t1, l1, t3, t4, t5, l5, encQ, decide_eq_false e0, ew]
        exact ⟨g4, s4, rfl, by rw [en, slashL_off es, List.append_nil]; exact n4⟩
  · rintro T L h' ⟨gh, t1, l1, ⟨s, t3, z⟩, t4⟩
    have k := hl.out.grow gh
    have pl := partsT_len (l := l) (i := l.length)
    have ej := c_joinWith s (strOfNums [44, 32]) (partsT l l.length) h' (z.sl lenS) (by rw [strOfNums_size]; decide) (by omega) (fun x hx => by have := partsT_mem hnm x hx; omega)
    simp +contextual (maxSteps := 2000000) only [go_sem, Nat.reduceEqDiff, reduceCtorEq, Nat.reduceAdd, Nat.reduceLeDiff, t1, l1, t3, t4, k.len, lt_false, ej]
    exact gcK_of ⟨gh, rfl⟩ (fun _ _ => ⟨Grow.refl h, rfl⟩)
  · simp +contextual (maxSteps := 2000000) only [go_sem, Nat.reduceEqDiff, reduceCtorEq, Nat.reduceAdd, Nat.reduceLeDiff]
    first | exact ⟨g1, ⟨_, rfl, n1⟩, rfl⟩ | exact ⟨g1, rfl, _, rfl, n1⟩ | exact ⟨g1, rfl, ⟨_, rfl, n1⟩, rfl⟩ | exact ⟨g1, rfl, rfl, ⟨_, rfl, n1⟩, rfl⟩
end Go.Proofs.YtoeceafibmafpaaDoor.Am
