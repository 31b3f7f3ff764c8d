/- Contracts: the text of a signature, the program's. -/
import Derived.Test.YtoeceafibmafpaaDoorTS
namespace Go.Proofs.YtoeceafibmafpaaDoor.Am
open Go
set_option maxRecDepth 100000
set_option maxHeartbeats 4000000
set_option linter.unusedSimpArgs false
set_option linter.unusedVariables false
attribute [local go_sem ↓] bv_t bv_c ev_t ev_c put_same put_ne put_none kill_at pro_at lb_same lb_ne start_zero start_succ wpC_seq wpC_reg wpC_cond wpC_block wpC_skip wpC_exit wpC_ret thenQ_normal thenQ_exit thenQ_ret inBlk_normal inBlk_exit inBlk_ret wpS_nil wpS_step wpS_again wpS_guard wpO_mov wpO_load wpO_faddr wpO_nilCheck wpO_pick wpO_build wpO_bin wpO_eqb wpO_eqst wpO_eqnil wpO_not wpO_conv wpO_bytesStr wpO_iaddr wpO_idxStr wpO_field wpO_extract wpO_len wpO_lenStr wpO_cap wpO_min wpO_slice wpO_sliceStr wpO_alloc wpO_box wpO_store wpO_call wpO_callv wpO_mkfn wpO_buildSlice wpO_mkslice wpO_append wpO_appz proA_nil proA_cons tmpX_nil tmpX_tmp tmpX_cell doneB_normal doneB_ret agK_cons agK_nil agK_guard agG_tt agG_ff agG_tf agG_ft agG_undef pureB_load results_one results_two results_nil resBs_cons resBs_nil resB_tmp resB_cell
attribute [local go_sem] kill_v kill_lp_ne kill_lp_same pro_v pro_lp_same pro_lp_ne av_v av_lp optB_some optX_some valX_eq ldX_lp ldX_v faX_lp faX_v ncX_lp ncX_ptr ncX_fn boxK_one boxK_agg stL_some stK_lp_one stK_lp_agg stK_v_one stK_v_agg proM_v proM_lp callG_mk callVG_mk callvK_fn fnG_mk ptrsA_nil ptrsA_cons callH_some whenA_true whenA_false guardH_tt guardH_ff guardH_tf guardH_ft guardH_undef agV_one agV_agg lenO_sl lenStrO_str notO_bool pickO_bool convO_int eqbO_bool eqnilO_sl extractO_tup capO_sl minO_int loadL_one loadL_all storeL_eq fillA_nil fillA_one fillA_agg nat_ge neg_ge nat_lt neg_lt buildO bin_add bin_sub bin_mul bin_eql bin_neq bin_lss bin_leq bin_gtr bin_geq str_eql str_neq str_lss str_leq str_gtr str_geq retK_some endK_mk gcK_same gcK_int gcK_bool tupO_one tupO_agg rdy_self ib ii Option.map_none Option.map_some Option.some.injEq exists_eq_left' exists_eq_left ne_eq not_false_eq_true if_true if_false List.map_cons List.map_nil List.getElem?_cons_zero List.getElem?_cons_succ List.length_cons List.length_nil List.take_succ_cons List.take_zero List.take_nil List.drop_succ_cons List.drop_zero List.drop_nil List.cons_append List.nil_append List.append_nil List.set_cons_zero List.set_cons_succ Nat.zero_add forall_const true_and and_true and_self Bool.false_eq_true false_implies true_implies implies_true Bool.not_true Bool.not_false Bool.not_eq_true' Bool.not_eq_false' beq_self_eq_true Bool.bne_true Bool.bne_false
attribute [local go_sem] lenI lenS lenP lenQ lenB lenL lenT encI_0 encS_0 encP_0 encP_1 encQ_0 encQ_1 encQ_2 encQ_3 encB_0 encB_1 encL_0 encL_1 encT_0 encT_1
attribute [local go_sem low] whenA_bool guardH_bool
/-! impl.SignatureText -/
def L17_0 : List AStep := [⟨.box 38 (.t 0), (some 1), none, []⟩, ⟨.mov (.c (.str (strOfNums []))), (some 2), none, []⟩]
theorem v17_0 : VS L17_0.eq_1 := rfl
def L17_1 : List AStep := [⟨.not (.t 7), (some 8), none, []⟩]
theorem v17_1 : VS L17_1.eq_1 := rfl
def L17_2 : List AStep := ⟨.load 1 true (.t 1), (some 6), none, []⟩ :: ⟨.call 48 [(.t 6)], (some 7), none, []⟩ :: L17_1
theorem v17_2 : VS L17_2.eq_1 := rfl
def L17_3 : List AStep := [⟨.mov (.c (.str (strOfNums []))), (some 2), none, []⟩]
theorem v17_3 : VS L17_3.eq_1 := rfl
def L17_4 : List AStep := [⟨.mov (.c (.sl none 0 (some 0))), (some 3), none, []⟩]
theorem v17_4 : VS L17_4.eq_1 := rfl
def L17_5 : List AStep := [⟨.len (.t 10), (some 11), none, []⟩, ⟨.mov (.c (.int .i64 0)), (some 12), none, []⟩]
theorem v17_5 : VS L17_5.eq_1 := rfl
def L17_6 : List AStep := ⟨.faddr 0 (.t 1), (some 9), none, []⟩ :: ⟨.load 1 false (.t 9), (some 10), none, []⟩ :: L17_5
theorem v17_6 : VS L17_6.eq_1 := rfl
def L17_7 : List AStep := [⟨.bin .lss (.t 12) (.t 11), (some 13), none, []⟩]
theorem v17_7 : VS L17_7.eq_1 := rfl
def L17_8 : List AStep := [⟨.mov (.t 14), (some 4), none, []⟩, ⟨.store 4 (.t 5) (.t 16), none, none, []⟩]
theorem v17_8 : VS L17_8.eq_1 := rfl
def L17_9 : List AStep := ⟨.load 4 true (.t 15), (some 16), none, []⟩ :: ⟨.alloc 83 [(.str (strOfNums [])), (.int .i64 0), (.bool false), (.int .i64 0)], (some 5), none, []⟩ :: L17_8
theorem v17_9 : VS L17_9.eq_1 := rfl
def L17_10 : List AStep := ⟨.mov (.t 12), (some 14), none, []⟩ :: ⟨.iaddr 4 (.t 10) (.t 12), (some 15), none, []⟩ :: L17_9
theorem v17_10 : VS L17_10.eq_1 := rfl
def L17_11 : List AStep := [⟨.pick (.t 28) (.c (.bool true)) (.t 36), (some 37), (some (25, true)), []⟩, ⟨.pick (.t 25) (.t 37) (.c (.bool false)), (some 38), none, []⟩]
theorem v17_11 : VS L17_11.eq_1 := rfl
def L17_12 : List AStep := ⟨.load 1 false (.t 34), (some 35), (some (28, false)), []⟩ :: ⟨.bin .neq (.t 35) (.c (.int .i64 3)), (some 36), (some (28, false)), []⟩ :: L17_11
theorem v17_12 : VS L17_12.eq_1 := rfl
def L17_13 : List AStep := ⟨.iaddr 4 (.t 30) (.t 32), (some 33), (some (28, false)), []⟩ :: ⟨.faddr 1 (.t 33), (some 34), (some (28, false)), []⟩ :: L17_12
theorem v17_13 : VS L17_13.eq_1 := rfl
def L17_14 : List AStep := ⟨.mov (.t 4), (some 31), (some (28, false)), []⟩ :: ⟨.bin .sub (.t 31) (.c (.int .i64 1)), (some 32), (some (28, false)), []⟩ :: L17_13
theorem v17_14 : VS L17_14.eq_1 := rfl
def L17_15 : List AStep := ⟨.faddr 0 (.t 1), (some 29), (some (28, false)), []⟩ :: ⟨.load 1 false (.t 29), (some 30), (some (28, false)), []⟩ :: L17_14
theorem v17_15 : VS L17_15.eq_1 := rfl
def L17_16 : List AStep := ⟨.bin .eql (.t 26) (.c (.int .i64 0)), (some 27), (some (25, true)), []⟩ :: ⟨.mov (.t 27), (some 28), (some (25, true)), []⟩ :: L17_15
theorem v17_16 : VS L17_16.eq_1 := rfl
def L17_17 : List AStep := ⟨.mov (.t 24), (some 25), none, []⟩ :: ⟨.mov (.t 4), (some 26), (some (25, true)), []⟩ :: L17_16
theorem v17_17 : VS L17_17.eq_1 := rfl
def L17_18 : List AStep := ⟨.not (.t 22), (some 23), (some (20, true)), []⟩ :: ⟨.pick (.t 20) (.t 23) (.c (.bool false)), (some 24), none, []⟩ :: L17_17
theorem v17_18 : VS L17_18.eq_1 := rfl
def L17_19 : List AStep := ⟨.load 1 true (.t 1), (some 21), (some (20, true)), []⟩ :: ⟨.call 49 [(.t 21), (.c (.int .i64 2))], (some 22), (some (20, true)), []⟩ :: L17_18
theorem v17_19 : VS L17_19.eq_1 := rfl
def L17_20 : List AStep := ⟨.bin .eql (.t 18) (.c (.int .i64 3)), (some 19), none, []⟩ :: ⟨.mov (.t 19), (some 20), none, []⟩ :: L17_19
theorem v17_20 : VS L17_20.eq_1 := rfl
def L17_21 : List AStep := ⟨.faddr 1 (.t 5), (some 17), none, []⟩ :: ⟨.load 1 false (.t 17), (some 18), none, []⟩ :: L17_20
theorem v17_21 : VS L17_21.eq_1 := rfl
def L17_22 : List AStep := [⟨.append 9 1 16 (.t 39) (.t 40), (some 41), none, []⟩, ⟨.mov (.t 41), (some 3), none, []⟩]
theorem v17_22 : VS L17_22.eq_1 := rfl
def L17_23 : List AStep := ⟨.mov (.t 3), (some 39), none, []⟩ :: ⟨.buildSlice 9 1 [(.str (strOfNums []))] [(0, 1, (.c (.str (strOfNums [42]))))], (some 40), none, []⟩ :: L17_22
theorem v17_23 : VS L17_23.eq_1 := rfl
def L17_24 : List AStep := [⟨.append 9 1 16 (.t 42) (.t 45), (some 46), none, []⟩, ⟨.mov (.t 46), (some 3), none, []⟩]
theorem v17_24 : VS L17_24.eq_1 := rfl
def L17_25 : List AStep := ⟨.call 50 [(.t 43)], (some 44), none, []⟩ :: ⟨.buildSlice 9 1 [(.str (strOfNums []))] [(0, 1, (.t 44))], (some 45), none, []⟩ :: L17_24
theorem v17_25 : VS L17_25.eq_1 := rfl
def L17_26 : List AStep := ⟨.mov (.t 3), (some 42), none, []⟩ :: ⟨.load 4 true (.t 5), (some 43), none, []⟩ :: L17_25
theorem v17_26 : VS L17_26.eq_1 := rfl
def L17_27 : List AStep := [⟨.pick (.t 50) (.t 66) (.c (.bool false)), (some 67), none, []⟩]
theorem v17_27 : VS L17_27.eq_1 := rfl
def L17_28 : List AStep := ⟨.bin .neq (.t 64) (.c (.int .i64 0)), (some 65), (some (57, false)), []⟩ :: ⟨.pick (.t 57) (.c (.bool true)) (.t 65), (some 66), (some (50, true)), []⟩ :: L17_27
theorem v17_28 : VS L17_28.eq_1 := rfl
def L17_29 : List AStep := ⟨.faddr 1 (.t 62), (some 63), (some (57, false)), []⟩ :: ⟨.load 1 false (.t 63), (some 64), (some (57, false)), []⟩ :: L17_28
theorem v17_29 : VS L17_29.eq_1 := rfl
def L17_30 : List AStep := ⟨.bin .add (.t 60) (.c (.int .i64 1)), (some 61), (some (57, false)), []⟩ :: ⟨.iaddr 4 (.t 59) (.t 61), (some 62), (some (57, false)), []⟩ :: L17_29
theorem v17_30 : VS L17_30.eq_1 := rfl
def L17_31 : List AStep := ⟨.load 1 false (.t 58), (some 59), (some (57, false)), []⟩ :: ⟨.mov (.t 4), (some 60), (some (57, false)), []⟩ :: L17_30
theorem v17_31 : VS L17_31.eq_1 := rfl
def L17_32 : List AStep := ⟨.mov (.t 56), (some 57), (some (50, true)), []⟩ :: ⟨.faddr 0 (.t 1), (some 58), (some (57, false)), []⟩ :: L17_31
theorem v17_32 : VS L17_32.eq_1 := rfl
def L17_33 : List AStep := ⟨.bin .sub (.t 54) (.c (.int .i64 1)), (some 55), (some (50, true)), []⟩ :: ⟨.bin .eql (.t 51) (.t 55), (some 56), (some (50, true)), []⟩ :: L17_32
theorem v17_33 : VS L17_33.eq_1 := rfl
def L17_34 : List AStep := ⟨.load 1 false (.t 52), (some 53), (some (50, true)), []⟩ :: ⟨.len (.t 53), (some 54), (some (50, true)), []⟩ :: L17_33
theorem v17_34 : VS L17_34.eq_1 := rfl
def L17_35 : List AStep := ⟨.mov (.t 4), (some 51), (some (50, true)), []⟩ :: ⟨.faddr 0 (.t 1), (some 52), (some (50, true)), []⟩ :: L17_34
theorem v17_35 : VS L17_35.eq_1 := rfl
def L17_36 : List AStep := ⟨.bin .eql (.t 48) (.c (.int .i64 0)), (some 49), none, []⟩ :: ⟨.mov (.t 49), (some 50), none, []⟩ :: L17_35
theorem v17_36 : VS L17_36.eq_1 := rfl
def L17_37 : List AStep := ⟨.faddr 1 (.t 5), (some 47), none, []⟩ :: ⟨.load 1 false (.t 47), (some 48), none, []⟩ :: L17_36
theorem v17_37 : VS L17_37.eq_1 := rfl
def L17_38 : List AStep := [⟨.append 9 1 16 (.t 68) (.t 69), (some 70), none, []⟩, ⟨.mov (.t 70), (some 3), none, []⟩]
theorem v17_38 : VS L17_38.eq_1 := rfl
def L17_39 : List AStep := ⟨.mov (.t 3), (some 68), none, []⟩ :: ⟨.buildSlice 9 1 [(.str (strOfNums []))] [(0, 1, (.c (.str (strOfNums [47]))))], (some 69), none, []⟩ :: L17_38
theorem v17_39 : VS L17_39.eq_1 := rfl
def L17_40 : List AStep := [⟨.bin .add (.t 12) (.c (.int .i64 1)), (some 71), none, []⟩, ⟨.mov (.t 71), (some 12), none, []⟩]
theorem v17_40 : VS L17_40.eq_1 := rfl
def L17_41 : List AStep := [⟨.mov (.t 73), (some 2), none, []⟩]
theorem v17_41 : VS L17_41.eq_1 := rfl
def L17_42 : List AStep := ⟨.mov (.t 3), (some 72), none, []⟩ :: ⟨.call 40 [(.t 72), (.c (.str (strOfNums [44, 32])))], (some 73), none, []⟩ :: L17_41
theorem v17_42 : VS L17_42.eq_1 := rfl
def C17_0 : ACode := .seq (.reg L17_3) .ret
theorem u17_0 : VC C17_0.eq_1 := rfl
def C17_1 : ACode := .cond (.t 8) C17_0 .skip
theorem u17_1 : VC C17_1.eq_1 := rfl
def C17_2 : ACode := .seq (.reg L17_2) C17_1
theorem u17_2 : VC C17_2.eq_1 := rfl
def C17_3 : ACode := .cond (.t 13) .skip (.exit 0)
theorem u17_3 : VC C17_3.eq_1 := rfl
def C17_4 : ACode := .cond (.t 38) (.reg L17_23) .skip
theorem u17_4 : VC C17_4.eq_1 := rfl
def C17_5 : ACode := .seq (.reg L17_21) C17_4
theorem u17_5 : VC C17_5.eq_1 := rfl
def C17_6 : ACode := .cond (.t 67) (.reg L17_39) .skip
theorem u17_6 : VC C17_6.eq_1 := rfl
def C17_7 : ACode := .seq (.reg L17_37) C17_6
theorem u17_7 : VC C17_7.eq_1 := rfl
def C17_8 : ACode := .seq (.reg L17_26) C17_7
theorem u17_8 : VC C17_8.eq_1 := rfl
def C17_9 : ACode := .seq C17_5 C17_8
theorem u17_9 : VC C17_9.eq_1 := rfl
def C17_10 : ACode := .seq (.reg L17_10) C17_9
theorem u17_10 : VC C17_10.eq_1 := rfl
def C17_11 : ACode := .block 1 C17_10
theorem u17_11 : VC C17_11.eq_1 := rfl
def C17_12 : ACode := .seq C17_11 (.reg L17_40)
theorem u17_12 : VC C17_12.eq_1 := rfl
def C17_13 : ACode := .seq C17_3 C17_12
theorem u17_13 : VC C17_13.eq_1 := rfl
def C17_14 : ACode := .seq (.reg L17_7) C17_13
theorem u17_14 : VC C17_14.eq_1 := rfl
def C17_15 : ACode := .block 0 (.loop C17_14)
theorem u17_15 : VC C17_15.eq_1 := rfl
def C17_16 : ACode := .seq (.reg L17_6) C17_15
theorem u17_16 : VC C17_16.eq_1 := rfl
def C17_17 : ACode := .seq (.reg L17_42) .ret
theorem u17_17 : VC C17_17.eq_1 := rfl
def C17_18 : ACode := .seq C17_16 C17_17
theorem u17_18 : VC C17_18.eq_1 := rfl
def C17_19 : ACode := .seq (.reg L17_4) C17_18
theorem u17_19 : VC C17_19.eq_1 := rfl
def C17_20 : ACode := .seq C17_2 C17_19
theorem u17_20 : VC C17_20.eq_1 := rfl
def C17_21 : ACode := .seq (.reg L17_0) C17_20
theorem u17_21 : VC C17_21.eq_1 := rfl
def F17 : AFunc := ⟨74, [.tmp 2], C17_21⟩
theorem cF17 : compB Tryd.prog 17 = some F17 := by kernel_rfl
attribute [local go_sem ↓] u17_0 u17_1 u17_2 u17_3 u17_4 u17_5 u17_6 u17_7 u17_9 u17_10 u17_11 u17_12 u17_13 u17_14 u17_15 u17_16 u17_17 u17_18 u17_19 u17_20 u17_21 v17_0 v17_1 v17_2 v17_3 v17_4 v17_5 v17_6 v17_7 v17_8 v17_9 v17_10 v17_11 v17_12 v17_13 v17_14 v17_15 v17_16 v17_17 v17_18 v17_19 v17_20 v17_21 v17_22 v17_23 v17_24 v17_25 v17_26 v17_27 v17_28 v17_29 v17_30 v17_31 v17_32 v17_33 v17_34 v17_35 v17_36 v17_37 v17_38 v17_39 v17_40 v17_41 v17_42
theorem k_iSignatureText (l : List Param) (q : CV) (h : H) (hl : SlG h q l) (hn : miniG l) : callK (bm Tryd.prog 17 [.agg [q]] h) fun r h' => Grow h h' ∧ r = .one (.str (sigTx l)) := by
  refine bm_of cF17 ?_
  have ev := c_ValidSignature l q h hl.out hn.sm
  unfold sigTx
  cases ok : okSig l with
  | false =>
    rw [ok] at ev
    simp +contextual (maxSteps := 2000000) only [go_sem, Nat.reduceEqDiff, reduceCtorEq, Nat.reduceAdd, Nat.reduceLeDiff, F17, ev]
    try exact Grow.refl h
  | true =>
  rw [ok] at ev
  have hlen := okSig_len ok
  have hnm := okSig_name ok
  have hdf : ∀ i (hi : i < l.length), okNum l[i].dflt = true := fun i hi => by
    have := (okSig_param ok hi).1
    unfold okParam at this
    simp only [Bool.and_eq_true] at this
    exact this.2.2.1
  simp +contextual (maxSteps := 2000000) only [go_sem, Nat.reduceEqDiff, reduceCtorEq, Nat.reduceAdd, Nat.reduceLeDiff, F17, ev, hl.out.len]
  refine wpC_loop (fun i T L h' => Grow h h' ∧ T 1 = .lp 1 0 ∧ (L 1).2 = [q] ∧ (∃ s, T 3 = .v s ∧ NwS h h' s (partsT l i)) ∧ T 10 = .v (.one q) ∧ T 11 = .v (.one (.int .i64 l.length)) ∧ T 12 = .v (.one (.int .i64 i))) l.length ?_ ?_ (Nat.zero_le _) ?_
  · rintro i T L h' hi ⟨gh, t1, l1, ⟨s, t3, z⟩, t10, t11, t12⟩
    have k := hl.out.grow gh
    have pl := partsT_len (l := l) (i := i)
    apply joinT (P := Tryd.prog) (c := C17_8) (M := fun T L h2 => Grow h h2 ∧ T 1 = .lp 1 0 ∧ (L 1).2 = [q] ∧ (∃ s, T 3 = .v s ∧ NwS h h2 s (partsT l i ++ starL l i)) ∧ T 4 = .v (.one (.int .i64 i)) ∧ T 5 = .lp 5 0 ∧ (L 5).2 = encQ l[i] ∧ T 10 = .v (.one q) ∧ T 11 = .v (.one (.int .i64 l.length)) ∧ T 12 = .v (.one (.int .i64 i)))
    · intro J
      by_cases e3 : l[i].kind = 3
      · have eh : bm Tryd.prog 49 [.agg [q], .one (.int .i64 2)] h' = some (ib (hasRest l), h') := c_has l q 2 h' k hn.sm
        cases hr : hasRest l with
        | true =>
          have es : starB l i = false := by
            unfold starB
            rw [List.getElem?_eq_getElem hi, hr]
            simp
          rw [hr] at eh
          simp +contextual (maxSteps := 2000000) only [go_sem, Nat.reduceEqDiff, reduceCtorEq, Nat.reduceAdd, Nat.reduceLeDiff, t1, l1, t3, t10, t11, t12, k.len, k.iaddr hi, k.whole hi, encQ, lt_true hi, eh, decide_eq_true e3]
          refine J _ _ _ ?_
          simp +contextual (maxSteps := 2000000) only [go_sem, Nat.reduceEqDiff, reduceCtorEq, Nat.reduceAdd, Nat.reduceLeDiff, encQ, t1, l1, t3, t10, t11, t12]
          exact ⟨gh, ⟨s, rfl, by rw [starL_off es, List.append_nil]; exact z⟩⟩
        | false =>
          rw [hr] at eh
          by_cases h0 : i = 0
          · subst h0
            have es : starB l 0 = true := by rw [starB_zero hi, decide_eq_true e3, hr]; rfl
            simp +contextual (maxSteps := 2000000) only [go_sem, Nat.reduceEqDiff, reduceCtorEq, Nat.reduceAdd, Nat.reduceLeDiff, t1, l1, t3, t10, t11, t12, k.len, k.iaddr hi, k.whole hi, encQ, lt_true hi, eh, decide_eq_true e3, show decide (((0 : Nat) : Int) = 0) = true from rfl]
            refine wp_lit (enc := encS) (k := 1) (l := [strOfNums [42]]) rfl rfl ?_
            intro h2 w2 g2 n2 _
            simp +contextual (maxSteps := 2000000) only [go_sem, Nat.reduceEqDiff, reduceCtorEq, Nat.reduceAdd, Nat.reduceLeDiff, t1, l1, t3, t10, t11, t12]
            refine wp_append lenS (z.grow g2) (n2.sl lenS) (gh.trans g2) (by simp; omega) ?_
            intro h3 s3 g3 n3 _ _
            simp +contextual (maxSteps := 2000000) only [go_sem, Nat.reduceEqDiff, reduceCtorEq, Nat.reduceAdd, Nat.reduceLeDiff, t1, l1, t3, t10, t11, t12]
            refine J _ _ _ ?_
            simp +contextual (maxSteps := 2000000) only [go_sem, Nat.reduceEqDiff, reduceCtorEq, Nat.reduceAdd, Nat.reduceLeDiff, encQ, t1, l1, t3, t10, t11, t12]
            exact ⟨g3, ⟨s3, rfl, by rw [starL_on es]; exact n3⟩⟩
          · obtain ⟨j, rfl⟩ : ∃ j, i = j + 1 := ⟨i - 1, by omega⟩
            have hj : j < l.length := by omega
            have es := starB_succ hi
            have nz : decide (((j + 1 : Nat) : Int) = 0) = false := decide_eq_false (by omega)
            have ep : IntKind.i64.wrap (((j + 1 : Nat) : Int) - 1) = (j : Int) := wrap_pred (by omega)
            rw [decide_eq_true e3, hr, Bool.not_false, Bool.true_and, Bool.true_and] at es
            cases e4 : decide (l[j].kind = 3) with
            | true =>
              rw [e4] at es
              simp +contextual (maxSteps := 2000000) only [go_sem, Nat.reduceEqDiff, reduceCtorEq, Nat.reduceAdd, Nat.reduceLeDiff, t1, l1, t3, t10, t11, t12, k.len, k.iaddr hi, k.whole hi, k.iaddr hj, k.fieldO hj, encQ, lt_true hi, eh, decide_eq_true e3, nz, ep, e4]
              refine J _ _ _ ?_
              simp +contextual (maxSteps := 2000000) only [go_sem, Nat.reduceEqDiff, reduceCtorEq, Nat.reduceAdd, Nat.reduceLeDiff, encQ, t1, l1, t3, t10, t11, t12]
              exact ⟨gh, ⟨s, rfl, by rw [starL_off es, List.append_nil]; exact z⟩⟩
            | false =>
              rw [e4] at es
              simp +contextual (maxSteps := 2000000) only [go_sem, Nat.reduceEqDiff, reduceCtorEq, Nat.reduceAdd, Nat.reduceLeDiff, t1, l1, t3, t10, t11, t12, k.len, k.iaddr hi, k.whole hi, k.iaddr hj, k.fieldO hj, encQ, lt_true hi, eh, decide_eq_true e3, nz, ep, e4]
              refine wp_lit (enc := encS) (k := 1) (l := [strOfNums [42]]) rfl rfl ?_
              intro h2 w2 g2 n2 _
              simp +contextual (maxSteps := 2000000) only [go_sem, Nat.reduceEqDiff, reduceCtorEq, Nat.reduceAdd, Nat.reduceLeDiff, t1, l1, t3, t10, t11, t12]
              refine wp_append lenS (z.grow g2) (n2.sl lenS) (gh.trans g2) (by simp; omega) ?_
              intro h3 s3 g3 n3 _ _
              simp +contextual (maxSteps := 2000000) only [go_sem, Nat.reduceEqDiff, reduceCtorEq, Nat.reduceAdd, Nat.reduceLeDiff, t1, l1, t3, t10, t11, t12]
              refine J _ _ _ ?_
              simp +contextual (maxSteps := 2000000) only [go_sem, Nat.reduceEqDiff, reduceCtorEq, Nat.reduceAdd, Nat.reduceLeDiff, encQ, t1, l1, t3, t10, t11, t12]
              exact ⟨g3, ⟨s3, rfl, by rw [starL_on es]; exact n3⟩⟩
      · have es := starB_kind hi e3
        simp +contextual (maxSteps := 2000000) only [go_sem, Nat.reduceEqDiff, reduceCtorEq, Nat.reduceAdd, Nat.reduceLeDiff, t1, l1, t3, t10, t11, t12, k.len, k.iaddr hi, k.whole hi, encQ, lt_true hi, decide_eq_false e3]
        refine J _ _ _ ?_
        simp +contextual (maxSteps := 2000000) only [go_sem, Nat.reduceEqDiff, reduceCtorEq, Nat.reduceAdd, Nat.reduceLeDiff, encQ, t1, l1, t3, t10, t11, t12]
        exact ⟨gh, ⟨s, rfl, by rw [starL_off es, List.append_nil]; exact z⟩⟩
    · rintro T L h2 ⟨g2, t1, l1, ⟨s, t3, z⟩, t4, t5, l5, t10, t11, t12⟩
      have e1 := fun h => c_paramTextI l[i] h (by have := hnm _ (List.getElem_mem hi); omega) (hdf i hi)
      simp only [encQ] at e1 l5
      have sl := starL_len (l := l) (i := i)
      simp +contextual (maxSteps := 2000000) only [go_sem, Nat.reduceEqDiff, reduceCtorEq, Nat.reduceAdd, Nat.reduceLeDiff, ↓u17_8, t1, l1, t3, t4, t5, l5, t10, t11, t12, e1]
      refine wp_lit (enc := encS) (k := 1) (l := [parT l[i]]) rfl rfl ?_
      intro h3 w3 g3 n3 _
      simp +contextual (maxSteps := 2000000) only [go_sem, Nat.reduceEqDiff, reduceCtorEq, Nat.reduceAdd, Nat.reduceLeDiff, t1, l1, t3, t4, t5, l5, t10, t11, t12]
      refine wp_append lenS (z.grow g3) (n3.sl lenS) (g2.trans g3) (by simp; omega) ?_
      intro h4 s4 g4 n4 _ _
      have k4 := hl.out.grow g4
      have en : partsT l (i + 1) = partsT l i ++ starL l i ++ [parT l[i]] ++ slashL l i := partsT_next hi
      have ew : IntKind.i64.wrap ((i : Int) + 1) = ((i + 1 : Nat) : Int) := wrap_next hi (by omega)
      have ev : IntKind.i64.wrap ((l.length : Int) - 1) = (l.length : Int) - 1 := i64_wrap (by omega) (by omega)
      by_cases e0 : l[i].kind = 0
      · by_cases hl1 : i + 1 < l.length
        · have es := slashB_mid hl1
          have ne : decide ((i : Int) = (l.length : Int) - 1) = false := decide_eq_false (by omega)
          rw [decide_eq_true e0, Bool.true_and] at es
          cases e5 : decide (l[i + 1].kind = 0) with
          | true =>
            rw [e5] at es
            simp +contextual (maxSteps := 2000000) only [go_sem, Nat.reduceEqDiff, reduceCtorEq, Nat.reduceAdd, Nat.reduceLeDiff, t1, l1, t3, t4, t5, l5, t10, t11, t12, k4.len, k4.iaddr hl1, k4.fieldO hl1, encQ, decide_eq_true e0, ew, ev, ne, e5]
            exact ⟨g4, s4, rfl, by rw [en, slashL_off es, List.append_nil]; exact n4⟩
          | false =>
            rw [e5] at es
            simp +contextual (maxSteps := 2000000) only [go_sem, Nat.reduceEqDiff, reduceCtorEq, Nat.reduceAdd, Nat.reduceLeDiff, t1, l1, t3, t4, t5, l5, t10, t11, t12, k4.len, k4.iaddr hl1, k4.fieldO hl1, encQ, decide_eq_true e0, ew, ev, ne, e5]
            refine wp_lit (enc := encS) (k := 1) (l := [strOfNums [47]]) rfl rfl ?_
            intro h5 w5 g5 n5 _
            simp +contextual (maxSteps := 2000000) only [go_sem, Nat.reduceEqDiff, reduceCtorEq, Nat.reduceAdd, Nat.reduceLeDiff, t1, l1, t3, t4, t10, t11, t12]
            refine wp_append lenS (n4.grow g5) (n5.sl lenS) (g4.trans g5) (by simp; omega) ?_
            intro h6 s6 g6 n6 _ _
            simp +contextual (maxSteps := 2000000) only [go_sem, Nat.reduceEqDiff, reduceCtorEq, Nat.reduceAdd, Nat.reduceLeDiff, t1, l1, t3, t4, t10, t11, t12, ew]
            exact ⟨g6, s6, rfl, by rw [en, slashL_on es]; exact n6⟩
        · have es := slashB_last hi hl1
          have ne : decide ((i : Int) = (l.length : Int) - 1) = true := decide_eq_true (by omega)
          rw [decide_eq_true e0] at es
          simp +contextual (maxSteps := 2000000) only [go_sem, Nat.reduceEqDiff, reduceCtorEq, Nat.reduceAdd, Nat.reduceLeDiff, t1, l1, t3, t4, t5, l5, t10, t11, t12, k4.len, encQ, decide_eq_true e0, ew, ev, ne]
          refine wp_lit (enc := encS) (k := 1) (l := [strOfNums [47]]) rfl rfl ?_
          intro h5 w5 g5 n5 _
          simp +contextual (maxSteps := 2000000) only [go_sem, Nat.reduceEqDiff, reduceCtorEq, Nat.reduceAdd, Nat.reduceLeDiff, t1, l1, t3, t4, t10, t11, t12]
          refine wp_append lenS (n4.grow g5) (n5.sl lenS) (g4.trans g5) (by simp; omega) ?_
          intro h6 s6 g6 n6 _ _
          simp +contextual (maxSteps := 2000000) only [go_sem, Nat.reduceEqDiff, reduceCtorEq, Nat.reduceAdd, Nat.reduceLeDiff, t1, l1, t3, t4, t10, t11, t12, ew]
          exact ⟨g6, s6, rfl, by rw [en, slashL_on es]; exact n6⟩
      · have es := slashB_kind hi e0
        simp +contextual (maxSteps := 2000000) only [go_sem, Nat.reduceEqDiff, reduceCtorEq, Nat.reduceAdd, Nat.reduceLeDiff, t1, l1, t3, t4, t5, l5, t10, t11, t12, encQ, decide_eq_false e0, ew]
        exact ⟨g4, s4, rfl, by rw [en, slashL_off es, List.append_nil]; exact n4⟩
  · rintro T L h' ⟨gh, t1, l1, ⟨s, t3, z⟩, t10, t11, t12⟩
    have pl := partsT_len (l := l) (i := l.length)
    have ej := c_join s (strOfNums [44, 32]) (partsT l l.length) h' (z.sl lenS) (by
      have := joinB_sm (sep := strOfNums [44, 32]) (l := partsT l l.length) (by rw [strOfNums_size]; decide) (by omega) (fun x hx => by have := partsT_mem hnm x hx; omega)
      omega) (by omega)
    simp +contextual (maxSteps := 2000000) only [go_sem, Nat.reduceEqDiff, reduceCtorEq, Nat.reduceAdd, Nat.reduceLeDiff, t1, l1, t3, t10, t11, t12, lt_false, ej]
    exact gcK_of ⟨gh, rfl⟩ (fun _ _ => ⟨Grow.refl h, rfl⟩)
  · simp +contextual (maxSteps := 2000000) only [go_sem, Nat.reduceEqDiff, reduceCtorEq, Nat.reduceAdd, Nat.reduceLeDiff]
    first | exact ⟨Grow.refl h, ⟨_, rfl, .nil⟩, rfl⟩ | exact ⟨Grow.refl h, rfl, _, rfl, .nil⟩ | exact ⟨Grow.refl h, rfl, ⟨_, rfl, .nil⟩, rfl⟩ | exact ⟨Grow.refl h, ⟨_, rfl, .nil⟩⟩
end Go.Proofs.YtoeceafibmafpaaDoor.Am
