/- Contracts: tables of functions, of both sides. -/
import Derived.Test.YtoeceafibmafpaaDoorTF
import Derived.Test.YtoeceafibmafpaaDoorA3
import Derived.Test.YtoeceafibmafpaaDoorK3
namespace Go.Proofs.YtoeceafibmafpaaDoor.Am
open Go
set_option maxRecDepth 100000
set_option maxHeartbeats 4000000
set_option linter.unusedSimpArgs false
set_option linter.unusedVariables false
attribute [local go_sem ↓] bv_t bv_c ev_t ev_c put_same put_ne put_none kill_at pro_at lb_same lb_ne start_zero start_succ wpC_seq wpC_reg wpC_cond wpC_block wpC_skip wpC_exit wpC_ret thenQ_normal thenQ_exit thenQ_ret inBlk_normal inBlk_exit inBlk_ret wpS_nil wpS_step wpS_again wpS_guard wpO_mov wpO_load wpO_faddr wpO_nilCheck wpO_pick wpO_build wpO_bin wpO_eqb wpO_eqst wpO_eqnil wpO_not wpO_conv wpO_bytesStr wpO_iaddr wpO_idxStr wpO_field wpO_extract wpO_len wpO_lenStr wpO_cap wpO_min wpO_slice wpO_sliceStr wpO_alloc wpO_box wpO_store wpO_call wpO_callv wpO_mkfn wpO_buildSlice wpO_mkslice wpO_append wpO_appz proA_nil proA_cons tmpX_nil tmpX_tmp tmpX_cell doneB_normal doneB_ret agK_cons agK_nil agK_guard agG_tt agG_ff agG_tf agG_ft agG_undef pureB_load results_one results_two results_nil resBs_cons resBs_nil resB_tmp resB_cell
attribute [local go_sem] kill_v kill_lp_ne kill_lp_same pro_v pro_lp_same pro_lp_ne av_v av_lp optB_some optX_some valX_eq ldX_lp ldX_v faX_lp faX_v ncX_lp ncX_ptr ncX_fn boxK_one boxK_agg stL_some stK_lp_one stK_lp_agg stK_v_one stK_v_agg proM_v proM_lp callG_mk callVG_mk callvK_fn fnG_mk ptrsA_nil ptrsA_cons callH_some whenA_true whenA_false guardH_tt guardH_ff guardH_tf guardH_ft guardH_undef agV_one agV_agg lenO_sl lenStrO_str notO_bool pickO_bool convO_int eqbO_bool eqnilO_sl extractO_tup capO_sl minO_int loadL_one loadL_all storeL_eq fillA_nil fillA_one fillA_agg nat_ge neg_ge nat_lt neg_lt buildO bin_add bin_sub bin_mul bin_eql bin_neq bin_lss bin_leq bin_gtr bin_geq str_eql str_neq str_lss str_leq str_gtr str_geq retK_some endK_mk gcK_same gcK_int gcK_bool tupO_one tupO_agg rdy_self ib ii Option.map_none Option.map_some Option.some.injEq exists_eq_left' exists_eq_left ne_eq not_false_eq_true if_true if_false List.map_cons List.map_nil List.getElem?_cons_zero List.getElem?_cons_succ List.length_cons List.length_nil List.take_succ_cons List.take_zero List.take_nil List.drop_succ_cons List.drop_zero List.drop_nil List.cons_append List.nil_append List.append_nil List.set_cons_zero List.set_cons_succ Nat.zero_add forall_const true_and and_true and_self Bool.false_eq_true false_implies true_implies implies_true Bool.not_true Bool.not_false Bool.not_eq_true' Bool.not_eq_false' beq_self_eq_true Bool.bne_true Bool.bne_false
attribute [local go_sem] lenI lenS lenP lenQ lenB lenL lenT encI_0 encS_0 encP_0 encP_1 encQ_0 encQ_1 encQ_2 encQ_3 encB_0 encB_1 encL_0 encL_1 encT_0 encT_1
attribute [local go_sem low] whenA_bool guardH_bool
attribute [local go_sem] lenW encW_0 encW_1 loadL_agg
def stepW (l : List Func) (i : Nat) : Bool := match l[i]? with | some a => okFu a && newAt Func.name l i | none => true
def okTab (l : List Func) : Bool := (List.range l.length).all (stepW l) && decide ((l.length : Int) ≤ 5)
theorem stepW_eq {l : List Func} {i : Nat} (hi : i < l.length) : stepW l i = (okFu l[i] && newAt Func.name l i) := by
  unfold stepW
  rw [List.getElem?_eq_getElem hi]
theorem okTab_not {l : List Func} {i : Nat} (hi : i < l.length) (h : stepW l i = false) : okTab l = false := by
  unfold okTab
  rw [List.all_eq_false.2 ⟨i, List.mem_range.2 hi, by simp [h]⟩]
  rfl
theorem okTab_of {l : List Func} (h : Upto (stepW l) l.length) : okTab l = decide ((l.length : Int) ≤ 5) := by
  unfold okTab
  rw [h.all, Bool.true_and]
theorem miniW.at {l : List Func} (m : miniW l) {i : Nat} (hi : i < l.length) : miniE l[i] := ⟨m.name _ (List.getElem_mem hi), m.params _ (List.getElem_mem hi), m.nparams _ (List.getElem_mem hi)⟩
theorem RdW.takeO {ty t0 : Nat} {h : H} {v : CV} {rs : List RFunc} {l : List Func} (y : RdW ty t0 h v rs l.length (getW l)) {i : Nat} (hi : i ≤ l.length) {kd : IntKind} : ∃ c, cutO ty 2 h (.one v) none (some (.one (.int kd i))) none = some (.one c) ∧ RdW ty t0 h c (rs.take i) (l.take i).length (getW (l.take i)) := by
  obtain ⟨w, e1, s1⟩ := y.out.takeO (i := i) (by rw [y.len]; exact hi) (kd := kd)
  obtain ⟨b, c, rfl, _⟩ := s1.form
  refine ⟨_, e1, s1, by rw [List.length_take, List.length_take, y.len], fun j hj => ?_⟩
  have hj2 : j < rs.length := by rw [List.length_take] at hj; omega
  have hj3 : j < i := by rw [List.length_take] at hj; omega
  have ye := y.el j hj2
  have e2 : (rs.take i)[j] = rs[j] := by simp
  have e3 : getW (l.take i) j = getW l j := by
    unfold getW
    rw [List.getElem?_take, if_pos hj3]
  rw [e2, e3]
  exact ye
/-! spec.findFunc -/
def L93_0 : List AStep := [⟨.mov (.c (.int .i64 0)), (some 4), none, []⟩]
theorem v93_0 : VS L93_0.eq_1 := rfl
def L93_1 : List AStep := [⟨.mov (.c (.int .i64 0)), (some 5), none, []⟩]
theorem v93_1 : VS L93_1.eq_1 := rfl
def L93_2 : List AStep := [⟨.len (.t 7), (some 8), none, []⟩, ⟨.bin .lss (.t 6) (.t 8), (some 9), none, []⟩]
theorem v93_2 : VS L93_2.eq_1 := rfl
def L93_3 : List AStep := ⟨.mov (.t 5), (some 6), none, []⟩ :: ⟨.mov (.t 0), (some 7), none, []⟩ :: L93_2
theorem v93_3 : VS L93_3.eq_1 := rfl
def L93_4 : List AStep := [⟨.bin .eql (.t 16) (.t 17), (some 18), none, []⟩]
theorem v93_4 : VS L93_4.eq_1 := rfl
def L93_5 : List AStep := ⟨.load 1 false (.t 15), (some 16), none, []⟩ :: ⟨.mov (.t 1), (some 17), none, []⟩ :: L93_4
theorem v93_5 : VS L93_5.eq_1 := rfl
def L93_6 : List AStep := ⟨.iaddr 2 (.t 12) (.t 13), (some 14), none, []⟩ :: ⟨.faddr 0 (.t 14), (some 15), none, []⟩ :: L93_5
theorem v93_6 : VS L93_6.eq_1 := rfl
def L93_7 : List AStep := ⟨.mov (.t 0), (some 12), none, []⟩ :: ⟨.mov (.t 5), (some 13), none, []⟩ :: L93_6
theorem v93_7 : VS L93_7.eq_1 := rfl
def L93_8 : List AStep := [⟨.mov (.t 5), (some 19), none, []⟩, ⟨.mov (.t 19), (some 4), none, []⟩]
theorem v93_8 : VS L93_8.eq_1 := rfl
def L93_9 : List AStep := [⟨.mov (.t 11), (some 5), none, []⟩]
theorem v93_9 : VS L93_9.eq_1 := rfl
def L93_10 : List AStep := ⟨.mov (.t 5), (some 10), none, []⟩ :: ⟨.bin .add (.t 10) (.c (.int .i64 1)), (some 11), none, []⟩ :: L93_9
theorem v93_10 : VS L93_10.eq_1 := rfl
def L93_11 : List AStep := [⟨.mov (.c (.int .i64 (-1))), (some 4), none, []⟩]
theorem v93_11 : VS L93_11.eq_1 := rfl
def C93_0 : ACode := .cond (.t 9) .skip (.exit 0)
theorem u93_0 : VC C93_0.eq_1 := rfl
def C93_1 : ACode := .seq (.reg L93_3) C93_0
theorem u93_1 : VC C93_1.eq_1 := rfl
def C93_2 : ACode := .seq (.reg L93_8) .ret
theorem u93_2 : VC C93_2.eq_1 := rfl
def C93_3 : ACode := .cond (.t 18) C93_2 .skip
theorem u93_3 : VC C93_3.eq_1 := rfl
def C93_4 : ACode := .seq (.reg L93_7) C93_3
theorem u93_4 : VC C93_4.eq_1 := rfl
def C93_5 : ACode := .block 1 C93_4
theorem u93_5 : VC C93_5.eq_1 := rfl
def C93_6 : ACode := .seq C93_5 (.reg L93_10)
theorem u93_6 : VC C93_6.eq_1 := rfl
def C93_7 : ACode := .seq C93_1 C93_6
theorem u93_7 : VC C93_7.eq_1 := rfl
def C93_8 : ACode := .block 0 (.loop C93_7)
theorem u93_8 : VC C93_8.eq_1 := rfl
def C93_9 : ACode := .seq (.reg L93_1) C93_8
theorem u93_9 : VC C93_9.eq_1 := rfl
def C93_10 : ACode := .seq (.reg L93_11) .ret
theorem u93_10 : VC C93_10.eq_1 := rfl
def C93_11 : ACode := .seq C93_9 C93_10
theorem u93_11 : VC C93_11.eq_1 := rfl
def C93_12 : ACode := .seq (.reg L93_0) C93_11
theorem u93_12 : VC C93_12.eq_1 := rfl
def F93 : AFunc := ⟨20, [.tmp 4], C93_12⟩
theorem cF93 : compB Tryd.prog 93 = some F93 := by kernel_rfl
attribute [local go_sem ↓] u93_0 u93_1 u93_2 u93_3 u93_4 u93_5 u93_6 u93_7 u93_8 u93_9 u93_10 u93_11 u93_12 v93_0 v93_1 v93_2 v93_3 v93_4 v93_5 v93_6 v93_7 v93_8 v93_9 v93_10 v93_11
theorem c_findFunc {ty t0 : Nat} (l : List Func) (v : CV) (rs : List RFunc) (s : ByteArray) (h : H) (y : RdW ty t0 h v rs l.length (getW l)) (hn : l.length ≤ 1048576) : bm Tryd.prog 93 [.one v, .one (.str s)] h = some (ii (idx (fun a => decide (a.name = s)) l), h) := by
  refine bm_eq cF93 ?_
  have yl : lenO (.one v) = some (ii l.length) := by rw [y.out.len, y.len]
  simp +contextual (maxSteps := 2000000) only [go_sem, Nat.reduceEqDiff, reduceCtorEq, Nat.reduceAdd, Nat.reduceLeDiff, F93]
  refine wpC_loop (fun i T L h' => h' = h ∧ T 0 = .v (.one v) ∧ T 1 = .v (.one (.str s)) ∧ T 5 = .v (.one (.int .i64 i)) ∧ Pre (fun a : Func => decide (a.name = s)) false l i) l.length ?_ ?_ (Nat.zero_le _) ?_
  · rintro i T L h' hi ⟨rfl, h0, h1, h3, hp⟩
    have hr : i < rs.length := by rw [y.len]; exact hi
    have ye := y.el i hr
    rw [getW_eq hi] at ye
    have en : rs[i].name = l[i].name := ye.name
    simp +contextual (maxSteps := 2000000) only [go_sem, Nat.reduceEqDiff, reduceCtorEq, Nat.reduceAdd, Nat.reduceLeDiff, h0, h1, h3, yl, y.out.iaddr hr, y.out.fieldO hr, en, lt_true hi]
    (repeat' (first | refine And.intro ?_ ?_ | intro _)) <;> first | rfl | rw [wrap_next hi (by omega)] | exact hp.next hi ‹_› | rw [idx_hit hi hp ‹_›]
  · rintro T L h' ⟨rfl, h0, h1, h3, hp⟩
    simp +contextual (maxSteps := 2000000) only [go_sem, Nat.reduceEqDiff, reduceCtorEq, Nat.reduceAdd, Nat.reduceLeDiff, h0, h1, h3, yl, lt_false, idx_none hp]
  · simp +contextual (maxSteps := 2000000) only [go_sem, Nat.reduceEqDiff, reduceCtorEq, Nat.reduceAdd, Nat.reduceLeDiff]
    (repeat' (first | refine And.intro ?_ ?_ | intro _)) <;> first | rfl | exact Pre.zero
/-! spec.validTable -/
def L55_0 : List AStep := [⟨.mov (.c (.bool false)), (some 2), none, []⟩]
theorem v55_0 : VS L55_0.eq_1 := rfl
def L55_1 : List AStep := [⟨.mov (.c (.int .i64 0)), (some 3), none, []⟩]
theorem v55_1 : VS L55_1.eq_1 := rfl
def L55_2 : List AStep := [⟨.len (.t 5), (some 6), none, []⟩, ⟨.bin .lss (.t 4) (.t 6), (some 7), none, []⟩]
theorem v55_2 : VS L55_2.eq_1 := rfl
def L55_3 : List AStep := ⟨.mov (.t 3), (some 4), none, []⟩ :: ⟨.mov (.t 0), (some 5), none, []⟩ :: L55_2
theorem v55_3 : VS L55_3.eq_1 := rfl
def L55_4 : List AStep := [⟨.bin .geq (.t 25) (.c (.int .i64 0)), (some 26), (some (16, false)), []⟩, ⟨.pick (.t 16) (.c (.bool true)) (.t 26), (some 27), none, []⟩]
theorem v55_4 : VS L55_4.eq_1 := rfl
def L55_5 : List AStep := ⟨.load 1 false (.t 23), (some 24), (some (16, false)), []⟩ :: ⟨.call 93 [(.t 19), (.t 24)], (some 25), (some (16, false)), []⟩ :: L55_4
theorem v55_5 : VS L55_5.eq_1 := rfl
def L55_6 : List AStep := ⟨.iaddr 2 (.t 20) (.t 21), (some 22), (some (16, false)), []⟩ :: ⟨.faddr 0 (.t 22), (some 23), (some (16, false)), []⟩ :: L55_5
theorem v55_6 : VS L55_6.eq_1 := rfl
def L55_7 : List AStep := ⟨.mov (.t 0), (some 20), (some (16, false)), []⟩ :: ⟨.mov (.t 3), (some 21), (some (16, false)), []⟩ :: L55_6
theorem v55_7 : VS L55_7.eq_1 := rfl
def L55_8 : List AStep := ⟨.mov (.t 3), (some 18), (some (16, false)), []⟩ :: ⟨.slice 48 2 (.t 17) none (some (.t 18)) none, (some 19), (some (16, false)), []⟩ :: L55_7
theorem v55_8 : VS L55_8.eq_1 := rfl
def L55_9 : List AStep := ⟨.mov (.t 15), (some 16), none, []⟩ :: ⟨.mov (.t 0), (some 17), (some (16, false)), []⟩ :: L55_8
theorem v55_9 : VS L55_9.eq_1 := rfl
def L55_10 : List AStep := ⟨.call 57 [(.t 13)], (some 14), none, []⟩ :: ⟨.not (.t 14), (some 15), none, []⟩ :: L55_9
theorem v55_10 : VS L55_10.eq_1 := rfl
def L55_11 : List AStep := ⟨.iaddr 2 (.t 10) (.t 11), (some 12), none, []⟩ :: ⟨.load 2 true (.t 12), (some 13), none, []⟩ :: L55_10
theorem v55_11 : VS L55_11.eq_1 := rfl
def L55_12 : List AStep := ⟨.mov (.t 0), (some 10), none, []⟩ :: ⟨.mov (.t 3), (some 11), none, []⟩ :: L55_11
theorem v55_12 : VS L55_12.eq_1 := rfl
def L55_13 : List AStep := [⟨.mov (.c (.bool false)), (some 2), none, []⟩]
theorem v55_13 : VS L55_13.eq_1 := rfl
def L55_14 : List AStep := [⟨.mov (.t 9), (some 3), none, []⟩]
theorem v55_14 : VS L55_14.eq_1 := rfl
def L55_15 : List AStep := ⟨.mov (.t 3), (some 8), none, []⟩ :: ⟨.bin .add (.t 8) (.c (.int .i64 1)), (some 9), none, []⟩ :: L55_14
theorem v55_15 : VS L55_15.eq_1 := rfl
def L55_16 : List AStep := [⟨.bin .leq (.t 29) (.c (.int .i64 5)), (some 30), none, []⟩, ⟨.mov (.t 30), (some 2), none, []⟩]
theorem v55_16 : VS L55_16.eq_1 := rfl
def L55_17 : List AStep := ⟨.mov (.t 0), (some 28), none, []⟩ :: ⟨.len (.t 28), (some 29), none, []⟩ :: L55_16
theorem v55_17 : VS L55_17.eq_1 := rfl
def C55_0 : ACode := .cond (.t 7) .skip (.exit 0)
theorem u55_0 : VC C55_0.eq_1 := rfl
def C55_1 : ACode := .seq (.reg L55_3) C55_0
theorem u55_1 : VC C55_1.eq_1 := rfl
def C55_2 : ACode := .seq (.reg L55_13) .ret
theorem u55_2 : VC C55_2.eq_1 := rfl
def C55_3 : ACode := .cond (.t 27) C55_2 .skip
theorem u55_3 : VC C55_3.eq_1 := rfl
def C55_4 : ACode := .seq (.reg L55_12) C55_3
theorem u55_4 : VC C55_4.eq_1 := rfl
def C55_5 : ACode := .block 1 C55_4
theorem u55_5 : VC C55_5.eq_1 := rfl
def C55_6 : ACode := .seq C55_5 (.reg L55_15)
theorem u55_6 : VC C55_6.eq_1 := rfl
def C55_7 : ACode := .seq C55_1 C55_6
theorem u55_7 : VC C55_7.eq_1 := rfl
def C55_8 : ACode := .block 0 (.loop C55_7)
theorem u55_8 : VC C55_8.eq_1 := rfl
def C55_9 : ACode := .seq (.reg L55_1) C55_8
theorem u55_9 : VC C55_9.eq_1 := rfl
def C55_10 : ACode := .seq (.reg L55_17) .ret
theorem u55_10 : VC C55_10.eq_1 := rfl
def C55_11 : ACode := .seq C55_9 C55_10
theorem u55_11 : VC C55_11.eq_1 := rfl
def C55_12 : ACode := .seq (.reg L55_0) C55_11
theorem u55_12 : VC C55_12.eq_1 := rfl
def F55 : AFunc := ⟨31, [.tmp 2], C55_12⟩
theorem cF55 : compB Tryd.prog 55 = some F55 := by kernel_rfl
attribute [local go_sem ↓] u55_0 u55_1 u55_2 u55_3 u55_4 u55_5 u55_6 u55_7 u55_8 u55_9 u55_10 u55_11 u55_12 v55_0 v55_1 v55_2 v55_3 v55_4 v55_5 v55_6 v55_7 v55_8 v55_9 v55_10 v55_11 v55_12 v55_13 v55_14 v55_15 v55_16 v55_17
theorem c_validTable (l : List Func) (v : CV) (h : H) (hl : SlW h v l) (m : miniW l) : bm Tryd.prog 55 [.one v] h = some (ib (okTab l), h) := by
  refine bm_eq cF55 ?_
  obtain ⟨rs, y⟩ := hl.ex
  have hn := m.len
  have yl : lenO (.one v) = some (ii l.length) := by rw [y.out.len, y.len]
  simp +contextual (maxSteps := 2000000) only [go_sem, Nat.reduceEqDiff, reduceCtorEq, Nat.reduceAdd, Nat.reduceLeDiff, F55]
  refine wpC_loop (fun i T L h' => h' = h ∧ T 0 = .v (.one v) ∧ T 3 = .v (.one (.int .i64 i)) ∧ Upto (stepW l) i) l.length ?_ ?_ (Nat.zero_le _) ?_
  · rintro i T L h' hi ⟨rfl, t0, t3, hu⟩
    have hr : i < rs.length := by rw [y.len]; exact hi
    have ye := y.el i hr
    rw [getW_eq hi] at ye
    have en : rs[i].name = l[i].name := ye.name
    have es := stepW_eq hi
    have vf := c_validFunc rs[i] l[i] h' ye (m.at hi)
    cases b1 : okFu l[i] with
    | false =>
      rw [b1] at vf es
      have bad : okTab l = false := okTab_not hi es
      simp +contextual (maxSteps := 2000000) only [go_sem, Nat.reduceEqDiff, reduceCtorEq, Nat.reduceAdd, Nat.reduceLeDiff, t0, t3, yl, lt_true hi, y.out.iaddr hr, y.out.whole hr, vf, bad]
    | true =>
      rw [b1, Bool.true_and] at es
      rw [b1] at vf
      obtain ⟨c, ec, yt⟩ := y.takeO (i := i) (by omega) (kd := .i64)
      have cf := c_findFunc (l.take i) c (rs.take i) l[i].name h' yt (by rw [List.length_take]; omega)
      have ge : decide (idx (fun a : Func => decide (a.name = l[i].name)) (l.take i) ≥ 0) = !(newAt Func.name l i) := newAt_ge (f := Func.name) hi
      cases b2 : newAt Func.name l i with
      | false =>
        rw [b2] at es ge
        have bad : okTab l = false := okTab_not hi es
        simp +contextual (maxSteps := 2000000) only [go_sem, Nat.reduceEqDiff, reduceCtorEq, Nat.reduceAdd, Nat.reduceLeDiff, t0, t3, yl, lt_true hi, y.out.iaddr hr, y.out.whole hr, y.out.fieldO hr, en, vf, ec, cf, ge, bad]
      | true =>
        rw [b2] at es ge
        simp +contextual (maxSteps := 2000000) only [go_sem, Nat.reduceEqDiff, reduceCtorEq, Nat.reduceAdd, Nat.reduceLeDiff, t0, t3, yl, lt_true hi, y.out.iaddr hr, y.out.whole hr, y.out.fieldO hr, en, vf, ec, cf, ge]
        exact ⟨by rw [wrap_next hi (by omega)], hu.next es⟩
  · rintro T L h' ⟨rfl, t0, t3, hu⟩
    simp +contextual (maxSteps := 2000000) only [go_sem, Nat.reduceEqDiff, reduceCtorEq, Nat.reduceAdd, Nat.reduceLeDiff, t0, t3, yl, lt_false, okTab_of hu]
  · simp +contextual (maxSteps := 2000000) only [go_sem, Nat.reduceEqDiff, reduceCtorEq, Nat.reduceAdd, Nat.reduceLeDiff]
    (repeat' (first | refine And.intro ?_ ?_ | intro _)) <;> first | rfl | exact Upto.zero
/-! spec.ValidTable -/
def L21_0 : List AStep := [⟨.mov (.c (.bool false)), (some 2), none, []⟩]
theorem v21_0 : VS L21_0.eq_1 := rfl
def L21_1 : List AStep := [⟨.mov (.t 4), (some 2), none, []⟩]
theorem v21_1 : VS L21_1.eq_1 := rfl
def L21_2 : List AStep := ⟨.mov (.t 0), (some 3), none, []⟩ :: ⟨.call 55 [(.t 3)], (some 4), none, []⟩ :: L21_1
theorem v21_2 : VS L21_2.eq_1 := rfl
def C21_0 : ACode := .seq (.reg L21_2) .ret
theorem u21_0 : VC C21_0.eq_1 := rfl
def C21_1 : ACode := .seq (.reg L21_0) C21_0
theorem u21_1 : VC C21_1.eq_1 := rfl
def F21 : AFunc := ⟨5, [.tmp 2], C21_1⟩
theorem cF21 : compB Tryd.prog 21 = some F21 := by kernel_rfl
attribute [local go_sem ↓] u21_0 u21_1 v21_0 v21_1 v21_2
theorem k_sValidTable (l : List Func) (v : CV) (h : H) (hl : SlW h v l) (m : miniW l) : bm Tryd.prog 21 [.one v] h = some (ib (okTab l), h) := by
  refine bm_eq cF21 ?_
  simp +contextual (maxSteps := 2000000) only [go_sem, Nat.reduceEqDiff, reduceCtorEq, Nat.reduceAdd, Nat.reduceLeDiff, F21, c_validTable l v h hl m]
/-! slices.IndexFunc(()impl.Func,impl.Func) -/
def L91_0 : List AStep := [⟨.mov (.c (.int .i64 0)), (some 4), none, []⟩]
theorem v91_0 : VS L91_0.eq_1 := rfl
def L91_1 : List AStep := [⟨.mov (.c (.int .i64 0)), (some 8), none, []⟩]
theorem v91_1 : VS L91_1.eq_1 := rfl
def L91_2 : List AStep := ⟨.mov (.t 0), (some 6), none, []⟩ :: ⟨.len (.t 6), (some 7), none, []⟩ :: L91_1
theorem v91_2 : VS L91_2.eq_1 := rfl
def L91_3 : List AStep := [⟨.bin .lss (.t 8) (.t 7), (some 9), none, []⟩]
theorem v91_3 : VS L91_3.eq_1 := rfl
def L91_4 : List AStep := [⟨.mov (.t 8), (some 10), none, []⟩, ⟨.mov (.t 10), (some 5), none, []⟩]
theorem v91_4 : VS L91_4.eq_1 := rfl
def L91_5 : List AStep := [⟨.load 2 true (.t 14), (some 15), none, []⟩, ⟨.callv (.t 11) [(.t 15)], (some 16), none, []⟩]
theorem v91_5 : VS L91_5.eq_1 := rfl
def L91_6 : List AStep := ⟨.mov (.t 5), (some 13), none, []⟩ :: ⟨.iaddr 2 (.t 12) (.t 13), (some 14), none, []⟩ :: L91_5
theorem v91_6 : VS L91_6.eq_1 := rfl
def L91_7 : List AStep := ⟨.mov (.t 1), (some 11), none, []⟩ :: ⟨.mov (.t 0), (some 12), none, []⟩ :: L91_6
theorem v91_7 : VS L91_7.eq_1 := rfl
def L91_8 : List AStep := [⟨.mov (.t 5), (some 17), none, []⟩, ⟨.mov (.t 17), (some 4), none, []⟩]
theorem v91_8 : VS L91_8.eq_1 := rfl
def L91_9 : List AStep := [⟨.bin .add (.t 8) (.c (.int .i64 1)), (some 18), none, []⟩, ⟨.mov (.t 18), (some 8), none, []⟩]
theorem v91_9 : VS L91_9.eq_1 := rfl
def L91_10 : List AStep := [⟨.mov (.c (.int .i64 (-1))), (some 4), none, []⟩]
theorem v91_10 : VS L91_10.eq_1 := rfl
def C91_0 : ACode := .cond (.t 9) .skip (.exit 0)
theorem u91_0 : VC C91_0.eq_1 := rfl
def C91_1 : ACode := .seq (.reg L91_8) .ret
theorem u91_1 : VC C91_1.eq_1 := rfl
def C91_2 : ACode := .cond (.t 16) C91_1 .skip
theorem u91_2 : VC C91_2.eq_1 := rfl
def C91_3 : ACode := .seq (.reg L91_7) C91_2
theorem u91_3 : VC C91_3.eq_1 := rfl
def C91_4 : ACode := .seq (.reg L91_4) C91_3
theorem u91_4 : VC C91_4.eq_1 := rfl
def C91_5 : ACode := .block 1 C91_4
theorem u91_5 : VC C91_5.eq_1 := rfl
def C91_6 : ACode := .seq C91_5 (.reg L91_9)
theorem u91_6 : VC C91_6.eq_1 := rfl
def C91_7 : ACode := .seq C91_0 C91_6
theorem u91_7 : VC C91_7.eq_1 := rfl
def C91_8 : ACode := .seq (.reg L91_3) C91_7
theorem u91_8 : VC C91_8.eq_1 := rfl
def C91_9 : ACode := .block 0 (.loop C91_8)
theorem u91_9 : VC C91_9.eq_1 := rfl
def C91_10 : ACode := .seq (.reg L91_2) C91_9
theorem u91_10 : VC C91_10.eq_1 := rfl
def C91_11 : ACode := .seq (.reg L91_10) .ret
theorem u91_11 : VC C91_11.eq_1 := rfl
def C91_12 : ACode := .seq C91_10 C91_11
theorem u91_12 : VC C91_12.eq_1 := rfl
def C91_13 : ACode := .seq (.reg L91_0) C91_12
theorem u91_13 : VC C91_13.eq_1 := rfl
def F91 : AFunc := ⟨19, [.tmp 4], C91_13⟩
theorem cF91 : compB Tryd.prog 91 = some F91 := by kernel_rfl
attribute [local go_sem ↓] u91_0 u91_1 u91_2 u91_3 u91_4 u91_5 u91_6 u91_7 u91_8 u91_9 u91_10 u91_11 u91_12 u91_13 v91_0 v91_1 v91_2 v91_3 v91_4 v91_5 v91_6 v91_7 v91_8 v91_9 v91_10
theorem c_indexW {ty t0 : Nat} (l : List Func) (v : CV) (rs : List RFunc) (f : Nat) (caps : List (Nat × Nat)) (p : Func → Bool) (h : H) (y : RdW ty t0 h v rs l.length (getW l)) (hn : l.length ≤ 1048576) (hf : ∀ i (hi : i < l.length) (hr : i < rs.length), bm Tryd.prog f (.agg (encW rs[i]) :: caps.map fun a => .one (.ptr (some a))) h = some (ib (p l[i]), h)) :
    bm Tryd.prog 91 [.one v, .one (.fn f caps)] h = some (ii (idx p l), h) := by
  refine bm_eq cF91 ?_
  have yl : lenO (.one v) = some (ii l.length) := by rw [y.out.len, y.len]
  simp +contextual (maxSteps := 2000000) only [go_sem, Nat.reduceEqDiff, reduceCtorEq, Nat.reduceAdd, Nat.reduceLeDiff, F91, yl]
  refine wpC_loop (fun i T L h' => h' = h ∧ T 0 = .v (.one v) ∧ T 1 = .v (.one (.fn f caps)) ∧ T 7 = .v (.one (.int .i64 l.length)) ∧ T 8 = .v (.one (.int .i64 i)) ∧ Pre p false l i) l.length ?_ ?_ (Nat.zero_le _) ?_
  · rintro i T L h' hi ⟨rfl, h0, h1, h7, h8, hp⟩
    have hr : i < rs.length := by rw [y.len]; exact hi
    simp +contextual (maxSteps := 2000000) only [go_sem, Nat.reduceEqDiff, reduceCtorEq, Nat.reduceAdd, Nat.reduceLeDiff, h0, h1, h7, h8, y.out.iaddr hr, y.out.whole hr, hf i hi hr, lt_true hi]
    (repeat' (first | refine And.intro ?_ ?_ | intro _)) <;> first | rfl | rw [wrap_next hi (by omega)] | exact hp.next hi ‹_› | rw [idx_hit hi hp ‹_›]
  · rintro T L h' ⟨rfl, h0, h1, h7, h8, hp⟩
    simp +contextual (maxSteps := 2000000) only [go_sem, Nat.reduceEqDiff, reduceCtorEq, Nat.reduceAdd, Nat.reduceLeDiff, h0, h1, h7, h8, lt_false, idx_none hp]
  · simp +contextual (maxSteps := 2000000) only [go_sem, Nat.reduceEqDiff, reduceCtorEq, Nat.reduceAdd, Nat.reduceLeDiff]
    (repeat' (first | refine And.intro ?_ ?_ | intro _)) <;> first | rfl | exact Pre.zero
/-! impl.lookUp$1 -/
def L92_0 : List AStep := [⟨.box 48 (.t 0), (some 2), none, []⟩, ⟨.mov (.c (.bool false)), (some 3), none, []⟩]
theorem v92_0 : VS L92_0.eq_1 := rfl
def L92_1 : List AStep := [⟨.mov (.t 7), (some 3), none, []⟩]
theorem v92_1 : VS L92_1.eq_1 := rfl
def L92_2 : List AStep := ⟨.load 1 false (.t 1), (some 6), none, []⟩ :: ⟨.bin .eql (.t 5) (.t 6), (some 7), none, []⟩ :: L92_1
theorem v92_2 : VS L92_2.eq_1 := rfl
def L92_3 : List AStep := ⟨.faddr 0 (.t 2), (some 4), none, []⟩ :: ⟨.load 1 false (.t 4), (some 5), none, []⟩ :: L92_2
theorem v92_3 : VS L92_3.eq_1 := rfl
def C92_0 : ACode := .seq (.reg L92_3) .ret
theorem u92_0 : VC C92_0.eq_1 := rfl
def C92_1 : ACode := .seq (.reg L92_0) C92_0
theorem u92_1 : VC C92_1.eq_1 := rfl
def F92 : AFunc := ⟨8, [.tmp 3], C92_1⟩
theorem cF92 : compB Tryd.prog 92 = some F92 := by kernel_rfl
attribute [local go_sem ↓] u92_0 u92_1 v92_0 v92_1 v92_2 v92_3
theorem c_lookUp1 (r : RFunc) (a : Nat × Nat) (s : ByteArray) (h : H) (ha : loadO 1 false h (.one (.ptr (some a))) = some (.one (.str s))) : bm Tryd.prog 92 [.agg (encW r), .one (.ptr (some a))] h = some (ib (decide (r.name = s)), h) := by
  refine bm_eq cF92 ?_
  simp +contextual (maxSteps := 2000000) only [go_sem, Nat.reduceEqDiff, reduceCtorEq, Nat.reduceAdd, Nat.reduceLeDiff, F92, encW, ha]
/-! impl.lookUp -/
def L54_0 : List AStep := [⟨.box 9 (.t 1), (some 3), none, []⟩, ⟨.mov (.c (.int .i64 0)), (some 4), none, []⟩]
theorem v54_0 : VS L54_0.eq_1 := rfl
def L54_1 : List AStep := [⟨.call 91 [(.t 5), (.t 6)], (some 7), none, []⟩, ⟨.mov (.t 7), (some 4), none, []⟩]
theorem v54_1 : VS L54_1.eq_1 := rfl
def L54_2 : List AStep := ⟨.mov (.t 0), (some 5), none, []⟩ :: ⟨.mkfn 92 [(.t 3)], (some 6), none, []⟩ :: L54_1
theorem v54_2 : VS L54_2.eq_1 := rfl
def C54_0 : ACode := .seq (.reg L54_2) .ret
theorem u54_0 : VC C54_0.eq_1 := rfl
def C54_1 : ACode := .seq (.reg L54_0) C54_0
theorem u54_1 : VC C54_1.eq_1 := rfl
def F54 : AFunc := ⟨8, [.tmp 4], C54_1⟩
theorem cF54 : compB Tryd.prog 54 = some F54 := by kernel_rfl
attribute [local go_sem ↓] u54_0 u54_1 v54_0 v54_1 v54_2
theorem c_lookUp {ty t0 : Nat} (l : List Func) (v : CV) (rs : List RFunc) (s : ByteArray) (h : H) (y : RdW ty t0 h v rs l.length (getW l)) (hn : l.length ≤ 1048576) : bm Tryd.prog 54 [.one v, .one (.str s)] h = some (ii (idx (fun a => decide (a.name = s)) l), h) := by
  refine bm_eq cF54 ?_
  have e := c_indexW l v rs 92 [(h.n, 0)] (fun a => decide (a.name = s)) (h.alloc [.str s] 9) (y.grow (Grow.alloc _ _ _)) hn (fun i hi hr => by
    have ye := y.el i hr
    rw [getW_eq hi] at ye
    have en : rs[i].name = l[i].name := ye.name
    have e1 := c_lookUp1 rs[i] (h.n, 0) s (h.alloc [.str s] 9) (Box.new.one rfl)
    rw [en] at e1
    exact e1)
  simp +contextual (maxSteps := 2000000) only [go_sem, Nat.reduceEqDiff, reduceCtorEq, Nat.reduceAdd, Nat.reduceLeDiff, F54, e]
/-! impl.ValidTable -/
def L20_0 : List AStep := [⟨.mov (.c (.bool false)), (some 2), none, []⟩]
theorem v20_0 : VS L20_0.eq_1 := rfl
def L20_1 : List AStep := [⟨.mov (.c (.int .i64 0)), (some 7), none, []⟩]
theorem v20_1 : VS L20_1.eq_1 := rfl
def L20_2 : List AStep := ⟨.mov (.t 0), (some 5), none, []⟩ :: ⟨.len (.t 5), (some 6), none, []⟩ :: L20_1
theorem v20_2 : VS L20_2.eq_1 := rfl
def L20_3 : List AStep := [⟨.bin .lss (.t 7) (.t 6), (some 8), none, []⟩]
theorem v20_3 : VS L20_3.eq_1 := rfl
def L20_4 : List AStep := [⟨.mov (.t 9), (some 3), none, []⟩, ⟨.store 2 (.t 4) (.t 11), none, none, []⟩]
theorem v20_4 : VS L20_4.eq_1 := rfl
def L20_5 : List AStep := ⟨.load 2 true (.t 10), (some 11), none, []⟩ :: ⟨.alloc 48 [(.str (strOfNums [])), (.sl none 0 (some 0))], (some 4), none, []⟩ :: L20_4
theorem v20_5 : VS L20_5.eq_1 := rfl
def L20_6 : List AStep := ⟨.mov (.t 7), (some 9), none, []⟩ :: ⟨.iaddr 2 (.t 5) (.t 7), (some 10), none, []⟩ :: L20_5
theorem v20_6 : VS L20_6.eq_1 := rfl
def L20_7 : List AStep := [⟨.bin .geq (.t 21) (.c (.int .i64 0)), (some 22), (some (15, false)), []⟩, ⟨.pick (.t 15) (.c (.bool true)) (.t 22), (some 23), none, []⟩]
theorem v20_7 : VS L20_7.eq_1 := rfl
def L20_8 : List AStep := ⟨.load 1 false (.t 19), (some 20), (some (15, false)), []⟩ :: ⟨.call 54 [(.t 18), (.t 20)], (some 21), (some (15, false)), []⟩ :: L20_7
theorem v20_8 : VS L20_8.eq_1 := rfl
def L20_9 : List AStep := ⟨.slice 48 2 (.t 16) none (some (.t 17)) none, (some 18), (some (15, false)), []⟩ :: ⟨.faddr 0 (.t 4), (some 19), (some (15, false)), []⟩ :: L20_8
theorem v20_9 : VS L20_9.eq_1 := rfl
def L20_10 : List AStep := ⟨.mov (.t 0), (some 16), (some (15, false)), []⟩ :: ⟨.mov (.t 3), (some 17), (some (15, false)), []⟩ :: L20_9
theorem v20_10 : VS L20_10.eq_1 := rfl
def L20_11 : List AStep := ⟨.bin .eql (.t 13) (.c (.str (strOfNums []))), (some 14), none, []⟩ :: ⟨.mov (.t 14), (some 15), none, []⟩ :: L20_10
theorem v20_11 : VS L20_11.eq_1 := rfl
def L20_12 : List AStep := ⟨.load 2 true (.t 4), (some 12), none, []⟩ :: ⟨.call 22 [(.t 12)], (some 13), none, []⟩ :: L20_11
theorem v20_12 : VS L20_12.eq_1 := rfl
def L20_13 : List AStep := [⟨.mov (.c (.bool false)), (some 2), none, []⟩]
theorem v20_13 : VS L20_13.eq_1 := rfl
def L20_14 : List AStep := [⟨.bin .add (.t 7) (.c (.int .i64 1)), (some 24), none, []⟩, ⟨.mov (.t 24), (some 7), none, []⟩]
theorem v20_14 : VS L20_14.eq_1 := rfl
def L20_15 : List AStep := [⟨.bin .leq (.t 26) (.c (.int .i64 5)), (some 27), none, []⟩, ⟨.mov (.t 27), (some 2), none, []⟩]
theorem v20_15 : VS L20_15.eq_1 := rfl
def L20_16 : List AStep := ⟨.mov (.t 0), (some 25), none, []⟩ :: ⟨.len (.t 25), (some 26), none, []⟩ :: L20_15
theorem v20_16 : VS L20_16.eq_1 := rfl
def C20_0 : ACode := .cond (.t 8) .skip (.exit 0)
theorem u20_0 : VC C20_0.eq_1 := rfl
def C20_1 : ACode := .seq (.reg L20_13) .ret
theorem u20_1 : VC C20_1.eq_1 := rfl
def C20_2 : ACode := .cond (.t 23) C20_1 .skip
theorem u20_2 : VC C20_2.eq_1 := rfl
def C20_3 : ACode := .seq (.reg L20_12) C20_2
theorem u20_3 : VC C20_3.eq_1 := rfl
def C20_4 : ACode := .seq (.reg L20_6) C20_3
theorem u20_4 : VC C20_4.eq_1 := rfl
def C20_5 : ACode := .block 1 C20_4
theorem u20_5 : VC C20_5.eq_1 := rfl
def C20_6 : ACode := .seq C20_5 (.reg L20_14)
theorem u20_6 : VC C20_6.eq_1 := rfl
def C20_7 : ACode := .seq C20_0 C20_6
theorem u20_7 : VC C20_7.eq_1 := rfl
def C20_8 : ACode := .seq (.reg L20_3) C20_7
theorem u20_8 : VC C20_8.eq_1 := rfl
def C20_9 : ACode := .block 0 (.loop C20_8)
theorem u20_9 : VC C20_9.eq_1 := rfl
def C20_10 : ACode := .seq (.reg L20_2) C20_9
theorem u20_10 : VC C20_10.eq_1 := rfl
def C20_11 : ACode := .seq (.reg L20_16) .ret
theorem u20_11 : VC C20_11.eq_1 := rfl
def C20_12 : ACode := .seq C20_10 C20_11
theorem u20_12 : VC C20_12.eq_1 := rfl
def C20_13 : ACode := .seq (.reg L20_0) C20_12
theorem u20_13 : VC C20_13.eq_1 := rfl
def F20 : AFunc := ⟨28, [.tmp 2], C20_13⟩
theorem cF20 : compB Tryd.prog 20 = some F20 := by kernel_rfl
attribute [local go_sem ↓] u20_0 u20_1 u20_2 u20_3 u20_4 u20_5 u20_6 u20_7 u20_8 u20_9 u20_10 u20_11 u20_12 u20_13 v20_0 v20_1 v20_2 v20_3 v20_4 v20_5 v20_6 v20_7 v20_8 v20_9 v20_10 v20_11 v20_12 v20_13 v20_14 v20_15 v20_16
theorem k_iValidTable (l : List Func) (v : CV) (h : H) (hl : SlW h v l) (m : miniW l) : callK (bm Tryd.prog 20 [.one v] h) fun r h' => Grow h h' ∧ r = ib (okTab l) := by
  refine bm_of cF20 ?_
  obtain ⟨rs, y0⟩ := hl.ex
  have hn := m.len
  have yl : lenO (.one v) = some (ii l.length) := by rw [y0.out.len, y0.len]
  simp +contextual (maxSteps := 2000000) only [go_sem, Nat.reduceEqDiff, reduceCtorEq, Nat.reduceAdd, Nat.reduceLeDiff, F20, yl]
  refine wpC_loop (fun i T L h' => Grow h h' ∧ T 0 = .v (.one v) ∧ T 5 = .v (.one v) ∧ T 6 = .v (.one (.int .i64 l.length)) ∧ T 7 = .v (.one (.int .i64 i)) ∧ Upto (stepW l) i) l.length ?_ ?_ (Nat.zero_le _) ?_
  · rintro i T L h' hi ⟨gh, t0, t5, t6, t7, hu⟩
    have y := y0.grow gh
    have hr : i < rs.length := by rw [y.len]; exact hi
    have ye := y.el i hr
    rw [getW_eq hi] at ye
    have en : rs[i].name = l[i].name := ye.name
    have es := stepW_eq hi
    have et := k_iFuncText rs[i] l[i] h' ye (m.at hi)
    simp only [encW] at et
    have eno := funTx_none l[i]
    simp +contextual (maxSteps := 2000000) only [go_sem, Nat.reduceEqDiff, reduceCtorEq, Nat.reduceAdd, Nat.reduceLeDiff, t0, t5, t6, t7, lt_true hi, y.out.iaddr hr, y.out.whole hr, encW]
    refine wp_call et ?_
    rintro q h2 ⟨g2, rfl⟩
    cases b1 : okFu l[i] with
    | false =>
      rw [b1] at es eno
      have bad : okTab l = false := okTab_not hi es
      simp +contextual (maxSteps := 2000000) only [go_sem, Nat.reduceEqDiff, reduceCtorEq, Nat.reduceAdd, Nat.reduceLeDiff, t0, t5, t6, t7, eno, bad]
      first | exact gcK_of ⟨gh.trans g2, rfl⟩ (fun _ _ => ⟨Grow.refl h, rfl⟩) | exact gh.trans g2
    | true =>
      rw [b1, Bool.true_and] at es
      rw [b1] at eno
      have y2 := y.grow g2
      obtain ⟨c, ec, yt⟩ := y2.takeO (i := i) (by omega) (kd := .i64)
      have cf := c_lookUp (l.take i) c (rs.take i) l[i].name h2 yt (by rw [List.length_take]; omega)
      have ge : decide (idx (fun a : Func => decide (a.name = l[i].name)) (l.take i) ≥ 0) = !(newAt Func.name l i) := newAt_ge (f := Func.name) hi
      cases b2 : newAt Func.name l i with
      | false =>
        rw [b2] at es ge
        have bad : okTab l = false := okTab_not hi es
        simp +contextual (maxSteps := 2000000) only [go_sem, Nat.reduceEqDiff, reduceCtorEq, Nat.reduceAdd, Nat.reduceLeDiff, t0, t5, t6, t7, eno, en, ec, cf, ge, bad]
        first | exact gcK_of ⟨gh.trans g2, rfl⟩ (fun _ _ => ⟨Grow.refl h, rfl⟩) | exact gh.trans g2
      | true =>
        rw [b2] at es ge
        simp +contextual (maxSteps := 2000000) only [go_sem, Nat.reduceEqDiff, reduceCtorEq, Nat.reduceAdd, Nat.reduceLeDiff, t0, t5, t6, t7, eno, en, ec, cf, ge]
        exact ⟨gh.trans g2, by rw [wrap_next hi (by omega)], hu.next es⟩
  · rintro T L h' ⟨gh, t0, t5, t6, t7, hu⟩
    simp +contextual (maxSteps := 2000000) only [go_sem, Nat.reduceEqDiff, reduceCtorEq, Nat.reduceAdd, Nat.reduceLeDiff, t0, t5, t6, t7, yl, lt_false, okTab_of hu]
    first | exact gcK_of ⟨gh, rfl⟩ (fun _ _ => ⟨Grow.refl h, rfl⟩) | exact gh
  · simp +contextual (maxSteps := 2000000) only [go_sem, Nat.reduceEqDiff, reduceCtorEq, Nat.reduceAdd, Nat.reduceLeDiff]
    first | exact ⟨Grow.refl h, rfl, Upto.zero⟩ | exact ⟨Grow.refl h, Upto.zero⟩
end Go.Proofs.YtoeceafibmafpaaDoor.Am
