/- More kinds of the laws' arguments and answers. -/
import Derived.Test.YtdalgphpacikkaaGreatK
import Derived.Test.YtdalgphpacikkaaGreatL3
namespace Go.Proofs.YtdalgphpacikkaaGreat.Am
open Go
set_option maxRecDepth 100000
set_option maxHeartbeats 4000000
set_option linter.unusedSimpArgs false
set_option linter.unusedVariables false
attribute [local go_sem ↓] bv_t bv_c ev_t ev_c put_same put_ne put_none kill_at pro_at lb_same lb_ne start_zero start_succ wpC_seq wpC_reg wpC_cond wpC_block wpC_skip wpC_exit wpC_ret thenQ_normal thenQ_exit thenQ_ret inBlk_normal inBlk_exit inBlk_ret wpS_nil wpS_step wpS_again wpS_guard wpO_mov wpO_load wpO_faddr wpO_nilCheck wpO_pick wpO_build wpO_bin wpO_eqb wpO_eqst wpO_eqnil wpO_not wpO_conv wpO_bytesStr wpO_iaddr wpO_idxStr wpO_field wpO_extract wpO_len wpO_lenStr wpO_cap wpO_min wpO_slice wpO_sliceStr wpO_alloc wpO_box wpO_store wpO_call wpO_callv wpO_mkfn wpO_buildSlice wpO_mkslice wpO_append wpO_appz proA_nil proA_cons tmpX_nil tmpX_tmp tmpX_cell doneB_normal doneB_ret agK_cons agK_nil agK_guard agG_tt agG_ff agG_tf agG_ft agG_undef pureB_load results_one results_two results_nil resBs_cons resBs_nil resB_tmp resB_cell
attribute [local go_sem] kill_v kill_lp_ne kill_lp_same pro_v pro_lp_same pro_lp_ne av_v av_lp optB_some optX_some valX_eq ldX_lp ldX_v faX_lp faX_v ncX_lp ncX_ptr ncX_fn boxK_one boxK_agg stL_some stK_lp_one stK_lp_agg stK_v_one stK_v_agg proM_v proM_lp callG_mk callVG_mk callvK_fn fnG_mk ptrsA_nil ptrsA_cons callH_some whenA_true whenA_false guardH_tt guardH_ff guardH_tf guardH_ft guardH_undef agV_one agV_agg lenO_sl lenStrO_str notO_bool pickO_bool convO_int eqbO_bool eqnilO_sl extractO_tup capO_sl minO_int loadL_one loadL_all storeL_eq fillA_nil fillA_one fillA_agg nat_ge neg_ge nat_lt neg_lt buildO bin_add bin_sub bin_mul bin_eql bin_neq bin_lss bin_leq bin_gtr bin_geq str_eql str_neq str_lss str_leq str_gtr str_geq retK_some endK_mk gcK_same gcK_int gcK_bool tupO_one tupO_agg rdy_self ib ii Option.map_none Option.map_some Option.some.injEq exists_eq_left' exists_eq_left ne_eq not_false_eq_true if_true if_false List.map_cons List.map_nil List.getElem?_cons_zero List.getElem?_cons_succ List.length_cons List.length_nil List.take_succ_cons List.take_zero List.take_nil List.drop_succ_cons List.drop_zero List.drop_nil List.cons_append List.nil_append List.append_nil List.set_cons_zero List.set_cons_succ Nat.zero_add forall_const true_and and_true and_self Bool.false_eq_true false_implies true_implies implies_true Bool.not_true Bool.not_false Bool.not_eq_true' Bool.not_eq_false' beq_self_eq_true Bool.bne_true Bool.bne_false
attribute [local go_sem] lenI lenS lenP lenQ lenB lenL lenT encI_0 encS_0 encP_0 encP_1 encQ_0 encQ_1 encQ_2 encQ_3 encB_0 encB_1 encL_0 encL_1 encT_0 encT_1
attribute [local go_sem low] whenA_bool guardH_bool
structure NwZ (h0 h : H) (p : CV) (l : List ByteArray) : Prop where
  out : NwS h0 h (.one p) l
structure SlZ (h : H) (p : CV) (l : List ByteArray) : Prop where
  out : SlS h (.one p) l
theorem NwZ.grow {h0 h h1 : H} {p : CV} {l : List ByteArray} (a : NwZ h0 h p l) (g : Grow h h1) : NwZ h0 h1 p l := ⟨a.out.grow g⟩
theorem NwZ.from {h0 h h1 : H} {p : CV} {l : List ByteArray} (a : NwZ h1 h p l) (g : h0.n ≤ h1.n) : NwZ h0 h p l := ⟨a.out.from g⟩
theorem NwZ.mid {h0 h h2 : H} {p : CV} {l : List ByteArray} {a b : Nat} (x : NwZ h0 h p l) (m : Mid a b h h2) (hb : b ≤ h0.n) : NwZ h0 h2 p l := ⟨x.out.past m hb⟩
theorem NwZ.sl {h0 h : H} {p : CV} {l : List ByteArray} (a : NwZ h0 h p l) : SlZ h p l := ⟨a.out.sl lenS⟩
theorem SlZ.grow {h h1 : H} {p : CV} {l : List ByteArray} (a : SlZ h p l) (g : Grow h h1) : SlZ h1 p l := ⟨a.out.grow g⟩
structure miniZ (l : List ByteArray) : Prop where
  len : l.length ≤ 1048576
  nm : ∀ x ∈ l, x.size ≤ 1048576
def cellsZ (l : List ByteArray) : Nat := 1 * l.length
theorem cellsZ_le {l : List ByteArray} (h : miniZ l) : cellsZ l ≤ 4194304 := by
  have := h.len
  unfold cellsZ
  omega
def mkZ (k : Int) (l : List ByteArray) : List ByteArray := markL mkS 1 k l.length
structure NwJ (h0 h : H) (p : CV) (l : List Int) : Prop where
  out : NwI h0 h (.one p) l
structure SlJ (h : H) (p : CV) (l : List Int) : Prop where
  out : SlI h (.one p) l
theorem NwJ.grow {h0 h h1 : H} {p : CV} {l : List Int} (a : NwJ h0 h p l) (g : Grow h h1) : NwJ h0 h1 p l := ⟨a.out.grow g⟩
theorem NwJ.from {h0 h h1 : H} {p : CV} {l : List Int} (a : NwJ h1 h p l) (g : h0.n ≤ h1.n) : NwJ h0 h p l := ⟨a.out.from g⟩
theorem NwJ.mid {h0 h h2 : H} {p : CV} {l : List Int} {a b : Nat} (x : NwJ h0 h p l) (m : Mid a b h h2) (hb : b ≤ h0.n) : NwJ h0 h2 p l := ⟨x.out.past m hb⟩
theorem NwJ.sl {h0 h : H} {p : CV} {l : List Int} (a : NwJ h0 h p l) : SlJ h p l := ⟨a.out.sl lenI⟩
theorem SlJ.grow {h h1 : H} {p : CV} {l : List Int} (a : SlJ h p l) (g : Grow h h1) : SlJ h1 p l := ⟨a.out.grow g⟩
structure miniJ (l : List Int) : Prop where
  len : l.length ≤ 1048576
  nm : True
def cellsJ (l : List Int) : Nat := 1 * l.length
theorem cellsJ_le {l : List Int} (h : miniJ l) : cellsJ l ≤ 4194304 := by
  have := h.len
  unfold cellsJ
  omega
def mkJ (k : Int) (l : List Int) : List Int := markL mkI 1 k l.length
theorem k_eqJ (x y : List Int) (p q : CV) (h : H) (a : SlJ h p x) (b : SlJ h q y) (m : miniJ x) : bm Tryz.prog 30 [.one p, .one q] h = some (ib (decide (x = y)), h) := c_eqIntS x y _ _ h a.out b.out (Nat.le_trans m.len (by decide))
theorem k_markJ (x : List Int) (p : CV) (k : Int) (h0 hb h : H) {x0 : List Int} (a : NwJ h0 h p x) (b : NwJ h0 hb p x0) (g : Grow h0 h) (k1 : 0 ≤ k) (k2 : k ≤ 2 ^ 32) (m : miniJ x) :
    callK (bm Tryz.prog 33 [.one p, .one (.int .i64 k)] h) fun r h' => r = ii (k + (cellsJ x : Nat)) ∧ Grow h0 h' ∧ SlJ h' p (mkJ k x) ∧ Mid h0.n hb.n h h' := by
  obtain ⟨r, h1, e, e1, g1, n1, s1⟩ := c_markIntS x _ k h0 h a.out g k1 (by omega) (by have := m.len; omega)
  exact ⟨_, h1, e, e1, g1, ⟨n1.sl lenI⟩, b.out.mid s1⟩
theorem k_heldJ (x : List Int) (p : CV) (k : Int) (h : H) (a : SlJ h p (mkJ k x)) (k1 : 0 ≤ k) (k2 : k ≤ 2 ^ 32) (m : miniJ x) : bm Tryz.prog 51 [.one p, .one (.int .i64 k)] h = some (ii (k + (cellsJ x : Nat)), h) :=
  c_heldIntS x.length _ k h a.out k1 (by omega) (by have := m.len; omega)
structure NwO (h0 h : H) (p : CV) (l : List Problem) : Prop where
  out : NwB h0 h (.one p) l
structure SlO (h : H) (p : CV) (l : List Problem) : Prop where
  out : SlB h (.one p) l
theorem NwO.grow {h0 h h1 : H} {p : CV} {l : List Problem} (a : NwO h0 h p l) (g : Grow h h1) : NwO h0 h1 p l := ⟨a.out.grow g⟩
theorem NwO.from {h0 h h1 : H} {p : CV} {l : List Problem} (a : NwO h1 h p l) (g : h0.n ≤ h1.n) : NwO h0 h p l := ⟨a.out.from g⟩
theorem NwO.mid {h0 h h2 : H} {p : CV} {l : List Problem} {a b : Nat} (x : NwO h0 h p l) (m : Mid a b h h2) (hb : b ≤ h0.n) : NwO h0 h2 p l := ⟨x.out.past m hb⟩
theorem NwO.sl {h0 h : H} {p : CV} {l : List Problem} (a : NwO h0 h p l) : SlO h p l := ⟨a.out.sl lenB⟩
theorem SlO.grow {h h1 : H} {p : CV} {l : List Problem} (a : SlO h p l) (g : Grow h h1) : SlO h1 p l := ⟨a.out.grow g⟩
structure miniO (l : List Problem) : Prop where
  len : l.length ≤ 1048576
  nm : ∀ x ∈ l, x.name.size ≤ 1048576
def cellsO (l : List Problem) : Nat := 2 * l.length
theorem cellsO_le {l : List Problem} (h : miniO l) : cellsO l ≤ 4194304 := by
  have := h.len
  unfold cellsO
  omega
def mkO (k : Int) (l : List Problem) : List Problem := markL mkB 2 k l.length
structure Part where
  sig : List Param
  flat : Flat
  deriving DecidableEq
structure NwD (h0 h : H) (q p n : CV) (x : Part) : Prop where
  g : NwG h0 h q x.sig
  f : NwF h0 h p n x.flat
  s1 : Sep (.one q) (.one p)
  s2 : Sep (.one q) (.one n)
structure SlD (h : H) (q p n : CV) (x : Part) : Prop where
  g : SlG h q x.sig
  f : SlF h p n x.flat
theorem NwD.grow {h0 h h1 : H} {q p n : CV} {x : Part} (a : NwD h0 h q p n x) (g : Grow h h1) : NwD h0 h1 q p n x := ⟨a.g.grow g, a.f.grow g, a.s1, a.s2⟩
theorem NwD.from {h0 h h1 : H} {q p n : CV} {x : Part} (a : NwD h1 h q p n x) (g : h0.n ≤ h1.n) : NwD h0 h q p n x := ⟨a.g.from g, a.f.from g, a.s1, a.s2⟩
theorem NwD.mid {h0 h h2 : H} {q p n : CV} {x : Part} {a b : Nat} (y : NwD h0 h q p n x) (m : Mid a b h h2) (hb : b ≤ h0.n) : NwD h0 h2 q p n x := ⟨y.g.mid m hb, y.f.mid m hb, y.s1, y.s2⟩
theorem NwD.sl {h0 h : H} {q p n : CV} {x : Part} (a : NwD h0 h q p n x) : SlD h q p n x := ⟨a.g.sl, a.f.sl⟩
theorem SlD.grow {h h1 : H} {q p n : CV} {x : Part} (a : SlD h q p n x) (g : Grow h h1) : SlD h1 q p n x := ⟨a.g.grow g, a.f.grow g⟩
theorem NwD.nil {h0 h : H} : NwD h0 h (.sl none 0 (some 0)) (.sl none 0 (some 0)) (.sl none 0 (some 0)) ⟨[], ⟨[], []⟩⟩ := ⟨.nil, .nil, Sep.nil, Sep.nil⟩
theorem NwD.scalar {h0 h : H} {q p n : CV} {x : Part} (a : NwD h0 h q p n x) (hs : (AV.agg [q, p, n]).scalar = true) (h2 : H) : NwD h0 h2 q p n x := by
  simp [AV.scalar] at hs
  exact ⟨a.g.scalar hs.1 h2, a.f.scalar (by simp [AV.scalar, hs.2]) h2, a.s1, a.s2⟩
def wtD (x : Part) : Nat := wtG x.sig + wtF x.flat
def cellsD (x : Part) : Nat := cellsG x.sig + cellsF x.flat
structure miniD (x : Part) : Prop where
  g : miniG x.sig
  f : miniF x.flat
theorem wtD_sm {x : Part} (h : wtD x ≤ 1048576) : miniD x := by
  unfold wtD at h
  exact ⟨wtG_sm (by omega), wtF_sm (by omega)⟩
theorem cellsD_le {x : Part} (h : miniD x) : cellsD x ≤ 8388608 := by
  have := cellsG_le h.g
  have := cellsF_le h.f
  unfold cellsD
  omega
def mkD (k : Int) (x : Part) : Part := ⟨mkG k x.sig, mkF (k + (cellsG x.sig : Nat)) x.flat⟩
/-! laws.eqPartial -/
def L10_0 : List AStep := [⟨.mov (.c (.bool false)), (some 4), none, []⟩]
theorem v10_0 : VS L10_0.eq_1 := rfl
def L10_1 : List AStep := ⟨.box 38 (.t 0), (some 2), none, []⟩ :: ⟨.box 38 (.t 1), (some 3), none, []⟩ :: L10_0
theorem v10_1 : VS L10_1.eq_1 := rfl
def L10_2 : List AStep := [⟨.call 11 [(.t 6), (.t 8)], (some 9), none, []⟩, ⟨.not (.t 9), (some 10), none, []⟩]
theorem v10_2 : VS L10_2.eq_1 := rfl
def L10_3 : List AStep := ⟨.faddr 0 (.t 3), (some 7), none, []⟩ :: ⟨.load 1 true (.t 7), (some 8), none, []⟩ :: L10_2
theorem v10_3 : VS L10_3.eq_1 := rfl
def L10_4 : List AStep := ⟨.faddr 0 (.t 2), (some 5), none, []⟩ :: ⟨.load 1 true (.t 5), (some 6), none, []⟩ :: L10_3
theorem v10_4 : VS L10_4.eq_1 := rfl
def L10_5 : List AStep := [⟨.mov (.c (.bool false)), (some 4), none, []⟩]
theorem v10_5 : VS L10_5.eq_1 := rfl
def L10_6 : List AStep := [⟨.call 12 [(.t 12), (.t 14)], (some 15), none, []⟩, ⟨.not (.t 15), (some 16), none, []⟩]
theorem v10_6 : VS L10_6.eq_1 := rfl
def L10_7 : List AStep := ⟨.faddr 1 (.t 3), (some 13), none, []⟩ :: ⟨.load 2 true (.t 13), (some 14), none, []⟩ :: L10_6
theorem v10_7 : VS L10_7.eq_1 := rfl
def L10_8 : List AStep := ⟨.faddr 1 (.t 2), (some 11), none, []⟩ :: ⟨.load 2 true (.t 11), (some 12), none, []⟩ :: L10_7
theorem v10_8 : VS L10_8.eq_1 := rfl
def L10_9 : List AStep := [⟨.mov (.c (.bool false)), (some 4), none, []⟩]
theorem v10_9 : VS L10_9.eq_1 := rfl
def L10_10 : List AStep := [⟨.mov (.c (.bool true)), (some 4), none, []⟩]
theorem v10_10 : VS L10_10.eq_1 := rfl
def C10_0 : ACode := .seq (.reg L10_5) .ret
theorem u10_0 : VC C10_0.eq_1 := rfl
def C10_1 : ACode := .cond (.t 10) C10_0 .skip
theorem u10_1 : VC C10_1.eq_1 := rfl
def C10_2 : ACode := .seq (.reg L10_4) C10_1
theorem u10_2 : VC C10_2.eq_1 := rfl
def C10_3 : ACode := .seq (.reg L10_9) .ret
theorem u10_3 : VC C10_3.eq_1 := rfl
def C10_4 : ACode := .cond (.t 16) C10_3 .skip
theorem u10_4 : VC C10_4.eq_1 := rfl
def C10_5 : ACode := .seq (.reg L10_8) C10_4
theorem u10_5 : VC C10_5.eq_1 := rfl
def C10_6 : ACode := .seq (.reg L10_10) .ret
theorem u10_6 : VC C10_6.eq_1 := rfl
def C10_7 : ACode := .seq C10_5 C10_6
theorem u10_7 : VC C10_7.eq_1 := rfl
def C10_8 : ACode := .seq C10_2 C10_7
theorem u10_8 : VC C10_8.eq_1 := rfl
def C10_9 : ACode := .seq (.reg L10_1) C10_8
theorem u10_9 : VC C10_9.eq_1 := rfl
def F10 : AFunc := ⟨17, [.tmp 4], C10_9⟩
theorem cF10 : compB Tryz.prog 10 = some F10 := by kernel_rfl
attribute [local go_sem ↓] u10_0 u10_1 u10_2 u10_3 u10_4 u10_5 u10_6 u10_7 u10_8 u10_9 v10_0 v10_1 v10_2 v10_3 v10_4 v10_5 v10_6 v10_7 v10_8 v10_9 v10_10
theorem k_eqD (x y : Part) (q p n q2 p2 n2 : CV) (h : H) (a : SlD h q p n x) (b : SlD h q2 p2 n2 y) (m : miniD x) : bm Tryz.prog 10 [.agg [q, p, n], .agg [q2, p2, n2]] h = some (ib (decide (x = y)), h) := by
  refine bm_eq cF10 ?_
  have e1 := k_eqG x.sig y.sig q q2 h a.g b.g m.g
  have e2 := k_eqF x.flat y.flat p n p2 n2 h a.f b.f m.f
  have e3 : decide (x = y) = (decide (x.sig = y.sig) && decide (x.flat = y.flat)) := by
    obtain ⟨x1, x2⟩ := x
    obtain ⟨y1, y2⟩ := y
    rw [Bool.eq_iff_iff]
    simp
  rw [e3]
  cases b1 : decide (x.sig = y.sig) with
  | false =>
    rw [b1] at e1
    simp +contextual (maxSteps := 2000000) only [go_sem, Nat.reduceEqDiff, reduceCtorEq, Nat.reduceAdd, Nat.reduceLeDiff, F10, loadL_agg, e1, Bool.false_and]
  | true =>
    rw [b1] at e1
    cases b2 : decide (x.flat = y.flat) with
    | false =>
      rw [b2] at e2
      simp +contextual (maxSteps := 2000000) only [go_sem, Nat.reduceEqDiff, reduceCtorEq, Nat.reduceAdd, Nat.reduceLeDiff, F10, loadL_agg, e1, e2, Bool.true_and]
    | true =>
      rw [b2] at e2
      simp +contextual (maxSteps := 2000000) only [go_sem, Nat.reduceEqDiff, reduceCtorEq, Nat.reduceAdd, Nat.reduceLeDiff, F10, loadL_agg, e1, e2, Bool.true_and]
/-! laws.markPartial -/
def L15_0 : List AStep := [⟨.box 38 (.t 0), (some 2), none, []⟩, ⟨.mov (.c (.int .i64 0)), (some 4), none, []⟩]
theorem v15_0 : VS L15_0.eq_1 := rfl
def L15_1 : List AStep := [⟨.mov (.t 8), (some 1), none, []⟩]
theorem v15_1 : VS L15_1.eq_1 := rfl
def L15_2 : List AStep := ⟨.mov (.t 1), (some 7), none, []⟩ :: ⟨.call 13 [(.t 6), (.t 7)], (some 8), none, []⟩ :: L15_1
theorem v15_2 : VS L15_2.eq_1 := rfl
def L15_3 : List AStep := ⟨.faddr 0 (.t 2), (some 5), none, []⟩ :: ⟨.load 1 true (.t 5), (some 6), none, []⟩ :: L15_2
theorem v15_3 : VS L15_3.eq_1 := rfl
def L15_4 : List AStep := [⟨.mov (.t 12), (some 1), none, []⟩]
theorem v15_4 : VS L15_4.eq_1 := rfl
def L15_5 : List AStep := ⟨.mov (.t 1), (some 11), none, []⟩ :: ⟨.call 14 [(.t 10), (.t 11)], (some 12), none, []⟩ :: L15_4
theorem v15_5 : VS L15_5.eq_1 := rfl
def L15_6 : List AStep := ⟨.faddr 1 (.t 2), (some 9), none, []⟩ :: ⟨.load 2 true (.t 9), (some 10), none, []⟩ :: L15_5
theorem v15_6 : VS L15_6.eq_1 := rfl
def L15_7 : List AStep := [⟨.mov (.t 1), (some 13), none, []⟩, ⟨.mov (.t 13), (some 4), none, []⟩]
theorem v15_7 : VS L15_7.eq_1 := rfl
def C15_0 : ACode := .seq (.reg L15_7) .ret
theorem u15_0 : VC C15_0.eq_1 := rfl
def C15_1 : ACode := .seq (.reg L15_6) C15_0
theorem u15_1 : VC C15_1.eq_1 := rfl
def C15_2 : ACode := .seq (.reg L15_3) C15_1
theorem u15_2 : VC C15_2.eq_1 := rfl
def C15_3 : ACode := .seq (.reg L15_0) C15_2
theorem u15_3 : VC C15_3.eq_1 := rfl
def F15 : AFunc := ⟨14, [.tmp 4], C15_3⟩
theorem cF15 : compB Tryz.prog 15 = some F15 := by kernel_rfl
attribute [local go_sem ↓] u15_0 u15_1 u15_2 u15_3 v15_0 v15_1 v15_2 v15_3 v15_4 v15_5 v15_6 v15_7
theorem k_markD (x : Part) (q p n : CV) (k : Int) (h0 hb h : H) {x0 : Part} (a : NwD h0 h q p n x) (b : NwD h0 hb q p n x0) (g : Grow h0 h) (k1 : 0 ≤ k) (k2 : k ≤ 2 ^ 31) (m : miniD x) :
    callK (bm Tryz.prog 15 [.agg [q, p, n], .one (.int .i64 k)] h) fun r h' => r = ii (k + (cellsD x : Nat)) ∧ Grow h0 h' ∧ SlD h' q p n (mkD k x) ∧ Mid h0.n hb.n h h' := by
  refine bm_of cF15 ?_
  have c1 := cellsG_le m.g
  simp +contextual (maxSteps := 2000000) only [go_sem, Nat.reduceEqDiff, reduceCtorEq, Nat.reduceAdd, Nat.reduceLeDiff, F15, loadL_agg]
  refine wp_call (c_mark1G x.sig q k h0 h a.g.out g k1 (by omega) m.g) ?_
  rintro r h1 ⟨rfl, g1, n1, st⟩
  simp +contextual (maxSteps := 2000000) only [go_sem, Nat.reduceEqDiff, reduceCtorEq, Nat.reduceAdd, Nat.reduceLeDiff, loadL_agg]
  have f1 : NwF h0 h1 p n x.flat := ⟨a.f.pl.stay st a.s1.symm, a.f.nl.stay st a.s2.symm, a.f.sep⟩
  refine wp_call (c_markzFlat x.flat p n (k + (cellsG x.sig : Nat)) h0 hb h1 f1 b.f g1 (by omega) (by omega) m.f.pl m.f.nl) ?_
  rintro r h2 ⟨rfl, g2, n2, M2, h3, sa, sb⟩
  have e : k + (cellsG x.sig : Nat) + (cellsF x.flat : Nat) = k + (cellsD x : Nat) := by unfold cellsD; omega
  simp +contextual (maxSteps := 2000000) only [go_sem, Nat.reduceEqDiff, reduceCtorEq, Nat.reduceAdd, Nat.reduceLeDiff, e]
  have n1' := (n1.stay sa a.s1).stay sb a.s2
  exact gcK_of ⟨rfl, g2, ⟨⟨n1'.sl lenQ⟩, n2.sl⟩, (b.g.out.mid st).trans M2⟩ (fun _ gg => ⟨rfl, g, ⟨⟨(n1'.back a.g.out gg).sl lenQ⟩, ⟨(n2.pl.back a.f.pl gg).sl lenI, (n2.nl.back a.f.nl gg).sl lenP⟩⟩, (Grow.refl h).mid⟩)
/-! laws.heldPartial -/
def L16_0 : List AStep := [⟨.box 38 (.t 0), (some 2), none, []⟩, ⟨.mov (.c (.int .i64 0)), (some 4), none, []⟩]
theorem v16_0 : VS L16_0.eq_1 := rfl
def L16_1 : List AStep := [⟨.mov (.t 8), (some 1), none, []⟩]
theorem v16_1 : VS L16_1.eq_1 := rfl
def L16_2 : List AStep := ⟨.mov (.t 1), (some 7), none, []⟩ :: ⟨.call 35 [(.t 6), (.t 7)], (some 8), none, []⟩ :: L16_1
theorem v16_2 : VS L16_2.eq_1 := rfl
def L16_3 : List AStep := ⟨.faddr 0 (.t 2), (some 5), none, []⟩ :: ⟨.load 1 true (.t 5), (some 6), none, []⟩ :: L16_2
theorem v16_3 : VS L16_3.eq_1 := rfl
def L16_4 : List AStep := [⟨.mov (.t 1), (some 9), none, []⟩, ⟨.bin .lss (.t 9) (.c (.int .i64 0)), (some 10), none, []⟩]
theorem v16_4 : VS L16_4.eq_1 := rfl
def L16_5 : List AStep := [⟨.mov (.c (.int .i64 (-1))), (some 4), none, []⟩]
theorem v16_5 : VS L16_5.eq_1 := rfl
def L16_6 : List AStep := [⟨.mov (.t 14), (some 1), none, []⟩]
theorem v16_6 : VS L16_6.eq_1 := rfl
def L16_7 : List AStep := ⟨.mov (.t 1), (some 13), none, []⟩ :: ⟨.call 36 [(.t 12), (.t 13)], (some 14), none, []⟩ :: L16_6
theorem v16_7 : VS L16_7.eq_1 := rfl
def L16_8 : List AStep := ⟨.faddr 1 (.t 2), (some 11), none, []⟩ :: ⟨.load 2 true (.t 11), (some 12), none, []⟩ :: L16_7
theorem v16_8 : VS L16_8.eq_1 := rfl
def L16_9 : List AStep := [⟨.mov (.t 1), (some 15), none, []⟩, ⟨.bin .lss (.t 15) (.c (.int .i64 0)), (some 16), none, []⟩]
theorem v16_9 : VS L16_9.eq_1 := rfl
def L16_10 : List AStep := [⟨.mov (.c (.int .i64 (-1))), (some 4), none, []⟩]
theorem v16_10 : VS L16_10.eq_1 := rfl
def L16_11 : List AStep := [⟨.mov (.t 1), (some 17), none, []⟩, ⟨.mov (.t 17), (some 4), none, []⟩]
theorem v16_11 : VS L16_11.eq_1 := rfl
def C16_0 : ACode := .seq (.reg L16_5) .ret
theorem u16_0 : VC C16_0.eq_1 := rfl
def C16_1 : ACode := .cond (.t 10) C16_0 .skip
theorem u16_1 : VC C16_1.eq_1 := rfl
def C16_2 : ACode := .seq (.reg L16_4) C16_1
theorem u16_2 : VC C16_2.eq_1 := rfl
def C16_3 : ACode := .seq (.reg L16_10) .ret
theorem u16_3 : VC C16_3.eq_1 := rfl
def C16_4 : ACode := .cond (.t 16) C16_3 .skip
theorem u16_4 : VC C16_4.eq_1 := rfl
def C16_5 : ACode := .seq (.reg L16_9) C16_4
theorem u16_5 : VC C16_5.eq_1 := rfl
def C16_6 : ACode := .seq (.reg L16_11) .ret
theorem u16_6 : VC C16_6.eq_1 := rfl
def C16_7 : ACode := .seq C16_5 C16_6
theorem u16_7 : VC C16_7.eq_1 := rfl
def C16_8 : ACode := .seq (.reg L16_8) C16_7
theorem u16_8 : VC C16_8.eq_1 := rfl
def C16_9 : ACode := .seq C16_2 C16_8
theorem u16_9 : VC C16_9.eq_1 := rfl
def C16_10 : ACode := .seq (.reg L16_3) C16_9
theorem u16_10 : VC C16_10.eq_1 := rfl
def C16_11 : ACode := .seq (.reg L16_0) C16_10
theorem u16_11 : VC C16_11.eq_1 := rfl
def F16 : AFunc := ⟨18, [.tmp 4], C16_11⟩
theorem cF16 : compB Tryz.prog 16 = some F16 := by kernel_rfl
attribute [local go_sem ↓] u16_0 u16_1 u16_2 u16_3 u16_4 u16_5 u16_6 u16_7 u16_8 u16_9 u16_10 u16_11 v16_0 v16_1 v16_2 v16_3 v16_4 v16_5 v16_6 v16_7 v16_8 v16_9 v16_10 v16_11
theorem k_heldD (x : Part) (q p n : CV) (k : Int) (h : H) (a : SlD h q p n (mkD k x)) (k1 : 0 ≤ k) (k2 : k ≤ 2 ^ 31) (m : miniD x) : bm Tryz.prog 16 [.agg [q, p, n], .one (.int .i64 k)] h = some (ii (k + (cellsD x : Nat)), h) := by
  refine bm_eq cF16 ?_
  have c1 := cellsG_le m.g
  have e1 := k_heldG x.sig q k h a.g k1 (by omega) m.g
  have e2 := k_heldF x.flat p n (k + (cellsG x.sig : Nat)) h a.f (by omega) (by omega) m.f
  have e3 : k + (cellsG x.sig : Nat) + (cellsF x.flat : Nat) = k + (cellsD x : Nat) := by unfold cellsD; omega
  rw [e3] at e2
  simp +contextual (maxSteps := 2000000) only [go_sem, Nat.reduceEqDiff, reduceCtorEq, Nat.reduceAdd, Nat.reduceLeDiff, F16, loadL_agg, e1, e2, decide_eq_false (show ¬ (k + (cellsG x.sig : Nat) < 0) by omega), decide_eq_false (show ¬ (k + (cellsD x : Nat) < 0) by omega)]
end Go.Proofs.YtdalgphpacikkaaGreat.Am
