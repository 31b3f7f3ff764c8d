/- More kinds of the laws' arguments and answers. -/
import Derived.Test.YtdalgphpacikkabK
import Derived.Test.YtdalgphpacikkabL3
namespace Go.Proofs.Ytdalgphpacikkab.Am
open Go
set_option maxRecDepth 100000
set_option maxHeartbeats 4000000
set_option linter.unusedSimpArgs false
set_option linter.unusedVariables false
attribute [local go_sem ↓] bv_t bv_c ev_t ev_c put_same put_ne put_none kill_at pro_at lb_same lb_ne start_zero start_succ wpC_seq wpC_reg wpC_cond wpC_block wpC_skip wpC_exit wpC_ret thenQ_normal thenQ_exit thenQ_ret inBlk_normal inBlk_exit inBlk_ret wpS_nil wpS_step wpS_again wpS_guard wpO_mov wpO_load wpO_faddr wpO_nilCheck wpO_pick wpO_build wpO_bin wpO_eqb wpO_eqst wpO_eqnil wpO_not wpO_conv wpO_bytesStr wpO_iaddr wpO_idxStr wpO_field wpO_extract wpO_len wpO_lenStr wpO_cap wpO_min wpO_slice wpO_sliceStr wpO_alloc wpO_box wpO_store wpO_call wpO_callv wpO_mkfn wpO_buildSlice wpO_mkslice wpO_append wpO_appz proA_nil proA_cons tmpX_nil tmpX_tmp tmpX_cell doneB_normal doneB_ret agK_cons agK_nil agK_guard agG_tt agG_ff agG_tf agG_ft agG_undef pureB_load results_one results_two results_nil resBs_cons resBs_nil resB_tmp resB_cell
attribute [local go_sem] kill_v kill_lp_ne kill_lp_same pro_v pro_lp_same pro_lp_ne av_v av_lp optB_some optX_some valX_eq ldX_lp ldX_v faX_lp faX_v ncX_lp ncX_ptr ncX_fn boxK_one boxK_agg stL_some stK_lp_one stK_lp_agg stK_v_one stK_v_agg proM_v proM_lp callG_mk callVG_mk callvK_fn fnG_mk ptrsA_nil ptrsA_cons callH_some whenA_true whenA_false guardH_tt guardH_ff guardH_tf guardH_ft guardH_undef agV_one agV_agg lenO_sl lenStrO_str notO_bool pickO_bool convO_int eqbO_bool eqnilO_sl extractO_tup capO_sl minO_int loadL_one loadL_all storeL_eq fillA_nil fillA_one fillA_agg nat_ge neg_ge nat_lt neg_lt buildO bin_add bin_sub bin_mul bin_eql bin_neq bin_lss bin_leq bin_gtr bin_geq str_eql str_neq str_lss str_leq str_gtr str_geq retK_some endK_mk gcK_same gcK_int gcK_bool tupO_one tupO_agg rdy_self ib ii Option.map_none Option.map_some Option.some.injEq exists_eq_left' exists_eq_left ne_eq not_false_eq_true if_true if_false List.map_cons List.map_nil List.getElem?_cons_zero List.getElem?_cons_succ List.length_cons List.length_nil List.take_succ_cons List.take_zero List.take_nil List.drop_succ_cons List.drop_zero List.drop_nil List.cons_append List.nil_append List.append_nil List.set_cons_zero List.set_cons_succ Nat.zero_add forall_const true_and and_true and_self Bool.false_eq_true false_implies true_implies implies_true Bool.not_true Bool.not_false Bool.not_eq_true' Bool.not_eq_false' beq_self_eq_true Bool.bne_true Bool.bne_false
attribute [local go_sem] lenI lenS lenP lenQ lenB lenL lenT encI_0 encS_0 encP_0 encP_1 encQ_0 encQ_1 encQ_2 encQ_3 encB_0 encB_1 encL_0 encL_1 encT_0 encT_1
attribute [local go_sem low] whenA_bool guardH_bool
structure NwZ (h0 h : H) (p : CV) (l : List ByteArray) : Prop where
  out : NwS h0 h (.one p) l
structure SlZ (h : H) (p : CV) (l : List ByteArray) : Prop where
  out : SlS h (.one p) l
theorem NwZ.grow {h0 h h1 : H} {p : CV} {l : List ByteArray} (a : NwZ h0 h p l) (g : Grow h h1) : NwZ h0 h1 p l := ⟨a.out.grow g⟩
theorem NwZ.from {h0 h h1 : H} {p : CV} {l : List ByteArray} (a : NwZ h1 h p l) (g : h0.n ≤ h1.n) : NwZ h0 h p l := ⟨a.out.from g⟩
theorem NwZ.mid {h0 h h2 : H} {p : CV} {l : List ByteArray} {a b : Nat} (x : NwZ h0 h p l) (m : Mid a b h h2) (hb : b ≤ h0.n) : NwZ h0 h2 p l := ⟨x.out.past m hb⟩
theorem NwZ.sl {h0 h : H} {p : CV} {l : List ByteArray} (a : NwZ h0 h p l) : SlZ h p l := ⟨a.out.sl lenS⟩
theorem SlZ.grow {h h1 : H} {p : CV} {l : List ByteArray} (a : SlZ h p l) (g : Grow h h1) : SlZ h1 p l := ⟨a.out.grow g⟩
structure miniZ (l : List ByteArray) : Prop where
  len : l.length ≤ 1048576
  nm : ∀ x ∈ l, x.size ≤ 1048576
def cellsZ (l : List ByteArray) : Nat := 1 * l.length
theorem cellsZ_le {l : List ByteArray} (h : miniZ l) : cellsZ l ≤ 4194304 := by
  have := h.len
  unfold cellsZ
  omega
def mkZ (k : Int) (l : List ByteArray) : List ByteArray := markL mkS 1 k l.length
theorem k_eqZ (x y : List ByteArray) (p q : CV) (h : H) (a : SlZ h p x) (b : SlZ h q y) (m : miniZ x) : bm Try.prog 13 [.one p, .one q] h = some (ib (decide (x = y)), h) := c_eqStringS x y _ _ h a.out b.out (Nat.le_trans m.len (by decide))
theorem k_markZ (x : List ByteArray) (p : CV) (k : Int) (h0 hb h : H) {x0 : List ByteArray} (a : NwZ h0 h p x) (b : NwZ h0 hb p x0) (g : Grow h0 h) (k1 : 0 ≤ k) (k2 : k ≤ 2 ^ 32) (m : miniZ x) :
    callK (bm Try.prog 16 [.one p, .one (.int .i64 k)] h) fun r h' => r = ii (k + (cellsZ x : Nat)) ∧ Grow h0 h' ∧ SlZ h' p (mkZ k x) ∧ Mid h0.n hb.n h h' := by
  obtain ⟨r, h1, e, e1, g1, n1, s1⟩ := c_markStringS x _ k h0 h a.out g k1 (by omega) (by have := m.len; omega)
  exact ⟨_, h1, e, e1, g1, ⟨n1.sl lenS⟩, b.out.mid s1⟩
theorem k_heldZ (x : List ByteArray) (p : CV) (k : Int) (h : H) (a : SlZ h p (mkZ k x)) (k1 : 0 ≤ k) (k2 : k ≤ 2 ^ 32) (m : miniZ x) : bm Try.prog 17 [.one p, .one (.int .i64 k)] h = some (ii (k + (cellsZ x : Nat)), h) :=
  c_heldStringS x.length _ k h a.out k1 (by omega) (by have := m.len; omega)
structure NwJ (h0 h : H) (p : CV) (l : List Int) : Prop where
  out : NwI h0 h (.one p) l
structure SlJ (h : H) (p : CV) (l : List Int) : Prop where
  out : SlI h (.one p) l
theorem NwJ.grow {h0 h h1 : H} {p : CV} {l : List Int} (a : NwJ h0 h p l) (g : Grow h h1) : NwJ h0 h1 p l := ⟨a.out.grow g⟩
theorem NwJ.from {h0 h h1 : H} {p : CV} {l : List Int} (a : NwJ h1 h p l) (g : h0.n ≤ h1.n) : NwJ h0 h p l := ⟨a.out.from g⟩
theorem NwJ.mid {h0 h h2 : H} {p : CV} {l : List Int} {a b : Nat} (x : NwJ h0 h p l) (m : Mid a b h h2) (hb : b ≤ h0.n) : NwJ h0 h2 p l := ⟨x.out.past m hb⟩
theorem NwJ.sl {h0 h : H} {p : CV} {l : List Int} (a : NwJ h0 h p l) : SlJ h p l := ⟨a.out.sl lenI⟩
theorem SlJ.grow {h h1 : H} {p : CV} {l : List Int} (a : SlJ h p l) (g : Grow h h1) : SlJ h1 p l := ⟨a.out.grow g⟩
structure miniJ (l : List Int) : Prop where
  len : l.length ≤ 1048576
  nm : True
def cellsJ (l : List Int) : Nat := 1 * l.length
theorem cellsJ_le {l : List Int} (h : miniJ l) : cellsJ l ≤ 4194304 := by
  have := h.len
  unfold cellsJ
  omega
def mkJ (k : Int) (l : List Int) : List Int := markL mkI 1 k l.length
theorem k_eqJ (x y : List Int) (p q : CV) (h : H) (a : SlJ h p x) (b : SlJ h q y) (m : miniJ x) : bm Try.prog 37 [.one p, .one q] h = some (ib (decide (x = y)), h) := c_eqIntS x y _ _ h a.out b.out (Nat.le_trans m.len (by decide))
theorem k_markJ (x : List Int) (p : CV) (k : Int) (h0 hb h : H) {x0 : List Int} (a : NwJ h0 h p x) (b : NwJ h0 hb p x0) (g : Grow h0 h) (k1 : 0 ≤ k) (k2 : k ≤ 2 ^ 32) (m : miniJ x) :
    callK (bm Try.prog 40 [.one p, .one (.int .i64 k)] h) fun r h' => r = ii (k + (cellsJ x : Nat)) ∧ Grow h0 h' ∧ SlJ h' p (mkJ k x) ∧ Mid h0.n hb.n h h' := by
  obtain ⟨r, h1, e, e1, g1, n1, s1⟩ := c_markIntS x _ k h0 h a.out g k1 (by omega) (by have := m.len; omega)
  exact ⟨_, h1, e, e1, g1, ⟨n1.sl lenI⟩, b.out.mid s1⟩
theorem k_heldJ (x : List Int) (p : CV) (k : Int) (h : H) (a : SlJ h p (mkJ k x)) (k1 : 0 ≤ k) (k2 : k ≤ 2 ^ 32) (m : miniJ x) : bm Try.prog 41 [.one p, .one (.int .i64 k)] h = some (ii (k + (cellsJ x : Nat)), h) :=
  c_heldIntS x.length _ k h a.out k1 (by omega) (by have := m.len; omega)
structure NwO (h0 h : H) (p : CV) (l : List Problem) : Prop where
  out : NwB h0 h (.one p) l
structure SlO (h : H) (p : CV) (l : List Problem) : Prop where
  out : SlB h (.one p) l
theorem NwO.grow {h0 h h1 : H} {p : CV} {l : List Problem} (a : NwO h0 h p l) (g : Grow h h1) : NwO h0 h1 p l := ⟨a.out.grow g⟩
theorem NwO.from {h0 h h1 : H} {p : CV} {l : List Problem} (a : NwO h1 h p l) (g : h0.n ≤ h1.n) : NwO h0 h p l := ⟨a.out.from g⟩
theorem NwO.mid {h0 h h2 : H} {p : CV} {l : List Problem} {a b : Nat} (x : NwO h0 h p l) (m : Mid a b h h2) (hb : b ≤ h0.n) : NwO h0 h2 p l := ⟨x.out.past m hb⟩
theorem NwO.sl {h0 h : H} {p : CV} {l : List Problem} (a : NwO h0 h p l) : SlO h p l := ⟨a.out.sl lenB⟩
theorem SlO.grow {h h1 : H} {p : CV} {l : List Problem} (a : SlO h p l) (g : Grow h h1) : SlO h1 p l := ⟨a.out.grow g⟩
structure miniO (l : List Problem) : Prop where
  len : l.length ≤ 1048576
  nm : ∀ x ∈ l, x.name.size ≤ 1048576
def cellsO (l : List Problem) : Nat := 2 * l.length
theorem cellsO_le {l : List Problem} (h : miniO l) : cellsO l ≤ 4194304 := by
  have := h.len
  unfold cellsO
  omega
def mkO (k : Int) (l : List Problem) : List Problem := markL mkB 2 k l.length
structure Part where
  sig : List Param
  flat : Flat
  deriving DecidableEq
structure NwD (h0 h : H) (q p n : CV) (x : Part) : Prop where
  g : NwG h0 h q x.sig
  f : NwF h0 h p n x.flat
  s1 : Sep (.one q) (.one p)
  s2 : Sep (.one q) (.one n)
structure SlD (h : H) (q p n : CV) (x : Part) : Prop where
  g : SlG h q x.sig
  f : SlF h p n x.flat
theorem NwD.grow {h0 h h1 : H} {q p n : CV} {x : Part} (a : NwD h0 h q p n x) (g : Grow h h1) : NwD h0 h1 q p n x := ⟨a.g.grow g, a.f.grow g, a.s1, a.s2⟩
theorem NwD.from {h0 h h1 : H} {q p n : CV} {x : Part} (a : NwD h1 h q p n x) (g : h0.n ≤ h1.n) : NwD h0 h q p n x := ⟨a.g.from g, a.f.from g, a.s1, a.s2⟩
theorem NwD.mid {h0 h h2 : H} {q p n : CV} {x : Part} {a b : Nat} (y : NwD h0 h q p n x) (m : Mid a b h h2) (hb : b ≤ h0.n) : NwD h0 h2 q p n x := ⟨y.g.mid m hb, y.f.mid m hb, y.s1, y.s2⟩
theorem NwD.sl {h0 h : H} {q p n : CV} {x : Part} (a : NwD h0 h q p n x) : SlD h q p n x := ⟨a.g.sl, a.f.sl⟩
theorem SlD.grow {h h1 : H} {q p n : CV} {x : Part} (a : SlD h q p n x) (g : Grow h h1) : SlD h1 q p n x := ⟨a.g.grow g, a.f.grow g⟩
theorem NwD.nil {h0 h : H} : NwD h0 h (.sl none 0 (some 0)) (.sl none 0 (some 0)) (.sl none 0 (some 0)) ⟨[], ⟨[], []⟩⟩ := ⟨.nil, .nil, Sep.nil, Sep.nil⟩
theorem NwD.scalar {h0 h : H} {q p n : CV} {x : Part} (a : NwD h0 h q p n x) (hs : (AV.agg [q, p, n]).scalar = true) (h2 : H) : NwD h0 h2 q p n x := by
  simp [AV.scalar] at hs
  exact ⟨a.g.scalar hs.1 h2, a.f.scalar (by simp [AV.scalar, hs.2]) h2, a.s1, a.s2⟩
def wtD (x : Part) : Nat := wtG x.sig + wtF x.flat
def cellsD (x : Part) : Nat := cellsG x.sig + cellsF x.flat
structure miniD (x : Part) : Prop where
  g : miniG x.sig
  f : miniF x.flat
theorem wtD_sm {x : Part} (h : wtD x ≤ 1048576) : miniD x := by
  unfold wtD at h
  exact ⟨wtG_sm (by omega), wtF_sm (by omega)⟩
theorem cellsD_le {x : Part} (h : miniD x) : cellsD x ≤ 8388608 := by
  have := cellsG_le h.g
  have := cellsF_le h.f
  unfold cellsD
  omega
def mkD (k : Int) (x : Part) : Part := ⟨mkG k x.sig, mkF (k + (cellsG x.sig : Nat)) x.flat⟩
structure DomD (h : H) (q p n : CV) (x : Part) : Prop where
  g : DomG h q x.sig
  f : DomF h p n x.flat
theorem DomD.grow {h h1 : H} {q p n : CV} {x : Part} (d : DomD h q p n x) (g : Grow h h1) : DomD h1 q p n x := ⟨d.g.grow g, d.f.grow g⟩
theorem dD {h : H} {m : Nat} {v : AV} (hk : okV Try.prog h (m + 5) 30 v) : ∃ q p n x, v = .agg [q, p, n] ∧ DomD h q p n x := by
  obtain ⟨cs, rfl, hj⟩ := okV_agg (by kernel_rfl) hk
  have hk := okA_struct Try.underlying30 hj
  obtain ⟨a, r, rfl, h1, hk⟩ := okF_cons hk
  obtain ⟨b, r, rfl, h2, hk⟩ := okF_cons hk
  obtain rfl := okF_nil hk
  have h3 := okA_struct Try.underlying24 h1
  obtain ⟨a, r, rfl, h4, h5⟩ := okF_cons h3
  obtain rfl := okF_nil h5
  obtain ⟨q, l, rfl, s1, k1, k2⟩ := okA_list lenQ Try.underlying22 (by kernel_rfl) dParam h4
  have h6 := okA_struct Try.underlying28 h2
  obtain ⟨a, r, rfl, h7, h8⟩ := okF_cons h6
  obtain ⟨b, r, rfl, h9, h10⟩ := okF_cons h8
  obtain rfl := okF_nil h10
  obtain ⟨p, l1, rfl, s2, k3⟩ := dInts _ h7
  obtain ⟨n, l2, rfl, s3, k4, k5⟩ := okA_list lenP Try.underlying26 (by kernel_rfl) dPair h9
  exact ⟨q, p, n, ⟨l, ⟨l1, l2⟩⟩, rfl, ⟨s1, k1, k2⟩, ⟨s2, s3, k3, k4, k5⟩⟩
/-! laws.szPartial -/
def L9_0 : List AStep := [⟨.box 30 (.t 0), (some 2), none, []⟩, ⟨.mov (.c (.int .i64 0)), (some 4), none, []⟩]
theorem v9_0 : VS L9_0.eq_1 := rfl
def L9_1 : List AStep := [⟨.mov (.t 8), (some 1), none, []⟩]
theorem v9_1 : VS L9_1.eq_1 := rfl
def L9_2 : List AStep := ⟨.mov (.t 1), (some 7), none, []⟩ :: ⟨.call 20 [(.t 6), (.t 7)], (some 8), none, []⟩ :: L9_1
theorem v9_2 : VS L9_2.eq_1 := rfl
def L9_3 : List AStep := ⟨.faddr 0 (.t 2), (some 5), none, []⟩ :: ⟨.load 1 true (.t 5), (some 6), none, []⟩ :: L9_2
theorem v9_3 : VS L9_3.eq_1 := rfl
def L9_4 : List AStep := [⟨.mov (.t 1), (some 9), none, []⟩, ⟨.bin .lss (.t 9) (.c (.int .i64 0)), (some 10), none, []⟩]
theorem v9_4 : VS L9_4.eq_1 := rfl
def L9_5 : List AStep := [⟨.mov (.c (.int .i64 (-1))), (some 4), none, []⟩]
theorem v9_5 : VS L9_5.eq_1 := rfl
def L9_6 : List AStep := [⟨.mov (.t 14), (some 1), none, []⟩]
theorem v9_6 : VS L9_6.eq_1 := rfl
def L9_7 : List AStep := ⟨.mov (.t 1), (some 13), none, []⟩ :: ⟨.call 21 [(.t 12), (.t 13)], (some 14), none, []⟩ :: L9_6
theorem v9_7 : VS L9_7.eq_1 := rfl
def L9_8 : List AStep := ⟨.faddr 1 (.t 2), (some 11), none, []⟩ :: ⟨.load 2 true (.t 11), (some 12), none, []⟩ :: L9_7
theorem v9_8 : VS L9_8.eq_1 := rfl
def L9_9 : List AStep := [⟨.mov (.t 1), (some 15), none, []⟩, ⟨.bin .lss (.t 15) (.c (.int .i64 0)), (some 16), none, []⟩]
theorem v9_9 : VS L9_9.eq_1 := rfl
def L9_10 : List AStep := [⟨.mov (.c (.int .i64 (-1))), (some 4), none, []⟩]
theorem v9_10 : VS L9_10.eq_1 := rfl
def L9_11 : List AStep := [⟨.mov (.t 1), (some 17), none, []⟩, ⟨.mov (.t 17), (some 4), none, []⟩]
theorem v9_11 : VS L9_11.eq_1 := rfl
def C9_0 : ACode := .seq (.reg L9_5) .ret
theorem u9_0 : VC C9_0.eq_1 := rfl
def C9_1 : ACode := .cond (.t 10) C9_0 .skip
theorem u9_1 : VC C9_1.eq_1 := rfl
def C9_2 : ACode := .seq (.reg L9_4) C9_1
theorem u9_2 : VC C9_2.eq_1 := rfl
def C9_3 : ACode := .seq (.reg L9_10) .ret
theorem u9_3 : VC C9_3.eq_1 := rfl
def C9_4 : ACode := .cond (.t 16) C9_3 .skip
theorem u9_4 : VC C9_4.eq_1 := rfl
def C9_5 : ACode := .seq (.reg L9_9) C9_4
theorem u9_5 : VC C9_5.eq_1 := rfl
def C9_6 : ACode := .seq (.reg L9_11) .ret
theorem u9_6 : VC C9_6.eq_1 := rfl
def C9_7 : ACode := .seq C9_5 C9_6
theorem u9_7 : VC C9_7.eq_1 := rfl
def C9_8 : ACode := .seq (.reg L9_8) C9_7
theorem u9_8 : VC C9_8.eq_1 := rfl
def C9_9 : ACode := .seq C9_2 C9_8
theorem u9_9 : VC C9_9.eq_1 := rfl
def C9_10 : ACode := .seq (.reg L9_3) C9_9
theorem u9_10 : VC C9_10.eq_1 := rfl
def C9_11 : ACode := .seq (.reg L9_0) C9_10
theorem u9_11 : VC C9_11.eq_1 := rfl
def F9 : AFunc := ⟨18, [.tmp 4], C9_11⟩
theorem cF9 : compB Try.prog 9 = some F9 := by kernel_rfl
attribute [local go_sem ↓] u9_0 u9_1 u9_2 u9_3 u9_4 u9_5 u9_6 u9_7 u9_8 u9_9 u9_10 u9_11 v9_0 v9_1 v9_2 v9_3 v9_4 v9_5 v9_6 v9_7 v9_8 v9_9 v9_10 v9_11
theorem k_szD (x : Part) (q p n : CV) (left : Int) (h : H) (h1 : 0 ≤ left) (h2 : left ≤ 1048576) (d : DomD h q p n x) : bm Try.prog 9 [.agg [q, p, n], .one (.int .i64 left)] h = some (ii (szr left (wtD x)), h) := by
  refine bm_eq cF9 ?_
  have e1 := k_szG x.sig q left h h1 h2 d.g
  by_cases b1 : szr left (wtG x.sig) < 0
  · simp +contextual (maxSteps := 2000000) only [go_sem, Nat.reduceEqDiff, reduceCtorEq, Nat.reduceAdd, Nat.reduceLeDiff, F9, loadL_agg, e1, decide_eq_true b1]
    rw [show wtD x = wtG x.sig + wtF x.flat from rfl, szr_neg b1]
  · obtain ⟨e2, u2⟩ := szr_ge b1
    have e3 := k_szF x.flat p n (szr left (wtG x.sig)) h (by omega) (by omega) d.f
    have e4 : szr (szr left (wtG x.sig)) (wtF x.flat) = szr left (wtD x) := by
      rw [e2]
      unfold szr wtD
      split <;> split <;> omega
    rw [e4] at e3
    by_cases b2 : szr left (wtD x) < 0
    · simp +contextual (maxSteps := 2000000) only [go_sem, Nat.reduceEqDiff, reduceCtorEq, Nat.reduceAdd, Nat.reduceLeDiff, F9, loadL_agg, e1, decide_eq_false b1, e3, decide_eq_true b2]
      rw [szr_m1 b2]
    · simp +contextual (maxSteps := 2000000) only [go_sem, Nat.reduceEqDiff, reduceCtorEq, Nat.reduceAdd, Nat.reduceLeDiff, F9, loadL_agg, e1, decide_eq_false b1, e3, decide_eq_false b2]
/-! laws.toPartial -/
def L11_0 : List AStep := [⟨.box 30 (.t 0), (some 1), none, []⟩, ⟨.alloc 41 [(.sl none 0 (some 0)), (.sl none 0 (some 0)), (.sl none 0 (some 0))], (some 2), none, []⟩]
theorem v11_0 : VS L11_0.eq_1 := rfl
def L11_1 : List AStep := [⟨.alloc 41 [(.sl none 0 (some 0)), (.sl none 0 (some 0)), (.sl none 0 (some 0))], (some 3), none, []⟩]
theorem v11_1 : VS L11_1.eq_1 := rfl
def L11_2 : List AStep := [⟨.store 1 (.t 7) (.t 6), none, none, []⟩]
theorem v11_2 : VS L11_2.eq_1 := rfl
def L11_3 : List AStep := ⟨.call 23 [(.t 5)], (some 6), none, []⟩ :: ⟨.faddr 0 (.t 3), (some 7), none, []⟩ :: L11_2
theorem v11_3 : VS L11_3.eq_1 := rfl
def L11_4 : List AStep := ⟨.faddr 0 (.t 1), (some 4), none, []⟩ :: ⟨.load 1 true (.t 4), (some 5), none, []⟩ :: L11_3
theorem v11_4 : VS L11_4.eq_1 := rfl
def L11_5 : List AStep := [⟨.store 2 (.t 11) (.t 10), none, none, []⟩]
theorem v11_5 : VS L11_5.eq_1 := rfl
def L11_6 : List AStep := ⟨.call 24 [(.t 9)], (some 10), none, []⟩ :: ⟨.faddr 1 (.t 3), (some 11), none, []⟩ :: L11_5
theorem v11_6 : VS L11_6.eq_1 := rfl
def L11_7 : List AStep := ⟨.faddr 1 (.t 1), (some 8), none, []⟩ :: ⟨.load 2 true (.t 8), (some 9), none, []⟩ :: L11_6
theorem v11_7 : VS L11_7.eq_1 := rfl
def L11_8 : List AStep := [⟨.load 3 true (.t 3), (some 12), none, []⟩, ⟨.store 3 (.t 2) (.t 12), none, none, []⟩]
theorem v11_8 : VS L11_8.eq_1 := rfl
def C11_0 : ACode := .seq (.reg L11_8) .ret
theorem u11_0 : VC C11_0.eq_1 := rfl
def C11_1 : ACode := .seq (.reg L11_7) C11_0
theorem u11_1 : VC C11_1.eq_1 := rfl
def C11_2 : ACode := .seq (.reg L11_4) C11_1
theorem u11_2 : VC C11_2.eq_1 := rfl
def C11_3 : ACode := .seq (.reg L11_1) C11_2
theorem u11_3 : VC C11_3.eq_1 := rfl
def C11_4 : ACode := .seq (.reg L11_0) C11_3
theorem u11_4 : VC C11_4.eq_1 := rfl
def F11 : AFunc := ⟨13, [.cell 2 3 true], C11_4⟩
theorem cF11 : compB Try.prog 11 = some F11 := by kernel_rfl
attribute [local go_sem ↓] u11_0 u11_1 u11_2 u11_3 u11_4 v11_0 v11_1 v11_2 v11_3 v11_4 v11_5 v11_6 v11_7 v11_8
theorem k_toD (x : Part) (q p n : CV) (h : H) (d : DomD h q p n x) (m : miniD x) : callK (bm Try.prog 11 [.agg [q, p, n]] h) fun r h' => Grow h h' ∧ ∃ q' p' n', r = .agg [q', p', n'] ∧ NwD h h' q' p' n' x := by
  refine bm_of cF11 ?_
  simp +contextual (maxSteps := 2000000) only [go_sem, Nat.reduceEqDiff, reduceCtorEq, Nat.reduceAdd, Nat.reduceLeDiff, F11, loadL_agg]
  refine wp_call (k_toG x.sig q h d.g m.g) ?_
  rintro r h1 ⟨g1, q', rfl, n1⟩
  simp +contextual (maxSteps := 2000000) only [go_sem, Nat.reduceEqDiff, reduceCtorEq, Nat.reduceAdd, Nat.reduceLeDiff, loadL_agg]
  refine wp_call (k_toF x.flat p n h1 (d.f.grow g1) m.f) ?_
  rintro r h2 ⟨g2, p', n', rfl, n2⟩
  simp +contextual (maxSteps := 2000000) only [go_sem, Nat.reduceEqDiff, reduceCtorEq, Nat.reduceAdd, Nat.reduceLeDiff]
  have z : NwD h h2 q' p' n' x := ⟨n1.grow g2, n2.from g1.n, n1.out.apart n2.pl, n1.out.apart n2.nl⟩
  exact gcK_of ⟨g1.trans g2, _, _, _, rfl, z⟩ (fun hs _ => ⟨Grow.refl h, _, _, _, rfl, z.scalar hs h⟩)
/-! laws.eqPartial -/
def L14_0 : List AStep := [⟨.mov (.c (.bool false)), (some 4), none, []⟩]
theorem v14_0 : VS L14_0.eq_1 := rfl
def L14_1 : List AStep := ⟨.box 41 (.t 0), (some 2), none, []⟩ :: ⟨.box 41 (.t 1), (some 3), none, []⟩ :: L14_0
theorem v14_1 : VS L14_1.eq_1 := rfl
def L14_2 : List AStep := [⟨.call 27 [(.t 6), (.t 8)], (some 9), none, []⟩, ⟨.not (.t 9), (some 10), none, []⟩]
theorem v14_2 : VS L14_2.eq_1 := rfl
def L14_3 : List AStep := ⟨.faddr 0 (.t 3), (some 7), none, []⟩ :: ⟨.load 1 true (.t 7), (some 8), none, []⟩ :: L14_2
theorem v14_3 : VS L14_3.eq_1 := rfl
def L14_4 : List AStep := ⟨.faddr 0 (.t 2), (some 5), none, []⟩ :: ⟨.load 1 true (.t 5), (some 6), none, []⟩ :: L14_3
theorem v14_4 : VS L14_4.eq_1 := rfl
def L14_5 : List AStep := [⟨.mov (.c (.bool false)), (some 4), none, []⟩]
theorem v14_5 : VS L14_5.eq_1 := rfl
def L14_6 : List AStep := [⟨.call 26 [(.t 12), (.t 14)], (some 15), none, []⟩, ⟨.not (.t 15), (some 16), none, []⟩]
theorem v14_6 : VS L14_6.eq_1 := rfl
def L14_7 : List AStep := ⟨.faddr 1 (.t 3), (some 13), none, []⟩ :: ⟨.load 2 true (.t 13), (some 14), none, []⟩ :: L14_6
theorem v14_7 : VS L14_7.eq_1 := rfl
def L14_8 : List AStep := ⟨.faddr 1 (.t 2), (some 11), none, []⟩ :: ⟨.load 2 true (.t 11), (some 12), none, []⟩ :: L14_7
theorem v14_8 : VS L14_8.eq_1 := rfl
def L14_9 : List AStep := [⟨.mov (.c (.bool false)), (some 4), none, []⟩]
theorem v14_9 : VS L14_9.eq_1 := rfl
def L14_10 : List AStep := [⟨.mov (.c (.bool true)), (some 4), none, []⟩]
theorem v14_10 : VS L14_10.eq_1 := rfl
def C14_0 : ACode := .seq (.reg L14_5) .ret
theorem u14_0 : VC C14_0.eq_1 := rfl
def C14_1 : ACode := .cond (.t 10) C14_0 .skip
theorem u14_1 : VC C14_1.eq_1 := rfl
def C14_2 : ACode := .seq (.reg L14_4) C14_1
theorem u14_2 : VC C14_2.eq_1 := rfl
def C14_3 : ACode := .seq (.reg L14_9) .ret
theorem u14_3 : VC C14_3.eq_1 := rfl
def C14_4 : ACode := .cond (.t 16) C14_3 .skip
theorem u14_4 : VC C14_4.eq_1 := rfl
def C14_5 : ACode := .seq (.reg L14_8) C14_4
theorem u14_5 : VC C14_5.eq_1 := rfl
def C14_6 : ACode := .seq (.reg L14_10) .ret
theorem u14_6 : VC C14_6.eq_1 := rfl
def C14_7 : ACode := .seq C14_5 C14_6
theorem u14_7 : VC C14_7.eq_1 := rfl
def C14_8 : ACode := .seq C14_2 C14_7
theorem u14_8 : VC C14_8.eq_1 := rfl
def C14_9 : ACode := .seq (.reg L14_1) C14_8
theorem u14_9 : VC C14_9.eq_1 := rfl
def F14 : AFunc := ⟨17, [.tmp 4], C14_9⟩
theorem cF14 : compB Try.prog 14 = some F14 := by kernel_rfl
attribute [local go_sem ↓] u14_0 u14_1 u14_2 u14_3 u14_4 u14_5 u14_6 u14_7 u14_8 u14_9 v14_0 v14_1 v14_2 v14_3 v14_4 v14_5 v14_6 v14_7 v14_8 v14_9 v14_10
theorem k_eqD (x y : Part) (q p n q2 p2 n2 : CV) (h : H) (a : SlD h q p n x) (b : SlD h q2 p2 n2 y) (m : miniD x) : bm Try.prog 14 [.agg [q, p, n], .agg [q2, p2, n2]] h = some (ib (decide (x = y)), h) := by
  refine bm_eq cF14 ?_
  have e1 := k_eqG x.sig y.sig q q2 h a.g b.g m.g
  have e2 := k_eqF x.flat y.flat p n p2 n2 h a.f b.f m.f
  have e3 : decide (x = y) = (decide (x.sig = y.sig) && decide (x.flat = y.flat)) := by
    obtain ⟨x1, x2⟩ := x
    obtain ⟨y1, y2⟩ := y
    rw [Bool.eq_iff_iff]
    simp
  rw [e3]
  cases b1 : decide (x.sig = y.sig) with
  | false =>
    rw [b1] at e1
    simp +contextual (maxSteps := 2000000) only [go_sem, Nat.reduceEqDiff, reduceCtorEq, Nat.reduceAdd, Nat.reduceLeDiff, F14, loadL_agg, e1, Bool.false_and]
  | true =>
    rw [b1] at e1
    cases b2 : decide (x.flat = y.flat) with
    | false =>
      rw [b2] at e2
      simp +contextual (maxSteps := 2000000) only [go_sem, Nat.reduceEqDiff, reduceCtorEq, Nat.reduceAdd, Nat.reduceLeDiff, F14, loadL_agg, e1, e2, Bool.true_and]
    | true =>
      rw [b2] at e2
      simp +contextual (maxSteps := 2000000) only [go_sem, Nat.reduceEqDiff, reduceCtorEq, Nat.reduceAdd, Nat.reduceLeDiff, F14, loadL_agg, e1, e2, Bool.true_and]
/-! laws.markPartial -/
def L15_0 : List AStep := [⟨.box 41 (.t 0), (some 2), none, []⟩, ⟨.mov (.c (.int .i64 0)), (some 4), none, []⟩]
theorem v15_0 : VS L15_0.eq_1 := rfl
def L15_1 : List AStep := [⟨.mov (.t 8), (some 1), none, []⟩]
theorem v15_1 : VS L15_1.eq_1 := rfl
def L15_2 : List AStep := ⟨.mov (.t 1), (some 7), none, []⟩ :: ⟨.call 28 [(.t 6), (.t 7)], (some 8), none, []⟩ :: L15_1
theorem v15_2 : VS L15_2.eq_1 := rfl
def L15_3 : List AStep := ⟨.faddr 0 (.t 2), (some 5), none, []⟩ :: ⟨.load 1 true (.t 5), (some 6), none, []⟩ :: L15_2
theorem v15_3 : VS L15_3.eq_1 := rfl
def L15_4 : List AStep := [⟨.mov (.t 12), (some 1), none, []⟩]
theorem v15_4 : VS L15_4.eq_1 := rfl
def L15_5 : List AStep := ⟨.mov (.t 1), (some 11), none, []⟩ :: ⟨.call 29 [(.t 10), (.t 11)], (some 12), none, []⟩ :: L15_4
theorem v15_5 : VS L15_5.eq_1 := rfl
def L15_6 : List AStep := ⟨.faddr 1 (.t 2), (some 9), none, []⟩ :: ⟨.load 2 true (.t 9), (some 10), none, []⟩ :: L15_5
theorem v15_6 : VS L15_6.eq_1 := rfl
def L15_7 : List AStep := [⟨.mov (.t 1), (some 13), none, []⟩, ⟨.mov (.t 13), (some 4), none, []⟩]
theorem v15_7 : VS L15_7.eq_1 := rfl
def C15_0 : ACode := .seq (.reg L15_7) .ret
theorem u15_0 : VC C15_0.eq_1 := rfl
def C15_1 : ACode := .seq (.reg L15_6) C15_0
theorem u15_1 : VC C15_1.eq_1 := rfl
def C15_2 : ACode := .seq (.reg L15_3) C15_1
theorem u15_2 : VC C15_2.eq_1 := rfl
def C15_3 : ACode := .seq (.reg L15_0) C15_2
theorem u15_3 : VC C15_3.eq_1 := rfl
def F15 : AFunc := ⟨14, [.tmp 4], C15_3⟩
theorem cF15 : compB Try.prog 15 = some F15 := by kernel_rfl
attribute [local go_sem ↓] u15_0 u15_1 u15_2 u15_3 v15_0 v15_1 v15_2 v15_3 v15_4 v15_5 v15_6 v15_7
theorem k_markD (x : Part) (q p n : CV) (k : Int) (h0 hb h : H) {x0 : Part} (a : NwD h0 h q p n x) (b : NwD h0 hb q p n x0) (g : Grow h0 h) (k1 : 0 ≤ k) (k2 : k ≤ 2 ^ 31) (m : miniD x) :
    callK (bm Try.prog 15 [.agg [q, p, n], .one (.int .i64 k)] h) fun r h' => r = ii (k + (cellsD x : Nat)) ∧ Grow h0 h' ∧ SlD h' q p n (mkD k x) ∧ Mid h0.n hb.n h h' := by
  refine bm_of cF15 ?_
  have c1 := cellsG_le m.g
  simp +contextual (maxSteps := 2000000) only [go_sem, Nat.reduceEqDiff, reduceCtorEq, Nat.reduceAdd, Nat.reduceLeDiff, F15, loadL_agg]
  refine wp_call (c_mark1G x.sig q k h0 h a.g.out g k1 (by omega) m.g) ?_
  rintro r h1 ⟨rfl, g1, n1, st⟩
  simp +contextual (maxSteps := 2000000) only [go_sem, Nat.reduceEqDiff, reduceCtorEq, Nat.reduceAdd, Nat.reduceLeDiff, loadL_agg]
  have f1 : NwF h0 h1 p n x.flat := ⟨a.f.pl.stay st a.s1.symm, a.f.nl.stay st a.s2.symm, a.f.sep⟩
  refine wp_call (c_markzFlat x.flat p n (k + (cellsG x.sig : Nat)) h0 hb h1 f1 b.f g1 (by omega) (by omega) m.f.pl m.f.nl) ?_
  rintro r h2 ⟨rfl, g2, n2, M2, h3, sa, sb⟩
  have e : k + (cellsG x.sig : Nat) + (cellsF x.flat : Nat) = k + (cellsD x : Nat) := by unfold cellsD; omega
  simp +contextual (maxSteps := 2000000) only [go_sem, Nat.reduceEqDiff, reduceCtorEq, Nat.reduceAdd, Nat.reduceLeDiff, e]
  have n1' := (n1.stay sa a.s1).stay sb a.s2
  exact gcK_of ⟨rfl, g2, ⟨⟨n1'.sl lenQ⟩, n2.sl⟩, (b.g.out.mid st).trans M2⟩ (fun _ gg => ⟨rfl, g, ⟨⟨(n1'.back a.g.out gg).sl lenQ⟩, ⟨(n2.pl.back a.f.pl gg).sl lenI, (n2.nl.back a.f.nl gg).sl lenP⟩⟩, (Grow.refl h).mid⟩)
end Go.Proofs.Ytdalgphpacikkab.Am
