/- Contracts: the readers that draw numbers. -/
import Derived.Test.YtoeceafibmafpaaDoorDat
namespace Go.Proofs.YtoeceafibmafpaaDoor.Am
open Go
set_option maxRecDepth 100000
set_option maxHeartbeats 4000000
set_option linter.unusedSimpArgs false
set_option linter.unusedVariables false
attribute [local go_sem ↓] bv_t bv_c ev_t ev_c put_same put_ne put_none kill_at pro_at lb_same lb_ne start_zero start_succ wpC_seq wpC_reg wpC_cond wpC_block wpC_skip wpC_exit wpC_ret thenQ_normal thenQ_exit thenQ_ret inBlk_normal inBlk_exit inBlk_ret wpS_nil wpS_step wpS_again wpS_guard wpO_mov wpO_load wpO_faddr wpO_nilCheck wpO_pick wpO_build wpO_bin wpO_eqb wpO_eqst wpO_eqnil wpO_not wpO_conv wpO_bytesStr wpO_iaddr wpO_idxStr wpO_field wpO_extract wpO_len wpO_lenStr wpO_cap wpO_min wpO_slice wpO_sliceStr wpO_alloc wpO_box wpO_store wpO_call wpO_callv wpO_mkfn wpO_buildSlice wpO_mkslice wpO_append wpO_appz proA_nil proA_cons tmpX_nil tmpX_tmp tmpX_cell doneB_normal doneB_ret agK_cons agK_nil agK_guard agG_tt agG_ff agG_tf agG_ft agG_undef pureB_load results_one results_two results_nil resBs_cons resBs_nil resB_tmp resB_cell
attribute [local go_sem] kill_v kill_lp_ne kill_lp_same pro_v pro_lp_same pro_lp_ne av_v av_lp optB_some optX_some valX_eq ldX_lp ldX_v faX_lp faX_v ncX_lp ncX_ptr ncX_fn boxK_one boxK_agg stL_some stK_lp_one stK_lp_agg stK_v_one stK_v_agg proM_v proM_lp callG_mk callVG_mk callvK_fn fnG_mk ptrsA_nil ptrsA_cons callH_some whenA_true whenA_false guardH_tt guardH_ff guardH_tf guardH_ft guardH_undef agV_one agV_agg lenO_sl lenStrO_str notO_bool pickO_bool convO_int eqbO_bool eqnilO_sl extractO_tup capO_sl minO_int loadL_one loadL_all storeL_eq fillA_nil fillA_one fillA_agg nat_ge neg_ge nat_lt neg_lt buildO bin_add bin_sub bin_mul bin_eql bin_neq bin_lss bin_leq bin_gtr bin_geq str_eql str_neq str_lss str_leq str_gtr str_geq retK_some endK_mk gcK_same gcK_int gcK_bool tupO_one tupO_agg rdy_self ib ii Option.map_none Option.map_some Option.some.injEq exists_eq_left' exists_eq_left ne_eq not_false_eq_true if_true if_false List.map_cons List.map_nil List.getElem?_cons_zero List.getElem?_cons_succ List.length_cons List.length_nil List.take_succ_cons List.take_zero List.take_nil List.drop_succ_cons List.drop_zero List.drop_nil List.cons_append List.nil_append List.append_nil List.set_cons_zero List.set_cons_succ Nat.zero_add forall_const true_and and_true and_self Bool.false_eq_true false_implies true_implies implies_true Bool.not_true Bool.not_false Bool.not_eq_true' Bool.not_eq_false' beq_self_eq_true Bool.bne_true Bool.bne_false
attribute [local go_sem] lenI lenS lenP lenQ lenB lenL lenT encI_0 encS_0 encP_0 encP_1 encQ_0 encQ_1 encQ_2 encQ_3 encB_0 encB_1 encL_0 encL_1 encT_0 encT_1
attribute [local go_sem low] whenA_bool guardH_bool
def encBy (n : Int) : List CV := [.int .u8 n]
theorem lenBy (x : Int) : (encBy x).length = 1 := Eq.trans (b := 1) rfl rfl
theorem encBy_0 (x : Int) : (encBy x)[0]? = some (.int .u8 x) := rfl
def bR (b : Nat) : AV := .one (.sl (some (b, 0)) 0 none)
structure Rd (h : H) (b : Nat) (p : Int) : Prop where
  ex : ∃ v code, Box h b [v, .int .i64 p] 126 ∧ Sl encBy 1 5 h (.one v) code ∧ (∀ x ∈ code, 0 ≤ x ∧ x ≤ 255) ∧ code.length ≤ 2000 ∧ ∀ i, baseOf (.one v) = some i → i < b
  pos : 0 ≤ p
theorem Rd.lt {h : H} {b : Nat} {p : Int} (r : Rd h b p) : b < h.n := by
  obtain ⟨v, code, x, _⟩ := r.ex
  exact x.lt
theorem Rd.stay {h h1 : H} {b : Nat} {p : Int} {s : AV} (r : Rd h b p) (st : Stay s h h1) (hb : ∀ i, baseOf s = some i → b < i) : Rd h1 b p := by
  obtain ⟨v, code, x, y, z, w, u⟩ := r.ex
  exact ⟨⟨v, code, x.stay st fun e => by have := hb _ e; omega, y.of_stay st fun i hi e => by have := hb _ e; have := u _ hi; omega, z, w, u⟩, r.pos⟩
theorem Rd.grow {h h1 : H} {b : Nat} {p : Int} (r : Rd h b p) (g : Grow h h1) : Rd h1 b p := r.stay (s := .tup []) (g.stay _) fun i hi => by simp [baseOf] at hi
/-- Something was drawn. -/
structure Drew (b : Nat) (p : Int) (c : Nat) (h h' : H) : Prop where
  st : Stay (bR b) h h'
  ex : ∃ p', p < p' ∧ p' ≤ p + c ∧ Rd h' b p'
theorem Drew.grow {h h1 h2 : H} {b c : Nat} {p : Int} (d : Drew b p c h h1) (g : Grow h1 h2) : Drew b p c h h2 := by
  obtain ⟨p', h3, h4, r⟩ := d.ex
  exact ⟨d.st.trans (g.stay _), p', h3, h4, r.grow g⟩
theorem Drew.stay {h h1 h2 : H} {b c : Nat} {p : Int} {s : AV} (d : Drew b p c h h1) (st : Stay s h1 h2) (hb : ∀ i, baseOf s = some i → h.n ≤ i) (hr : b < h.n) : Drew b p c h h2 := by
  obtain ⟨p', h3, h4, r⟩ := d.ex
  refine ⟨⟨Nat.le_trans d.st.n st.n, fun i hi hn => ?_⟩, p', h3, h4, r.stay st fun i hi => by have := hb i hi; omega⟩
  rw [st.f i (Nat.lt_of_lt_of_le hi d.st.n) fun e => by have := hb i e; omega]
  exact d.st.f i hi hn
theorem Drew.more {h h1 : H} {b c c2 : Nat} {p : Int} (d : Drew b p c h h1) (hc : c ≤ c2) : Drew b p c2 h h1 := by
  obtain ⟨p', h3, h4, r⟩ := d.ex
  exact ⟨d.st, p', h3, by omega, r⟩
/-- Drawn ahead of and behind. -/
theorem Drew.then {h h1 h2 : H} {b c c2 : Nat} {p p1 : Int} (st : Stay (bR b) h h1) (hp : p ≤ p1) (hc : p1 ≤ p + c) (d : Drew b p1 c2 h1 h2) : Drew b p (c + c2) h h2 := by
  obtain ⟨p', h3, h4, r⟩ := d.ex
  exact ⟨st.trans d.st, p', by omega, by omega, r⟩
theorem gcK_drew {h h1 : H} {b c : Nat} {p : Int} {v : AV} {K : AV → H → Prop} (r : Rd h b p) (d : Drew b p c h h1) (hk : K v h1) : gcK h v h1 K := gcK_of hk fun _ gg => by
  obtain ⟨p', h3, _, r1⟩ := d.ex
  obtain ⟨v0, _, x, _⟩ := r.ex
  obtain ⟨v1, _, y, _⟩ := r1.ex
  have e := gg.f b x.lt
  rw [x.eq, y.eq] at e
  simp at e
  omega
theorem wp_boxset {T : Tb} {L : Lb} {K : Post} {h : H} {b ty off m : Nat} {cs vs : List CV} {d : Option Nat} (hb : Box h b cs ty) (hm : vs.length = m) (hv : off + vs.length ≤ cs.length)
    (hk : ∀ h1, Stay (bR b) h h1 → h1.n = h.n → Box h1 b (cs.take off ++ (vs ++ cs.drop (off + vs.length))) ty → K (T.put d (.v undefA)) L (rdy h1)) : stH m (b, off) vs d T L h K := by
  obtain ⟨h1, h2, h3, h4, h5⟩ := hb.store (off := off) (vs := vs) hv
  exact ⟨h1, hm, h2, hk h1 ⟨by omega, fun i hi hn => h4 i fun e => hn (by simp [bR, baseOf, e])⟩ h3 h5⟩
theorem bin_xor {k : IntKind} {a b : Int} : binA .xor (.one (.int k a)) (.one (.int k b)) = some (.one (.int k (k.wrap (BitVec.ofInt k.bits a ^^^ BitVec.ofInt k.bits b).toNat))) := by simp [binA]
theorem xor_ge {a b : Int} (h1 : 0 ≤ a) (h2 : a < 2 ^ 62) (h3 : 0 ≤ b) (h4 : b < 2 ^ 62) : 0 ≤ IntKind.i64.wrap (BitVec.ofInt IntKind.i64.bits a ^^^ BitVec.ofInt IntKind.i64.bits b).toNat := by
  have e : ∀ x : Int, 0 ≤ x → x < 2 ^ 62 → (BitVec.ofInt 64 x).toNat < 2 ^ 62 := fun x hx hy => by
    rw [BitVec.toNat_ofInt]
    have : (x % ((2 ^ 64 : Nat) : Int)).toNat = x.toNat := by rw [Int.emod_eq_of_lt hx (by omega)]
    omega
  have h5 : (BitVec.ofInt 64 a ^^^ BitVec.ofInt 64 b).toNat < 2 ^ 62 := by
    rw [BitVec.toNat_xor]
    exact Nat.xor_lt_two_pow (e a h1 h2) (e b h3 h4)
  show 0 ≤ IntKind.i64.wrap ((BitVec.ofInt 64 a ^^^ BitVec.ofInt 64 b).toNat : Int)
  rw [i64_wrap (by omega) (by omega)]
  omega
/-! spec.newReader -/
def L53_0 : List AStep := [⟨.mov (.c (.ptr none)), (some 2), none, []⟩]
theorem v53_0 : VS L53_0.eq_1 := rfl
def L53_1 : List AStep := [⟨.bin .gtr (.t 4) (.c (.int .i64 2000)), (some 5), none, []⟩]
theorem v53_1 : VS L53_1.eq_1 := rfl
def L53_2 : List AStep := ⟨.mov (.t 0), (some 3), none, []⟩ :: ⟨.len (.t 3), (some 4), none, []⟩ :: L53_1
theorem v53_2 : VS L53_2.eq_1 := rfl
def L53_3 : List AStep := [⟨.mov (.t 7), (some 0), none, []⟩]
theorem v53_3 : VS L53_3.eq_1 := rfl
def L53_4 : List AStep := ⟨.mov (.t 0), (some 6), none, []⟩ :: ⟨.slice 5 1 (.t 6) none (some (.c (.int .i64 2000))) none, (some 7), none, []⟩ :: L53_3
theorem v53_4 : VS L53_4.eq_1 := rfl
def L53_5 : List AStep := [⟨.box 126 (.t 9), (some 10), none, []⟩, ⟨.mov (.t 10), (some 2), none, []⟩]
theorem v53_5 : VS L53_5.eq_1 := rfl
def L53_6 : List AStep := ⟨.mov (.t 0), (some 8), none, []⟩ :: ⟨.build [(.sl none 0 (some 0)), (.int .i64 0)] [(0, 1, (.t 8))], (some 9), none, []⟩ :: L53_5
theorem v53_6 : VS L53_6.eq_1 := rfl
def C53_0 : ACode := .cond (.t 5) (.reg L53_4) .skip
theorem u53_0 : VC C53_0.eq_1 := rfl
def C53_1 : ACode := .seq (.reg L53_2) C53_0
theorem u53_1 : VC C53_1.eq_1 := rfl
def C53_2 : ACode := .seq (.reg L53_6) .ret
theorem u53_2 : VC C53_2.eq_1 := rfl
def C53_3 : ACode := .seq C53_1 C53_2
theorem u53_3 : VC C53_3.eq_1 := rfl
def C53_4 : ACode := .seq (.reg L53_0) C53_3
theorem u53_4 : VC C53_4.eq_1 := rfl
def F53 : AFunc := ⟨11, [.tmp 2], C53_4⟩
theorem cF53 : compB Tryd.prog 53 = some F53 := by kernel_rfl
attribute [local go_sem ↓] u53_0 u53_1 u53_2 u53_3 u53_4 v53_0 v53_1 v53_2 v53_3 v53_4 v53_5 v53_6
theorem c_newReader (code : List Int) (v : CV) (h : H) (hl : Sl encBy 1 5 h (.one v) code) (hc : ∀ x ∈ code, 0 ≤ x ∧ x ≤ 255) : callK (bm Tryd.prog 53 [.one v] h) fun r h' => Grow h h' ∧ ∃ b, r = .one (.ptr (some (b, 0))) ∧ Rd h' b 0 ∧ h.n ≤ b := by
  refine bm_of cF53 ?_
  have fin : ∀ (w : CV) (c : List Int), Sl encBy 1 5 h (.one w) c → (∀ x ∈ c, 0 ≤ x ∧ x ≤ 255) → c.length ≤ 2000 → Rd (h.alloc [w, .int .i64 0] 126) h.n 0 := fun w c s1 s2 s3 =>
    ⟨⟨w, c, Box.new, s1.grow (Grow.alloc _ _ _), s2, s3, fun i hi => by
      obtain ⟨b, k, e, _⟩ := s1.form
      cases b with
      | none => rw [e] at hi; simp [baseOf] at hi
      | some a =>
        rw [e] at hi
        simp [baseOf] at hi
        have := (s1.own a _ k e).1
        omega⟩, Int.le_refl _⟩
  by_cases b1 : code.length ≤ 2000
  · have d1 : decide ((code.length : Int) > 2000) = false := decide_eq_false (by omega)
    simp +contextual (maxSteps := 2000000) only [go_sem, Nat.reduceEqDiff, reduceCtorEq, Nat.reduceAdd, Nat.reduceLeDiff, F53, hl.len, d1]
    exact gcK_of ⟨Grow.alloc _ _ _, _, rfl, fin v code hl hc b1, Nat.le_refl _⟩ (fun hs _ => by simp [AV.scalar, CV.scalar] at hs)
  · have d1 : decide ((code.length : Int) > 2000) = true := decide_eq_true (by omega)
    obtain ⟨w, e1, s1⟩ := hl.takeO (i := 2000) (by omega) (kd := .i64)
    obtain ⟨wb, wc, rfl, _⟩ := s1.form
    have e2 : cutO 5 1 h (.one v) none (some (.one (.int .i64 2000))) none = some (.one (.sl wb (code.take 2000).length wc)) := e1
    simp +contextual (maxSteps := 2000000) only [go_sem, Nat.reduceEqDiff, reduceCtorEq, Nat.reduceAdd, Nat.reduceLeDiff, F53, hl.len, d1, e2]
    exact gcK_of ⟨Grow.alloc _ _ _, _, rfl, fin _ _ s1 (fun x hx => hc x (List.mem_of_mem_take hx)) (by simp; omega), Nat.le_refl _⟩ (fun hs _ => by simp [AV.scalar, CV.scalar] at hs)
/-! (*spec.reader).pick -/
def L89_0 : List AStep := [⟨.mov (.c (.int .i64 0)), (some 4), none, []⟩]
theorem v89_0 : VS L89_0.eq_1 := rfl
def L89_1 : List AStep := [⟨.store 1 (.t 14) (.t 12), none, none, []⟩]
theorem v89_1 : VS L89_1.eq_1 := rfl
def L89_2 : List AStep := ⟨.nilCheck (.t 7), (some 13), none, []⟩ :: ⟨.faddr 1 (.t 13), (some 14), none, []⟩ :: L89_1
theorem v89_2 : VS L89_2.eq_1 := rfl
def L89_3 : List AStep := ⟨.load 1 false (.t 10), (some 11), none, []⟩ :: ⟨.bin .add (.t 11) (.c (.int .i64 1)), (some 12), none, []⟩ :: L89_2
theorem v89_3 : VS L89_3.eq_1 := rfl
def L89_4 : List AStep := ⟨.nilCheck (.t 8), (some 9), none, []⟩ :: ⟨.faddr 1 (.t 9), (some 10), none, []⟩ :: L89_3
theorem v89_4 : VS L89_4.eq_1 := rfl
def L89_5 : List AStep := ⟨.mov (.t 0), (some 7), none, []⟩ :: ⟨.mov (.t 0), (some 8), none, []⟩ :: L89_4
theorem v89_5 : VS L89_5.eq_1 := rfl
def L89_6 : List AStep := [⟨.bin .eql (.t 22) (.c (.int .i64 0)), (some 23), (some (17, false)), []⟩, ⟨.pick (.t 17) (.c (.bool true)) (.t 23), (some 24), none, []⟩]
theorem v89_6 : VS L89_6.eq_1 := rfl
def L89_7 : List AStep := ⟨.load 1 false (.t 20), (some 21), (some (17, false)), []⟩ :: ⟨.len (.t 21), (some 22), (some (17, false)), []⟩ :: L89_6
theorem v89_7 : VS L89_7.eq_1 := rfl
def L89_8 : List AStep := ⟨.nilCheck (.t 18), (some 19), (some (17, false)), []⟩ :: ⟨.faddr 0 (.t 19), (some 20), (some (17, false)), []⟩ :: L89_7
theorem v89_8 : VS L89_8.eq_1 := rfl
def L89_9 : List AStep := ⟨.mov (.t 16), (some 17), none, []⟩ :: ⟨.mov (.t 0), (some 18), (some (17, false)), []⟩ :: L89_8
theorem v89_9 : VS L89_9.eq_1 := rfl
def L89_10 : List AStep := ⟨.mov (.t 1), (some 15), none, []⟩ :: ⟨.bin .lss (.t 15) (.c (.int .i64 1)), (some 16), none, []⟩ :: L89_9
theorem v89_10 : VS L89_10.eq_1 := rfl
def L89_11 : List AStep := [⟨.mov (.c (.int .i64 0)), (some 4), none, []⟩]
theorem v89_11 : VS L89_11.eq_1 := rfl
def L89_12 : List AStep := [⟨.bin .sub (.t 28) (.c (.int .i64 1)), (some 29), none, []⟩, ⟨.mov (.t 29), (some 5), none, []⟩]
theorem v89_12 : VS L89_12.eq_1 := rfl
def L89_13 : List AStep := ⟨.faddr 1 (.t 26), (some 27), none, []⟩ :: ⟨.load 1 false (.t 27), (some 28), none, []⟩ :: L89_12
theorem v89_13 : VS L89_13.eq_1 := rfl
def L89_14 : List AStep := ⟨.mov (.t 0), (some 25), none, []⟩ :: ⟨.nilCheck (.t 25), (some 26), none, []⟩ :: L89_13
theorem v89_14 : VS L89_14.eq_1 := rfl
def L89_15 : List AStep := [⟨.bin .lss (.t 30) (.t 35), (some 36), none, []⟩]
theorem v89_15 : VS L89_15.eq_1 := rfl
def L89_16 : List AStep := ⟨.load 1 false (.t 33), (some 34), none, []⟩ :: ⟨.len (.t 34), (some 35), none, []⟩ :: L89_15
theorem v89_16 : VS L89_16.eq_1 := rfl
def L89_17 : List AStep := ⟨.nilCheck (.t 31), (some 32), none, []⟩ :: ⟨.faddr 0 (.t 32), (some 33), none, []⟩ :: L89_16
theorem v89_17 : VS L89_17.eq_1 := rfl
def L89_18 : List AStep := ⟨.mov (.t 5), (some 30), none, []⟩ :: ⟨.mov (.t 0), (some 31), none, []⟩ :: L89_17
theorem v89_18 : VS L89_18.eq_1 := rfl
def L89_19 : List AStep := [⟨.mov (.t 46), (some 4), none, []⟩]
theorem v89_19 : VS L89_19.eq_1 := rfl
def L89_20 : List AStep := ⟨.mov (.t 1), (some 45), none, []⟩ :: ⟨.bin .rem (.t 44) (.t 45), (some 46), none, []⟩ :: L89_19
theorem v89_20 : VS L89_20.eq_1 := rfl
def L89_21 : List AStep := ⟨.load 1 false (.t 42), (some 43), none, []⟩ :: ⟨.conv .i64 (.t 43), (some 44), none, []⟩ :: L89_20
theorem v89_21 : VS L89_21.eq_1 := rfl
def L89_22 : List AStep := ⟨.mov (.t 5), (some 41), none, []⟩ :: ⟨.iaddr 1 (.t 40) (.t 41), (some 42), none, []⟩ :: L89_21
theorem v89_22 : VS L89_22.eq_1 := rfl
def L89_23 : List AStep := ⟨.faddr 0 (.t 38), (some 39), none, []⟩ :: ⟨.load 1 false (.t 39), (some 40), none, []⟩ :: L89_22
theorem v89_23 : VS L89_23.eq_1 := rfl
def L89_24 : List AStep := ⟨.mov (.t 0), (some 37), none, []⟩ :: ⟨.nilCheck (.t 37), (some 38), none, []⟩ :: L89_23
theorem v89_24 : VS L89_24.eq_1 := rfl
def L89_25 : List AStep := [⟨.bin .add (.t 82) (.t 90), (some 91), none, []⟩, ⟨.mov (.t 91), (some 6), none, []⟩]
theorem v89_25 : VS L89_25.eq_1 := rfl
def L89_26 : List AStep := ⟨.bin .quo (.t 83) (.t 88), (some 89), none, []⟩ :: ⟨.bin .mul (.t 89) (.c (.int .i64 53)), (some 90), none, []⟩ :: L89_25
theorem v89_26 : VS L89_26.eq_1 := rfl
def L89_27 : List AStep := ⟨.load 1 false (.t 86), (some 87), none, []⟩ :: ⟨.len (.t 87), (some 88), none, []⟩ :: L89_26
theorem v89_27 : VS L89_27.eq_1 := rfl
def L89_28 : List AStep := ⟨.nilCheck (.t 84), (some 85), none, []⟩ :: ⟨.faddr 0 (.t 85), (some 86), none, []⟩ :: L89_27
theorem v89_28 : VS L89_28.eq_1 := rfl
def L89_29 : List AStep := ⟨.mov (.t 5), (some 83), none, []⟩ :: ⟨.mov (.t 0), (some 84), none, []⟩ :: L89_28
theorem v89_29 : VS L89_29.eq_1 := rfl
def L89_30 : List AStep := ⟨.bin .mul (.t 80) (.c (.int .i64 29)), (some 81), none, []⟩ :: ⟨.bin .add (.t 79) (.t 81), (some 82), none, []⟩ :: L89_29
theorem v89_30 : VS L89_30.eq_1 := rfl
def L89_31 : List AStep := ⟨.bin .add (.t 61) (.t 78), (some 79), none, []⟩ :: ⟨.mov (.t 5), (some 80), none, []⟩ :: L89_30
theorem v89_31 : VS L89_31.eq_1 := rfl
def L89_32 : List AStep := ⟨.conv .i64 (.t 76), (some 77), none, []⟩ :: ⟨.bin .mul (.t 77) (.c (.int .i64 1117)), (some 78), none, []⟩ :: L89_31
theorem v89_32 : VS L89_32.eq_1 := rfl
def L89_33 : List AStep := ⟨.iaddr 1 (.t 65) (.t 74), (some 75), none, []⟩ :: ⟨.load 1 false (.t 75), (some 76), none, []⟩ :: L89_32
theorem v89_33 : VS L89_33.eq_1 := rfl
def L89_34 : List AStep := ⟨.len (.t 72), (some 73), none, []⟩ :: ⟨.bin .rem (.t 68) (.t 73), (some 74), none, []⟩ :: L89_33
theorem v89_34 : VS L89_34.eq_1 := rfl
def L89_35 : List AStep := ⟨.faddr 0 (.t 70), (some 71), none, []⟩ :: ⟨.load 1 false (.t 71), (some 72), none, []⟩ :: L89_34
theorem v89_35 : VS L89_35.eq_1 := rfl
def L89_36 : List AStep := ⟨.mov (.t 0), (some 69), none, []⟩ :: ⟨.nilCheck (.t 69), (some 70), none, []⟩ :: L89_35
theorem v89_36 : VS L89_36.eq_1 := rfl
def L89_37 : List AStep := ⟨.bin .mul (.t 66) (.c (.int .i64 7)), (some 67), none, []⟩ :: ⟨.bin .add (.t 67) (.c (.int .i64 3)), (some 68), none, []⟩ :: L89_36
theorem v89_37 : VS L89_37.eq_1 := rfl
def L89_38 : List AStep := ⟨.load 1 false (.t 64), (some 65), none, []⟩ :: ⟨.mov (.t 5), (some 66), none, []⟩ :: L89_37
theorem v89_38 : VS L89_38.eq_1 := rfl
def L89_39 : List AStep := ⟨.nilCheck (.t 62), (some 63), none, []⟩ :: ⟨.faddr 0 (.t 63), (some 64), none, []⟩ :: L89_38
theorem v89_39 : VS L89_39.eq_1 := rfl
def L89_40 : List AStep := ⟨.bin .mul (.t 60) (.c (.int .i64 131)), (some 61), none, []⟩ :: ⟨.mov (.t 0), (some 62), none, []⟩ :: L89_39
theorem v89_40 : VS L89_40.eq_1 := rfl
def L89_41 : List AStep := ⟨.load 1 false (.t 58), (some 59), none, []⟩ :: ⟨.conv .i64 (.t 59), (some 60), none, []⟩ :: L89_40
theorem v89_41 : VS L89_41.eq_1 := rfl
def L89_42 : List AStep := ⟨.bin .rem (.t 51) (.t 56), (some 57), none, []⟩ :: ⟨.iaddr 1 (.t 50) (.t 57), (some 58), none, []⟩ :: L89_41
theorem v89_42 : VS L89_42.eq_1 := rfl
def L89_43 : List AStep := ⟨.load 1 false (.t 54), (some 55), none, []⟩ :: ⟨.len (.t 55), (some 56), none, []⟩ :: L89_42
theorem v89_43 : VS L89_43.eq_1 := rfl
def L89_44 : List AStep := ⟨.nilCheck (.t 52), (some 53), none, []⟩ :: ⟨.faddr 0 (.t 53), (some 54), none, []⟩ :: L89_43
theorem v89_44 : VS L89_44.eq_1 := rfl
def L89_45 : List AStep := ⟨.mov (.t 5), (some 51), none, []⟩ :: ⟨.mov (.t 0), (some 52), none, []⟩ :: L89_44
theorem v89_45 : VS L89_45.eq_1 := rfl
def L89_46 : List AStep := ⟨.faddr 0 (.t 48), (some 49), none, []⟩ :: ⟨.load 1 false (.t 49), (some 50), none, []⟩ :: L89_45
theorem v89_46 : VS L89_46.eq_1 := rfl
def L89_47 : List AStep := ⟨.mov (.t 0), (some 47), none, []⟩ :: ⟨.nilCheck (.t 47), (some 48), none, []⟩ :: L89_46
theorem v89_47 : VS L89_47.eq_1 := rfl
def L89_48 : List AStep := [⟨.mov (.t 95), (some 6), none, []⟩]
theorem v89_48 : VS L89_48.eq_1 := rfl
def L89_49 : List AStep := ⟨.bin .quo (.t 93) (.c (.int .i64 64)), (some 94), none, []⟩ :: ⟨.bin .xor (.t 92) (.t 94), (some 95), none, []⟩ :: L89_48
theorem v89_49 : VS L89_49.eq_1 := rfl
def L89_50 : List AStep := ⟨.mov (.t 6), (some 92), none, []⟩ :: ⟨.mov (.t 6), (some 93), none, []⟩ :: L89_49
theorem v89_50 : VS L89_50.eq_1 := rfl
def L89_51 : List AStep := [⟨.bin .rem (.t 96) (.t 97), (some 98), none, []⟩, ⟨.mov (.t 98), (some 4), none, []⟩]
theorem v89_51 : VS L89_51.eq_1 := rfl
def L89_52 : List AStep := ⟨.mov (.t 6), (some 96), none, []⟩ :: ⟨.mov (.t 1), (some 97), none, []⟩ :: L89_51
theorem v89_52 : VS L89_52.eq_1 := rfl
def C89_0 : ACode := .seq (.reg L89_11) .ret
theorem u89_0 : VC C89_0.eq_1 := rfl
def C89_1 : ACode := .cond (.t 24) C89_0 .skip
theorem u89_1 : VC C89_1.eq_1 := rfl
def C89_2 : ACode := .seq (.reg L89_10) C89_1
theorem u89_2 : VC C89_2.eq_1 := rfl
def C89_3 : ACode := .seq (.reg L89_24) .ret
theorem u89_3 : VC C89_3.eq_1 := rfl
def C89_4 : ACode := .cond (.t 36) C89_3 .skip
theorem u89_4 : VC C89_4.eq_1 := rfl
def C89_5 : ACode := .seq (.reg L89_18) C89_4
theorem u89_5 : VC C89_5.eq_1 := rfl
def C89_6 : ACode := .seq (.reg L89_52) .ret
theorem u89_6 : VC C89_6.eq_1 := rfl
def C89_7 : ACode := .seq (.reg L89_50) C89_6
theorem u89_7 : VC C89_7.eq_1 := rfl
def C89_8 : ACode := .seq (.reg L89_47) C89_7
theorem u89_8 : VC C89_8.eq_1 := rfl
def C89_9 : ACode := .seq C89_5 C89_8
theorem u89_9 : VC C89_9.eq_1 := rfl
def C89_10 : ACode := .seq (.reg L89_14) C89_9
theorem u89_10 : VC C89_10.eq_1 := rfl
def C89_11 : ACode := .seq C89_2 C89_10
theorem u89_11 : VC C89_11.eq_1 := rfl
def C89_12 : ACode := .seq (.reg L89_5) C89_11
theorem u89_12 : VC C89_12.eq_1 := rfl
def C89_13 : ACode := .seq (.reg L89_0) C89_12
theorem u89_13 : VC C89_13.eq_1 := rfl
def F89 : AFunc := ⟨99, [.tmp 4], C89_13⟩
theorem cF89 : compB Tryd.prog 89 = some F89 := by kernel_rfl
attribute [local go_sem ↓] u89_0 u89_1 u89_2 u89_3 u89_4 u89_5 u89_6 u89_7 u89_8 u89_9 u89_10 u89_11 u89_12 u89_13 v89_0 v89_1 v89_2 v89_3 v89_4 v89_5 v89_6 v89_7 v89_8 v89_9 v89_10 v89_11 v89_12 v89_13 v89_14 v89_15 v89_16 v89_17 v89_18 v89_19 v89_20 v89_21 v89_22 v89_23 v89_24 v89_25 v89_26 v89_27 v89_28 v89_29 v89_30 v89_31 v89_32 v89_33 v89_34 v89_35 v89_36 v89_37 v89_38 v89_39 v89_40 v89_41 v89_42 v89_43 v89_44 v89_45 v89_46 v89_47 v89_48 v89_49 v89_50 v89_51 v89_52
theorem c_pick (b : Nat) (n p : Int) (h : H) (r : Rd h b p) (hp : p ≤ 2 ^ 40) : callK (bm Tryd.prog 89 [.one (.ptr (some (b, 0))), .one (.int .i64 n)] h) fun q h' => (∃ k : Int, q = ii k ∧ 0 ≤ k ∧ (k < n ∨ k = 0)) ∧ Drew b p 1 h h' := by
  refine bm_of cF89 ?_
  obtain ⟨v, code, x, y, z, w, u⟩ := r.ex
  have hpos := r.pos
  have l1 : loadO 1 false h (.one (.ptr (some (b, 1)))) = some (.one (.int .i64 p)) := x.one rfl
  have w1 : IntKind.i64.wrap (p + 1) = p + 1 := i64_wrap (by omega) (by omega)
  simp +contextual (maxSteps := 2000000) only [go_sem, Nat.reduceEqDiff, reduceCtorEq, Nat.reduceAdd, Nat.reduceLeDiff, F89, l1, w1]
  refine wp_boxset x rfl (Nat.le_of_ble_eq_true rfl) ?_
  intro h1 st hn x1
  have x1 : Box h1 b [v, .int .i64 (p + 1)] 126 := x1
  have y1 := y.of_stay st fun i hi e => by have := u i hi; simp [bR, baseOf] at e; omega
  have r1 : Rd h1 b (p + 1) := ⟨⟨v, code, x1, y1, z, w, u⟩, by omega⟩
  have d : Drew b p 1 h h1 := ⟨st, p + 1, by omega, by omega, r1⟩
  have l0 : loadO 1 false h1 (.one (.ptr (some (b, 0)))) = some (.one v) := x1.one rfl
  have l1 : loadO 1 false h1 (.one (.ptr (some (b, 1)))) = some (.one (.int .i64 (p + 1))) := x1.one rfl
  have yl : lenO (.one v) = some (ii code.length) := y1.len
  by_cases c1 : n < 1
  · simp +contextual (maxSteps := 2000000) only [go_sem, Nat.reduceEqDiff, reduceCtorEq, Nat.reduceAdd, Nat.reduceLeDiff, l0, l1, decide_eq_true c1]
    exact gcK_drew r d ⟨⟨0, rfl, Int.le_refl _, .inr rfl⟩, d⟩
  by_cases c2 : (code.length : Int) = 0
  · simp +contextual (maxSteps := 2000000) only [go_sem, Nat.reduceEqDiff, reduceCtorEq, Nat.reduceAdd, Nat.reduceLeDiff, l0, l1, yl, decide_eq_false c1, decide_eq_true c2]
    exact gcK_drew r d ⟨⟨0, rfl, Int.le_refl _, .inr rfl⟩, d⟩
  have hn0 : n ≠ 0 := by omega
  have w2 : IntKind.i64.wrap (p + 1 - 1) = p := by rw [i64_wrap (by omega) (by omega)]; omega
  have at_ : ∀ j : Int, 0 ≤ j → j < code.length → ∃ c : Int, 0 ≤ c ∧ c ≤ 255 ∧ iaddrO 1 (.one v) (.one (.int .i64 j)) = some (.one (.ptr (some (elem 1 (.one v) j.toNat)))) ∧ loadO 1 false h1 (.one (.ptr (some (elem 1 (.one v) j.toNat)))) = some (.one (.int .u8 c)) := fun j h0 hj => by
    have hi : j.toNat < code.length := by omega
    have hz := z _ (List.getElem_mem hi)
    refine ⟨code[j.toNat], hz.1, hz.2, y1.iaddr_int h0 hj, ?_⟩
    rw [y1.oneO hi, encBy_0]
    rfl
  have fin : ∀ a : Int, 0 ≤ a → gcK h (.one (.int .i64 (a.tmod n))) (rdy h1) (fun q h' => (∃ k : Int, q = ii k ∧ 0 ≤ k ∧ (k < n ∨ k = 0)) ∧ Drew b p 1 h h') := fun a ha => by
    have e : a.tmod n = a % n := Int.tmod_eq_emod_of_nonneg ha
    exact gcK_drew r d ⟨⟨_, rfl, by rw [e]; exact Int.emod_nonneg _ hn0, .inl (by rw [e]; exact Int.emod_lt_of_pos _ (by omega))⟩, d⟩
  by_cases c3 : p < code.length
  · obtain ⟨c, k0, k1, e1, e2⟩ := at_ p hpos c3
    have wc : IntKind.i64.wrap c = c := i64_wrap (by omega) (by omega)
    simp +contextual (maxSteps := 2000000) only [go_sem, Nat.reduceEqDiff, reduceCtorEq, Nat.reduceAdd, Nat.reduceLeDiff, l0, l1, yl, decide_eq_false c1, decide_eq_false c2, w2, decide_eq_true c3, e1, e2, wc, bin_rem hn0]
    exact fin c k0
  · have hc0 : (code.length : Int) ≠ 0 := c2
    have m1 : p.tmod code.length = p % code.length := Int.tmod_eq_emod_of_nonneg hpos
    have hm : 0 ≤ p * 7 + 3 := by omega
    have m2 : (p * 7 + 3).tmod code.length = (p * 7 + 3) % code.length := Int.tmod_eq_emod_of_nonneg hm
    obtain ⟨c, k0, k1, e1, e2⟩ := at_ (p.tmod code.length) (by rw [m1]; exact Int.emod_nonneg _ hc0) (by rw [m1]; exact Int.emod_lt_of_pos _ (by omega))
    obtain ⟨c', k0', k1', e1', e2'⟩ := at_ ((p * 7 + 3).tmod code.length) (by rw [m2]; exact Int.emod_nonneg _ hc0) (by rw [m2]; exact Int.emod_lt_of_pos _ (by omega))
    have wc : IntKind.i64.wrap c = c := i64_wrap (by omega) (by omega)
    have wc' : IntKind.i64.wrap c' = c' := i64_wrap (by omega) (by omega)
    have v1 : IntKind.i64.wrap (c * 131) = c * 131 := i64_wrap (by omega) (by omega)
    have v2 : IntKind.i64.wrap (p * 7) = p * 7 := i64_wrap (by omega) (by omega)
    have v3 : IntKind.i64.wrap (p * 7 + 3) = p * 7 + 3 := i64_wrap (by omega) (by omega)
    have v4 : IntKind.i64.wrap (c' * 1117) = c' * 1117 := i64_wrap (by omega) (by omega)
    have v5 : IntKind.i64.wrap (c * 131 + c' * 1117) = c * 131 + c' * 1117 := i64_wrap (by omega) (by omega)
    have v6 : IntKind.i64.wrap (p * 29) = p * 29 := i64_wrap (by omega) (by omega)
    have v7 : IntKind.i64.wrap (c * 131 + c' * 1117 + p * 29) = c * 131 + c' * 1117 + p * 29 := i64_wrap (by omega) (by omega)
    have q0 : p.tdiv code.length = p / code.length := Int.tdiv_eq_ediv_of_nonneg hpos
    have q1 : 0 ≤ p.tdiv code.length := by rw [q0]; exact Int.ediv_nonneg hpos (by omega)
    have q2 : p.tdiv code.length ≤ p := by rw [q0]; exact Int.ediv_le_self _ hpos
    have v8 : IntKind.i64.wrap (p.tdiv code.length) = p.tdiv code.length := i64_wrap (by omega) (by omega)
    have v9 : IntKind.i64.wrap (p.tdiv code.length * 53) = p.tdiv code.length * 53 := i64_wrap (by omega) (by omega)
    have va : IntKind.i64.wrap (c * 131 + c' * 1117 + p * 29 + p.tdiv code.length * 53) = c * 131 + c' * 1117 + p * 29 + p.tdiv code.length * 53 := i64_wrap (by omega) (by omega)
    have sp : 0 ≤ c * 131 + c' * 1117 + p * 29 + p.tdiv code.length * 53 := by omega
    have sq : c * 131 + c' * 1117 + p * 29 + p.tdiv code.length * 53 < 2 ^ 60 := by omega
    generalize hS : c * 131 + c' * 1117 + p * 29 + p.tdiv code.length * 53 = S at va sp sq
    have s0 : S.tdiv 64 = S / 64 := Int.tdiv_eq_ediv_of_nonneg sp
    have s1 : 0 ≤ S.tdiv 64 := by rw [s0]; omega
    have s2 : S.tdiv 64 < 2 ^ 60 := by rw [s0]; omega
    have vb : IntKind.i64.wrap (S.tdiv 64) = S.tdiv 64 := i64_wrap (by omega) (by omega)
    have sx := xor_ge (a := S) (b := S.tdiv 64) sp (by omega) s1 (by omega)
    simp +contextual (maxSteps := 2000000) only [go_sem, Nat.reduceEqDiff, reduceCtorEq, Nat.reduceAdd, Nat.reduceLeDiff, l0, l1, yl, decide_eq_false c1, decide_eq_false c2, w2, decide_eq_false c3, e1, e2, e1', e2', wc, wc', v1, v2, v3, v4, v5, v6, v7, v8, v9, hS, va, vb, bin_rem hn0, bin_rem hc0, bin_quo hc0, bin_quo (show (64 : Int) ≠ 0 by decide), bin_xor]
    exact fin _ sx
/-! (*spec.reader).one -/
def L111_0 : List AStep := [⟨.mov (.c (.int .i64 0)), (some 4), none, []⟩]
theorem v111_0 : VS L111_0.eq_1 := rfl
def L111_1 : List AStep := [⟨.load 1 false (.t 10), (some 11), none, []⟩, ⟨.mov (.t 11), (some 4), none, []⟩]
theorem v111_1 : VS L111_1.eq_1 := rfl
def L111_2 : List AStep := ⟨.call 89 [(.t 6), (.t 8)], (some 9), none, []⟩ :: ⟨.iaddr 1 (.t 5) (.t 9), (some 10), none, []⟩ :: L111_1
theorem v111_2 : VS L111_2.eq_1 := rfl
def L111_3 : List AStep := ⟨.mov (.t 1), (some 7), none, []⟩ :: ⟨.len (.t 7), (some 8), none, []⟩ :: L111_2
theorem v111_3 : VS L111_3.eq_1 := rfl
def L111_4 : List AStep := ⟨.mov (.t 1), (some 5), none, []⟩ :: ⟨.mov (.t 0), (some 6), none, []⟩ :: L111_3
theorem v111_4 : VS L111_4.eq_1 := rfl
def C111_0 : ACode := .seq (.reg L111_4) .ret
theorem u111_0 : VC C111_0.eq_1 := rfl
def C111_1 : ACode := .seq (.reg L111_0) C111_0
theorem u111_1 : VC C111_1.eq_1 := rfl
def F111 : AFunc := ⟨12, [.tmp 4], C111_1⟩
theorem cF111 : compB Tryd.prog 111 = some F111 := by kernel_rfl
attribute [local go_sem ↓] u111_0 u111_1 v111_0 v111_1 v111_2 v111_3 v111_4
theorem c_one (b : Nat) (p : Int) (l : List Int) (v : AV) (h : H) (r : Rd h b p) (hp : p ≤ 2 ^ 40) (hl : SlI h v l) (hs : ∀ i, baseOf v = some i → b < i) (hz : 0 < l.length) (hn : l.length ≤ 100) : callK (bm Tryd.prog 111 [.one (.ptr (some (b, 0))), v] h) fun q h' => (∃ n ∈ l, q = ii n) ∧ Drew b p 1 h h' := by
  refine bm_of cF111 ?_
  simp +contextual (maxSteps := 2000000) only [go_sem, Nat.reduceEqDiff, reduceCtorEq, Nat.reduceAdd, Nat.reduceLeDiff, F111, hl.len]
  refine wp_call (c_pick b l.length p h r hp) ?_
  rintro q h1 ⟨⟨k, rfl, k0, k1⟩, d⟩
  have hk : k < l.length := by omega
  have hl1 := hl.of_stay d.st fun i hi e => by have := hs i hi; simp [bR, baseOf] at e; omega
  have hi : k.toNat < l.length := by omega
  simp +contextual (maxSteps := 2000000) only [go_sem, Nat.reduceEqDiff, reduceCtorEq, Nat.reduceAdd, Nat.reduceLeDiff, hl1.iaddr_int k0 hk, hl1.oneO hi]
  exact gcK_drew r d ⟨⟨_, List.getElem_mem hi, rfl⟩, d⟩
/-! (*spec.reader).of -/
def L114_0 : List AStep := [⟨.mov (.c (.str (strOfNums []))), (some 4), none, []⟩]
theorem v114_0 : VS L114_0.eq_1 := rfl
def L114_1 : List AStep := [⟨.load 1 false (.t 10), (some 11), none, []⟩, ⟨.mov (.t 11), (some 4), none, []⟩]
theorem v114_1 : VS L114_1.eq_1 := rfl
def L114_2 : List AStep := ⟨.call 89 [(.t 6), (.t 8)], (some 9), none, []⟩ :: ⟨.iaddr 1 (.t 5) (.t 9), (some 10), none, []⟩ :: L114_1
theorem v114_2 : VS L114_2.eq_1 := rfl
def L114_3 : List AStep := ⟨.mov (.t 1), (some 7), none, []⟩ :: ⟨.len (.t 7), (some 8), none, []⟩ :: L114_2
theorem v114_3 : VS L114_3.eq_1 := rfl
def L114_4 : List AStep := ⟨.mov (.t 1), (some 5), none, []⟩ :: ⟨.mov (.t 0), (some 6), none, []⟩ :: L114_3
theorem v114_4 : VS L114_4.eq_1 := rfl
def C114_0 : ACode := .seq (.reg L114_4) .ret
theorem u114_0 : VC C114_0.eq_1 := rfl
def C114_1 : ACode := .seq (.reg L114_0) C114_0
theorem u114_1 : VC C114_1.eq_1 := rfl
def F114 : AFunc := ⟨12, [.tmp 4], C114_1⟩
theorem cF114 : compB Tryd.prog 114 = some F114 := by kernel_rfl
attribute [local go_sem ↓] u114_0 u114_1 v114_0 v114_1 v114_2 v114_3 v114_4
theorem c_of (b : Nat) (p : Int) (l : List ByteArray) (v : AV) (h : H) (r : Rd h b p) (hp : p ≤ 2 ^ 40) (hl : SlS h v l) (hs : ∀ i, baseOf v = some i → b < i) (hz : 0 < l.length) (hn : l.length ≤ 100) : callK (bm Tryd.prog 114 [.one (.ptr (some (b, 0))), v] h) fun q h' => (∃ n ∈ l, q = .one (.str n)) ∧ Drew b p 1 h h' := by
  refine bm_of cF114 ?_
  simp +contextual (maxSteps := 2000000) only [go_sem, Nat.reduceEqDiff, reduceCtorEq, Nat.reduceAdd, Nat.reduceLeDiff, F114, hl.len]
  refine wp_call (c_pick b l.length p h r hp) ?_
  rintro q h1 ⟨⟨k, rfl, k0, k1⟩, d⟩
  have hk : k < l.length := by omega
  have hl1 := hl.of_stay d.st fun i hi e => by have := hs i hi; simp [bR, baseOf] at e; omega
  have hi : k.toNat < l.length := by omega
  simp +contextual (maxSteps := 2000000) only [go_sem, Nat.reduceEqDiff, reduceCtorEq, Nat.reduceAdd, Nat.reduceLeDiff, hl1.iaddr_int k0 hk, hl1.oneO hi]
  exact gcK_drew r d ⟨⟨_, List.getElem_mem hi, rfl⟩, d⟩
end Go.Proofs.YtoeceafibmafpaaDoor.Am
