/- Contracts: the readers that draw numbers. -/
import Derived.Test.YtekkimfdcbgcoabDat
namespace Go.Proofs.Ytekkimfdcbgcoab.Am
open Go
set_option maxRecDepth 100000
set_option maxHeartbeats 4000000
set_option linter.unusedSimpArgs false
set_option linter.unusedVariables false
attribute [local go_sem ↓] bv_t bv_c ev_t ev_c put_same put_ne put_none kill_at pro_at lb_same lb_ne start_zero start_succ wpC_seq wpC_reg wpC_cond wpC_block wpC_skip wpC_exit wpC_ret thenQ_normal thenQ_exit thenQ_ret inBlk_normal inBlk_exit inBlk_ret wpS_nil wpS_step wpS_again wpS_guard wpO_mov wpO_load wpO_faddr wpO_nilCheck wpO_pick wpO_build wpO_bin wpO_eqb wpO_eqst wpO_eqnil wpO_not wpO_conv wpO_bytesStr wpO_iaddr wpO_idxStr wpO_field wpO_extract wpO_len wpO_lenStr wpO_cap wpO_min wpO_slice wpO_sliceStr wpO_alloc wpO_box wpO_store wpO_call wpO_callv wpO_mkfn wpO_buildSlice wpO_mkslice wpO_append wpO_appz proA_nil proA_cons tmpX_nil tmpX_tmp tmpX_cell doneB_normal doneB_ret agK_cons agK_nil agK_guard agG_tt agG_ff agG_tf agG_ft agG_undef pureB_load results_one results_two results_nil resBs_cons resBs_nil resB_tmp resB_cell
attribute [local go_sem] kill_v kill_lp_ne kill_lp_same pro_v pro_lp_same pro_lp_ne av_v av_lp optB_some optX_some valX_eq ldX_lp ldX_v faX_lp faX_v ncX_lp ncX_ptr ncX_fn boxK_one boxK_agg stL_some stK_lp_one stK_lp_agg stK_v_one stK_v_agg proM_v proM_lp callG_mk callVG_mk callvK_fn fnG_mk ptrsA_nil ptrsA_cons callH_some whenA_true whenA_false guardH_tt guardH_ff guardH_tf guardH_ft guardH_undef agV_one agV_agg lenO_sl lenStrO_str notO_bool pickO_bool convO_int eqbO_bool eqnilO_sl extractO_tup capO_sl minO_int loadL_one loadL_all storeL_eq fillA_nil fillA_one fillA_agg nat_ge neg_ge nat_lt neg_lt buildO bin_add bin_sub bin_mul bin_eql bin_neq bin_lss bin_leq bin_gtr bin_geq str_eql str_neq str_lss str_leq str_gtr str_geq retK_some endK_mk gcK_same gcK_int gcK_bool tupO_one tupO_agg rdy_self ib ii Option.map_none Option.map_some Option.some.injEq exists_eq_left' exists_eq_left ne_eq not_false_eq_true if_true if_false List.map_cons List.map_nil List.getElem?_cons_zero List.getElem?_cons_succ List.length_cons List.length_nil List.take_succ_cons List.take_zero List.take_nil List.drop_succ_cons List.drop_zero List.drop_nil List.cons_append List.nil_append List.append_nil List.set_cons_zero List.set_cons_succ Nat.zero_add forall_const true_and and_true and_self Bool.false_eq_true false_implies true_implies implies_true Bool.not_true Bool.not_false Bool.not_eq_true' Bool.not_eq_false' beq_self_eq_true Bool.bne_true Bool.bne_false
attribute [local go_sem] lenI lenS lenP lenQ lenB lenL lenT encI_0 encS_0 encP_0 encP_1 encQ_0 encQ_1 encQ_2 encQ_3 encB_0 encB_1 encL_0 encL_1 encT_0 encT_1
attribute [local go_sem low] whenA_bool guardH_bool
def encBy (n : Int) : List CV := [.int .u8 n]
theorem lenBy (x : Int) : (encBy x).length = 1 := Eq.trans (b := 1) rfl rfl
theorem encBy_0 (x : Int) : (encBy x)[0]? = some (.int .u8 x) := rfl
def bR (b : Nat) : AV := .one (.sl (some (b, 0)) 0 none)
structure Rd (h : H) (b : Nat) (p : Int) : Prop where
  ex : ∃ v code, Box h b [v, .int .i64 p] 116 ∧ Sl encBy 1 5 h (.one v) code ∧ (∀ x ∈ code, 0 ≤ x ∧ x ≤ 255) ∧ code.length ≤ 2000 ∧ ∀ i, baseOf (.one v) = some i → i < b
  pos : 0 ≤ p
theorem Rd.lt {h : H} {b : Nat} {p : Int} (r : Rd h b p) : b < h.n := by
  obtain ⟨v, code, x, _⟩ := r.ex
  exact x.lt
theorem Rd.stay {h h1 : H} {b : Nat} {p : Int} {s : AV} (r : Rd h b p) (st : Stay s h h1) (hb : ∀ i, baseOf s = some i → b < i) : Rd h1 b p := by
  obtain ⟨v, code, x, y, z, w, u⟩ := r.ex
  exact ⟨⟨v, code, x.stay st fun e => by have := hb _ e; omega, y.of_stay st fun i hi e => by have := hb _ e; have := u _ hi; omega, z, w, u⟩, r.pos⟩
theorem Rd.grow {h h1 : H} {b : Nat} {p : Int} (r : Rd h b p) (g : Grow h h1) : Rd h1 b p := r.stay (s := .tup []) (g.stay _) fun i hi => by simp [baseOf] at hi
/-- Something was drawn. -/
structure Drew (b : Nat) (p : Int) (c : Nat) (h h' : H) : Prop where
  st : Stay (bR b) h h'
  ex : ∃ p', p < p' ∧ p' ≤ p + c ∧ Rd h' b p'
theorem Drew.grow {h h1 h2 : H} {b c : Nat} {p : Int} (d : Drew b p c h h1) (g : Grow h1 h2) : Drew b p c h h2 := by
  obtain ⟨p', h3, h4, r⟩ := d.ex
  exact ⟨d.st.trans (g.stay _), p', h3, h4, r.grow g⟩
theorem Drew.stay {h h1 h2 : H} {b c : Nat} {p : Int} {s : AV} (d : Drew b p c h h1) (st : Stay s h1 h2) (hb : ∀ i, baseOf s = some i → h.n ≤ i) (hr : b < h.n) : Drew b p c h h2 := by
  obtain ⟨p', h3, h4, r⟩ := d.ex
  refine ⟨⟨Nat.le_trans d.st.n st.n, fun i hi hn => ?_⟩, p', h3, h4, r.stay st fun i hi => by have := hb i hi; omega⟩
  rw [st.f i (Nat.lt_of_lt_of_le hi d.st.n) fun e => by have := hb i e; omega]
  exact d.st.f i hi hn
theorem Drew.more {h h1 : H} {b c c2 : Nat} {p : Int} (d : Drew b p c h h1) (hc : c ≤ c2) : Drew b p c2 h h1 := by
  obtain ⟨p', h3, h4, r⟩ := d.ex
  exact ⟨d.st, p', h3, by omega, r⟩
/-- Drawn ahead of and behind. -/
theorem Drew.then {h h1 h2 : H} {b c c2 : Nat} {p p1 : Int} (st : Stay (bR b) h h1) (hp : p ≤ p1) (hc : p1 ≤ p + c) (d : Drew b p1 c2 h1 h2) : Drew b p (c + c2) h h2 := by
  obtain ⟨p', h3, h4, r⟩ := d.ex
  exact ⟨st.trans d.st, p', by omega, by omega, r⟩
theorem gcK_drew {h h1 : H} {b c : Nat} {p : Int} {v : AV} {K : AV → H → Prop} (r : Rd h b p) (d : Drew b p c h h1) (hk : K v h1) : gcK h v h1 K := gcK_of hk fun _ gg => by
  obtain ⟨p', h3, _, r1⟩ := d.ex
  obtain ⟨v0, _, x, _⟩ := r.ex
  obtain ⟨v1, _, y, _⟩ := r1.ex
  have e := gg.f b x.lt
  rw [x.eq, y.eq] at e
  simp at e
  omega
theorem wp_boxset {T : Tb} {L : Lb} {K : Post} {h : H} {b ty off m : Nat} {cs vs : List CV} {d : Option Nat} (hb : Box h b cs ty) (hm : vs.length = m) (hv : off + vs.length ≤ cs.length)
    (hk : ∀ h1, Stay (bR b) h h1 → h1.n = h.n → Box h1 b (cs.take off ++ (vs ++ cs.drop (off + vs.length))) ty → K (T.put d (.v undefA)) L (rdy h1)) : stH m (b, off) vs d T L h K := by
  obtain ⟨h1, h2, h3, h4, h5⟩ := hb.store (off := off) (vs := vs) hv
  exact ⟨h1, hm, h2, hk h1 ⟨by omega, fun i hi hn => h4 i fun e => hn (by simp [bR, baseOf, e])⟩ h3 h5⟩
theorem bin_xor {k : IntKind} {a b : Int} : binA .xor (.one (.int k a)) (.one (.int k b)) = some (.one (.int k (k.wrap (BitVec.ofInt k.bits a ^^^ BitVec.ofInt k.bits b).toNat))) := by simp [binA]
theorem xor_ge {a b : Int} (h1 : 0 ≤ a) (h2 : a < 2 ^ 62) (h3 : 0 ≤ b) (h4 : b < 2 ^ 62) : 0 ≤ IntKind.i64.wrap (BitVec.ofInt IntKind.i64.bits a ^^^ BitVec.ofInt IntKind.i64.bits b).toNat := by
  have e : ∀ x : Int, 0 ≤ x → x < 2 ^ 62 → (BitVec.ofInt 64 x).toNat < 2 ^ 62 := fun x hx hy => by
    rw [BitVec.toNat_ofInt]
    have : (x % ((2 ^ 64 : Nat) : Int)).toNat = x.toNat := by rw [Int.emod_eq_of_lt hx (by omega)]
    omega
  have h5 : (BitVec.ofInt 64 a ^^^ BitVec.ofInt 64 b).toNat < 2 ^ 62 := by
    rw [BitVec.toNat_xor]
    exact Nat.xor_lt_two_pow (e a h1 h2) (e b h3 h4)
  show 0 ≤ IntKind.i64.wrap ((BitVec.ofInt 64 a ^^^ BitVec.ofInt 64 b).toNat : Int)
  rw [i64_wrap (by omega) (by omega)]
  omega
/-! spec.newReader -/
def L50_0 : List AStep := [⟨.mov (.c (.ptr none)), (some 2), none, []⟩]
theorem v50_0 : VS L50_0.eq_1 := rfl
def L50_1 : List AStep := [⟨.bin .gtr (.t 4) (.c (.int .i64 2000)), (some 5), none, []⟩]
theorem v50_1 : VS L50_1.eq_1 := rfl
def L50_2 : List AStep := ⟨.mov (.t 0), (some 3), none, []⟩ :: ⟨.len (.t 3), (some 4), none, []⟩ :: L50_1
theorem v50_2 : VS L50_2.eq_1 := rfl
def L50_3 : List AStep := [⟨.mov (.t 7), (some 0), none, []⟩]
theorem v50_3 : VS L50_3.eq_1 := rfl
def L50_4 : List AStep := ⟨.mov (.t 0), (some 6), none, []⟩ :: ⟨.slice 5 1 (.t 6) none (some (.c (.int .i64 2000))) none, (some 7), none, []⟩ :: L50_3
theorem v50_4 : VS L50_4.eq_1 := rfl
def L50_5 : List AStep := [⟨.box 116 (.t 9), (some 10), none, []⟩, ⟨.mov (.t 10), (some 2), none, []⟩]
theorem v50_5 : VS L50_5.eq_1 := rfl
def L50_6 : List AStep := ⟨.mov (.t 0), (some 8), none, []⟩ :: ⟨.build [(.sl none 0 (some 0)), (.int .i64 0)] [(0, 1, (.t 8))], (some 9), none, []⟩ :: L50_5
theorem v50_6 : VS L50_6.eq_1 := rfl
def C50_0 : ACode := .cond (.t 5) (.reg L50_4) .skip
theorem u50_0 : VC C50_0.eq_1 := rfl
def C50_1 : ACode := .seq (.reg L50_2) C50_0
theorem u50_1 : VC C50_1.eq_1 := rfl
def C50_2 : ACode := .seq (.reg L50_6) .ret
theorem u50_2 : VC C50_2.eq_1 := rfl
def C50_3 : ACode := .seq C50_1 C50_2
theorem u50_3 : VC C50_3.eq_1 := rfl
def C50_4 : ACode := .seq (.reg L50_0) C50_3
theorem u50_4 : VC C50_4.eq_1 := rfl
def F50 : AFunc := ⟨11, [.tmp 2], C50_4⟩
theorem cF50 : compB Try.prog 50 = some F50 := by kernel_rfl
attribute [local go_sem ↓] u50_0 u50_1 u50_2 u50_3 u50_4 v50_0 v50_1 v50_2 v50_3 v50_4 v50_5 v50_6
theorem c_newReader (code : List Int) (v : CV) (h : H) (hl : Sl encBy 1 5 h (.one v) code) (hc : ∀ x ∈ code, 0 ≤ x ∧ x ≤ 255) : callK (bm Try.prog 50 [.one v] h) fun r h' => Grow h h' ∧ ∃ b, r = .one (.ptr (some (b, 0))) ∧ Rd h' b 0 ∧ h.n ≤ b := by
  refine bm_of cF50 ?_
  have fin : ∀ (w : CV) (c : List Int), Sl encBy 1 5 h (.one w) c → (∀ x ∈ c, 0 ≤ x ∧ x ≤ 255) → c.length ≤ 2000 → Rd (h.alloc [w, .int .i64 0] 116) h.n 0 := fun w c s1 s2 s3 =>
    ⟨⟨w, c, Box.new, s1.grow (Grow.alloc _ _ _), s2, s3, fun i hi => by
      obtain ⟨b, k, e, _⟩ := s1.form
      cases b with
      | none => rw [e] at hi; simp [baseOf] at hi
      | some a =>
        rw [e] at hi
        simp [baseOf] at hi
        have := (s1.own a _ k e).1
        omega⟩, Int.le_refl _⟩
  by_cases b1 : code.length ≤ 2000
  · have d1 : decide ((code.length : Int) > 2000) = false := decide_eq_false (by omega)
    simp +contextual (maxSteps := 2000000) only [go_sem, Nat.reduceEqDiff, reduceCtorEq, Nat.reduceAdd, Nat.reduceLeDiff, F50, hl.len, d1]
    exact gcK_of ⟨Grow.alloc _ _ _, _, rfl, fin v code hl hc b1, Nat.le_refl _⟩ (fun hs _ => by simp [AV.scalar, CV.scalar] at hs)
  · have d1 : decide ((code.length : Int) > 2000) = true := decide_eq_true (by omega)
    obtain ⟨w, e1, s1⟩ := hl.takeO (i := 2000) (by omega) (kd := .i64)
    obtain ⟨wb, wc, rfl, _⟩ := s1.form
    have e2 : cutO 5 1 h (.one v) none (some (.one (.int .i64 2000))) none = some (.one (.sl wb (code.take 2000).length wc)) := e1
    simp +contextual (maxSteps := 2000000) only [go_sem, Nat.reduceEqDiff, reduceCtorEq, Nat.reduceAdd, Nat.reduceLeDiff, F50, hl.len, d1, e2]
    exact gcK_of ⟨Grow.alloc _ _ _, _, rfl, fin _ _ s1 (fun x hx => hc x (List.mem_of_mem_take hx)) (by simp; omega), Nat.le_refl _⟩ (fun hs _ => by simp [AV.scalar, CV.scalar] at hs)
/-! (*spec.reader).pick -/
def L69_0 : List AStep := [⟨.mov (.c (.int .i64 0)), (some 4), none, []⟩]
theorem v69_0 : VS L69_0.eq_1 := rfl
def L69_1 : List AStep := [⟨.store 1 (.t 14) (.t 12), none, none, []⟩]
theorem v69_1 : VS L69_1.eq_1 := rfl
def L69_2 : List AStep := ⟨.nilCheck (.t 7), (some 13), none, []⟩ :: ⟨.faddr 1 (.t 13), (some 14), none, []⟩ :: L69_1
theorem v69_2 : VS L69_2.eq_1 := rfl
def L69_3 : List AStep := ⟨.load 1 false (.t 10), (some 11), none, []⟩ :: ⟨.bin .add (.t 11) (.c (.int .i64 1)), (some 12), none, []⟩ :: L69_2
theorem v69_3 : VS L69_3.eq_1 := rfl
def L69_4 : List AStep := ⟨.nilCheck (.t 8), (some 9), none, []⟩ :: ⟨.faddr 1 (.t 9), (some 10), none, []⟩ :: L69_3
theorem v69_4 : VS L69_4.eq_1 := rfl
def L69_5 : List AStep := ⟨.mov (.t 0), (some 7), none, []⟩ :: ⟨.mov (.t 0), (some 8), none, []⟩ :: L69_4
theorem v69_5 : VS L69_5.eq_1 := rfl
def L69_6 : List AStep := [⟨.bin .eql (.t 22) (.c (.int .i64 0)), (some 23), (some (17, false)), []⟩, ⟨.pick (.t 17) (.c (.bool true)) (.t 23), (some 24), none, []⟩]
theorem v69_6 : VS L69_6.eq_1 := rfl
def L69_7 : List AStep := ⟨.load 1 false (.t 20), (some 21), (some (17, false)), []⟩ :: ⟨.len (.t 21), (some 22), (some (17, false)), []⟩ :: L69_6
theorem v69_7 : VS L69_7.eq_1 := rfl
def L69_8 : List AStep := ⟨.nilCheck (.t 18), (some 19), (some (17, false)), []⟩ :: ⟨.faddr 0 (.t 19), (some 20), (some (17, false)), []⟩ :: L69_7
theorem v69_8 : VS L69_8.eq_1 := rfl
def L69_9 : List AStep := ⟨.mov (.t 16), (some 17), none, []⟩ :: ⟨.mov (.t 0), (some 18), (some (17, false)), []⟩ :: L69_8
theorem v69_9 : VS L69_9.eq_1 := rfl
def L69_10 : List AStep := ⟨.mov (.t 1), (some 15), none, []⟩ :: ⟨.bin .lss (.t 15) (.c (.int .i64 1)), (some 16), none, []⟩ :: L69_9
theorem v69_10 : VS L69_10.eq_1 := rfl
def L69_11 : List AStep := [⟨.mov (.c (.int .i64 0)), (some 4), none, []⟩]
theorem v69_11 : VS L69_11.eq_1 := rfl
def L69_12 : List AStep := [⟨.bin .sub (.t 28) (.c (.int .i64 1)), (some 29), none, []⟩, ⟨.mov (.t 29), (some 5), none, []⟩]
theorem v69_12 : VS L69_12.eq_1 := rfl
def L69_13 : List AStep := ⟨.faddr 1 (.t 26), (some 27), none, []⟩ :: ⟨.load 1 false (.t 27), (some 28), none, []⟩ :: L69_12
theorem v69_13 : VS L69_13.eq_1 := rfl
def L69_14 : List AStep := ⟨.mov (.t 0), (some 25), none, []⟩ :: ⟨.nilCheck (.t 25), (some 26), none, []⟩ :: L69_13
theorem v69_14 : VS L69_14.eq_1 := rfl
def L69_15 : List AStep := [⟨.bin .lss (.t 30) (.t 35), (some 36), none, []⟩]
theorem v69_15 : VS L69_15.eq_1 := rfl
def L69_16 : List AStep := ⟨.load 1 false (.t 33), (some 34), none, []⟩ :: ⟨.len (.t 34), (some 35), none, []⟩ :: L69_15
theorem v69_16 : VS L69_16.eq_1 := rfl
def L69_17 : List AStep := ⟨.nilCheck (.t 31), (some 32), none, []⟩ :: ⟨.faddr 0 (.t 32), (some 33), none, []⟩ :: L69_16
theorem v69_17 : VS L69_17.eq_1 := rfl
def L69_18 : List AStep := ⟨.mov (.t 5), (some 30), none, []⟩ :: ⟨.mov (.t 0), (some 31), none, []⟩ :: L69_17
theorem v69_18 : VS L69_18.eq_1 := rfl
def L69_19 : List AStep := [⟨.mov (.t 46), (some 4), none, []⟩]
theorem v69_19 : VS L69_19.eq_1 := rfl
def L69_20 : List AStep := ⟨.mov (.t 1), (some 45), none, []⟩ :: ⟨.bin .rem (.t 44) (.t 45), (some 46), none, []⟩ :: L69_19
theorem v69_20 : VS L69_20.eq_1 := rfl
def L69_21 : List AStep := ⟨.load 1 false (.t 42), (some 43), none, []⟩ :: ⟨.conv .i64 (.t 43), (some 44), none, []⟩ :: L69_20
theorem v69_21 : VS L69_21.eq_1 := rfl
def L69_22 : List AStep := ⟨.mov (.t 5), (some 41), none, []⟩ :: ⟨.iaddr 1 (.t 40) (.t 41), (some 42), none, []⟩ :: L69_21
theorem v69_22 : VS L69_22.eq_1 := rfl
def L69_23 : List AStep := ⟨.faddr 0 (.t 38), (some 39), none, []⟩ :: ⟨.load 1 false (.t 39), (some 40), none, []⟩ :: L69_22
theorem v69_23 : VS L69_23.eq_1 := rfl
def L69_24 : List AStep := ⟨.mov (.t 0), (some 37), none, []⟩ :: ⟨.nilCheck (.t 37), (some 38), none, []⟩ :: L69_23
theorem v69_24 : VS L69_24.eq_1 := rfl
def L69_25 : List AStep := [⟨.bin .add (.t 82) (.t 90), (some 91), none, []⟩, ⟨.mov (.t 91), (some 6), none, []⟩]
theorem v69_25 : VS L69_25.eq_1 := rfl
def L69_26 : List AStep := ⟨.bin .quo (.t 83) (.t 88), (some 89), none, []⟩ :: ⟨.bin .mul (.t 89) (.c (.int .i64 53)), (some 90), none, []⟩ :: L69_25
theorem v69_26 : VS L69_26.eq_1 := rfl
def L69_27 : List AStep := ⟨.load 1 false (.t 86), (some 87), none, []⟩ :: ⟨.len (.t 87), (some 88), none, []⟩ :: L69_26
theorem v69_27 : VS L69_27.eq_1 := rfl
def L69_28 : List AStep := ⟨.nilCheck (.t 84), (some 85), none, []⟩ :: ⟨.faddr 0 (.t 85), (some 86), none, []⟩ :: L69_27
theorem v69_28 : VS L69_28.eq_1 := rfl
def L69_29 : List AStep := ⟨.mov (.t 5), (some 83), none, []⟩ :: ⟨.mov (.t 0), (some 84), none, []⟩ :: L69_28
theorem v69_29 : VS L69_29.eq_1 := rfl
def L69_30 : List AStep := ⟨.bin .mul (.t 80) (.c (.int .i64 29)), (some 81), none, []⟩ :: ⟨.bin .add (.t 79) (.t 81), (some 82), none, []⟩ :: L69_29
theorem v69_30 : VS L69_30.eq_1 := rfl
def L69_31 : List AStep := ⟨.bin .add (.t 61) (.t 78), (some 79), none, []⟩ :: ⟨.mov (.t 5), (some 80), none, []⟩ :: L69_30
theorem v69_31 : VS L69_31.eq_1 := rfl
def L69_32 : List AStep := ⟨.conv .i64 (.t 76), (some 77), none, []⟩ :: ⟨.bin .mul (.t 77) (.c (.int .i64 1117)), (some 78), none, []⟩ :: L69_31
theorem v69_32 : VS L69_32.eq_1 := rfl
def L69_33 : List AStep := ⟨.iaddr 1 (.t 65) (.t 74), (some 75), none, []⟩ :: ⟨.load 1 false (.t 75), (some 76), none, []⟩ :: L69_32
theorem v69_33 : VS L69_33.eq_1 := rfl
def L69_34 : List AStep := ⟨.len (.t 72), (some 73), none, []⟩ :: ⟨.bin .rem (.t 68) (.t 73), (some 74), none, []⟩ :: L69_33
theorem v69_34 : VS L69_34.eq_1 := rfl
def L69_35 : List AStep := ⟨.faddr 0 (.t 70), (some 71), none, []⟩ :: ⟨.load 1 false (.t 71), (some 72), none, []⟩ :: L69_34
theorem v69_35 : VS L69_35.eq_1 := rfl
def L69_36 : List AStep := ⟨.mov (.t 0), (some 69), none, []⟩ :: ⟨.nilCheck (.t 69), (some 70), none, []⟩ :: L69_35
theorem v69_36 : VS L69_36.eq_1 := rfl
def L69_37 : List AStep := ⟨.bin .mul (.t 66) (.c (.int .i64 7)), (some 67), none, []⟩ :: ⟨.bin .add (.t 67) (.c (.int .i64 3)), (some 68), none, []⟩ :: L69_36
theorem v69_37 : VS L69_37.eq_1 := rfl
def L69_38 : List AStep := ⟨.load 1 false (.t 64), (some 65), none, []⟩ :: ⟨.mov (.t 5), (some 66), none, []⟩ :: L69_37
theorem v69_38 : VS L69_38.eq_1 := rfl
def L69_39 : List AStep := ⟨.nilCheck (.t 62), (some 63), none, []⟩ :: ⟨.faddr 0 (.t 63), (some 64), none, []⟩ :: L69_38
theorem v69_39 : VS L69_39.eq_1 := rfl
def L69_40 : List AStep := ⟨.bin .mul (.t 60) (.c (.int .i64 131)), (some 61), none, []⟩ :: ⟨.mov (.t 0), (some 62), none, []⟩ :: L69_39
theorem v69_40 : VS L69_40.eq_1 := rfl
def L69_41 : List AStep := ⟨.load 1 false (.t 58), (some 59), none, []⟩ :: ⟨.conv .i64 (.t 59), (some 60), none, []⟩ :: L69_40
theorem v69_41 : VS L69_41.eq_1 := rfl
def L69_42 : List AStep := ⟨.bin .rem (.t 51) (.t 56), (some 57), none, []⟩ :: ⟨.iaddr 1 (.t 50) (.t 57), (some 58), none, []⟩ :: L69_41
theorem v69_42 : VS L69_42.eq_1 := rfl
def L69_43 : List AStep := ⟨.load 1 false (.t 54), (some 55), none, []⟩ :: ⟨.len (.t 55), (some 56), none, []⟩ :: L69_42
theorem v69_43 : VS L69_43.eq_1 := rfl
def L69_44 : List AStep := ⟨.nilCheck (.t 52), (some 53), none, []⟩ :: ⟨.faddr 0 (.t 53), (some 54), none, []⟩ :: L69_43
theorem v69_44 : VS L69_44.eq_1 := rfl
def L69_45 : List AStep := ⟨.mov (.t 5), (some 51), none, []⟩ :: ⟨.mov (.t 0), (some 52), none, []⟩ :: L69_44
theorem v69_45 : VS L69_45.eq_1 := rfl
def L69_46 : List AStep := ⟨.faddr 0 (.t 48), (some 49), none, []⟩ :: ⟨.load 1 false (.t 49), (some 50), none, []⟩ :: L69_45
theorem v69_46 : VS L69_46.eq_1 := rfl
def L69_47 : List AStep := ⟨.mov (.t 0), (some 47), none, []⟩ :: ⟨.nilCheck (.t 47), (some 48), none, []⟩ :: L69_46
theorem v69_47 : VS L69_47.eq_1 := rfl
def L69_48 : List AStep := [⟨.mov (.t 95), (some 6), none, []⟩]
theorem v69_48 : VS L69_48.eq_1 := rfl
def L69_49 : List AStep := ⟨.bin .quo (.t 93) (.c (.int .i64 64)), (some 94), none, []⟩ :: ⟨.bin .xor (.t 92) (.t 94), (some 95), none, []⟩ :: L69_48
theorem v69_49 : VS L69_49.eq_1 := rfl
def L69_50 : List AStep := ⟨.mov (.t 6), (some 92), none, []⟩ :: ⟨.mov (.t 6), (some 93), none, []⟩ :: L69_49
theorem v69_50 : VS L69_50.eq_1 := rfl
def L69_51 : List AStep := [⟨.bin .rem (.t 96) (.t 97), (some 98), none, []⟩, ⟨.mov (.t 98), (some 4), none, []⟩]
theorem v69_51 : VS L69_51.eq_1 := rfl
def L69_52 : List AStep := ⟨.mov (.t 6), (some 96), none, []⟩ :: ⟨.mov (.t 1), (some 97), none, []⟩ :: L69_51
theorem v69_52 : VS L69_52.eq_1 := rfl
def C69_0 : ACode := .seq (.reg L69_11) .ret
theorem u69_0 : VC C69_0.eq_1 := rfl
def C69_1 : ACode := .cond (.t 24) C69_0 .skip
theorem u69_1 : VC C69_1.eq_1 := rfl
def C69_2 : ACode := .seq (.reg L69_10) C69_1
theorem u69_2 : VC C69_2.eq_1 := rfl
def C69_3 : ACode := .seq (.reg L69_24) .ret
theorem u69_3 : VC C69_3.eq_1 := rfl
def C69_4 : ACode := .cond (.t 36) C69_3 .skip
theorem u69_4 : VC C69_4.eq_1 := rfl
def C69_5 : ACode := .seq (.reg L69_18) C69_4
theorem u69_5 : VC C69_5.eq_1 := rfl
def C69_6 : ACode := .seq (.reg L69_52) .ret
theorem u69_6 : VC C69_6.eq_1 := rfl
def C69_7 : ACode := .seq (.reg L69_50) C69_6
theorem u69_7 : VC C69_7.eq_1 := rfl
def C69_8 : ACode := .seq (.reg L69_47) C69_7
theorem u69_8 : VC C69_8.eq_1 := rfl
def C69_9 : ACode := .seq C69_5 C69_8
theorem u69_9 : VC C69_9.eq_1 := rfl
def C69_10 : ACode := .seq (.reg L69_14) C69_9
theorem u69_10 : VC C69_10.eq_1 := rfl
def C69_11 : ACode := .seq C69_2 C69_10
theorem u69_11 : VC C69_11.eq_1 := rfl
def C69_12 : ACode := .seq (.reg L69_5) C69_11
theorem u69_12 : VC C69_12.eq_1 := rfl
def C69_13 : ACode := .seq (.reg L69_0) C69_12
theorem u69_13 : VC C69_13.eq_1 := rfl
def F69 : AFunc := ⟨99, [.tmp 4], C69_13⟩
theorem cF69 : compB Try.prog 69 = some F69 := by kernel_rfl
attribute [local go_sem ↓] u69_0 u69_1 u69_2 u69_3 u69_4 u69_5 u69_6 u69_7 u69_8 u69_9 u69_10 u69_11 u69_12 u69_13 v69_0 v69_1 v69_2 v69_3 v69_4 v69_5 v69_6 v69_7 v69_8 v69_9 v69_10 v69_11 v69_12 v69_13 v69_14 v69_15 v69_16 v69_17 v69_18 v69_19 v69_20 v69_21 v69_22 v69_23 v69_24 v69_25 v69_26 v69_27 v69_28 v69_29 v69_30 v69_31 v69_32 v69_33 v69_34 v69_35 v69_36 v69_37 v69_38 v69_39 v69_40 v69_41 v69_42 v69_43 v69_44 v69_45 v69_46 v69_47 v69_48 v69_49 v69_50 v69_51 v69_52
theorem c_pick (b : Nat) (n p : Int) (h : H) (r : Rd h b p) (hp : p ≤ 2 ^ 40) : callK (bm Try.prog 69 [.one (.ptr (some (b, 0))), .one (.int .i64 n)] h) fun q h' => (∃ k : Int, q = ii k ∧ 0 ≤ k ∧ (k < n ∨ k = 0)) ∧ Drew b p 1 h h' := by
  refine bm_of cF69 ?_
  obtain ⟨v, code, x, y, z, w, u⟩ := r.ex
  have hpos := r.pos
  have l1 : loadO 1 false h (.one (.ptr (some (b, 1)))) = some (.one (.int .i64 p)) := x.one rfl
  have w1 : IntKind.i64.wrap (p + 1) = p + 1 := i64_wrap (by omega) (by omega)
  simp +contextual (maxSteps := 2000000) only [go_sem, Nat.reduceEqDiff, reduceCtorEq, Nat.reduceAdd, Nat.reduceLeDiff, F69, l1, w1]
  refine wp_boxset x rfl (Nat.le_of_ble_eq_true rfl) ?_
  intro h1 st hn x1
  have x1 : Box h1 b [v, .int .i64 (p + 1)] 116 := x1
  have y1 := y.of_stay st fun i hi e => by have := u i hi; simp [bR, baseOf] at e; omega
  have r1 : Rd h1 b (p + 1) := ⟨⟨v, code, x1, y1, z, w, u⟩, by omega⟩
  have d : Drew b p 1 h h1 := ⟨st, p + 1, by omega, by omega, r1⟩
  have l0 : loadO 1 false h1 (.one (.ptr (some (b, 0)))) = some (.one v) := x1.one rfl
  have l1 : loadO 1 false h1 (.one (.ptr (some (b, 1)))) = some (.one (.int .i64 (p + 1))) := x1.one rfl
  have yl : lenO (.one v) = some (ii code.length) := y1.len
  by_cases c1 : n < 1
  · simp +contextual (maxSteps := 2000000) only [go_sem, Nat.reduceEqDiff, reduceCtorEq, Nat.reduceAdd, Nat.reduceLeDiff, l0, l1, decide_eq_true c1]
    exact gcK_drew r d ⟨⟨0, rfl, Int.le_refl _, .inr rfl⟩, d⟩
  by_cases c2 : (code.length : Int) = 0
  · simp +contextual (maxSteps := 2000000) only [go_sem, Nat.reduceEqDiff, reduceCtorEq, Nat.reduceAdd, Nat.reduceLeDiff, l0, l1, yl, decide_eq_false c1, decide_eq_true c2]
    exact gcK_drew r d ⟨⟨0, rfl, Int.le_refl _, .inr rfl⟩, d⟩
  have hn0 : n ≠ 0 := by omega
  have w2 : IntKind.i64.wrap (p + 1 - 1) = p := by rw [i64_wrap (by omega) (by omega)]; omega
  have at_ : ∀ j : Int, 0 ≤ j → j < code.length → ∃ c : Int, 0 ≤ c ∧ c ≤ 255 ∧ iaddrO 1 (.one v) (.one (.int .i64 j)) = some (.one (.ptr (some (elem 1 (.one v) j.toNat)))) ∧ loadO 1 false h1 (.one (.ptr (some (elem 1 (.one v) j.toNat)))) = some (.one (.int .u8 c)) := fun j h0 hj => by
    have hi : j.toNat < code.length := by omega
    have hz := z _ (List.getElem_mem hi)
    refine ⟨code[j.toNat], hz.1, hz.2, y1.iaddr_int h0 hj, ?_⟩
    rw [y1.oneO hi, encBy_0]
    rfl
  have fin : ∀ a : Int, 0 ≤ a → gcK h (.one (.int .i64 (a.tmod n))) (rdy h1) (fun q h' => (∃ k : Int, q = ii k ∧ 0 ≤ k ∧ (k < n ∨ k = 0)) ∧ Drew b p 1 h h') := fun a ha => by
    have e : a.tmod n = a % n := Int.tmod_eq_emod_of_nonneg ha
    exact gcK_drew r d ⟨⟨_, rfl, by rw [e]; exact Int.emod_nonneg _ hn0, .inl (by rw [e]; exact Int.emod_lt_of_pos _ (by omega))⟩, d⟩
  by_cases c3 : p < code.length
  · obtain ⟨c, k0, k1, e1, e2⟩ := at_ p hpos c3
    have wc : IntKind.i64.wrap c = c := i64_wrap (by omega) (by omega)
    simp +contextual (maxSteps := 2000000) only [go_sem, Nat.reduceEqDiff, reduceCtorEq, Nat.reduceAdd, Nat.reduceLeDiff, l0, l1, yl, decide_eq_false c1, decide_eq_false c2, w2, decide_eq_true c3, e1, e2, wc, bin_rem hn0]
    exact fin c k0
  · have hc0 : (code.length : Int) ≠ 0 := c2
    have m1 : p.tmod code.length = p % code.length := Int.tmod_eq_emod_of_nonneg hpos
    have hm : 0 ≤ p * 7 + 3 := by omega
    have m2 : (p * 7 + 3).tmod code.length = (p * 7 + 3) % code.length := Int.tmod_eq_emod_of_nonneg hm
    obtain ⟨c, k0, k1, e1, e2⟩ := at_ (p.tmod code.length) (by rw [m1]; exact Int.emod_nonneg _ hc0) (by rw [m1]; exact Int.emod_lt_of_pos _ (by omega))
    obtain ⟨c', k0', k1', e1', e2'⟩ := at_ ((p * 7 + 3).tmod code.length) (by rw [m2]; exact Int.emod_nonneg _ hc0) (by rw [m2]; exact Int.emod_lt_of_pos _ (by omega))
    have wc : IntKind.i64.wrap c = c := i64_wrap (by omega) (by omega)
    have wc' : IntKind.i64.wrap c' = c' := i64_wrap (by omega) (by omega)
    have v1 : IntKind.i64.wrap (c * 131) = c * 131 := i64_wrap (by omega) (by omega)
    have v2 : IntKind.i64.wrap (p * 7) = p * 7 := i64_wrap (by omega) (by omega)
    have v3 : IntKind.i64.wrap (p * 7 + 3) = p * 7 + 3 := i64_wrap (by omega) (by omega)
    have v4 : IntKind.i64.wrap (c' * 1117) = c' * 1117 := i64_wrap (by omega) (by omega)
    have v5 : IntKind.i64.wrap (c * 131 + c' * 1117) = c * 131 + c' * 1117 := i64_wrap (by omega) (by omega)
    have v6 : IntKind.i64.wrap (p * 29) = p * 29 := i64_wrap (by omega) (by omega)
    have v7 : IntKind.i64.wrap (c * 131 + c' * 1117 + p * 29) = c * 131 + c' * 1117 + p * 29 := i64_wrap (by omega) (by omega)
    have q0 : p.tdiv code.length = p / code.length := Int.tdiv_eq_ediv_of_nonneg hpos
    have q1 : 0 ≤ p.tdiv code.length := by rw [q0]; exact Int.ediv_nonneg hpos (by omega)
    have q2 : p.tdiv code.length ≤ p := by rw [q0]; exact Int.ediv_le_self _ hpos
    have v8 : IntKind.i64.wrap (p.tdiv code.length) = p.tdiv code.length := i64_wrap (by omega) (by omega)
    have v9 : IntKind.i64.wrap (p.tdiv code.length * 53) = p.tdiv code.length * 53 := i64_wrap (by omega) (by omega)
    have va : IntKind.i64.wrap (c * 131 + c' * 1117 + p * 29 + p.tdiv code.length * 53) = c * 131 + c' * 1117 + p * 29 + p.tdiv code.length * 53 := i64_wrap (by omega) (by omega)
    have sp : 0 ≤ c * 131 + c' * 1117 + p * 29 + p.tdiv code.length * 53 := by omega
    have sq : c * 131 + c' * 1117 + p * 29 + p.tdiv code.length * 53 < 2 ^ 60 := by omega
    generalize hS : c * 131 + c' * 1117 + p * 29 + p.tdiv code.length * 53 = S at va sp sq
    have s0 : S.tdiv 64 = S / 64 := Int.tdiv_eq_ediv_of_nonneg sp
    have s1 : 0 ≤ S.tdiv 64 := by rw [s0]; omega
    have s2 : S.tdiv 64 < 2 ^ 60 := by rw [s0]; omega
    have vb : IntKind.i64.wrap (S.tdiv 64) = S.tdiv 64 := i64_wrap (by omega) (by omega)
    have sx := xor_ge (a := S) (b := S.tdiv 64) sp (by omega) s1 (by omega)
    simp +contextual (maxSteps := 2000000) only [go_sem, Nat.reduceEqDiff, reduceCtorEq, Nat.reduceAdd, Nat.reduceLeDiff, l0, l1, yl, decide_eq_false c1, decide_eq_false c2, w2, decide_eq_false c3, e1, e2, e1', e2', wc, wc', v1, v2, v3, v4, v5, v6, v7, v8, v9, hS, va, vb, bin_rem hn0, bin_rem hc0, bin_quo hc0, bin_quo (show (64 : Int) ≠ 0 by decide), bin_xor]
    exact fin _ sx
/-! (*spec.reader).one -/
def L108_0 : List AStep := [⟨.mov (.c (.int .i64 0)), (some 4), none, []⟩]
theorem v108_0 : VS L108_0.eq_1 := rfl
def L108_1 : List AStep := [⟨.load 1 false (.t 10), (some 11), none, []⟩, ⟨.mov (.t 11), (some 4), none, []⟩]
theorem v108_1 : VS L108_1.eq_1 := rfl
def L108_2 : List AStep := ⟨.call 69 [(.t 6), (.t 8)], (some 9), none, []⟩ :: ⟨.iaddr 1 (.t 5) (.t 9), (some 10), none, []⟩ :: L108_1
theorem v108_2 : VS L108_2.eq_1 := rfl
def L108_3 : List AStep := ⟨.mov (.t 1), (some 7), none, []⟩ :: ⟨.len (.t 7), (some 8), none, []⟩ :: L108_2
theorem v108_3 : VS L108_3.eq_1 := rfl
def L108_4 : List AStep := ⟨.mov (.t 1), (some 5), none, []⟩ :: ⟨.mov (.t 0), (some 6), none, []⟩ :: L108_3
theorem v108_4 : VS L108_4.eq_1 := rfl
def C108_0 : ACode := .seq (.reg L108_4) .ret
theorem u108_0 : VC C108_0.eq_1 := rfl
def C108_1 : ACode := .seq (.reg L108_0) C108_0
theorem u108_1 : VC C108_1.eq_1 := rfl
def F108 : AFunc := ⟨12, [.tmp 4], C108_1⟩
theorem cF108 : compB Try.prog 108 = some F108 := by kernel_rfl
attribute [local go_sem ↓] u108_0 u108_1 v108_0 v108_1 v108_2 v108_3 v108_4
theorem c_one (b : Nat) (p : Int) (l : List Int) (v : AV) (h : H) (r : Rd h b p) (hp : p ≤ 2 ^ 40) (hl : SlI h v l) (hs : ∀ i, baseOf v = some i → b < i) (hz : 0 < l.length) (hn : l.length ≤ 100) : callK (bm Try.prog 108 [.one (.ptr (some (b, 0))), v] h) fun q h' => (∃ n ∈ l, q = ii n) ∧ Drew b p 1 h h' := by
  refine bm_of cF108 ?_
  simp +contextual (maxSteps := 2000000) only [go_sem, Nat.reduceEqDiff, reduceCtorEq, Nat.reduceAdd, Nat.reduceLeDiff, F108, hl.len]
  refine wp_call (c_pick b l.length p h r hp) ?_
  rintro q h1 ⟨⟨k, rfl, k0, k1⟩, d⟩
  have hk : k < l.length := by omega
  have hl1 := hl.of_stay d.st fun i hi e => by have := hs i hi; simp [bR, baseOf] at e; omega
  have hi : k.toNat < l.length := by omega
  simp +contextual (maxSteps := 2000000) only [go_sem, Nat.reduceEqDiff, reduceCtorEq, Nat.reduceAdd, Nat.reduceLeDiff, hl1.iaddr_int k0 hk, hl1.oneO hi]
  exact gcK_drew r d ⟨⟨_, List.getElem_mem hi, rfl⟩, d⟩
/-! (*spec.reader).of -/
def L129_0 : List AStep := [⟨.mov (.c (.str (strOfNums []))), (some 4), none, []⟩]
theorem v129_0 : VS L129_0.eq_1 := rfl
def L129_1 : List AStep := [⟨.load 1 false (.t 10), (some 11), none, []⟩, ⟨.mov (.t 11), (some 4), none, []⟩]
theorem v129_1 : VS L129_1.eq_1 := rfl
def L129_2 : List AStep := ⟨.call 69 [(.t 6), (.t 8)], (some 9), none, []⟩ :: ⟨.iaddr 1 (.t 5) (.t 9), (some 10), none, []⟩ :: L129_1
theorem v129_2 : VS L129_2.eq_1 := rfl
def L129_3 : List AStep := ⟨.mov (.t 1), (some 7), none, []⟩ :: ⟨.len (.t 7), (some 8), none, []⟩ :: L129_2
theorem v129_3 : VS L129_3.eq_1 := rfl
def L129_4 : List AStep := ⟨.mov (.t 1), (some 5), none, []⟩ :: ⟨.mov (.t 0), (some 6), none, []⟩ :: L129_3
theorem v129_4 : VS L129_4.eq_1 := rfl
def C129_0 : ACode := .seq (.reg L129_4) .ret
theorem u129_0 : VC C129_0.eq_1 := rfl
def C129_1 : ACode := .seq (.reg L129_0) C129_0
theorem u129_1 : VC C129_1.eq_1 := rfl
def F129 : AFunc := ⟨12, [.tmp 4], C129_1⟩
theorem cF129 : compB Try.prog 129 = some F129 := by kernel_rfl
attribute [local go_sem ↓] u129_0 u129_1 v129_0 v129_1 v129_2 v129_3 v129_4
theorem c_of (b : Nat) (p : Int) (l : List ByteArray) (v : AV) (h : H) (r : Rd h b p) (hp : p ≤ 2 ^ 40) (hl : SlS h v l) (hs : ∀ i, baseOf v = some i → b < i) (hz : 0 < l.length) (hn : l.length ≤ 100) : callK (bm Try.prog 129 [.one (.ptr (some (b, 0))), v] h) fun q h' => (∃ n ∈ l, q = .one (.str n)) ∧ Drew b p 1 h h' := by
  refine bm_of cF129 ?_
  simp +contextual (maxSteps := 2000000) only [go_sem, Nat.reduceEqDiff, reduceCtorEq, Nat.reduceAdd, Nat.reduceLeDiff, F129, hl.len]
  refine wp_call (c_pick b l.length p h r hp) ?_
  rintro q h1 ⟨⟨k, rfl, k0, k1⟩, d⟩
  have hk : k < l.length := by omega
  have hl1 := hl.of_stay d.st fun i hi e => by have := hs i hi; simp [bR, baseOf] at e; omega
  have hi : k.toNat < l.length := by omega
  simp +contextual (maxSteps := 2000000) only [go_sem, Nat.reduceEqDiff, reduceCtorEq, Nat.reduceAdd, Nat.reduceLeDiff, hl1.iaddr_int k0 hk, hl1.oneO hi]
  exact gcK_drew r d ⟨⟨_, List.getElem_mem hi, rfl⟩, d⟩
end Go.Proofs.Ytekkimfdcbgcoab.Am
