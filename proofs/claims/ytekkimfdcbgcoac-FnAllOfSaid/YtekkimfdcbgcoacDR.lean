/- Contracts: the readers that draw numbers. -/
import Derived.Test.YtekkimfdcbgcoacDat
namespace Go.Proofs.Ytekkimfdcbgcoac.Am
open Go
set_option maxRecDepth 100000
set_option maxHeartbeats 4000000
set_option linter.unusedSimpArgs false
set_option linter.unusedVariables false
attribute [local go_sem ↓] bv_t bv_c ev_t ev_c put_same put_ne put_none kill_at pro_at lb_same lb_ne start_zero start_succ wpC_seq wpC_reg wpC_cond wpC_block wpC_skip wpC_exit wpC_ret thenQ_normal thenQ_exit thenQ_ret inBlk_normal inBlk_exit inBlk_ret wpS_nil wpS_step wpS_again wpS_guard wpO_mov wpO_load wpO_faddr wpO_nilCheck wpO_pick wpO_build wpO_bin wpO_eqb wpO_eqst wpO_eqnil wpO_not wpO_conv wpO_bytesStr wpO_iaddr wpO_idxStr wpO_field wpO_extract wpO_len wpO_lenStr wpO_cap wpO_min wpO_slice wpO_sliceStr wpO_alloc wpO_box wpO_store wpO_call wpO_callv wpO_mkfn wpO_buildSlice wpO_mkslice wpO_append wpO_appz proA_nil proA_cons tmpX_nil tmpX_tmp tmpX_cell doneB_normal doneB_ret agK_cons agK_nil agK_guard agG_tt agG_ff agG_tf agG_ft agG_undef pureB_load results_one results_two results_nil resBs_cons resBs_nil resB_tmp resB_cell
attribute [local go_sem] kill_v kill_lp_ne kill_lp_same pro_v pro_lp_same pro_lp_ne av_v av_lp optB_some optX_some valX_eq ldX_lp ldX_v faX_lp faX_v ncX_lp ncX_ptr ncX_fn boxK_one boxK_agg stL_some stK_lp_one stK_lp_agg stK_v_one stK_v_agg proM_v proM_lp callG_mk callVG_mk callvK_fn fnG_mk ptrsA_nil ptrsA_cons callH_some whenA_true whenA_false guardH_tt guardH_ff guardH_tf guardH_ft guardH_undef agV_one agV_agg lenO_sl lenStrO_str notO_bool pickO_bool convO_int eqbO_bool eqnilO_sl extractO_tup capO_sl minO_int loadL_one loadL_all storeL_eq fillA_nil fillA_one fillA_agg nat_ge neg_ge nat_lt neg_lt buildO bin_add bin_sub bin_mul bin_eql bin_neq bin_lss bin_leq bin_gtr bin_geq str_eql str_neq str_lss str_leq str_gtr str_geq retK_some endK_mk gcK_same gcK_int gcK_bool tupO_one tupO_agg rdy_self ib ii Option.map_none Option.map_some Option.some.injEq exists_eq_left' exists_eq_left ne_eq not_false_eq_true if_true if_false List.map_cons List.map_nil List.getElem?_cons_zero List.getElem?_cons_succ List.length_cons List.length_nil List.take_succ_cons List.take_zero List.take_nil List.drop_succ_cons List.drop_zero List.drop_nil List.cons_append List.nil_append List.append_nil List.set_cons_zero List.set_cons_succ Nat.zero_add forall_const true_and and_true and_self Bool.false_eq_true false_implies true_implies implies_true Bool.not_true Bool.not_false Bool.not_eq_true' Bool.not_eq_false' beq_self_eq_true Bool.bne_true Bool.bne_false
attribute [local go_sem] lenI lenS lenP lenQ lenB lenL lenT encI_0 encS_0 encP_0 encP_1 encQ_0 encQ_1 encQ_2 encQ_3 encB_0 encB_1 encL_0 encL_1 encT_0 encT_1
attribute [local go_sem low] whenA_bool guardH_bool
def encBy (n : Int) : List CV := [.int .u8 n]
theorem lenBy (x : Int) : (encBy x).length = 1 := Eq.trans (b := 1) rfl rfl
theorem encBy_0 (x : Int) : (encBy x)[0]? = some (.int .u8 x) := rfl
def bR (b : Nat) : AV := .one (.sl (some (b, 0)) 0 none)
structure Rd (h : H) (b : Nat) (p : Int) : Prop where
  ex : ∃ v code, Box h b [v, .int .i64 p] 119 ∧ Sl encBy 1 5 h (.one v) code ∧ (∀ x ∈ code, 0 ≤ x ∧ x ≤ 255) ∧ code.length ≤ 2000 ∧ ∀ i, baseOf (.one v) = some i → i < b
  pos : 0 ≤ p
theorem Rd.lt {h : H} {b : Nat} {p : Int} (r : Rd h b p) : b < h.n := by
  obtain ⟨v, code, x, _⟩ := r.ex
  exact x.lt
theorem Rd.stay {h h1 : H} {b : Nat} {p : Int} {s : AV} (r : Rd h b p) (st : Stay s h h1) (hb : ∀ i, baseOf s = some i → b < i) : Rd h1 b p := by
  obtain ⟨v, code, x, y, z, w, u⟩ := r.ex
  exact ⟨⟨v, code, x.stay st fun e => by have := hb _ e; omega, y.of_stay st fun i hi e => by have := hb _ e; have := u _ hi; omega, z, w, u⟩, r.pos⟩
theorem Rd.grow {h h1 : H} {b : Nat} {p : Int} (r : Rd h b p) (g : Grow h h1) : Rd h1 b p := r.stay (s := .tup []) (g.stay _) fun i hi => by simp [baseOf] at hi
/-- Something was drawn. -/
structure Drew (b : Nat) (p : Int) (c : Nat) (h h' : H) : Prop where
  st : Stay (bR b) h h'
  ex : ∃ p', p < p' ∧ p' ≤ p + c ∧ Rd h' b p'
theorem Drew.grow {h h1 h2 : H} {b c : Nat} {p : Int} (d : Drew b p c h h1) (g : Grow h1 h2) : Drew b p c h h2 := by
  obtain ⟨p', h3, h4, r⟩ := d.ex
  exact ⟨d.st.trans (g.stay _), p', h3, h4, r.grow g⟩
theorem Drew.stay {h h1 h2 : H} {b c : Nat} {p : Int} {s : AV} (d : Drew b p c h h1) (st : Stay s h1 h2) (hb : ∀ i, baseOf s = some i → h.n ≤ i) (hr : b < h.n) : Drew b p c h h2 := by
  obtain ⟨p', h3, h4, r⟩ := d.ex
  refine ⟨⟨Nat.le_trans d.st.n st.n, fun i hi hn => ?_⟩, p', h3, h4, r.stay st fun i hi => by have := hb i hi; omega⟩
  rw [st.f i (Nat.lt_of_lt_of_le hi d.st.n) fun e => by have := hb i e; omega]
  exact d.st.f i hi hn
theorem Drew.more {h h1 : H} {b c c2 : Nat} {p : Int} (d : Drew b p c h h1) (hc : c ≤ c2) : Drew b p c2 h h1 := by
  obtain ⟨p', h3, h4, r⟩ := d.ex
  exact ⟨d.st, p', h3, by omega, r⟩
/-- Drawn ahead of and behind. -/
theorem Drew.then {h h1 h2 : H} {b c c2 : Nat} {p p1 : Int} (st : Stay (bR b) h h1) (hp : p ≤ p1) (hc : p1 ≤ p + c) (d : Drew b p1 c2 h1 h2) : Drew b p (c + c2) h h2 := by
  obtain ⟨p', h3, h4, r⟩ := d.ex
  exact ⟨st.trans d.st, p', by omega, by omega, r⟩
theorem gcK_drew {h h1 : H} {b c : Nat} {p : Int} {v : AV} {K : AV → H → Prop} (r : Rd h b p) (d : Drew b p c h h1) (hk : K v h1) : gcK h v h1 K := gcK_of hk fun _ gg => by
  obtain ⟨p', h3, _, r1⟩ := d.ex
  obtain ⟨v0, _, x, _⟩ := r.ex
  obtain ⟨v1, _, y, _⟩ := r1.ex
  have e := gg.f b x.lt
  rw [x.eq, y.eq] at e
  simp at e
  omega
theorem wp_boxset {T : Tb} {L : Lb} {K : Post} {h : H} {b ty off m : Nat} {cs vs : List CV} {d : Option Nat} (hb : Box h b cs ty) (hm : vs.length = m) (hv : off + vs.length ≤ cs.length)
    (hk : ∀ h1, Stay (bR b) h h1 → h1.n = h.n → Box h1 b (cs.take off ++ (vs ++ cs.drop (off + vs.length))) ty → K (T.put d (.v undefA)) L (rdy h1)) : stH m (b, off) vs d T L h K := by
  obtain ⟨h1, h2, h3, h4, h5⟩ := hb.store (off := off) (vs := vs) hv
  exact ⟨h1, hm, h2, hk h1 ⟨by omega, fun i hi hn => h4 i fun e => hn (by simp [bR, baseOf, e])⟩ h3 h5⟩
theorem bin_xor {k : IntKind} {a b : Int} : binA .xor (.one (.int k a)) (.one (.int k b)) = some (.one (.int k (k.wrap (BitVec.ofInt k.bits a ^^^ BitVec.ofInt k.bits b).toNat))) := by simp [binA]
theorem xor_ge {a b : Int} (h1 : 0 ≤ a) (h2 : a < 2 ^ 62) (h3 : 0 ≤ b) (h4 : b < 2 ^ 62) : 0 ≤ IntKind.i64.wrap (BitVec.ofInt IntKind.i64.bits a ^^^ BitVec.ofInt IntKind.i64.bits b).toNat := by
  have e : ∀ x : Int, 0 ≤ x → x < 2 ^ 62 → (BitVec.ofInt 64 x).toNat < 2 ^ 62 := fun x hx hy => by
    rw [BitVec.toNat_ofInt]
    have : (x % ((2 ^ 64 : Nat) : Int)).toNat = x.toNat := by rw [Int.emod_eq_of_lt hx (by omega)]
    omega
  have h5 : (BitVec.ofInt 64 a ^^^ BitVec.ofInt 64 b).toNat < 2 ^ 62 := by
    rw [BitVec.toNat_xor]
    exact Nat.xor_lt_two_pow (e a h1 h2) (e b h3 h4)
  show 0 ≤ IntKind.i64.wrap ((BitVec.ofInt 64 a ^^^ BitVec.ofInt 64 b).toNat : Int)
  rw [i64_wrap (by omega) (by omega)]
  omega
/-! spec.newReader -/
def L48_0 : List AStep := [⟨.mov (.c (.ptr none)), (some 2), none, []⟩]
theorem v48_0 : VS L48_0.eq_1 := rfl
def L48_1 : List AStep := [⟨.bin .gtr (.t 4) (.c (.int .i64 2000)), (some 5), none, []⟩]
theorem v48_1 : VS L48_1.eq_1 := rfl
def L48_2 : List AStep := ⟨.mov (.t 0), (some 3), none, []⟩ :: ⟨.len (.t 3), (some 4), none, []⟩ :: L48_1
theorem v48_2 : VS L48_2.eq_1 := rfl
def L48_3 : List AStep := [⟨.mov (.t 7), (some 0), none, []⟩]
theorem v48_3 : VS L48_3.eq_1 := rfl
def L48_4 : List AStep := ⟨.mov (.t 0), (some 6), none, []⟩ :: ⟨.slice 5 1 (.t 6) none (some (.c (.int .i64 2000))) none, (some 7), none, []⟩ :: L48_3
theorem v48_4 : VS L48_4.eq_1 := rfl
def L48_5 : List AStep := [⟨.box 119 (.t 9), (some 10), none, []⟩, ⟨.mov (.t 10), (some 2), none, []⟩]
theorem v48_5 : VS L48_5.eq_1 := rfl
def L48_6 : List AStep := ⟨.mov (.t 0), (some 8), none, []⟩ :: ⟨.build [(.sl none 0 (some 0)), (.int .i64 0)] [(0, 1, (.t 8))], (some 9), none, []⟩ :: L48_5
theorem v48_6 : VS L48_6.eq_1 := rfl
def C48_0 : ACode := .cond (.t 5) (.reg L48_4) .skip
theorem u48_0 : VC C48_0.eq_1 := rfl
def C48_1 : ACode := .seq (.reg L48_2) C48_0
theorem u48_1 : VC C48_1.eq_1 := rfl
def C48_2 : ACode := .seq (.reg L48_6) .ret
theorem u48_2 : VC C48_2.eq_1 := rfl
def C48_3 : ACode := .seq C48_1 C48_2
theorem u48_3 : VC C48_3.eq_1 := rfl
def C48_4 : ACode := .seq (.reg L48_0) C48_3
theorem u48_4 : VC C48_4.eq_1 := rfl
def F48 : AFunc := ⟨11, [.tmp 2], C48_4⟩
theorem cF48 : compB Try.prog 48 = some F48 := by kernel_rfl
attribute [local go_sem ↓] u48_0 u48_1 u48_2 u48_3 u48_4 v48_0 v48_1 v48_2 v48_3 v48_4 v48_5 v48_6
theorem c_newReader (code : List Int) (v : CV) (h : H) (hl : Sl encBy 1 5 h (.one v) code) (hc : ∀ x ∈ code, 0 ≤ x ∧ x ≤ 255) : callK (bm Try.prog 48 [.one v] h) fun r h' => Grow h h' ∧ ∃ b, r = .one (.ptr (some (b, 0))) ∧ Rd h' b 0 ∧ h.n ≤ b := by
  refine bm_of cF48 ?_
  have fin : ∀ (w : CV) (c : List Int), Sl encBy 1 5 h (.one w) c → (∀ x ∈ c, 0 ≤ x ∧ x ≤ 255) → c.length ≤ 2000 → Rd (h.alloc [w, .int .i64 0] 119) h.n 0 := fun w c s1 s2 s3 =>
    ⟨⟨w, c, Box.new, s1.grow (Grow.alloc _ _ _), s2, s3, fun i hi => by
      obtain ⟨b, k, e, _⟩ := s1.form
      cases b with
      | none => rw [e] at hi; simp [baseOf] at hi
      | some a =>
        rw [e] at hi
        simp [baseOf] at hi
        have := (s1.own a _ k e).1
        omega⟩, Int.le_refl _⟩
  by_cases b1 : code.length ≤ 2000
  · have d1 : decide ((code.length : Int) > 2000) = false := decide_eq_false (by omega)
    simp +contextual (maxSteps := 2000000) only [go_sem, Nat.reduceEqDiff, reduceCtorEq, Nat.reduceAdd, Nat.reduceLeDiff, F48, hl.len, d1]
    exact gcK_of ⟨Grow.alloc _ _ _, _, rfl, fin v code hl hc b1, Nat.le_refl _⟩ (fun hs _ => by simp [AV.scalar, CV.scalar] at hs)
  · have d1 : decide ((code.length : Int) > 2000) = true := decide_eq_true (by omega)
    obtain ⟨w, e1, s1⟩ := hl.takeO (i := 2000) (by omega) (kd := .i64)
    obtain ⟨wb, wc, rfl, _⟩ := s1.form
    have e2 : cutO 5 1 h (.one v) none (some (.one (.int .i64 2000))) none = some (.one (.sl wb (code.take 2000).length wc)) := e1
    simp +contextual (maxSteps := 2000000) only [go_sem, Nat.reduceEqDiff, reduceCtorEq, Nat.reduceAdd, Nat.reduceLeDiff, F48, hl.len, d1, e2]
    exact gcK_of ⟨Grow.alloc _ _ _, _, rfl, fin _ _ s1 (fun x hx => hc x (List.mem_of_mem_take hx)) (by simp; omega), Nat.le_refl _⟩ (fun hs _ => by simp [AV.scalar, CV.scalar] at hs)
/-! (*spec.reader).pick -/
def L92_0 : List AStep := [⟨.mov (.c (.int .i64 0)), (some 4), none, []⟩]
theorem v92_0 : VS L92_0.eq_1 := rfl
def L92_1 : List AStep := [⟨.store 1 (.t 14) (.t 12), none, none, []⟩]
theorem v92_1 : VS L92_1.eq_1 := rfl
def L92_2 : List AStep := ⟨.nilCheck (.t 7), (some 13), none, []⟩ :: ⟨.faddr 1 (.t 13), (some 14), none, []⟩ :: L92_1
theorem v92_2 : VS L92_2.eq_1 := rfl
def L92_3 : List AStep := ⟨.load 1 false (.t 10), (some 11), none, []⟩ :: ⟨.bin .add (.t 11) (.c (.int .i64 1)), (some 12), none, []⟩ :: L92_2
theorem v92_3 : VS L92_3.eq_1 := rfl
def L92_4 : List AStep := ⟨.nilCheck (.t 8), (some 9), none, []⟩ :: ⟨.faddr 1 (.t 9), (some 10), none, []⟩ :: L92_3
theorem v92_4 : VS L92_4.eq_1 := rfl
def L92_5 : List AStep := ⟨.mov (.t 0), (some 7), none, []⟩ :: ⟨.mov (.t 0), (some 8), none, []⟩ :: L92_4
theorem v92_5 : VS L92_5.eq_1 := rfl
def L92_6 : List AStep := [⟨.bin .eql (.t 22) (.c (.int .i64 0)), (some 23), (some (17, false)), []⟩, ⟨.pick (.t 17) (.c (.bool true)) (.t 23), (some 24), none, []⟩]
theorem v92_6 : VS L92_6.eq_1 := rfl
def L92_7 : List AStep := ⟨.load 1 false (.t 20), (some 21), (some (17, false)), []⟩ :: ⟨.len (.t 21), (some 22), (some (17, false)), []⟩ :: L92_6
theorem v92_7 : VS L92_7.eq_1 := rfl
def L92_8 : List AStep := ⟨.nilCheck (.t 18), (some 19), (some (17, false)), []⟩ :: ⟨.faddr 0 (.t 19), (some 20), (some (17, false)), []⟩ :: L92_7
theorem v92_8 : VS L92_8.eq_1 := rfl
def L92_9 : List AStep := ⟨.mov (.t 16), (some 17), none, []⟩ :: ⟨.mov (.t 0), (some 18), (some (17, false)), []⟩ :: L92_8
theorem v92_9 : VS L92_9.eq_1 := rfl
def L92_10 : List AStep := ⟨.mov (.t 1), (some 15), none, []⟩ :: ⟨.bin .lss (.t 15) (.c (.int .i64 1)), (some 16), none, []⟩ :: L92_9
theorem v92_10 : VS L92_10.eq_1 := rfl
def L92_11 : List AStep := [⟨.mov (.c (.int .i64 0)), (some 4), none, []⟩]
theorem v92_11 : VS L92_11.eq_1 := rfl
def L92_12 : List AStep := [⟨.bin .sub (.t 28) (.c (.int .i64 1)), (some 29), none, []⟩, ⟨.mov (.t 29), (some 5), none, []⟩]
theorem v92_12 : VS L92_12.eq_1 := rfl
def L92_13 : List AStep := ⟨.faddr 1 (.t 26), (some 27), none, []⟩ :: ⟨.load 1 false (.t 27), (some 28), none, []⟩ :: L92_12
theorem v92_13 : VS L92_13.eq_1 := rfl
def L92_14 : List AStep := ⟨.mov (.t 0), (some 25), none, []⟩ :: ⟨.nilCheck (.t 25), (some 26), none, []⟩ :: L92_13
theorem v92_14 : VS L92_14.eq_1 := rfl
def L92_15 : List AStep := [⟨.bin .lss (.t 30) (.t 35), (some 36), none, []⟩]
theorem v92_15 : VS L92_15.eq_1 := rfl
def L92_16 : List AStep := ⟨.load 1 false (.t 33), (some 34), none, []⟩ :: ⟨.len (.t 34), (some 35), none, []⟩ :: L92_15
theorem v92_16 : VS L92_16.eq_1 := rfl
def L92_17 : List AStep := ⟨.nilCheck (.t 31), (some 32), none, []⟩ :: ⟨.faddr 0 (.t 32), (some 33), none, []⟩ :: L92_16
theorem v92_17 : VS L92_17.eq_1 := rfl
def L92_18 : List AStep := ⟨.mov (.t 5), (some 30), none, []⟩ :: ⟨.mov (.t 0), (some 31), none, []⟩ :: L92_17
theorem v92_18 : VS L92_18.eq_1 := rfl
def L92_19 : List AStep := [⟨.mov (.t 46), (some 4), none, []⟩]
theorem v92_19 : VS L92_19.eq_1 := rfl
def L92_20 : List AStep := ⟨.mov (.t 1), (some 45), none, []⟩ :: ⟨.bin .rem (.t 44) (.t 45), (some 46), none, []⟩ :: L92_19
theorem v92_20 : VS L92_20.eq_1 := rfl
def L92_21 : List AStep := ⟨.load 1 false (.t 42), (some 43), none, []⟩ :: ⟨.conv .i64 (.t 43), (some 44), none, []⟩ :: L92_20
theorem v92_21 : VS L92_21.eq_1 := rfl
def L92_22 : List AStep := ⟨.mov (.t 5), (some 41), none, []⟩ :: ⟨.iaddr 1 (.t 40) (.t 41), (some 42), none, []⟩ :: L92_21
theorem v92_22 : VS L92_22.eq_1 := rfl
def L92_23 : List AStep := ⟨.faddr 0 (.t 38), (some 39), none, []⟩ :: ⟨.load 1 false (.t 39), (some 40), none, []⟩ :: L92_22
theorem v92_23 : VS L92_23.eq_1 := rfl
def L92_24 : List AStep := ⟨.mov (.t 0), (some 37), none, []⟩ :: ⟨.nilCheck (.t 37), (some 38), none, []⟩ :: L92_23
theorem v92_24 : VS L92_24.eq_1 := rfl
def L92_25 : List AStep := [⟨.bin .add (.t 82) (.t 90), (some 91), none, []⟩, ⟨.mov (.t 91), (some 6), none, []⟩]
theorem v92_25 : VS L92_25.eq_1 := rfl
def L92_26 : List AStep := ⟨.bin .quo (.t 83) (.t 88), (some 89), none, []⟩ :: ⟨.bin .mul (.t 89) (.c (.int .i64 53)), (some 90), none, []⟩ :: L92_25
theorem v92_26 : VS L92_26.eq_1 := rfl
def L92_27 : List AStep := ⟨.load 1 false (.t 86), (some 87), none, []⟩ :: ⟨.len (.t 87), (some 88), none, []⟩ :: L92_26
theorem v92_27 : VS L92_27.eq_1 := rfl
def L92_28 : List AStep := ⟨.nilCheck (.t 84), (some 85), none, []⟩ :: ⟨.faddr 0 (.t 85), (some 86), none, []⟩ :: L92_27
theorem v92_28 : VS L92_28.eq_1 := rfl
def L92_29 : List AStep := ⟨.mov (.t 5), (some 83), none, []⟩ :: ⟨.mov (.t 0), (some 84), none, []⟩ :: L92_28
theorem v92_29 : VS L92_29.eq_1 := rfl
def L92_30 : List AStep := ⟨.bin .mul (.t 80) (.c (.int .i64 29)), (some 81), none, []⟩ :: ⟨.bin .add (.t 79) (.t 81), (some 82), none, []⟩ :: L92_29
theorem v92_30 : VS L92_30.eq_1 := rfl
def L92_31 : List AStep := ⟨.bin .add (.t 61) (.t 78), (some 79), none, []⟩ :: ⟨.mov (.t 5), (some 80), none, []⟩ :: L92_30
theorem v92_31 : VS L92_31.eq_1 := rfl
def L92_32 : List AStep := ⟨.conv .i64 (.t 76), (some 77), none, []⟩ :: ⟨.bin .mul (.t 77) (.c (.int .i64 1117)), (some 78), none, []⟩ :: L92_31
theorem v92_32 : VS L92_32.eq_1 := rfl
def L92_33 : List AStep := ⟨.iaddr 1 (.t 65) (.t 74), (some 75), none, []⟩ :: ⟨.load 1 false (.t 75), (some 76), none, []⟩ :: L92_32
theorem v92_33 : VS L92_33.eq_1 := rfl
def L92_34 : List AStep := ⟨.len (.t 72), (some 73), none, []⟩ :: ⟨.bin .rem (.t 68) (.t 73), (some 74), none, []⟩ :: L92_33
theorem v92_34 : VS L92_34.eq_1 := rfl
def L92_35 : List AStep := ⟨.faddr 0 (.t 70), (some 71), none, []⟩ :: ⟨.load 1 false (.t 71), (some 72), none, []⟩ :: L92_34
theorem v92_35 : VS L92_35.eq_1 := rfl
def L92_36 : List AStep := ⟨.mov (.t 0), (some 69), none, []⟩ :: ⟨.nilCheck (.t 69), (some 70), none, []⟩ :: L92_35
theorem v92_36 : VS L92_36.eq_1 := rfl
def L92_37 : List AStep := ⟨.bin .mul (.t 66) (.c (.int .i64 7)), (some 67), none, []⟩ :: ⟨.bin .add (.t 67) (.c (.int .i64 3)), (some 68), none, []⟩ :: L92_36
theorem v92_37 : VS L92_37.eq_1 := rfl
def L92_38 : List AStep := ⟨.load 1 false (.t 64), (some 65), none, []⟩ :: ⟨.mov (.t 5), (some 66), none, []⟩ :: L92_37
theorem v92_38 : VS L92_38.eq_1 := rfl
def L92_39 : List AStep := ⟨.nilCheck (.t 62), (some 63), none, []⟩ :: ⟨.faddr 0 (.t 63), (some 64), none, []⟩ :: L92_38
theorem v92_39 : VS L92_39.eq_1 := rfl
def L92_40 : List AStep := ⟨.bin .mul (.t 60) (.c (.int .i64 131)), (some 61), none, []⟩ :: ⟨.mov (.t 0), (some 62), none, []⟩ :: L92_39
theorem v92_40 : VS L92_40.eq_1 := rfl
def L92_41 : List AStep := ⟨.load 1 false (.t 58), (some 59), none, []⟩ :: ⟨.conv .i64 (.t 59), (some 60), none, []⟩ :: L92_40
theorem v92_41 : VS L92_41.eq_1 := rfl
def L92_42 : List AStep := ⟨.bin .rem (.t 51) (.t 56), (some 57), none, []⟩ :: ⟨.iaddr 1 (.t 50) (.t 57), (some 58), none, []⟩ :: L92_41
theorem v92_42 : VS L92_42.eq_1 := rfl
def L92_43 : List AStep := ⟨.load 1 false (.t 54), (some 55), none, []⟩ :: ⟨.len (.t 55), (some 56), none, []⟩ :: L92_42
theorem v92_43 : VS L92_43.eq_1 := rfl
def L92_44 : List AStep := ⟨.nilCheck (.t 52), (some 53), none, []⟩ :: ⟨.faddr 0 (.t 53), (some 54), none, []⟩ :: L92_43
theorem v92_44 : VS L92_44.eq_1 := rfl
def L92_45 : List AStep := ⟨.mov (.t 5), (some 51), none, []⟩ :: ⟨.mov (.t 0), (some 52), none, []⟩ :: L92_44
theorem v92_45 : VS L92_45.eq_1 := rfl
def L92_46 : List AStep := ⟨.faddr 0 (.t 48), (some 49), none, []⟩ :: ⟨.load 1 false (.t 49), (some 50), none, []⟩ :: L92_45
theorem v92_46 : VS L92_46.eq_1 := rfl
def L92_47 : List AStep := ⟨.mov (.t 0), (some 47), none, []⟩ :: ⟨.nilCheck (.t 47), (some 48), none, []⟩ :: L92_46
theorem v92_47 : VS L92_47.eq_1 := rfl
def L92_48 : List AStep := [⟨.mov (.t 95), (some 6), none, []⟩]
theorem v92_48 : VS L92_48.eq_1 := rfl
def L92_49 : List AStep := ⟨.bin .quo (.t 93) (.c (.int .i64 64)), (some 94), none, []⟩ :: ⟨.bin .xor (.t 92) (.t 94), (some 95), none, []⟩ :: L92_48
theorem v92_49 : VS L92_49.eq_1 := rfl
def L92_50 : List AStep := ⟨.mov (.t 6), (some 92), none, []⟩ :: ⟨.mov (.t 6), (some 93), none, []⟩ :: L92_49
theorem v92_50 : VS L92_50.eq_1 := rfl
def L92_51 : List AStep := [⟨.bin .rem (.t 96) (.t 97), (some 98), none, []⟩, ⟨.mov (.t 98), (some 4), none, []⟩]
theorem v92_51 : VS L92_51.eq_1 := rfl
def L92_52 : List AStep := ⟨.mov (.t 6), (some 96), none, []⟩ :: ⟨.mov (.t 1), (some 97), none, []⟩ :: L92_51
theorem v92_52 : VS L92_52.eq_1 := rfl
def C92_0 : ACode := .seq (.reg L92_11) .ret
theorem u92_0 : VC C92_0.eq_1 := rfl
def C92_1 : ACode := .cond (.t 24) C92_0 .skip
theorem u92_1 : VC C92_1.eq_1 := rfl
def C92_2 : ACode := .seq (.reg L92_10) C92_1
theorem u92_2 : VC C92_2.eq_1 := rfl
def C92_3 : ACode := .seq (.reg L92_24) .ret
theorem u92_3 : VC C92_3.eq_1 := rfl
def C92_4 : ACode := .cond (.t 36) C92_3 .skip
theorem u92_4 : VC C92_4.eq_1 := rfl
def C92_5 : ACode := .seq (.reg L92_18) C92_4
theorem u92_5 : VC C92_5.eq_1 := rfl
def C92_6 : ACode := .seq (.reg L92_52) .ret
theorem u92_6 : VC C92_6.eq_1 := rfl
def C92_7 : ACode := .seq (.reg L92_50) C92_6
theorem u92_7 : VC C92_7.eq_1 := rfl
def C92_8 : ACode := .seq (.reg L92_47) C92_7
theorem u92_8 : VC C92_8.eq_1 := rfl
def C92_9 : ACode := .seq C92_5 C92_8
theorem u92_9 : VC C92_9.eq_1 := rfl
def C92_10 : ACode := .seq (.reg L92_14) C92_9
theorem u92_10 : VC C92_10.eq_1 := rfl
def C92_11 : ACode := .seq C92_2 C92_10
theorem u92_11 : VC C92_11.eq_1 := rfl
def C92_12 : ACode := .seq (.reg L92_5) C92_11
theorem u92_12 : VC C92_12.eq_1 := rfl
def C92_13 : ACode := .seq (.reg L92_0) C92_12
theorem u92_13 : VC C92_13.eq_1 := rfl
def F92 : AFunc := ⟨99, [.tmp 4], C92_13⟩
theorem cF92 : compB Try.prog 92 = some F92 := by kernel_rfl
attribute [local go_sem ↓] u92_0 u92_1 u92_2 u92_3 u92_4 u92_5 u92_6 u92_7 u92_8 u92_9 u92_10 u92_11 u92_12 u92_13 v92_0 v92_1 v92_2 v92_3 v92_4 v92_5 v92_6 v92_7 v92_8 v92_9 v92_10 v92_11 v92_12 v92_13 v92_14 v92_15 v92_16 v92_17 v92_18 v92_19 v92_20 v92_21 v92_22 v92_23 v92_24 v92_25 v92_26 v92_27 v92_28 v92_29 v92_30 v92_31 v92_32 v92_33 v92_34 v92_35 v92_36 v92_37 v92_38 v92_39 v92_40 v92_41 v92_42 v92_43 v92_44 v92_45 v92_46 v92_47 v92_48 v92_49 v92_50 v92_51 v92_52
theorem c_pick (b : Nat) (n p : Int) (h : H) (r : Rd h b p) (hp : p ≤ 2 ^ 40) : callK (bm Try.prog 92 [.one (.ptr (some (b, 0))), .one (.int .i64 n)] h) fun q h' => (∃ k : Int, q = ii k ∧ 0 ≤ k ∧ (k < n ∨ k = 0)) ∧ Drew b p 1 h h' := by
  refine bm_of cF92 ?_
  obtain ⟨v, code, x, y, z, w, u⟩ := r.ex
  have hpos := r.pos
  have l1 : loadO 1 false h (.one (.ptr (some (b, 1)))) = some (.one (.int .i64 p)) := x.one rfl
  have w1 : IntKind.i64.wrap (p + 1) = p + 1 := i64_wrap (by omega) (by omega)
  simp +contextual (maxSteps := 2000000) only [go_sem, Nat.reduceEqDiff, reduceCtorEq, Nat.reduceAdd, Nat.reduceLeDiff, F92, l1, w1]
  refine wp_boxset x rfl (Nat.le_of_ble_eq_true rfl) ?_
  intro h1 st hn x1
  have x1 : Box h1 b [v, .int .i64 (p + 1)] 119 := x1
  have y1 := y.of_stay st fun i hi e => by have := u i hi; simp [bR, baseOf] at e; omega
  have r1 : Rd h1 b (p + 1) := ⟨⟨v, code, x1, y1, z, w, u⟩, by omega⟩
  have d : Drew b p 1 h h1 := ⟨st, p + 1, by omega, by omega, r1⟩
  have l0 : loadO 1 false h1 (.one (.ptr (some (b, 0)))) = some (.one v) := x1.one rfl
  have l1 : loadO 1 false h1 (.one (.ptr (some (b, 1)))) = some (.one (.int .i64 (p + 1))) := x1.one rfl
  have yl : lenO (.one v) = some (ii code.length) := y1.len
  by_cases c1 : n < 1
  · simp +contextual (maxSteps := 2000000) only [go_sem, Nat.reduceEqDiff, reduceCtorEq, Nat.reduceAdd, Nat.reduceLeDiff, l0, l1, decide_eq_true c1]
    exact gcK_drew r d ⟨⟨0, rfl, Int.le_refl _, .inr rfl⟩, d⟩
  by_cases c2 : (code.length : Int) = 0
  · simp +contextual (maxSteps := 2000000) only [go_sem, Nat.reduceEqDiff, reduceCtorEq, Nat.reduceAdd, Nat.reduceLeDiff, l0, l1, yl, decide_eq_false c1, decide_eq_true c2]
    exact gcK_drew r d ⟨⟨0, rfl, Int.le_refl _, .inr rfl⟩, d⟩
  have hn0 : n ≠ 0 := by omega
  have w2 : IntKind.i64.wrap (p + 1 - 1) = p := by rw [i64_wrap (by omega) (by omega)]; omega
  have at_ : ∀ j : Int, 0 ≤ j → j < code.length → ∃ c : Int, 0 ≤ c ∧ c ≤ 255 ∧ iaddrO 1 (.one v) (.one (.int .i64 j)) = some (.one (.ptr (some (elem 1 (.one v) j.toNat)))) ∧ loadO 1 false h1 (.one (.ptr (some (elem 1 (.one v) j.toNat)))) = some (.one (.int .u8 c)) := fun j h0 hj => by
    have hi : j.toNat < code.length := by omega
    have hz := z _ (List.getElem_mem hi)
    refine ⟨code[j.toNat], hz.1, hz.2, y1.iaddr_int h0 hj, ?_⟩
    rw [y1.oneO hi, encBy_0]
    rfl
  have fin : ∀ a : Int, 0 ≤ a → gcK h (.one (.int .i64 (a.tmod n))) (rdy h1) (fun q h' => (∃ k : Int, q = ii k ∧ 0 ≤ k ∧ (k < n ∨ k = 0)) ∧ Drew b p 1 h h') := fun a ha => by
    have e : a.tmod n = a % n := Int.tmod_eq_emod_of_nonneg ha
    exact gcK_drew r d ⟨⟨_, rfl, by rw [e]; exact Int.emod_nonneg _ hn0, .inl (by rw [e]; exact Int.emod_lt_of_pos _ (by omega))⟩, d⟩
  by_cases c3 : p < code.length
  · obtain ⟨c, k0, k1, e1, e2⟩ := at_ p hpos c3
    have wc : IntKind.i64.wrap c = c := i64_wrap (by omega) (by omega)
    simp +contextual (maxSteps := 2000000) only [go_sem, Nat.reduceEqDiff, reduceCtorEq, Nat.reduceAdd, Nat.reduceLeDiff, l0, l1, yl, decide_eq_false c1, decide_eq_false c2, w2, decide_eq_true c3, e1, e2, wc, bin_rem hn0]
    exact fin c k0
  · have hc0 : (code.length : Int) ≠ 0 := c2
    have m1 : p.tmod code.length = p % code.length := Int.tmod_eq_emod_of_nonneg hpos
    have hm : 0 ≤ p * 7 + 3 := by omega
    have m2 : (p * 7 + 3).tmod code.length = (p * 7 + 3) % code.length := Int.tmod_eq_emod_of_nonneg hm
    obtain ⟨c, k0, k1, e1, e2⟩ := at_ (p.tmod code.length) (by rw [m1]; exact Int.emod_nonneg _ hc0) (by rw [m1]; exact Int.emod_lt_of_pos _ (by omega))
    obtain ⟨c', k0', k1', e1', e2'⟩ := at_ ((p * 7 + 3).tmod code.length) (by rw [m2]; exact Int.emod_nonneg _ hc0) (by rw [m2]; exact Int.emod_lt_of_pos _ (by omega))
    have wc : IntKind.i64.wrap c = c := i64_wrap (by omega) (by omega)
    have wc' : IntKind.i64.wrap c' = c' := i64_wrap (by omega) (by omega)
    have v1 : IntKind.i64.wrap (c * 131) = c * 131 := i64_wrap (by omega) (by omega)
    have v2 : IntKind.i64.wrap (p * 7) = p * 7 := i64_wrap (by omega) (by omega)
    have v3 : IntKind.i64.wrap (p * 7 + 3) = p * 7 + 3 := i64_wrap (by omega) (by omega)
    have v4 : IntKind.i64.wrap (c' * 1117) = c' * 1117 := i64_wrap (by omega) (by omega)
    have v5 : IntKind.i64.wrap (c * 131 + c' * 1117) = c * 131 + c' * 1117 := i64_wrap (by omega) (by omega)
    have v6 : IntKind.i64.wrap (p * 29) = p * 29 := i64_wrap (by omega) (by omega)
    have v7 : IntKind.i64.wrap (c * 131 + c' * 1117 + p * 29) = c * 131 + c' * 1117 + p * 29 := i64_wrap (by omega) (by omega)
    have q0 : p.tdiv code.length = p / code.length := Int.tdiv_eq_ediv_of_nonneg hpos
    have q1 : 0 ≤ p.tdiv code.length := by rw [q0]; exact Int.ediv_nonneg hpos (by omega)
    have q2 : p.tdiv code.length ≤ p := by rw [q0]; exact Int.ediv_le_self _ hpos
    have v8 : IntKind.i64.wrap (p.tdiv code.length) = p.tdiv code.length := i64_wrap (by omega) (by omega)
    have v9 : IntKind.i64.wrap (p.tdiv code.length * 53) = p.tdiv code.length * 53 := i64_wrap (by omega) (by omega)
    have va : IntKind.i64.wrap (c * 131 + c' * 1117 + p * 29 + p.tdiv code.length * 53) = c * 131 + c' * 1117 + p * 29 + p.tdiv code.length * 53 := i64_wrap (by omega) (by omega)
    have sp : 0 ≤ c * 131 + c' * 1117 + p * 29 + p.tdiv code.length * 53 := by omega
    have sq : c * 131 + c' * 1117 + p * 29 + p.tdiv code.length * 53 < 2 ^ 60 := by omega
    generalize hS : c * 131 + c' * 1117 + p * 29 + p.tdiv code.length * 53 = S at va sp sq
    have s0 : S.tdiv 64 = S / 64 := Int.tdiv_eq_ediv_of_nonneg sp
    have s1 : 0 ≤ S.tdiv 64 := by rw [s0]; omega
    have s2 : S.tdiv 64 < 2 ^ 60 := by rw [s0]; omega
    have vb : IntKind.i64.wrap (S.tdiv 64) = S.tdiv 64 := i64_wrap (by omega) (by omega)
    have sx := xor_ge (a := S) (b := S.tdiv 64) sp (by omega) s1 (by omega)
    simp +contextual (maxSteps := 2000000) only [go_sem, Nat.reduceEqDiff, reduceCtorEq, Nat.reduceAdd, Nat.reduceLeDiff, l0, l1, yl, decide_eq_false c1, decide_eq_false c2, w2, decide_eq_false c3, e1, e2, e1', e2', wc, wc', v1, v2, v3, v4, v5, v6, v7, v8, v9, hS, va, vb, bin_rem hn0, bin_rem hc0, bin_quo hc0, bin_quo (show (64 : Int) ≠ 0 by decide), bin_xor]
    exact fin _ sx
/-! (*spec.reader).one -/
def L134_0 : List AStep := [⟨.mov (.c (.int .i64 0)), (some 4), none, []⟩]
theorem v134_0 : VS L134_0.eq_1 := rfl
def L134_1 : List AStep := [⟨.load 1 false (.t 10), (some 11), none, []⟩, ⟨.mov (.t 11), (some 4), none, []⟩]
theorem v134_1 : VS L134_1.eq_1 := rfl
def L134_2 : List AStep := ⟨.call 92 [(.t 6), (.t 8)], (some 9), none, []⟩ :: ⟨.iaddr 1 (.t 5) (.t 9), (some 10), none, []⟩ :: L134_1
theorem v134_2 : VS L134_2.eq_1 := rfl
def L134_3 : List AStep := ⟨.mov (.t 1), (some 7), none, []⟩ :: ⟨.len (.t 7), (some 8), none, []⟩ :: L134_2
theorem v134_3 : VS L134_3.eq_1 := rfl
def L134_4 : List AStep := ⟨.mov (.t 1), (some 5), none, []⟩ :: ⟨.mov (.t 0), (some 6), none, []⟩ :: L134_3
theorem v134_4 : VS L134_4.eq_1 := rfl
def C134_0 : ACode := .seq (.reg L134_4) .ret
theorem u134_0 : VC C134_0.eq_1 := rfl
def C134_1 : ACode := .seq (.reg L134_0) C134_0
theorem u134_1 : VC C134_1.eq_1 := rfl
def F134 : AFunc := ⟨12, [.tmp 4], C134_1⟩
theorem cF134 : compB Try.prog 134 = some F134 := by kernel_rfl
attribute [local go_sem ↓] u134_0 u134_1 v134_0 v134_1 v134_2 v134_3 v134_4
theorem c_one (b : Nat) (p : Int) (l : List Int) (v : AV) (h : H) (r : Rd h b p) (hp : p ≤ 2 ^ 40) (hl : SlI h v l) (hs : ∀ i, baseOf v = some i → b < i) (hz : 0 < l.length) (hn : l.length ≤ 100) : callK (bm Try.prog 134 [.one (.ptr (some (b, 0))), v] h) fun q h' => (∃ n ∈ l, q = ii n) ∧ Drew b p 1 h h' := by
  refine bm_of cF134 ?_
  simp +contextual (maxSteps := 2000000) only [go_sem, Nat.reduceEqDiff, reduceCtorEq, Nat.reduceAdd, Nat.reduceLeDiff, F134, hl.len]
  refine wp_call (c_pick b l.length p h r hp) ?_
  rintro q h1 ⟨⟨k, rfl, k0, k1⟩, d⟩
  have hk : k < l.length := by omega
  have hl1 := hl.of_stay d.st fun i hi e => by have := hs i hi; simp [bR, baseOf] at e; omega
  have hi : k.toNat < l.length := by omega
  simp +contextual (maxSteps := 2000000) only [go_sem, Nat.reduceEqDiff, reduceCtorEq, Nat.reduceAdd, Nat.reduceLeDiff, hl1.iaddr_int k0 hk, hl1.oneO hi]
  exact gcK_drew r d ⟨⟨_, List.getElem_mem hi, rfl⟩, d⟩
/-! (*spec.reader).of -/
def L144_0 : List AStep := [⟨.mov (.c (.str (strOfNums []))), (some 4), none, []⟩]
theorem v144_0 : VS L144_0.eq_1 := rfl
def L144_1 : List AStep := [⟨.load 1 false (.t 10), (some 11), none, []⟩, ⟨.mov (.t 11), (some 4), none, []⟩]
theorem v144_1 : VS L144_1.eq_1 := rfl
def L144_2 : List AStep := ⟨.call 92 [(.t 6), (.t 8)], (some 9), none, []⟩ :: ⟨.iaddr 1 (.t 5) (.t 9), (some 10), none, []⟩ :: L144_1
theorem v144_2 : VS L144_2.eq_1 := rfl
def L144_3 : List AStep := ⟨.mov (.t 1), (some 7), none, []⟩ :: ⟨.len (.t 7), (some 8), none, []⟩ :: L144_2
theorem v144_3 : VS L144_3.eq_1 := rfl
def L144_4 : List AStep := ⟨.mov (.t 1), (some 5), none, []⟩ :: ⟨.mov (.t 0), (some 6), none, []⟩ :: L144_3
theorem v144_4 : VS L144_4.eq_1 := rfl
def C144_0 : ACode := .seq (.reg L144_4) .ret
theorem u144_0 : VC C144_0.eq_1 := rfl
def C144_1 : ACode := .seq (.reg L144_0) C144_0
theorem u144_1 : VC C144_1.eq_1 := rfl
def F144 : AFunc := ⟨12, [.tmp 4], C144_1⟩
theorem cF144 : compB Try.prog 144 = some F144 := by kernel_rfl
attribute [local go_sem ↓] u144_0 u144_1 v144_0 v144_1 v144_2 v144_3 v144_4
theorem c_of (b : Nat) (p : Int) (l : List ByteArray) (v : AV) (h : H) (r : Rd h b p) (hp : p ≤ 2 ^ 40) (hl : SlS h v l) (hs : ∀ i, baseOf v = some i → b < i) (hz : 0 < l.length) (hn : l.length ≤ 100) : callK (bm Try.prog 144 [.one (.ptr (some (b, 0))), v] h) fun q h' => (∃ n ∈ l, q = .one (.str n)) ∧ Drew b p 1 h h' := by
  refine bm_of cF144 ?_
  simp +contextual (maxSteps := 2000000) only [go_sem, Nat.reduceEqDiff, reduceCtorEq, Nat.reduceAdd, Nat.reduceLeDiff, F144, hl.len]
  refine wp_call (c_pick b l.length p h r hp) ?_
  rintro q h1 ⟨⟨k, rfl, k0, k1⟩, d⟩
  have hk : k < l.length := by omega
  have hl1 := hl.of_stay d.st fun i hi e => by have := hs i hi; simp [bR, baseOf] at e; omega
  have hi : k.toNat < l.length := by omega
  simp +contextual (maxSteps := 2000000) only [go_sem, Nat.reduceEqDiff, reduceCtorEq, Nat.reduceAdd, Nat.reduceLeDiff, hl1.iaddr_int k0 hk, hl1.oneO hi]
  exact gcK_drew r d ⟨⟨_, List.getElem_mem hi, rfl⟩, d⟩
end Go.Proofs.Ytekkimfdcbgcoac.Am
