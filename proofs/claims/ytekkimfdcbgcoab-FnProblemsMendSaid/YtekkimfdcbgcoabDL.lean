/- Contracts: a pair is taken out of a list. -/
import Derived.Test.YtekkimfdcbgcoabB1
import Derived.Test.YtekkimfdcbgcoabA3
import Derived.Test.YtekkimfdcbgcoabDR
namespace Go.Proofs.Ytekkimfdcbgcoab.Am
open Go
attribute [local go_sem] loadL_agg wpO_clr
set_option maxRecDepth 100000
set_option maxHeartbeats 4000000
set_option linter.unusedSimpArgs false
set_option linter.unusedVariables false
attribute [local go_sem ↓] bv_t bv_c ev_t ev_c put_same put_ne put_none kill_at pro_at lb_same lb_ne start_zero start_succ wpC_seq wpC_reg wpC_cond wpC_block wpC_skip wpC_exit wpC_ret thenQ_normal thenQ_exit thenQ_ret inBlk_normal inBlk_exit inBlk_ret wpS_nil wpS_step wpS_again wpS_guard wpO_mov wpO_load wpO_faddr wpO_nilCheck wpO_pick wpO_build wpO_bin wpO_eqb wpO_eqst wpO_eqnil wpO_not wpO_conv wpO_bytesStr wpO_iaddr wpO_idxStr wpO_field wpO_extract wpO_len wpO_lenStr wpO_cap wpO_min wpO_slice wpO_sliceStr wpO_alloc wpO_box wpO_store wpO_call wpO_callv wpO_mkfn wpO_buildSlice wpO_mkslice wpO_append wpO_appz proA_nil proA_cons tmpX_nil tmpX_tmp tmpX_cell doneB_normal doneB_ret agK_cons agK_nil agK_guard agG_tt agG_ff agG_tf agG_ft agG_undef pureB_load results_one results_two results_nil resBs_cons resBs_nil resB_tmp resB_cell
attribute [local go_sem] kill_v kill_lp_ne kill_lp_same pro_v pro_lp_same pro_lp_ne av_v av_lp optB_some optX_some valX_eq ldX_lp ldX_v faX_lp faX_v ncX_lp ncX_ptr ncX_fn boxK_one boxK_agg stL_some stK_lp_one stK_lp_agg stK_v_one stK_v_agg proM_v proM_lp callG_mk callVG_mk callvK_fn fnG_mk ptrsA_nil ptrsA_cons callH_some whenA_true whenA_false guardH_tt guardH_ff guardH_tf guardH_ft guardH_undef agV_one agV_agg lenO_sl lenStrO_str notO_bool pickO_bool convO_int eqbO_bool eqnilO_sl extractO_tup capO_sl minO_int loadL_one loadL_all storeL_eq fillA_nil fillA_one fillA_agg nat_ge neg_ge nat_lt neg_lt buildO bin_add bin_sub bin_mul bin_eql bin_neq bin_lss bin_leq bin_gtr bin_geq str_eql str_neq str_lss str_leq str_gtr str_geq retK_some endK_mk gcK_same gcK_int gcK_bool tupO_one tupO_agg rdy_self ib ii Option.map_none Option.map_some Option.some.injEq exists_eq_left' exists_eq_left ne_eq not_false_eq_true if_true if_false List.map_cons List.map_nil List.getElem?_cons_zero List.getElem?_cons_succ List.length_cons List.length_nil List.take_succ_cons List.take_zero List.take_nil List.drop_succ_cons List.drop_zero List.drop_nil List.cons_append List.nil_append List.append_nil List.set_cons_zero List.set_cons_succ Nat.zero_add forall_const true_and and_true and_self Bool.false_eq_true false_implies true_implies implies_true Bool.not_true Bool.not_false Bool.not_eq_true' Bool.not_eq_false' beq_self_eq_true Bool.bne_true Bool.bne_false
attribute [local go_sem] lenI lenS lenP lenQ lenB lenL lenT encI_0 encS_0 encP_0 encP_1 encQ_0 encQ_1 encQ_2 encQ_3 encB_0 encB_1 encL_0 encL_1 encT_0 encT_1
attribute [local go_sem low] whenA_bool guardH_bool
theorem Sl.box {α : Type} {enc : α → List CV} {k ty : Nat} {h : H} {b : Nat} {l : List α} {z : List CV} (he : ∀ x, (enc x).length = k) (hb : Box h b (l.flatMap enc ++ z) ty) {c : Nat} (hc : l.length ≤ c) : Sl enc k ty h (.one (.sl (some (b, 0)) l.length (some c))) l := by
  refine ⟨⟨_, _, rfl, hc⟩, ?_, he, fun a n c h4 => by simp at h4; obtain ⟨rfl, _⟩ := h4; exact ⟨hb.lt, by rw [hb.eq]⟩⟩
  have hl := flat_len he l
  have := hb.load (off := 0) (k := l.length * k) (by simp [hl])
  cases hn : l.length with
  | zero =>
    have : l = [] := List.length_eq_zero_iff.1 hn
    subst this
    rfl
  | succ n =>
    rw [hn] at this hl
    show h.load (b, 0) ((n + 1) * k) = _
    rw [this, List.drop_zero, ← hl, List.take_left]
/-- The pair behind is laid over the place. -/
theorem app_del {α : Type} {enc : α → List CV} {k ty by_ : Nat} {h : H} {b : Nat} {l : List α} (he : ∀ x, (enc x).length = k) (hb : Box h b (l.flatMap enc) ty) {i : Nat} (hi : i < l.length) (hs : l.length * by_ ≤ 140737488355328) :
    ∃ h2, appendA ty k by_ (.one (.sl (some (b, 0)) i (some l.length))) (.one (.sl (some (b, (i + 1) * k)) (l.length - (i + 1)) (some (l.length - (i + 1))))) h = some (.one (.sl (some (b, 0)) (l.length - 1) (some l.length)), h2) ∧
      Stay (bR b) h h2 ∧ h2.n = h.n ∧ Box h2 b ((l.take i ++ l.drop (i + 1)).flatMap enc ++ (l.drop (l.length - 1)).flatMap enc) ty := by
  have hl := flat_len he l
  by_cases hm : l.length - (i + 1) = 0
  · refine ⟨h, ?_, ⟨Nat.le_refl _, fun _ _ _ => rfl⟩, rfl, ?_⟩
    · have : i = l.length - 1 := by omega
      simp only [appendA, hm, if_pos]
      rw [← this]
    · have e : l.take i ++ l.drop (i + 1) ++ l.drop (l.length - 1) = l := by
        rw [show l.length - 1 = i by omega, List.drop_eq_nil_of_le (show l.length ≤ i + 1 by omega), List.append_nil, List.take_append_drop]
      rw [← List.flatMap_append, e]
      exact hb
  · have h1 : srcA h k (.one (.sl (some (b, 0)) i (some l.length))) = some ((l.take i).flatMap enc) := by
      have := hb.load (off := 0) (k := i * k) (by rw [hl, Nat.zero_add]; exact Nat.mul_le_mul_right _ (by omega))
      rw [List.drop_zero, flat_take he] at this
      cases i with
      | zero => rfl
      | succ i => exact this
    have h2 : srcA h k (.one (.sl (some (b, (i + 1) * k)) (l.length - (i + 1)) (some (l.length - (i + 1))))) = some ((l.drop (i + 1)).flatMap enc) := by
      have hsum : (i + 1) * k + (l.length - (i + 1)) * k = l.length * k := by rw [← Nat.add_mul, show i + 1 + (l.length - (i + 1)) = l.length by omega]
      have := hb.load (off := (i + 1) * k) (k := (l.length - (i + 1)) * k) (by rw [hl, hsum]; exact Nat.le_refl _)
      rw [flat_drop he] at this
      have hl2 := flat_len he (l.drop (i + 1))
      rw [List.length_drop] at hl2
      rw [← hl2, List.take_length] at this
      obtain ⟨m, hm2⟩ : ∃ m, l.length - (i + 1) = m + 1 := ⟨l.length - (i + 1) - 1, by omega⟩
      rw [hm2] at hl2 ⊢
      show h.load (b, (i + 1) * k) ((m + 1) * k) = _
      rw [← hl2]
      exact this
    have hl2 := flat_len he (l.drop (i + 1))
    rw [List.length_drop] at hl2
    have hsum : i * k + (l.length - (i + 1)) * k = (l.length - 1) * k := by rw [← Nat.add_mul, show i + (l.length - (i + 1)) = l.length - 1 by omega]
    obtain ⟨h3, e1, e2, e3, e4⟩ := hb.store (off := 0 + i * k) (vs := (l.drop (i + 1)).flatMap enc) (by rw [hl2, hl, Nat.zero_add, hsum]; exact Nat.mul_le_mul_right _ (by omega))
    refine ⟨h3, ?_, ⟨by omega, fun j hj hn => e3 j fun e => hn (by simp [bR, baseOf, e])⟩, e2, ?_⟩
    · simp only [appendA]
      rw [if_neg hm, if_neg (by rw [show i + (l.length - (i + 1)) = l.length - 1 by omega]; have := Nat.mul_le_mul_right by_ (show l.length - 1 ≤ l.length by omega); omega), h1, h2]
      simp only
      rw [if_pos (show i + (l.length - (i + 1)) ≤ l.length by omega), if_pos (by rw [hb.eq]), e1, show i + (l.length - (i + 1)) = l.length - 1 by omega]
      rfl
    · rw [Nat.zero_add, flat_take he, hl2, hsum, flat_drop he] at e4
      rw [List.flatMap_append, List.append_assoc]
      exact e4
theorem wp_appE {ty k b : Nat} {s x v : AV} {d : Option Nat} {T : Tb} {L : Lb} {h h2 : H} {K : Post} (e : appendA ty k b s x h = some (v, h2)) (hk : K (T.put d (.v v)) L (rdy h2)) : apK ty k b s x d T L h K := by
  unfold apK
  rw [e, callK_some]
  exact hk
theorem wp_clrE {z : List CV} {p : Nat × Nat} {n : Nat} {c : Option Nat} {d : Option Nat} {T : Tb} {L : Lb} {h h2 : H} {K : Post} (hn : ¬ n = 0) (hs : h.store p (repl z n) = some h2) (hk : K (T.put d (.v (.tup []))) L (rdy h2)) : clK z (.one (.sl (some p) n c)) d T L h K := ⟨hn, h2, hs, hk⟩
theorem cutE {ty k : Nat} {h : H} {b n lo hi mx : Nat} (hb : b < h.n ∧ (h.f b).ty = ty) (h1 : lo ≤ hi) (h2 : hi ≤ mx) (h3 : mx ≤ n) {m : Nat} {kd : IntKind} : cutO ty k h (.one (.sl (some (b, 0)) m (some n))) (some (.one (.int kd lo))) (some (.one (.int kd hi))) (some (.one (.int kd mx))) = some (.one (.sl (some (b, lo * k)) (hi - lo) (some (mx - lo)))) := by
  simp [cutO, pureA, AX.ev, boundsA, maxA, highA, lowA, boundA, hb, h1, h2, h3]
theorem cutE2 {ty k : Nat} {h : H} {b n lo hi : Nat} (hb : b < h.n ∧ (h.f b).ty = ty) (h1 : lo ≤ hi) (h2 : hi ≤ n) {m : Nat} {kd : IntKind} : cutO ty k h (.one (.sl (some (b, 0)) m (some n))) (some (.one (.int kd lo))) (some (.one (.int kd hi))) none = some (.one (.sl (some (b, lo * k)) (hi - lo) (some (n - lo)))) := by
  simp [cutO, pureA, AX.ev, boundsA, maxA, highA, lowA, boundA, hb, h1, h2]
theorem cutE0 {ty k : Nat} {h : H} {b n hi : Nat} (hb : b < h.n ∧ (h.f b).ty = ty) (h2 : hi ≤ n) {m : Nat} {kd : IntKind} : cutO ty k h (.one (.sl (some (b, 0)) m (some n))) none (some (.one (.int kd hi))) none = some (.one (.sl (some (b, 0)) hi (some n))) := by
  simp [cutO, pureA, AX.ev, boundsA, maxA, highA, lowA, boundA, hb, h2]
theorem cutE1 {ty k : Nat} {h : H} {b n lo : Nat} (hb : b < h.n ∧ (h.f b).ty = ty) (h1 : lo ≤ n) {kd : IntKind} : cutO ty k h (.one (.sl (some (b, 0)) n (some n))) (some (.one (.int kd lo))) none none = some (.one (.sl (some (b, lo * k)) (n - lo) (some (n - lo)))) := by
  simp [cutO, pureA, AX.ev, boundsA, maxA, highA, lowA, boundA, hb, h1]
/-! slices.Delete(()impl.Pair,impl.Pair) -/
def L81_0 : List AStep := [⟨.mov (.c (.sl none 0 (some 0))), (some 6), none, []⟩]
theorem v81_0 : VS L81_0.eq_1 := rfl
def L81_1 : List AStep := [⟨.len (.t 11), (some 12), none, []⟩, ⟨.slice 64 2 (.t 8) (some (.t 9)) (some (.t 10)) (some (.t 12)), (some 13), none, []⟩]
theorem v81_1 : VS L81_1.eq_1 := rfl
def L81_2 : List AStep := ⟨.mov (.t 2), (some 10), none, []⟩ :: ⟨.mov (.t 0), (some 11), none, []⟩ :: L81_1
theorem v81_2 : VS L81_2.eq_1 := rfl
def L81_3 : List AStep := ⟨.mov (.t 0), (some 8), none, []⟩ :: ⟨.mov (.t 1), (some 9), none, []⟩ :: L81_2
theorem v81_3 : VS L81_3.eq_1 := rfl
def L81_4 : List AStep := [⟨.bin .eql (.t 14) (.t 15), (some 16), none, []⟩]
theorem v81_4 : VS L81_4.eq_1 := rfl
def L81_5 : List AStep := ⟨.mov (.t 1), (some 14), none, []⟩ :: ⟨.mov (.t 2), (some 15), none, []⟩ :: L81_4
theorem v81_5 : VS L81_5.eq_1 := rfl
def L81_6 : List AStep := [⟨.mov (.t 0), (some 17), none, []⟩, ⟨.mov (.t 17), (some 6), none, []⟩]
theorem v81_6 : VS L81_6.eq_1 := rfl
def L81_7 : List AStep := [⟨.mov (.t 19), (some 7), none, []⟩]
theorem v81_7 : VS L81_7.eq_1 := rfl
def L81_8 : List AStep := ⟨.mov (.t 0), (some 18), none, []⟩ :: ⟨.len (.t 18), (some 19), none, []⟩ :: L81_7
theorem v81_8 : VS L81_8.eq_1 := rfl
def L81_9 : List AStep := [⟨.append 64 2 24 (.t 22) (.t 25), (some 26), none, []⟩, ⟨.mov (.t 26), (some 0), none, []⟩]
theorem v81_9 : VS L81_9.eq_1 := rfl
def L81_10 : List AStep := ⟨.mov (.t 2), (some 24), none, []⟩ :: ⟨.slice 64 2 (.t 23) (some (.t 24)) none none, (some 25), none, []⟩ :: L81_9
theorem v81_10 : VS L81_10.eq_1 := rfl
def L81_11 : List AStep := ⟨.slice 64 2 (.t 20) none (some (.t 21)) none, (some 22), none, []⟩ :: ⟨.mov (.t 0), (some 23), none, []⟩ :: L81_10
theorem v81_11 : VS L81_11.eq_1 := rfl
def L81_12 : List AStep := ⟨.mov (.t 0), (some 20), none, []⟩ :: ⟨.mov (.t 1), (some 21), none, []⟩ :: L81_11
theorem v81_12 : VS L81_12.eq_1 := rfl
def L81_13 : List AStep := [⟨.slice 64 2 (.t 27) (some (.t 29)) (some (.t 30)) none, (some 31), none, []⟩, ⟨.clr [(.str (strOfNums [])), (.int .i64 0)] (.t 31), none, none, []⟩]
theorem v81_13 : VS L81_13.eq_1 := rfl
def L81_14 : List AStep := ⟨.len (.t 28), (some 29), none, []⟩ :: ⟨.mov (.t 7), (some 30), none, []⟩ :: L81_13
theorem v81_14 : VS L81_14.eq_1 := rfl
def L81_15 : List AStep := ⟨.mov (.t 0), (some 27), none, []⟩ :: ⟨.mov (.t 0), (some 28), none, []⟩ :: L81_14
theorem v81_15 : VS L81_15.eq_1 := rfl
def L81_16 : List AStep := [⟨.mov (.t 0), (some 32), none, []⟩, ⟨.mov (.t 32), (some 6), none, []⟩]
theorem v81_16 : VS L81_16.eq_1 := rfl
def C81_0 : ACode := .seq (.reg L81_6) .ret
theorem u81_0 : VC C81_0.eq_1 := rfl
def C81_1 : ACode := .cond (.t 16) C81_0 .skip
theorem u81_1 : VC C81_1.eq_1 := rfl
def C81_2 : ACode := .seq (.reg L81_5) C81_1
theorem u81_2 : VC C81_2.eq_1 := rfl
def C81_3 : ACode := .seq (.reg L81_16) .ret
theorem u81_3 : VC C81_3.eq_1 := rfl
def C81_4 : ACode := .seq (.reg L81_15) C81_3
theorem u81_4 : VC C81_4.eq_1 := rfl
def C81_5 : ACode := .seq (.reg L81_12) C81_4
theorem u81_5 : VC C81_5.eq_1 := rfl
def C81_6 : ACode := .seq (.reg L81_8) C81_5
theorem u81_6 : VC C81_6.eq_1 := rfl
def C81_7 : ACode := .seq C81_2 C81_6
theorem u81_7 : VC C81_7.eq_1 := rfl
def C81_8 : ACode := .seq (.reg L81_3) C81_7
theorem u81_8 : VC C81_8.eq_1 := rfl
def C81_9 : ACode := .seq (.reg L81_0) C81_8
theorem u81_9 : VC C81_9.eq_1 := rfl
def F81 : AFunc := ⟨33, [.tmp 6], C81_9⟩
theorem cF81 : compB Try.prog 81 = some F81 := by kernel_rfl
attribute [local go_sem ↓] u81_0 u81_1 u81_2 u81_3 u81_4 u81_5 u81_6 u81_7 u81_8 u81_9 v81_0 v81_1 v81_2 v81_3 v81_4 v81_5 v81_6 v81_7 v81_8 v81_9 v81_10 v81_11 v81_12 v81_13 v81_14 v81_15 v81_16
theorem c_deleteP (l : List Pair) (b i : Nat) (h : H) (hb : Box h b (l.flatMap encP) 64) (hi : i < l.length) (hn : l.length ≤ 1048576) :
    callK (bm Try.prog 81 [.one (.sl (some (b, 0)) l.length (some l.length)), .one (.int .i64 i), .one (.int .i64 ((i + 1 : Nat) : Int))] h) fun r h' => (∃ c, r = .one c ∧ baseOf r = some b ∧ SlP h' r (l.take i ++ l.drop (i + 1))) ∧ Stay (bR b) h h' ∧ h'.n = h.n := by
  refine bm_of cF81 ?_
  have hty : b < h.n ∧ (h.f b).ty = 64 := ⟨hb.lt, by rw [hb.eq]⟩
  have e13 := cutE (k := 2) (n := l.length) (m := l.length) (kd := .i64) hty (show i ≤ i + 1 by omega) (show i + 1 ≤ l.length by omega) (Nat.le_refl _)
  have e22 := cutE0 (k := 2) (n := l.length) (m := l.length) (kd := .i64) hty (show i ≤ l.length by omega)
  have e25 := cutE1 (k := 2) (n := l.length) (kd := .i64) hty (show i + 1 ≤ l.length by omega)
  have ne : decide ((i : Int) = ((i + 1 : Nat) : Int)) = false := decide_eq_false (by omega)
  simp +contextual (maxSteps := 2000000) only [go_sem, Nat.reduceEqDiff, reduceCtorEq, Nat.reduceAdd, Nat.reduceLeDiff, F81, lenO_sl, e13, ne, e22, e25]
  obtain ⟨h2, ea, st2, en2, b2⟩ := app_del (by_ := 24) lenP hb hi (by omega)
  refine wp_appE ea ?_
  have hty2 : b < h2.n ∧ (h2.f b).ty = 64 := ⟨b2.lt, by rw [b2.eq]⟩
  have e31 := cutE2 (k := 2) (n := l.length) (m := l.length - 1) (kd := .i64) hty2 (show l.length - 1 ≤ l.length by omega) (Nat.le_refl _)
  rw [show l.length - (l.length - 1) = 1 by omega] at e31
  simp +contextual (maxSteps := 2000000) only [go_sem, Nat.reduceEqDiff, reduceCtorEq, Nat.reduceAdd, Nat.reduceLeDiff, lenO_sl, e31]
  have hL : (l.take i ++ l.drop (i + 1)).length = l.length - 1 := by simp; omega
  have hL2 := flat_len lenP (l.take i ++ l.drop (i + 1))
  have hL3 := flat_len lenP (l.drop (l.length - 1))
  have hd1 : (l.drop (l.length - 1)).length = 1 := by simp; omega
  rw [hL] at hL2
  rw [hd1] at hL3
  obtain ⟨h3, s1, s2, s3, s4⟩ := b2.store (off := 0 + (l.length - 1) * 2) (vs := repl [.str (strOfNums []), .int .i64 0] 1) (by rw [List.length_append, hL2, hL3]; show _ + 2 ≤ _; omega)
  rw [Nat.zero_add] at s1 s4
  refine wp_clrE (by omega) s1 ?_
  rw [List.take_append_of_le_length (by rw [hL2]; exact Nat.le_refl _), ← hL2, List.take_length] at s4
  have b3 : Box h3 b ((l.take i ++ l.drop (i + 1)).flatMap encP ++ _) 64 := s4
  have sl := Sl.box lenP b3 (c := l.length) (by omega)
  rw [hL] at sl
  have st3 : Stay (bR b) h h3 := ⟨by omega, fun j hj hnb => by
    rw [s3 j (fun e => hnb (by simp [bR, baseOf, e]))]
    exact st2.f j hj hnb⟩
  have en3 : h3.n = h.n := by omega
  simp +contextual (maxSteps := 2000000) only [go_sem, Nat.reduceEqDiff, reduceCtorEq, Nat.reduceAdd, Nat.reduceLeDiff]
  exact gcK_of ⟨⟨_, rfl, rfl, sl⟩, st3, en3⟩ (fun hs _ => by simp [AV.scalar, CV.scalar] at hs)
/-! slices.Clip(()impl.Pair,impl.Pair) -/
attribute [local go_sem ↓] u113_0 u113_1 v113_0 v113_1 v113_2 v113_3 v113_4
theorem c_clipP2 {h0 : H} (l : List Pair) (v : AV) (h : H) (hl : NwP h0 h v l) (hne : l ≠ []) : callK (bm Try.prog 113 [v] h) fun r h' => h' = h ∧ ∃ b, r = .one (.sl (some (b, 0)) l.length (some l.length)) ∧ Box h b (l.flatMap encP) 64 ∧ h0.n ≤ b := by
  refine bm_of cF113 ?_
  rcases hl.inv with ⟨_, e⟩ | ⟨_, _, _, e, _⟩ | ⟨_, _, _, e, _⟩ | ⟨b, c, rfl, hc, hb, h3⟩
  · exact absurd e hne
  · exact absurd e hne
  · exact absurd e hne
  · have e1 : cutO 64 2 h (.one (.sl (some (b, 0)) l.length c)) none (some (.one (.int .i64 l.length))) (some (.one (.int .i64 l.length))) = some (.one (.sl (some (b, 0)) l.length (some l.length))) := by
      have : c.getD l.length = l.length := by rcases hc with rfl | rfl <;> rfl
      simp [cutO, pureA, AX.ev, boundsA, maxA, highA, lowA, boundA, this]
      exact ⟨hb.lt, by rw [hb.eq]⟩
    simp +contextual (maxSteps := 2000000) only [go_sem, Nat.reduceEqDiff, reduceCtorEq, Nat.reduceAdd, Nat.reduceLeDiff, F113, lenO_sl, e1]
    exact ⟨b, rfl, hb, h3⟩
/-! impl.clone(impl.Pair) -/
attribute [local go_sem ↓] u80_0 u80_1 v80_0 v80_1 v80_2
theorem c_cloneP2 (l : List Pair) (v : AV) (h : H) (hl : SlP h v l) (hn : l.length ≤ big) (hne : l ≠ []) : callK (bm Try.prog 80 [v] h) fun r h' => Grow h h' ∧ ∃ b, r = .one (.sl (some (b, 0)) l.length (some l.length)) ∧ Box h' b (l.flatMap encP) 64 ∧ h.n ≤ b := by
  refine bm_of cF80 ?_
  simp +contextual (maxSteps := 2000000) only [go_sem, Nat.reduceEqDiff, reduceCtorEq, Nat.reduceAdd, Nat.reduceLeDiff, F80]
  refine wp_call (c_clone0P l v h hl hn) ?_
  rintro r h1 ⟨g1, n1⟩
  simp +contextual (maxSteps := 2000000) only [go_sem, Nat.reduceEqDiff, reduceCtorEq, Nat.reduceAdd, Nat.reduceLeDiff]
  refine wp_call (c_clipP2 l r h1 n1 hne) ?_
  rintro r2 h2 ⟨rfl, b, rfl, hb, h3⟩
  simp +contextual (maxSteps := 2000000) only [go_sem, Nat.reduceEqDiff, reduceCtorEq, Nat.reduceAdd, Nat.reduceLeDiff]
  exact gcK_of ⟨g1, b, rfl, hb, h3⟩ (fun hs _ => by simp [AV.scalar, CV.scalar] at hs)
/-! (impl.Flat).copyOf -/
attribute [local go_sem ↓] u61_0 u61_1 v61_0 v61_1 v61_2 v61_3 v61_4
theorem c_copyOfF2 (f : Flat) (p n : CV) (h : H) (hf : SlF h p n f) (hn : smF f) (hne : f.nl ≠ []) : callK (bm Try.prog 61 [.agg [p, n]] h) fun r h' => Grow h h' ∧ ∃ p' b, r = .agg [p', .sl (some (b, 0)) f.nl.length (some f.nl.length)] ∧ NwI h h' (.one p') f.pl ∧ Box h' b (f.nl.flatMap encP) 64 ∧ h.n ≤ b ∧ baseOf (.one p') ≠ some b := by
  refine bm_of cF61 ?_
  simp +contextual (maxSteps := 2000000) only [go_sem, Nat.reduceEqDiff, reduceCtorEq, Nat.reduceAdd, Nat.reduceLeDiff, F61]
  refine wp_call (c_cloneI _ _ h hf.pl hn.pl) ?_
  rintro r h1 ⟨g1, n1⟩
  obtain ⟨p', rfl⟩ := n1.one
  simp +contextual (maxSteps := 2000000) only [go_sem, Nat.reduceEqDiff, reduceCtorEq, Nat.reduceAdd, Nat.reduceLeDiff]
  refine wp_call (c_cloneP2 _ _ h1 (hf.nl.grow g1) hn.nl.1 hne) ?_
  rintro r h2 ⟨g2, b, rfl, hb, h3⟩
  simp +contextual (maxSteps := 2000000) only [go_sem, Nat.reduceEqDiff, reduceCtorEq, Nat.reduceAdd, Nat.reduceLeDiff]
  exact gcK_of ⟨g1.trans g2, p', b, rfl, n1.grow g2, hb, Nat.le_trans g1.n h3, fun e => by have := (n1.lt e).1; omega⟩ (fun hs _ => by simp [AV.scalar, CV.scalar] at hs)
def dropF (f : Flat) (s : ByteArray) : Flat := ⟨f.pl, f.nl.take (pairAt f.nl s).toNat ++ f.nl.drop ((pairAt f.nl s).toNat + 1)⟩
/-! impl.DropName -/
def L34_0 : List AStep := [⟨.mov (.c (.bool false)), (some 5), none, []⟩]
theorem v34_0 : VS L34_0.eq_1 := rfl
def L34_1 : List AStep := ⟨.box 29 (.t 0), (some 2), none, []⟩ :: ⟨.alloc 29 [(.sl none 0 (some 0)), (.sl none 0 (some 0))], (some 4), none, []⟩ :: L34_0
theorem v34_1 : VS L34_1.eq_1 := rfl
def L34_2 : List AStep := [⟨.mov (.t 11), (some 6), none, []⟩]
theorem v34_2 : VS L34_2.eq_1 := rfl
def L34_3 : List AStep := ⟨.mov (.t 1), (some 10), none, []⟩ :: ⟨.call 62 [(.t 9), (.t 10)], (some 11), none, []⟩ :: L34_2
theorem v34_3 : VS L34_3.eq_1 := rfl
def L34_4 : List AStep := ⟨.faddr 1 (.t 2), (some 8), none, []⟩ :: ⟨.load 1 false (.t 8), (some 9), none, []⟩ :: L34_3
theorem v34_4 : VS L34_4.eq_1 := rfl
def L34_5 : List AStep := [⟨.pick (.t 15) (.c (.bool true)) (.t 17), (some 18), none, []⟩]
theorem v34_5 : VS L34_5.eq_1 := rfl
def L34_6 : List AStep := ⟨.mov (.t 6), (some 16), (some (15, false)), []⟩ :: ⟨.bin .lss (.t 16) (.c (.int .i64 0)), (some 17), (some (15, false)), []⟩ :: L34_5
theorem v34_6 : VS L34_6.eq_1 := rfl
def L34_7 : List AStep := ⟨.not (.t 13), (some 14), none, []⟩ :: ⟨.mov (.t 14), (some 15), none, []⟩ :: L34_6
theorem v34_7 : VS L34_7.eq_1 := rfl
def L34_8 : List AStep := ⟨.load 2 true (.t 2), (some 12), none, []⟩ :: ⟨.call 32 [(.t 12)], (some 13), none, []⟩ :: L34_7
theorem v34_8 : VS L34_8.eq_1 := rfl
def L34_9 : List AStep := [⟨.mov (.c (.bool false)), (some 5), none, []⟩]
theorem v34_9 : VS L34_9.eq_1 := rfl
def L34_10 : List AStep := ⟨.build [(.sl none 0 (some 0)), (.sl none 0 (some 0))] [], (some 19), none, []⟩ :: ⟨.store 2 (.t 4) (.t 19), none, none, []⟩ :: L34_9
theorem v34_10 : VS L34_10.eq_1 := rfl
def L34_11 : List AStep := [⟨.alloc 29 [(.sl none 0 (some 0)), (.sl none 0 (some 0))], (some 7), none, []⟩, ⟨.store 2 (.t 7) (.t 21), none, none, []⟩]
theorem v34_11 : VS L34_11.eq_1 := rfl
def L34_12 : List AStep := ⟨.load 2 true (.t 2), (some 20), none, []⟩ :: ⟨.call 61 [(.t 20)], (some 21), none, []⟩ :: L34_11
theorem v34_12 : VS L34_12.eq_1 := rfl
def L34_13 : List AStep := [⟨.store 1 (.t 29) (.t 28), none, none, []⟩]
theorem v34_13 : VS L34_13.eq_1 := rfl
def L34_14 : List AStep := ⟨.call 80 [(.t 27)], (some 28), none, []⟩ :: ⟨.faddr 1 (.t 7), (some 29), none, []⟩ :: L34_13
theorem v34_14 : VS L34_14.eq_1 := rfl
def L34_15 : List AStep := ⟨.bin .add (.t 25) (.c (.int .i64 1)), (some 26), none, []⟩ :: ⟨.call 81 [(.t 23), (.t 24), (.t 26)], (some 27), none, []⟩ :: L34_14
theorem v34_15 : VS L34_15.eq_1 := rfl
def L34_16 : List AStep := ⟨.mov (.t 6), (some 24), none, []⟩ :: ⟨.mov (.t 6), (some 25), none, []⟩ :: L34_15
theorem v34_16 : VS L34_16.eq_1 := rfl
def L34_17 : List AStep := ⟨.faddr 1 (.t 7), (some 22), none, []⟩ :: ⟨.load 1 false (.t 22), (some 23), none, []⟩ :: L34_16
theorem v34_17 : VS L34_17.eq_1 := rfl
def L34_18 : List AStep := [⟨.mov (.c (.bool true)), (some 5), none, []⟩]
theorem v34_18 : VS L34_18.eq_1 := rfl
def L34_19 : List AStep := ⟨.load 2 true (.t 7), (some 30), none, []⟩ :: ⟨.store 2 (.t 4) (.t 30), none, none, []⟩ :: L34_18
theorem v34_19 : VS L34_19.eq_1 := rfl
def C34_0 : ACode := .seq (.reg L34_10) .ret
theorem u34_0 : VC C34_0.eq_1 := rfl
def C34_1 : ACode := .cond (.t 18) C34_0 .skip
theorem u34_1 : VC C34_1.eq_1 := rfl
def C34_2 : ACode := .seq (.reg L34_8) C34_1
theorem u34_2 : VC C34_2.eq_1 := rfl
def C34_3 : ACode := .seq (.reg L34_19) .ret
theorem u34_3 : VC C34_3.eq_1 := rfl
def C34_4 : ACode := .seq (.reg L34_17) C34_3
theorem u34_4 : VC C34_4.eq_1 := rfl
def C34_5 : ACode := .seq (.reg L34_12) C34_4
theorem u34_5 : VC C34_5.eq_1 := rfl
def C34_6 : ACode := .seq C34_2 C34_5
theorem u34_6 : VC C34_6.eq_1 := rfl
def C34_7 : ACode := .seq (.reg L34_4) C34_6
theorem u34_7 : VC C34_7.eq_1 := rfl
def C34_8 : ACode := .seq (.reg L34_1) C34_7
theorem u34_8 : VC C34_8.eq_1 := rfl
def F34 : AFunc := ⟨31, [.cell 4 2 true, .tmp 5], C34_8⟩
theorem cF34 : compB Try.prog 34 = some F34 := by kernel_rfl
attribute [local go_sem ↓] u34_0 u34_1 u34_2 u34_3 u34_4 u34_5 u34_6 u34_7 u34_8 v34_0 v34_1 v34_2 v34_3 v34_4 v34_5 v34_6 v34_7 v34_8 v34_9 v34_10 v34_11 v34_12 v34_13 v34_14 v34_15 v34_16 v34_17 v34_18 v34_19
theorem k_iDropName (f : Flat) (p n : CV) (s : ByteArray) (h : H) (hf : SlF h p n f) (hm : miniF f) (ok : okFlat f = true) {j : Nat} (hj : j < f.nl.length) (e : pairAt f.nl s = j) :
    callK (bm Try.prog 34 [.agg [p, n], .one (.str s)] h) fun r h' => Grow h h' ∧ ∃ p' n', r = .tup [.agg [p', n'], .one (.bool true)] ∧ SlF h' p' n' ⟨f.pl, f.nl.take j ++ f.nl.drop (j + 1)⟩ := by
  refine bm_of cF34 ?_
  have hne : f.nl ≠ [] := fun e => by rw [e] at hj; simp at hj
  have ep := c_pairAtI f.nl (.one n) s h hf.nl hm.sm.nl
  have ev := c_ValidFlat f p n h hf.pl hf.nl hm.sm
  rw [e] at ep
  rw [ok] at ev
  have hnl := hm.nl
  simp +contextual (maxSteps := 2000000) only [go_sem, Nat.reduceEqDiff, reduceCtorEq, Nat.reduceAdd, Nat.reduceLeDiff, F34, ep, ev, decide_eq_false (show ¬ ((j : Int) < 0) by omega)]
  refine wp_call (c_copyOfF2 f p n h hf hm.sm hne) ?_
  rintro r h1 ⟨g1, p', b, rfl, n1, hb, h3, hs⟩
  simp +contextual (maxSteps := 2000000) only [go_sem, Nat.reduceEqDiff, reduceCtorEq, Nat.reduceAdd, Nat.reduceLeDiff, wrap_next hj (show f.nl.length < 2 ^ 62 by omega)]
  refine wp_call (c_deleteP f.nl b j h1 hb hj hnl) ?_
  rintro r h2 ⟨⟨c, rfl, hbc, s2⟩, st2, en2⟩
  have g2 : Grow h h2 := ⟨by have := g1.n; omega, fun i hi => (st2.f i (Nat.lt_of_lt_of_le hi g1.n) fun e => by simp [bR, baseOf] at e; omega).trans (g1.f i hi)⟩
  have n2 : NwI h h2 (.one p') f.pl := n1.stay st2 fun i hi e => by simp [bR, baseOf] at e; subst e; exact hs hi
  simp +contextual (maxSteps := 2000000) only [go_sem, Nat.reduceEqDiff, reduceCtorEq, Nat.reduceAdd, Nat.reduceLeDiff]
  refine wp_call (c_cloneP _ _ h2 s2 (by have := hm.nl; unfold big; simp; omega)) ?_
  rintro r h4 ⟨g4, n4⟩
  obtain ⟨c4, rfl⟩ := n4.one
  simp +contextual (maxSteps := 2000000) only [go_sem, Nat.reduceEqDiff, reduceCtorEq, Nat.reduceAdd, Nat.reduceLeDiff]
  exact gcK_of ⟨g2.trans g4, p', c4, rfl, ⟨(n2.grow g4).sl lenI, n4.sl lenP⟩⟩ (fun hs _ => by
    simp [AV.scalar, AV.scalars] at hs
    exact ⟨Grow.refl h, p', c4, rfl, ⟨(n2.scalar (by simpa [AV.scalar] using hs.1.1) h).sl lenI, (n4.scalar (by simpa [AV.scalar] using hs.1.2) h).sl lenP⟩⟩)
end Go.Proofs.Ytekkimfdcbgcoab.Am
