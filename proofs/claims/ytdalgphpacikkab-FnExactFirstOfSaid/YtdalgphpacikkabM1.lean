/- Lists whose elements hold slices, as arguments: how much of them there is, and a copy of one's own. -/
import Derived.Test.YtdalgphpacikkabL1
import Derived.Test.YtdalgphpacikkabL2
import Derived.Test.YtdalgphpacikkabL4
import Derived.Test.YtdalgphpacikkabDom
import Derived.Test.YtdalgphpacikkabK
import Derived.Test.YtdalgphpacikkabDN
namespace Go.Proofs.Ytdalgphpacikkab.Am
open Go
set_option maxRecDepth 100000
set_option maxHeartbeats 4000000
set_option linter.unusedSimpArgs false
set_option linter.unusedVariables false
attribute [local go_sem ↓] bv_t bv_c ev_t ev_c put_same put_ne put_none kill_at pro_at lb_same lb_ne start_zero start_succ wpC_seq wpC_reg wpC_cond wpC_block wpC_skip wpC_exit wpC_ret thenQ_normal thenQ_exit thenQ_ret inBlk_normal inBlk_exit inBlk_ret wpS_nil wpS_step wpS_again wpS_guard wpO_mov wpO_load wpO_faddr wpO_nilCheck wpO_pick wpO_build wpO_bin wpO_eqb wpO_eqst wpO_eqnil wpO_not wpO_conv wpO_bytesStr wpO_iaddr wpO_idxStr wpO_field wpO_extract wpO_len wpO_lenStr wpO_cap wpO_min wpO_slice wpO_sliceStr wpO_alloc wpO_box wpO_store wpO_call wpO_callv wpO_mkfn wpO_buildSlice wpO_mkslice wpO_append wpO_appz proA_nil proA_cons tmpX_nil tmpX_tmp tmpX_cell doneB_normal doneB_ret agK_cons agK_nil agK_guard agG_tt agG_ff agG_tf agG_ft agG_undef pureB_load results_one results_two results_nil resBs_cons resBs_nil resB_tmp resB_cell
attribute [local go_sem] kill_v kill_lp_ne kill_lp_same pro_v pro_lp_same pro_lp_ne av_v av_lp optB_some optX_some valX_eq ldX_lp ldX_v faX_lp faX_v ncX_lp ncX_ptr ncX_fn boxK_one boxK_agg stL_some stK_lp_one stK_lp_agg stK_v_one stK_v_agg proM_v proM_lp callG_mk callVG_mk callvK_fn fnG_mk ptrsA_nil ptrsA_cons callH_some whenA_true whenA_false guardH_tt guardH_ff guardH_tf guardH_ft guardH_undef agV_one agV_agg lenO_sl lenStrO_str notO_bool pickO_bool convO_int eqbO_bool eqnilO_sl extractO_tup capO_sl minO_int loadL_one loadL_all storeL_eq fillA_nil fillA_one fillA_agg nat_ge neg_ge nat_lt neg_lt buildO bin_add bin_sub bin_mul bin_eql bin_neq bin_lss bin_leq bin_gtr bin_geq str_eql str_neq str_lss str_leq str_gtr str_geq retK_some endK_mk gcK_same gcK_int gcK_bool tupO_one tupO_agg rdy_self ib ii Option.map_none Option.map_some Option.some.injEq exists_eq_left' exists_eq_left ne_eq not_false_eq_true if_true if_false List.map_cons List.map_nil List.getElem?_cons_zero List.getElem?_cons_succ List.length_cons List.length_nil List.take_succ_cons List.take_zero List.take_nil List.drop_succ_cons List.drop_zero List.drop_nil List.cons_append List.nil_append List.append_nil List.set_cons_zero List.set_cons_succ Nat.zero_add forall_const true_and and_true and_self Bool.false_eq_true false_implies true_implies implies_true Bool.not_true Bool.not_false Bool.not_eq_true' Bool.not_eq_false' beq_self_eq_true Bool.bne_true Bool.bne_false
attribute [local go_sem] lenI lenS lenP lenQ lenB lenL lenT encI_0 encS_0 encP_0 encP_1 encQ_0 encQ_1 encQ_2 encQ_3 encB_0 encB_1 encL_0 encL_1 encT_0 encT_1
attribute [local go_sem low] whenA_bool guardH_bool
theorem choose_list {α β : Type} {P : α → β → Prop} : ∀ {rs : List α}, (∀ r ∈ rs, ∃ a, P r a) → ∃ l : List β, l.length = rs.length ∧ ∀ i (hi : i < rs.length) (hj : i < l.length), P rs[i] l[i]
  | [], _ => ⟨[], rfl, fun i hi => absurd hi (Nat.not_lt_zero _)⟩
  | r :: rs, h => by
    obtain ⟨a, ha⟩ := h r List.mem_cons_self
    obtain ⟨l, h1, h2⟩ := choose_list fun x hx => h x (List.mem_cons_of_mem _ hx)
    refine ⟨a :: l, by simp [h1], fun i hi hj => ?_⟩
    cases i with
    | zero => exact ha
    | succ i => exact h2 i (by simpa using hi) (by simpa using hj)
theorem wsum_c {α : Type} {f g : α → Nat} {c : Nat} {l : List α} (h : ∀ x ∈ l, f x ≤ c * (1 + g x)) : wsum f l l.length ≤ c * wtL g l := by
  unfold wtL wsum
  rw [List.take_length]
  induction l with
  | nil => simp
  | cons a r ih =>
    have h1 := h a List.mem_cons_self
    have h2 := ih fun x hx => h x (List.mem_cons_of_mem _ hx)
    simp only [List.map_cons, List.sum_cons, List.length_cons] at h2 ⊢
    have e : c * (r.length + 1 + (g a + (List.map g r).sum)) = c * (1 + g a) + c * (r.length + (List.map g r).sum) := by rw [← Nat.mul_add]; congr 1; omega
    omega
theorem wtL_mem {α : Type} {g : α → Nat} {l : List α} {x : α} (hx : x ∈ l) : 1 + g x ≤ wtL g l := by
  have := wsum_mem (f := g) hx
  have : 0 < l.length := List.length_pos_of_mem hx
  unfold wtL
  omega
theorem setR {α : Type} {rs : List α} {i : Nat} {r : α} (j : Nat) (hj : j < (rs.set i r).length) : (j = i ∧ (rs.set i r)[j] = r) ∨ (j ≠ i ∧ ∃ hk : j < rs.length, (rs.set i r)[j] = rs[j]) := by
  have hk : j < rs.length := by simpa using hj
  by_cases e : j = i
  · subst e; exact .inl ⟨rfl, by simp⟩
  · exact .inr ⟨e, hk, by rw [List.getElem_set_ne (Ne.symm e)]⟩
def wtEV (a : Sg) : Nat := wtL wtQ a.params
def wtV (l : List Sg) : Nat := wtL wtEV l
theorem getV_set {l : List Sg} {i j : Nat} {a : Sg} (hj : j < l.length) : updV (getV l) i a j = getV (l.set i a) j := by
  unfold updV getV
  by_cases e : j = i
  · subst e; rw [if_pos rfl, List.getElem?_set_self hj]; rfl
  · rw [if_neg e, List.getElem?_set_ne (Ne.symm e)]
theorem OwV.put {h0 h h1 h2 : H} {v : CV} {rs : List RSg} {n : Nat} {f : Nat → Sg} (x : OwV h0 h v rs n f) {i : Nat} (hi : i < rs.length) {r : RSg} {a : Sg} (g : Grow h h1) (y : NtV h h1 r a) 
    (o : Nw encV 1 36 h0 h2 (.one v) (rs.set i r)) (st : Stay (.one v) h1 h2) (hg : h0.n ≤ h.n) : OwV h0 h2 v (rs.set i r) n (updV f i a) := by
  have vb : ∀ i, baseOf (.one v) = some i → i < h.n := fun i hi => (x.out.lt hi).1
  have bqv : ∀ i (hi : i < rs.length) j, baseOf (.one rs[i].qv) = some j → j < h.n := fun i hi j hj => ((x.el i hi).params.lt hj).1
  have nqv : ∀ j, baseOf (.one r.qv) = some j → h.n ≤ j := fun j hj => (y.params.lt hj).2
  refine ⟨o, by simp [x.len], fun j hj => ?_, fun j hj => ?_, fun j k hj hk hjk => ?_⟩
  · rcases setR j hj with ⟨e, e2⟩ | ⟨e, hk, e2⟩
    · rw [e2, show updV f i a j = a from if_pos e]
      have z := y.from hg
      exact ⟨z.params.stay st (Sep.new vb nqv).symm⟩
    · rw [e2, show updV f i a j = f j from if_neg e]
      have z := (x.el j hk).grow g
      exact ⟨z.params.stay st (x.vqv j hk).symm⟩
  · rcases setR j hj with ⟨e, e2⟩ | ⟨e, hk, e2⟩
    · rw [e2]; exact Sep.new vb nqv
    · rw [e2]; exact x.vqv j hk
  · rcases setR j hj with ⟨e, e2⟩ | ⟨e, hj2, e2⟩ <;> rcases setR k hk with ⟨d, d2⟩ | ⟨d, hk2, d2⟩
    · omega
    · rw [e2, d2]; exact (Sep.new (bqv k hk2) nqv).symm
    · rw [e2, d2]; exact Sep.new (bqv j hj2) nqv
    · rw [e2, d2]; exact x.oqvqv j k hj2 hk2 hjk
def zrV : RSg := ⟨.sl none 0 (some 0)⟩
def zeV : Sg := ⟨[]⟩
theorem NwV.zeros {h0 h : H} {v : CV} {n : Nat} (x : Nw encV 1 36 h0 h (.one v) (List.replicate n zrV)) : NwV h0 h v (List.replicate n zrV) (List.replicate n zeV) := by
  refine ⟨⟨x, by simp, fun i hi => ?_, fun i hi => ?_, fun i j hi hj hij => ?_⟩⟩
  · have hi2 : i < (List.replicate n zeV).length := by simpa using hi
    rw [getV_eq hi2, List.getElem_replicate, List.getElem_replicate]
    exact ⟨.nil⟩
  all_goals simp only [List.getElem_replicate]
  · exact Sep.nil.symm
  · exact Sep.nil
theorem NwV.put {h0 h h1 h2 : H} {v : CV} {rs : List RSg} {l : List Sg} (x : NwV h0 h v rs l) {i : Nat} (hi : i < rs.length) {r : RSg} {a : Sg} (g : Grow h h1) (y : NtV h h1 r a) 
    (o : Nw encV 1 36 h0 h2 (.one v) (rs.set i r)) (st : Stay (.one v) h1 h2) (hg : h0.n ≤ h.n) : NwV h0 h2 v (rs.set i r) (l.set i a) := by
  have := (x.out.put hi g y  o st hg).congr (g := getV (l.set i a)) fun j hj => getV_set hj
  rw [show l.length = (l.set i a).length by simp] at this
  exact ⟨this⟩
theorem wtV_sm {l : List Sg} (h : wtV l ≤ 1048576) : miniV l := by
  unfold wtV at h
  have h1 : ∀ a ∈ l, wtEV a ≤ 1048576 := fun a ha => by have := wtL_mem (g := wtEV) ha; omega
  exact ⟨by unfold wtL at h; omega, fun a ha => by have := h1 a ha; unfold wtEV wtL at this; omega, fun a ha x hx => by have := h1 a ha; unfold wtEV at this; have := wtL_mem (g := wtQ) hx; unfold wtQ at this; unfold wtQ at *; omega, by
    have := wsum_c (f := cellsEV) (g := wtEV) (c := 4) (l := l) (fun a ha => by unfold cellsEV wtEV wtL; omega)
    unfold cellsV
    omega⟩
structure DomV (h : H) (p : CV) (l : List Sg) : Prop where
  rd : ∃ rs, RdV 24 116 h p rs l.length (getV l)
  k0 : l.length ≤ far
  el : ∀ a ∈ l, a.params.length ≤ far ∧ ∀ x ∈ a.params, x.name.size ≤ far
theorem DomV.grow {h h1 : H} {p : CV} {l : List Sg} (d : DomV h p l) (g : Grow h h1) : DomV h1 p l := ⟨d.rd.imp fun _ y => y.grow g, d.k0, d.el⟩
theorem dEV {h : H} {m : Nat} (cs : List CV) (hk : okA Try.prog h (m + 4) 24 cs) : ∃ r : RSg, cs = encV r ∧ ∃ a : Sg, AtV 116 h r a ∧ (a.params.length ≤ far ∧ ∀ x ∈ a.params, x.name.size ≤ far) := by
  have hk := okA_struct Try.underlying24 hk
  obtain ⟨a, r, rfl, h1, hk⟩ := okF_cons hk
  obtain rfl := okF_nil hk
  obtain ⟨p, l, rfl, s1, k1, k2⟩ := okA_list lenQ Try.underlying22 (by kernel_rfl) dParam h1
  exact ⟨⟨p⟩, rfl, ⟨l⟩, ⟨s1⟩, k1, k2⟩
theorem dV {h : H} {m : Nat} {v : AV} (hk : okV Try.prog h (m + 5) 61 v) : ∃ p x, v = .one p ∧ DomV h p x := by
  obtain ⟨c, rfl, hj⟩ := okV_one (by kernel_rfl) hk
  obtain ⟨p, rs, e, s1, k1, k2⟩ := okA_list lenV Try.underlying61 (by kernel_rfl) dEV hj
  obtain rfl : c = p := by simpa using e
  obtain ⟨l, e1, e2⟩ := choose_list k2
  have e3 : ∀ a ∈ l, a.params.length ≤ far ∧ ∀ x ∈ a.params, x.name.size ≤ far := fun a ha => by
    obtain ⟨i, hi, rfl⟩ := List.getElem_of_mem ha
    exact (e2 i (by omega) hi).2
  exact ⟨c, l, rfl, ⟨⟨rs, s1, e1.symm, fun i hi => by rw [getV_eq (show i < l.length by omega)]; exact (e2 i hi (by omega)).1⟩, by rw [e1]; exact k1, e3⟩⟩
theorem c_szEV (r : RSg) (a : Sg) (left : Int) (h : H) (h1 : 0 ≤ left) (h2 : left ≤ 1048576) (y : AtV 116 h r a) (k : a.params.length ≤ far ∧ ∀ x ∈ a.params, x.name.size ≤ far) : bm Try.prog 20 [.agg (encV r), .one (.int .i64 left)] h = some (ii (szr left (wtEV a)), h) := c_szSignature a.params r.qv left h h1 h2 y.params k.1 k.2
/-! laws.szSignatureS -/
def L33_0 : List AStep := [⟨.mov (.c (.int .i64 0)), (some 4), none, []⟩]
theorem v33_0 : VS L33_0.eq_1 := rfl
def L33_1 : List AStep := [⟨.mov (.t 9), (some 1), none, []⟩]
theorem v33_1 : VS L33_1.eq_1 := rfl
def L33_2 : List AStep := ⟨.len (.t 7), (some 8), none, []⟩ :: ⟨.bin .sub (.t 6) (.t 8), (some 9), none, []⟩ :: L33_1
theorem v33_2 : VS L33_2.eq_1 := rfl
def L33_3 : List AStep := ⟨.mov (.t 1), (some 6), none, []⟩ :: ⟨.mov (.t 0), (some 7), none, []⟩ :: L33_2
theorem v33_3 : VS L33_3.eq_1 := rfl
def L33_4 : List AStep := [⟨.mov (.t 1), (some 10), none, []⟩, ⟨.bin .lss (.t 10) (.c (.int .i64 0)), (some 11), none, []⟩]
theorem v33_4 : VS L33_4.eq_1 := rfl
def L33_5 : List AStep := [⟨.mov (.c (.int .i64 (-1))), (some 4), none, []⟩]
theorem v33_5 : VS L33_5.eq_1 := rfl
def L33_6 : List AStep := [⟨.mov (.c (.int .i64 0)), (some 5), none, []⟩]
theorem v33_6 : VS L33_6.eq_1 := rfl
def L33_7 : List AStep := [⟨.len (.t 13), (some 14), none, []⟩, ⟨.bin .lss (.t 12) (.t 14), (some 15), none, []⟩]
theorem v33_7 : VS L33_7.eq_1 := rfl
def L33_8 : List AStep := ⟨.mov (.t 5), (some 12), none, []⟩ :: ⟨.mov (.t 0), (some 13), none, []⟩ :: L33_7
theorem v33_8 : VS L33_8.eq_1 := rfl
def L33_9 : List AStep := [⟨.mov (.t 23), (some 1), none, []⟩]
theorem v33_9 : VS L33_9.eq_1 := rfl
def L33_10 : List AStep := ⟨.mov (.t 1), (some 22), none, []⟩ :: ⟨.call 20 [(.t 21), (.t 22)], (some 23), none, []⟩ :: L33_9
theorem v33_10 : VS L33_10.eq_1 := rfl
def L33_11 : List AStep := ⟨.iaddr 1 (.t 18) (.t 19), (some 20), none, []⟩ :: ⟨.load 1 true (.t 20), (some 21), none, []⟩ :: L33_10
theorem v33_11 : VS L33_11.eq_1 := rfl
def L33_12 : List AStep := ⟨.mov (.t 0), (some 18), none, []⟩ :: ⟨.mov (.t 5), (some 19), none, []⟩ :: L33_11
theorem v33_12 : VS L33_12.eq_1 := rfl
def L33_13 : List AStep := [⟨.mov (.t 1), (some 24), none, []⟩, ⟨.bin .lss (.t 24) (.c (.int .i64 0)), (some 25), none, []⟩]
theorem v33_13 : VS L33_13.eq_1 := rfl
def L33_14 : List AStep := [⟨.mov (.c (.int .i64 (-1))), (some 4), none, []⟩]
theorem v33_14 : VS L33_14.eq_1 := rfl
def L33_15 : List AStep := [⟨.mov (.t 17), (some 5), none, []⟩]
theorem v33_15 : VS L33_15.eq_1 := rfl
def L33_16 : List AStep := ⟨.mov (.t 5), (some 16), none, []⟩ :: ⟨.bin .add (.t 16) (.c (.int .i64 1)), (some 17), none, []⟩ :: L33_15
theorem v33_16 : VS L33_16.eq_1 := rfl
def L33_17 : List AStep := [⟨.mov (.t 1), (some 26), none, []⟩, ⟨.mov (.t 26), (some 4), none, []⟩]
theorem v33_17 : VS L33_17.eq_1 := rfl
def C33_0 : ACode := .seq (.reg L33_5) .ret
theorem u33_0 : VC C33_0.eq_1 := rfl
def C33_1 : ACode := .cond (.t 11) C33_0 .skip
theorem u33_1 : VC C33_1.eq_1 := rfl
def C33_2 : ACode := .seq (.reg L33_4) C33_1
theorem u33_2 : VC C33_2.eq_1 := rfl
def C33_3 : ACode := .cond (.t 15) .skip (.exit 0)
theorem u33_3 : VC C33_3.eq_1 := rfl
def C33_4 : ACode := .seq (.reg L33_8) C33_3
theorem u33_4 : VC C33_4.eq_1 := rfl
def C33_5 : ACode := .seq (.reg L33_14) .ret
theorem u33_5 : VC C33_5.eq_1 := rfl
def C33_6 : ACode := .cond (.t 25) C33_5 .skip
theorem u33_6 : VC C33_6.eq_1 := rfl
def C33_7 : ACode := .seq (.reg L33_13) C33_6
theorem u33_7 : VC C33_7.eq_1 := rfl
def C33_8 : ACode := .seq (.reg L33_12) C33_7
theorem u33_8 : VC C33_8.eq_1 := rfl
def C33_9 : ACode := .block 1 C33_8
theorem u33_9 : VC C33_9.eq_1 := rfl
def C33_10 : ACode := .seq C33_9 (.reg L33_16)
theorem u33_10 : VC C33_10.eq_1 := rfl
def C33_11 : ACode := .seq C33_4 C33_10
theorem u33_11 : VC C33_11.eq_1 := rfl
def C33_12 : ACode := .block 0 (.loop C33_11)
theorem u33_12 : VC C33_12.eq_1 := rfl
def C33_13 : ACode := .seq (.reg L33_6) C33_12
theorem u33_13 : VC C33_13.eq_1 := rfl
def C33_14 : ACode := .seq (.reg L33_17) .ret
theorem u33_14 : VC C33_14.eq_1 := rfl
def C33_15 : ACode := .seq C33_13 C33_14
theorem u33_15 : VC C33_15.eq_1 := rfl
def C33_16 : ACode := .seq C33_2 C33_15
theorem u33_16 : VC C33_16.eq_1 := rfl
def C33_17 : ACode := .seq (.reg L33_3) C33_16
theorem u33_17 : VC C33_17.eq_1 := rfl
def C33_18 : ACode := .seq (.reg L33_0) C33_17
theorem u33_18 : VC C33_18.eq_1 := rfl
def F33 : AFunc := ⟨27, [.tmp 4], C33_18⟩
theorem cF33 : compB Try.prog 33 = some F33 := by kernel_rfl
attribute [local go_sem ↓] u33_0 u33_1 u33_2 u33_3 u33_4 u33_5 u33_6 u33_7 u33_8 u33_9 u33_10 u33_11 u33_12 u33_13 u33_14 u33_15 u33_16 u33_17 u33_18 v33_0 v33_1 v33_2 v33_3 v33_4 v33_5 v33_6 v33_7 v33_8 v33_9 v33_10 v33_11 v33_12 v33_13 v33_14 v33_15 v33_16 v33_17
theorem c_szSignatureS (l : List Sg) (v : CV) (left : Int) (h : H) (h1 : 0 ≤ left) (h2 : left ≤ 1048576) (d : DomV h v l) : bm Try.prog 33 [.one v, .one (.int .i64 left)] h = some (ii (szr left (wtV l)), h) := by
  refine bm_eq cF33 ?_
  obtain ⟨rs, y⟩ := d.rd
  have k0 := d.k0
  have yl : lenO (.one v) = some (ii l.length) := by rw [y.out.len, y.len]
  by_cases e : left - (l.length : Int) < 0
  · simp +contextual (maxSteps := 2000000) only [go_sem, Nat.reduceEqDiff, reduceCtorEq, Nat.reduceAdd, Nat.reduceLeDiff, F33, yl, i64_sub h1 h2 k0, decide_eq_true e]
    unfold szr wtV wtL
    rw [if_pos (by omega)]
  simp +contextual (maxSteps := 2000000) only [go_sem, Nat.reduceEqDiff, reduceCtorEq, Nat.reduceAdd, Nat.reduceLeDiff, F33, yl, i64_sub h1 h2 k0, decide_eq_false e]
  refine wpC_loop (fun i T L h' => h' = h ∧ T 0 = .v (.one v) ∧ T 5 = .v (.one (.int .i64 i)) ∧ T 1 = .v (.one (.int .i64 (left - (l.length : Int) - (wsum wtEV l i : Int)))) ∧ 0 ≤ left - (l.length : Int) - (wsum wtEV l i : Int)) l.length ?_ ?_ (Nat.zero_le _) ?_
  · rintro i T L h' hi ⟨rfl, t0, t5, t1, hw⟩
    have hr : i < rs.length := by rw [y.len]; exact hi
    have hm := List.getElem_mem hi
    have e2 := wsum_next (f := wtEV) hi
    have e3 := wsum_le (f := wtEV) (l := l) (show i + 1 ≤ l.length by omega)
    have ye := y.el i hr
    rw [getV_eq hi] at ye
    have e1 := c_szEV rs[i] l[i] (left - (l.length : Int) - (wsum wtEV l i : Int)) h' hw (by omega) ye (d.el _ hm)
    by_cases e4 : left - (l.length : Int) - (wsum wtEV l i : Int) - (wtEV l[i] : Int) < 0
    · simp +contextual (maxSteps := 2000000) only [go_sem, Nat.reduceEqDiff, reduceCtorEq, Nat.reduceAdd, Nat.reduceLeDiff, t0, t1, t5, yl, y.out.iaddr hr, y.out.whole hr, e1, lt_true hi, decide_eq_true (szr_lt.2 e4)]
      unfold szr wtV wtL
      rw [if_pos (by omega)]
    · simp +contextual (maxSteps := 2000000) only [go_sem, Nat.reduceEqDiff, reduceCtorEq, Nat.reduceAdd, Nat.reduceLeDiff, t0, t1, t5, yl, y.out.iaddr hr, y.out.whole hr, e1, lt_true hi, decide_eq_false (show ¬ szr (left - (l.length : Int) - (wsum wtEV l i : Int)) (wtEV l[i]) < 0 by rw [szr_lt]; exact e4)]
      have e5 : szr (left - (l.length : Int) - (wsum wtEV l i : Int)) (wtEV l[i]) = left - (l.length : Int) - (wsum wtEV l (i + 1) : Int) := by
        unfold szr
        rw [if_neg e4, e2]
        omega
      rw [wrap_next hi (by omega), e5]
      exact ⟨rfl, rfl, by omega⟩
  · rintro T L h' ⟨rfl, t0, t5, t1, hw⟩
    simp +contextual (maxSteps := 2000000) only [go_sem, Nat.reduceEqDiff, reduceCtorEq, Nat.reduceAdd, Nat.reduceLeDiff, t0, t1, t5, yl, lt_false]
    unfold szr wtV wtL
    rw [if_neg (by omega)]
    rw [show left - (l.length : Int) - (wsum wtEV l l.length : Int) = left - ((l.length + wsum wtEV l l.length : Nat) : Int) by omega]
  · simp +contextual (maxSteps := 2000000) only [go_sem, Nat.reduceEqDiff, reduceCtorEq, Nat.reduceAdd, Nat.reduceLeDiff, wsum_zero]
    (repeat' (first | refine And.intro ?_ ?_ | intro _)) <;> first | rfl | (simp; done) | (simp; omega)
theorem c_toEV (r : RSg) (a : Sg) (h : H) (y : AtV 116 h r a) (m : a.params.length ≤ 1048576) : callK (bm Try.prog 23 [.agg (encV r)] h) fun q h' => Grow h h' ∧ ∃ u : RSg, q = .agg (encV u) ∧ NtV h h' u a := by
  obtain ⟨q, h1, e, g, p, rfl, n⟩ := c_to1G a.params r.qv h y.params m
  exact ⟨_, h1, e, g, ⟨p⟩, rfl, ⟨n⟩⟩
/-! laws.toSignatureS -/
def L35_0 : List AStep := [⟨.mov (.c (.sl none 0 (some 0))), (some 2), none, []⟩]
theorem v35_0 : VS L35_0.eq_1 := rfl
def L35_1 : List AStep := [⟨.mkslice 36 24 [(.sl none 0 (some 0))] (.t 6) (.t 6), (some 7), none, []⟩, ⟨.mov (.t 7), (some 3), none, []⟩]
theorem v35_1 : VS L35_1.eq_1 := rfl
def L35_2 : List AStep := ⟨.mov (.t 0), (some 5), none, []⟩ :: ⟨.len (.t 5), (some 6), none, []⟩ :: L35_1
theorem v35_2 : VS L35_2.eq_1 := rfl
def L35_3 : List AStep := [⟨.mov (.c (.int .i64 0)), (some 4), none, []⟩]
theorem v35_3 : VS L35_3.eq_1 := rfl
def L35_4 : List AStep := [⟨.len (.t 9), (some 10), none, []⟩, ⟨.bin .lss (.t 8) (.t 10), (some 11), none, []⟩]
theorem v35_4 : VS L35_4.eq_1 := rfl
def L35_5 : List AStep := ⟨.mov (.t 4), (some 8), none, []⟩ :: ⟨.mov (.t 0), (some 9), none, []⟩ :: L35_4
theorem v35_5 : VS L35_5.eq_1 := rfl
def L35_6 : List AStep := [⟨.store 1 (.t 21) (.t 20), none, none, []⟩]
theorem v35_6 : VS L35_6.eq_1 := rfl
def L35_7 : List AStep := ⟨.call 23 [(.t 19)], (some 20), none, []⟩ :: ⟨.iaddr 1 (.t 14) (.t 15), (some 21), none, []⟩ :: L35_6
theorem v35_7 : VS L35_7.eq_1 := rfl
def L35_8 : List AStep := ⟨.iaddr 1 (.t 16) (.t 17), (some 18), none, []⟩ :: ⟨.load 1 true (.t 18), (some 19), none, []⟩ :: L35_7
theorem v35_8 : VS L35_8.eq_1 := rfl
def L35_9 : List AStep := ⟨.mov (.t 0), (some 16), none, []⟩ :: ⟨.mov (.t 4), (some 17), none, []⟩ :: L35_8
theorem v35_9 : VS L35_9.eq_1 := rfl
def L35_10 : List AStep := ⟨.mov (.t 3), (some 14), none, []⟩ :: ⟨.mov (.t 4), (some 15), none, []⟩ :: L35_9
theorem v35_10 : VS L35_10.eq_1 := rfl
def L35_11 : List AStep := [⟨.mov (.t 13), (some 4), none, []⟩]
theorem v35_11 : VS L35_11.eq_1 := rfl
def L35_12 : List AStep := ⟨.mov (.t 4), (some 12), none, []⟩ :: ⟨.bin .add (.t 12) (.c (.int .i64 1)), (some 13), none, []⟩ :: L35_11
theorem v35_12 : VS L35_12.eq_1 := rfl
def L35_13 : List AStep := [⟨.mov (.t 3), (some 22), none, []⟩, ⟨.mov (.t 22), (some 2), none, []⟩]
theorem v35_13 : VS L35_13.eq_1 := rfl
def C35_0 : ACode := .cond (.t 11) .skip (.exit 0)
theorem u35_0 : VC C35_0.eq_1 := rfl
def C35_1 : ACode := .seq (.reg L35_5) C35_0
theorem u35_1 : VC C35_1.eq_1 := rfl
def C35_2 : ACode := .block 1 (.reg L35_10)
theorem u35_2 : VC C35_2.eq_1 := rfl
def C35_3 : ACode := .seq C35_2 (.reg L35_12)
theorem u35_3 : VC C35_3.eq_1 := rfl
def C35_4 : ACode := .seq C35_1 C35_3
theorem u35_4 : VC C35_4.eq_1 := rfl
def C35_5 : ACode := .block 0 (.loop C35_4)
theorem u35_5 : VC C35_5.eq_1 := rfl
def C35_6 : ACode := .seq (.reg L35_3) C35_5
theorem u35_6 : VC C35_6.eq_1 := rfl
def C35_7 : ACode := .seq (.reg L35_13) .ret
theorem u35_7 : VC C35_7.eq_1 := rfl
def C35_8 : ACode := .seq C35_6 C35_7
theorem u35_8 : VC C35_8.eq_1 := rfl
def C35_9 : ACode := .seq (.reg L35_2) C35_8
theorem u35_9 : VC C35_9.eq_1 := rfl
def C35_10 : ACode := .seq (.reg L35_0) C35_9
theorem u35_10 : VC C35_10.eq_1 := rfl
def F35 : AFunc := ⟨23, [.tmp 2], C35_10⟩
theorem cF35 : compB Try.prog 35 = some F35 := by kernel_rfl
attribute [local go_sem ↓] u35_0 u35_1 u35_2 u35_3 u35_4 u35_5 u35_6 u35_7 u35_8 u35_9 u35_10 v35_0 v35_1 v35_2 v35_3 v35_4 v35_5 v35_6 v35_7 v35_8 v35_9 v35_10 v35_11 v35_12 v35_13
theorem c_toSignatureS (l : List Sg) (v : CV) (h : H) (d : DomV h v l) (m : miniV l) : callK (bm Try.prog 35 [.one v] h) fun r h' => Grow h h' ∧ ∃ p rs, r = .one p ∧ NwV h h' p rs l := by
  refine bm_of cF35 ?_
  obtain ⟨rs, y⟩ := d.rd
  have hn := m.len
  have yl : lenO (.one v) = some (ii l.length) := by rw [y.out.len, y.len]
  simp +contextual (maxSteps := 2000000) only [go_sem, Nat.reduceEqDiff, reduceCtorEq, Nat.reduceAdd, Nat.reduceLeDiff, F35, yl]
  refine wp_make (enc := encV) (k := 1) zrV rfl (by omega) (by omega) ?_
  intro h1 o g1 n1 _
  obtain ⟨o, rfl⟩ := n1.one
  simp +contextual (maxSteps := 2000000) only [go_sem, Nat.reduceEqDiff, reduceCtorEq, Nat.reduceAdd, Nat.reduceLeDiff]
  refine wpC_loop (fun i T L h' => Grow h h' ∧ T 0 = .v (.one v) ∧ T 3 = .v (.one o) ∧ T 4 = .v (.one (.int .i64 i)) ∧ ∃ ro, NwV h h' o ro (fillL l zeV i)) l.length ?_ ?_ (Nat.zero_le _) ?_
  · rintro i T L h' hi ⟨g, t0, t3, t4, ro, no⟩
    have y := y.grow g
    have hr : i < rs.length := by rw [y.len]; exact hi
    have hm := List.getElem_mem hi
    have ye := y.el i hr
    rw [getV_eq hi] at ye
    have hio : i < ro.length := by rw [no.out.len, fillL_len (by omega)]; exact hi
    simp +contextual (maxSteps := 2000000) only [go_sem, Nat.reduceEqDiff, reduceCtorEq, Nat.reduceAdd, Nat.reduceLeDiff, t0, t3, t4, yl, y.out.iaddr hr, y.out.whole hr, lt_true hi]
    refine wp_call (c_toEV rs[i] l[i] h' ye (m.params _ hm)) ?_
    rintro q h2 ⟨g2, u, rfl, nu⟩
    simp +contextual (maxSteps := 2000000) only [go_sem, Nat.reduceEqDiff, reduceCtorEq, Nat.reduceAdd, Nat.reduceLeDiff, t0, t3, t4, no.out.out.iaddr hio]
    refine wp_setE (x := u) lenV (no.out.out.grow g2) hio rfl rfl (g.trans g2) ?_
    intro h3 g3 n3 s3
    simp +contextual (maxSteps := 2000000) only [go_sem, Nat.reduceEqDiff, reduceCtorEq, Nat.reduceAdd, Nat.reduceLeDiff, t0, t3, t4]
    have z := no.put hio g2 nu n3 s3 g.n
    rw [fillL_set hi] at z
    exact ⟨g3, by rw [wrap_next hi (by omega)], _, z⟩
  · rintro T L h' ⟨g, t0, t3, t4, ro, no⟩
    simp +contextual (maxSteps := 2000000) only [go_sem, Nat.reduceEqDiff, reduceCtorEq, Nat.reduceAdd, Nat.reduceLeDiff, t0, t3, t4, yl, lt_false]
    rw [fillL_all] at no
    exact gcK_of ⟨g, _, _, rfl, no⟩ (fun hs _ => ⟨Grow.refl h, _, _, rfl, no.scalar (by simpa [AV.scalar] using hs) h⟩)
  · simp +contextual (maxSteps := 2000000) only [go_sem, Nat.reduceEqDiff, reduceCtorEq, Nat.reduceAdd, Nat.reduceLeDiff]
    exact ⟨g1, rfl, _, by rw [fillL_zero]; exact .zeros n1⟩
theorem k_szV (x : List Sg) (p : CV) (left : Int) (h : H) (h1 : 0 ≤ left) (h2 : left ≤ 1048576) (d : DomV h p x) : bm Try.prog 33 [.one p, .one (.int .i64 left)] h = some (ii (szr left (wtV x)), h) := c_szSignatureS x p left h h1 h2 d
theorem k_toV (x : List Sg) (p : CV) (h : H) (d : DomV h p x) (m : miniV x) : callK (bm Try.prog 35 [.one p] h) fun r h' => Grow h h' ∧ ∃ p' R, r = .one p' ∧ NwV h h' p' R x := c_toSignatureS x p h d m
end Go.Proofs.Ytdalgphpacikkab.Am
