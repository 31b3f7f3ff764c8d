/- Lists whose elements hold slices, as arguments: how much of them there is, and a copy of one's own. -/
import Derived.Test.YtoeceafibmafpaaDoorL1
import Derived.Test.YtoeceafibmafpaaDoorL2
import Derived.Test.YtoeceafibmafpaaDoorL4
import Derived.Test.YtoeceafibmafpaaDoorDom
import Derived.Test.YtoeceafibmafpaaDoorK
import Derived.Test.YtoeceafibmafpaaDoorDN
namespace Go.Proofs.YtoeceafibmafpaaDoor.Am
open Go
set_option maxRecDepth 100000
set_option maxHeartbeats 4000000
set_option linter.unusedSimpArgs false
set_option linter.unusedVariables false
attribute [local go_sem ↓] bv_t bv_c ev_t ev_c put_same put_ne put_none kill_at pro_at lb_same lb_ne start_zero start_succ wpC_seq wpC_reg wpC_cond wpC_block wpC_skip wpC_exit wpC_ret thenQ_normal thenQ_exit thenQ_ret inBlk_normal inBlk_exit inBlk_ret wpS_nil wpS_step wpS_again wpS_guard wpO_mov wpO_load wpO_faddr wpO_nilCheck wpO_pick wpO_build wpO_bin wpO_eqb wpO_eqst wpO_eqnil wpO_not wpO_conv wpO_bytesStr wpO_iaddr wpO_idxStr wpO_field wpO_extract wpO_len wpO_lenStr wpO_cap wpO_min wpO_slice wpO_sliceStr wpO_alloc wpO_box wpO_store wpO_call wpO_callv wpO_mkfn wpO_buildSlice wpO_mkslice wpO_append wpO_appz proA_nil proA_cons tmpX_nil tmpX_tmp tmpX_cell doneB_normal doneB_ret agK_cons agK_nil agK_guard agG_tt agG_ff agG_tf agG_ft agG_undef pureB_load results_one results_two results_nil resBs_cons resBs_nil resB_tmp resB_cell
attribute [local go_sem] kill_v kill_lp_ne kill_lp_same pro_v pro_lp_same pro_lp_ne av_v av_lp optB_some optX_some valX_eq ldX_lp ldX_v faX_lp faX_v ncX_lp ncX_ptr ncX_fn boxK_one boxK_agg stL_some stK_lp_one stK_lp_agg stK_v_one stK_v_agg proM_v proM_lp callG_mk callVG_mk callvK_fn fnG_mk ptrsA_nil ptrsA_cons callH_some whenA_true whenA_false guardH_tt guardH_ff guardH_tf guardH_ft guardH_undef agV_one agV_agg lenO_sl lenStrO_str notO_bool pickO_bool convO_int eqbO_bool eqnilO_sl extractO_tup capO_sl minO_int loadL_one loadL_all storeL_eq fillA_nil fillA_one fillA_agg nat_ge neg_ge nat_lt neg_lt buildO bin_add bin_sub bin_mul bin_eql bin_neq bin_lss bin_leq bin_gtr bin_geq str_eql str_neq str_lss str_leq str_gtr str_geq retK_some endK_mk gcK_same gcK_int gcK_bool tupO_one tupO_agg rdy_self ib ii Option.map_none Option.map_some Option.some.injEq exists_eq_left' exists_eq_left ne_eq not_false_eq_true if_true if_false List.map_cons List.map_nil List.getElem?_cons_zero List.getElem?_cons_succ List.length_cons List.length_nil List.take_succ_cons List.take_zero List.take_nil List.drop_succ_cons List.drop_zero List.drop_nil List.cons_append List.nil_append List.append_nil List.set_cons_zero List.set_cons_succ Nat.zero_add forall_const true_and and_true and_self Bool.false_eq_true false_implies true_implies implies_true Bool.not_true Bool.not_false Bool.not_eq_true' Bool.not_eq_false' beq_self_eq_true Bool.bne_true Bool.bne_false
attribute [local go_sem] lenI lenS lenP lenQ lenB lenL lenT encI_0 encS_0 encP_0 encP_1 encQ_0 encQ_1 encQ_2 encQ_3 encB_0 encB_1 encL_0 encL_1 encT_0 encT_1
attribute [local go_sem low] whenA_bool guardH_bool
theorem choose_list {α β : Type} {P : α → β → Prop} : ∀ {rs : List α}, (∀ r ∈ rs, ∃ a, P r a) → ∃ l : List β, l.length = rs.length ∧ ∀ i (hi : i < rs.length) (hj : i < l.length), P rs[i] l[i]
  | [], _ => ⟨[], rfl, fun i hi => absurd hi (Nat.not_lt_zero _)⟩
  | r :: rs, h => by
    obtain ⟨a, ha⟩ := h r List.mem_cons_self
    obtain ⟨l, h1, h2⟩ := choose_list fun x hx => h x (List.mem_cons_of_mem _ hx)
    refine ⟨a :: l, by simp [h1], fun i hi hj => ?_⟩
    cases i with
    | zero => exact ha
    | succ i => exact h2 i (by simpa using hi) (by simpa using hj)
theorem wsum_c {α : Type} {f g : α → Nat} {c : Nat} {l : List α} (h : ∀ x ∈ l, f x ≤ c * (1 + g x)) : wsum f l l.length ≤ c * wtL g l := by
  unfold wtL wsum
  rw [List.take_length]
  induction l with
  | nil => simp
  | cons a r ih =>
    have h1 := h a List.mem_cons_self
    have h2 := ih fun x hx => h x (List.mem_cons_of_mem _ hx)
    simp only [List.map_cons, List.sum_cons, List.length_cons] at h2 ⊢
    have e : c * (r.length + 1 + (g a + (List.map g r).sum)) = c * (1 + g a) + c * (r.length + (List.map g r).sum) := by rw [← Nat.mul_add]; congr 1; omega
    omega
theorem wtL_mem {α : Type} {g : α → Nat} {l : List α} {x : α} (hx : x ∈ l) : 1 + g x ≤ wtL g l := by
  have := wsum_mem (f := g) hx
  have : 0 < l.length := List.length_pos_of_mem hx
  unfold wtL
  omega
theorem setR {α : Type} {rs : List α} {i : Nat} {r : α} (j : Nat) (hj : j < (rs.set i r).length) : (j = i ∧ (rs.set i r)[j] = r) ∨ (j ≠ i ∧ ∃ hk : j < rs.length, (rs.set i r)[j] = rs[j]) := by
  have hk : j < rs.length := by simpa using hj
  by_cases e : j = i
  · subst e; exact .inl ⟨rfl, by simp⟩
  · exact .inr ⟨e, hk, by rw [List.getElem_set_ne (Ne.symm e)]⟩
def wtEC (a : Arg) : Nat := a.name.size + a.list.length + wtL wtP a.pairs
def wtC (l : List Arg) : Nat := wtL wtEC l
theorem getC_set {l : List Arg} {i j : Nat} {a : Arg} (hj : j < l.length) : updC (getC l) i a j = getC (l.set i a) j := by
  unfold updC getC
  by_cases e : j = i
  · subst e; rw [if_pos rfl, List.getElem?_set_self hj]; rfl
  · rw [if_neg e, List.getElem?_set_ne (Ne.symm e)]
theorem OwC.put {h0 h h1 h2 : H} {v : CV} {rs : List RArg} {n : Nat} {f : Nat → Arg} (x : OwC h0 h v rs n f) {i : Nat} (hi : i < rs.length) {r : RArg} {a : Arg} (g : Grow h h1) (y : NtC h h1 r a) (slvpv : SepC r.lv r.pv)
    (o : Nw encC 4 99 h0 h2 (.one v) (rs.set i r)) (st : Stay (.one v) h1 h2) (hg : h0.n ≤ h.n) : OwC h0 h2 v (rs.set i r) n (updC f i a) := by
  have vb : ∀ i, baseOf (.one v) = some i → i < h.n := fun i hi => (x.out.lt hi).1
  have blv : ∀ i (hi : i < rs.length) j, baseOf (.one rs[i].lv) = some j → j < h.n := fun i hi j hj => ((x.el i hi).list.lt hj).1
  have nlv : ∀ j, baseOf (.one r.lv) = some j → h.n ≤ j := fun j hj => (y.list.lt hj).2
  have bpv : ∀ i (hi : i < rs.length) j, baseOf (.one rs[i].pv) = some j → j < h.n := fun i hi j hj => ((x.el i hi).pairs.lt hj).1
  have npv : ∀ j, baseOf (.one r.pv) = some j → h.n ≤ j := fun j hj => (y.pairs.lt hj).2
  refine ⟨o, by simp [x.len], fun j hj => ?_, fun j hj => ?_, fun j hj => ?_, fun j hj => ?_, fun j k hj hk hjk => ?_, fun j k hj hk hjk => ?_, fun j k hj hk hjk => ?_, fun j k hj hk hjk => ?_⟩
  · rcases setR j hj with ⟨e, e2⟩ | ⟨e, hk, e2⟩
    · rw [e2, show updC f i a j = a from if_pos e]
      have z := y.from hg
      exact ⟨z.kind, z.name, z.list.stay st (Sep.new vb nlv).symm, z.pairs.stay st (Sep.new vb npv).symm⟩
    · rw [e2, show updC f i a j = f j from if_neg e]
      have z := (x.el j hk).grow g
      exact ⟨z.kind, z.name, z.list.stay st (x.vlv j hk).symm, z.pairs.stay st (x.vpv j hk).symm⟩
  · rcases setR j hj with ⟨e, e2⟩ | ⟨e, hk, e2⟩
    · rw [e2]; exact Sep.new vb nlv
    · rw [e2]; exact x.vlv j hk
  · rcases setR j hj with ⟨e, e2⟩ | ⟨e, hk, e2⟩
    · rw [e2]; exact Sep.new vb npv
    · rw [e2]; exact x.vpv j hk
  · rcases setR j hj with ⟨e, e2⟩ | ⟨e, hk, e2⟩
    · rw [e2]; exact slvpv
    · rw [e2]; exact x.slvpv j hk
  · rcases setR j hj with ⟨e, e2⟩ | ⟨e, hj2, e2⟩ <;> rcases setR k hk with ⟨d, d2⟩ | ⟨d, hk2, d2⟩
    · omega
    · rw [e2, d2]; exact (Sep.new (blv k hk2) nlv).symm
    · rw [e2, d2]; exact Sep.new (blv j hj2) nlv
    · rw [e2, d2]; exact x.olvlv j k hj2 hk2 hjk
  · rcases setR j hj with ⟨e, e2⟩ | ⟨e, hj2, e2⟩ <;> rcases setR k hk with ⟨d, d2⟩ | ⟨d, hk2, d2⟩
    · omega
    · rw [e2, d2]; exact (Sep.new (bpv k hk2) nlv).symm
    · rw [e2, d2]; exact Sep.new (blv j hj2) npv
    · rw [e2, d2]; exact x.olvpv j k hj2 hk2 hjk
  · rcases setR j hj with ⟨e, e2⟩ | ⟨e, hj2, e2⟩ <;> rcases setR k hk with ⟨d, d2⟩ | ⟨d, hk2, d2⟩
    · omega
    · rw [e2, d2]; exact (Sep.new (blv k hk2) npv).symm
    · rw [e2, d2]; exact Sep.new (bpv j hj2) nlv
    · rw [e2, d2]; exact x.opvlv j k hj2 hk2 hjk
  · rcases setR j hj with ⟨e, e2⟩ | ⟨e, hj2, e2⟩ <;> rcases setR k hk with ⟨d, d2⟩ | ⟨d, hk2, d2⟩
    · omega
    · rw [e2, d2]; exact (Sep.new (bpv k hk2) npv).symm
    · rw [e2, d2]; exact Sep.new (bpv j hj2) npv
    · rw [e2, d2]; exact x.opvpv j k hj2 hk2 hjk
def zrC : RArg := ⟨0, strOfNums [], .sl none 0 (some 0), .sl none 0 (some 0)⟩
def zeC : Arg := ⟨0, strOfNums [], [], []⟩
theorem NwC.zeros {h0 h : H} {v : CV} {n : Nat} (x : Nw encC 4 99 h0 h (.one v) (List.replicate n zrC)) : NwC h0 h v (List.replicate n zrC) (List.replicate n zeC) := by
  refine ⟨⟨x, by simp, fun i hi => ?_, fun i hi => ?_, fun i hi => ?_, fun i hi => ?_, fun i j hi hj hij => ?_, fun i j hi hj hij => ?_, fun i j hi hj hij => ?_, fun i j hi hj hij => ?_⟩⟩
  · have hi2 : i < (List.replicate n zeC).length := by simpa using hi
    rw [getC_eq hi2, List.getElem_replicate, List.getElem_replicate]
    exact ⟨rfl, rfl, .nil, .nil⟩
  all_goals simp only [List.getElem_replicate]
  · exact Sep.nil.symm
  · exact Sep.nil.symm
  · exact Sep.nil
  · exact Sep.nil
  · exact Sep.nil
  · exact Sep.nil
  · exact Sep.nil
theorem NwC.put {h0 h h1 h2 : H} {v : CV} {rs : List RArg} {l : List Arg} (x : NwC h0 h v rs l) {i : Nat} (hi : i < rs.length) {r : RArg} {a : Arg} (g : Grow h h1) (y : NtC h h1 r a) (slvpv : SepC r.lv r.pv)
    (o : Nw encC 4 99 h0 h2 (.one v) (rs.set i r)) (st : Stay (.one v) h1 h2) (hg : h0.n ≤ h.n) : NwC h0 h2 v (rs.set i r) (l.set i a) := by
  have := (x.out.put hi g y slvpv o st hg).congr (g := getC (l.set i a)) fun j hj => getC_set hj
  rw [show l.length = (l.set i a).length by simp] at this
  exact ⟨this⟩
theorem wtC_sm {l : List Arg} (h : wtC l ≤ 1048576) : miniC l := by
  unfold wtC at h
  have h1 : ∀ a ∈ l, wtEC a ≤ 1048576 := fun a ha => by have := wtL_mem (g := wtEC) ha; omega
  exact ⟨by unfold wtL at h; omega, fun a ha => by have := h1 a ha; unfold wtEC at this; omega, fun a ha => by have := h1 a ha; unfold wtEC  at this; omega, fun a ha => by have := h1 a ha; unfold wtEC wtL at this; omega, fun a ha x hx => by have := h1 a ha; unfold wtEC at this; have := wtL_mem (g := wtP) hx; unfold wtP at this; unfold wtP at *; omega, by
    have := wsum_c (f := cellsEC) (g := wtEC) (c := 2) (l := l) (fun a ha => by unfold cellsEC wtEC wtL; omega)
    unfold cellsC
    omega⟩
def wtEV (a : Sg) : Nat := wtL wtQ a.params
def wtV (l : List Sg) : Nat := wtL wtEV l
theorem getV_set {l : List Sg} {i j : Nat} {a : Sg} (hj : j < l.length) : updV (getV l) i a j = getV (l.set i a) j := by
  unfold updV getV
  by_cases e : j = i
  · subst e; rw [if_pos rfl, List.getElem?_set_self hj]; rfl
  · rw [if_neg e, List.getElem?_set_ne (Ne.symm e)]
theorem OwV.put {h0 h h1 h2 : H} {v : CV} {rs : List RSg} {n : Nat} {f : Nat → Sg} (x : OwV h0 h v rs n f) {i : Nat} (hi : i < rs.length) {r : RSg} {a : Sg} (g : Grow h h1) (y : NtV h h1 r a) 
    (o : Nw encV 1 38 h0 h2 (.one v) (rs.set i r)) (st : Stay (.one v) h1 h2) (hg : h0.n ≤ h.n) : OwV h0 h2 v (rs.set i r) n (updV f i a) := by
  have vb : ∀ i, baseOf (.one v) = some i → i < h.n := fun i hi => (x.out.lt hi).1
  have bqv : ∀ i (hi : i < rs.length) j, baseOf (.one rs[i].qv) = some j → j < h.n := fun i hi j hj => ((x.el i hi).params.lt hj).1
  have nqv : ∀ j, baseOf (.one r.qv) = some j → h.n ≤ j := fun j hj => (y.params.lt hj).2
  refine ⟨o, by simp [x.len], fun j hj => ?_, fun j hj => ?_, fun j k hj hk hjk => ?_⟩
  · rcases setR j hj with ⟨e, e2⟩ | ⟨e, hk, e2⟩
    · rw [e2, show updV f i a j = a from if_pos e]
      have z := y.from hg
      exact ⟨z.params.stay st (Sep.new vb nqv).symm⟩
    · rw [e2, show updV f i a j = f j from if_neg e]
      have z := (x.el j hk).grow g
      exact ⟨z.params.stay st (x.vqv j hk).symm⟩
  · rcases setR j hj with ⟨e, e2⟩ | ⟨e, hk, e2⟩
    · rw [e2]; exact Sep.new vb nqv
    · rw [e2]; exact x.vqv j hk
  · rcases setR j hj with ⟨e, e2⟩ | ⟨e, hj2, e2⟩ <;> rcases setR k hk with ⟨d, d2⟩ | ⟨d, hk2, d2⟩
    · omega
    · rw [e2, d2]; exact (Sep.new (bqv k hk2) nqv).symm
    · rw [e2, d2]; exact Sep.new (bqv j hj2) nqv
    · rw [e2, d2]; exact x.oqvqv j k hj2 hk2 hjk
def zrV : RSg := ⟨.sl none 0 (some 0)⟩
def zeV : Sg := ⟨[]⟩
theorem NwV.zeros {h0 h : H} {v : CV} {n : Nat} (x : Nw encV 1 38 h0 h (.one v) (List.replicate n zrV)) : NwV h0 h v (List.replicate n zrV) (List.replicate n zeV) := by
  refine ⟨⟨x, by simp, fun i hi => ?_, fun i hi => ?_, fun i j hi hj hij => ?_⟩⟩
  · have hi2 : i < (List.replicate n zeV).length := by simpa using hi
    rw [getV_eq hi2, List.getElem_replicate, List.getElem_replicate]
    exact ⟨.nil⟩
  all_goals simp only [List.getElem_replicate]
  · exact Sep.nil.symm
  · exact Sep.nil
theorem NwV.put {h0 h h1 h2 : H} {v : CV} {rs : List RSg} {l : List Sg} (x : NwV h0 h v rs l) {i : Nat} (hi : i < rs.length) {r : RSg} {a : Sg} (g : Grow h h1) (y : NtV h h1 r a) 
    (o : Nw encV 1 38 h0 h2 (.one v) (rs.set i r)) (st : Stay (.one v) h1 h2) (hg : h0.n ≤ h.n) : NwV h0 h2 v (rs.set i r) (l.set i a) := by
  have := (x.out.put hi g y  o st hg).congr (g := getV (l.set i a)) fun j hj => getV_set hj
  rw [show l.length = (l.set i a).length by simp] at this
  exact ⟨this⟩
theorem wtV_sm {l : List Sg} (h : wtV l ≤ 1048576) : miniV l := by
  unfold wtV at h
  have h1 : ∀ a ∈ l, wtEV a ≤ 1048576 := fun a ha => by have := wtL_mem (g := wtEV) ha; omega
  exact ⟨by unfold wtL at h; omega, fun a ha => by have := h1 a ha; unfold wtEV wtL at this; omega, fun a ha x hx => by have := h1 a ha; unfold wtEV at this; have := wtL_mem (g := wtQ) hx; unfold wtQ at this; unfold wtQ at *; omega, by
    have := wsum_c (f := cellsEV) (g := wtEV) (c := 4) (l := l) (fun a ha => by unfold cellsEV wtEV wtL; omega)
    unfold cellsV
    omega⟩
theorem c_szEV (r : RSg) (a : Sg) (left : Int) (h : H) (h1 : 0 ≤ left) (h2 : left ≤ 1048576) (y : AtV 113 h r a) (k : a.params.length ≤ far ∧ ∀ x ∈ a.params, x.name.size ≤ far) : bm Tryd.prog 14 [.agg (encV r), .one (.int .i64 left)] h = some (ii (szr left (wtEV a)), h) := c_szSignature a.params r.qv left h h1 h2 y.params k.1 k.2
theorem c_toEV (r : RSg) (a : Sg) (h : H) (y : AtV 113 h r a) (m : a.params.length ≤ 1048576) : callK (bm Tryd.prog 16 [.agg (encV r)] h) fun q h' => Grow h h' ∧ ∃ u : RSg, q = .agg (encV u) ∧ NtV h h' u a := by
  obtain ⟨q, h1, e, g, p, rfl, n⟩ := c_to1G a.params r.qv h y.params m
  exact ⟨_, h1, e, g, ⟨p⟩, rfl, ⟨n⟩⟩
def wtEW (a : Func) : Nat := a.name.size + wtL wtQ a.params
def wtW (l : List Func) : Nat := wtL wtEW l
theorem getW_set {l : List Func} {i j : Nat} {a : Func} (hj : j < l.length) : updW (getW l) i a j = getW (l.set i a) j := by
  unfold updW getW
  by_cases e : j = i
  · subst e; rw [if_pos rfl, List.getElem?_set_self hj]; rfl
  · rw [if_neg e, List.getElem?_set_ne (Ne.symm e)]
theorem OwW.put {h0 h h1 h2 : H} {v : CV} {rs : List RFunc} {n : Nat} {f : Nat → Func} (x : OwW h0 h v rs n f) {i : Nat} (hi : i < rs.length) {r : RFunc} {a : Func} (g : Grow h h1) (y : NtW h h1 r a) 
    (o : Nw encW 2 48 h0 h2 (.one v) (rs.set i r)) (st : Stay (.one v) h1 h2) (hg : h0.n ≤ h.n) : OwW h0 h2 v (rs.set i r) n (updW f i a) := by
  have vb : ∀ i, baseOf (.one v) = some i → i < h.n := fun i hi => (x.out.lt hi).1
  have bqv : ∀ i (hi : i < rs.length) j, baseOf (.one rs[i].qv) = some j → j < h.n := fun i hi j hj => ((x.el i hi).params.lt hj).1
  have nqv : ∀ j, baseOf (.one r.qv) = some j → h.n ≤ j := fun j hj => (y.params.lt hj).2
  refine ⟨o, by simp [x.len], fun j hj => ?_, fun j hj => ?_, fun j k hj hk hjk => ?_⟩
  · rcases setR j hj with ⟨e, e2⟩ | ⟨e, hk, e2⟩
    · rw [e2, show updW f i a j = a from if_pos e]
      have z := y.from hg
      exact ⟨z.name, z.params.stay st (Sep.new vb nqv).symm⟩
    · rw [e2, show updW f i a j = f j from if_neg e]
      have z := (x.el j hk).grow g
      exact ⟨z.name, z.params.stay st (x.vqv j hk).symm⟩
  · rcases setR j hj with ⟨e, e2⟩ | ⟨e, hk, e2⟩
    · rw [e2]; exact Sep.new vb nqv
    · rw [e2]; exact x.vqv j hk
  · rcases setR j hj with ⟨e, e2⟩ | ⟨e, hj2, e2⟩ <;> rcases setR k hk with ⟨d, d2⟩ | ⟨d, hk2, d2⟩
    · omega
    · rw [e2, d2]; exact (Sep.new (bqv k hk2) nqv).symm
    · rw [e2, d2]; exact Sep.new (bqv j hj2) nqv
    · rw [e2, d2]; exact x.oqvqv j k hj2 hk2 hjk
def zrW : RFunc := ⟨strOfNums [], .sl none 0 (some 0)⟩
def zeW : Func := ⟨strOfNums [], []⟩
theorem NwW.zeros {h0 h : H} {v : CV} {n : Nat} (x : Nw encW 2 48 h0 h (.one v) (List.replicate n zrW)) : NwW h0 h v (List.replicate n zrW) (List.replicate n zeW) := by
  refine ⟨⟨x, by simp, fun i hi => ?_, fun i hi => ?_, fun i j hi hj hij => ?_⟩⟩
  · have hi2 : i < (List.replicate n zeW).length := by simpa using hi
    rw [getW_eq hi2, List.getElem_replicate, List.getElem_replicate]
    exact ⟨rfl, .nil⟩
  all_goals simp only [List.getElem_replicate]
  · exact Sep.nil.symm
  · exact Sep.nil
theorem NwW.put {h0 h h1 h2 : H} {v : CV} {rs : List RFunc} {l : List Func} (x : NwW h0 h v rs l) {i : Nat} (hi : i < rs.length) {r : RFunc} {a : Func} (g : Grow h h1) (y : NtW h h1 r a) 
    (o : Nw encW 2 48 h0 h2 (.one v) (rs.set i r)) (st : Stay (.one v) h1 h2) (hg : h0.n ≤ h.n) : NwW h0 h2 v (rs.set i r) (l.set i a) := by
  have := (x.out.put hi g y  o st hg).congr (g := getW (l.set i a)) fun j hj => getW_set hj
  rw [show l.length = (l.set i a).length by simp] at this
  exact ⟨this⟩
theorem wtW_sm {l : List Func} (h : wtW l ≤ 1048576) : miniW l := by
  unfold wtW at h
  have h1 : ∀ a ∈ l, wtEW a ≤ 1048576 := fun a ha => by have := wtL_mem (g := wtEW) ha; omega
  exact ⟨by unfold wtL at h; omega, fun a ha => by have := h1 a ha; unfold wtEW at this; omega, fun a ha => by have := h1 a ha; unfold wtEW wtL at this; omega, fun a ha x hx => by have := h1 a ha; unfold wtEW at this; have := wtL_mem (g := wtQ) hx; unfold wtQ at this; unfold wtQ at *; omega, by
    have := wsum_c (f := cellsEW) (g := wtEW) (c := 4) (l := l) (fun a ha => by unfold cellsEW wtEW wtL; omega)
    unfold cellsW
    omega⟩
theorem dEW {h : H} {m : Nat} (cs : List CV) (hk : okA Tryd.prog h (m + 5) 51 cs) : ∃ r : RFunc, cs = encW r ∧ ∃ a : Func, AtW 113 h r a ∧ (a.name.size ≤ far ∧ a.params.length ≤ far ∧ ∀ x ∈ a.params, x.name.size ≤ far) := by
  have hk := okA_struct Tryd.underlying51 hk
  obtain ⟨a, r, rfl, h1, hk⟩ := okF_cons hk
  obtain ⟨b, r, rfl, h2, hk⟩ := okF_cons hk
  obtain rfl := okF_nil hk
  obtain ⟨s, rfl, k0⟩ := dText _ h1
  have h3 := okA_struct Tryd.underlying33 h2
  obtain ⟨b, r, rfl, h4, h5⟩ := okF_cons h3
  obtain rfl := okF_nil h5
  obtain ⟨p, l, rfl, s1, k1, k2⟩ := okA_list lenQ Tryd.underlying31 (by kernel_rfl) dParam h4
  exact ⟨⟨s, p⟩, rfl, ⟨s, l⟩, ⟨rfl, s1⟩, k0, k1, k2⟩
structure DomW (h : H) (p : CV) (l : List Func) : Prop where
  rd : ∃ rs, RdW 51 113 h p rs l.length (getW l)
  k0 : l.length ≤ far
  el : ∀ a ∈ l, a.name.size ≤ far ∧ a.params.length ≤ far ∧ ∀ x ∈ a.params, x.name.size ≤ far
theorem DomW.grow {h h1 : H} {p : CV} {l : List Func} (d : DomW h p l) (g : Grow h h1) : DomW h1 p l := ⟨d.rd.imp fun _ y => y.grow g, d.k0, d.el⟩
theorem dW {h : H} {m : Nat} {v : AV} (hk : okV Tryd.prog h (m + 6) 56 v) : ∃ p x, v = .one p ∧ DomW h p x := by
  obtain ⟨c, rfl, hj⟩ := okV_one (by kernel_rfl) hk
  obtain ⟨p, rs, e, s1, k1, k2⟩ := okA_list lenW Tryd.underlying56 (by kernel_rfl) dEW hj
  obtain rfl : c = p := by simpa using e
  obtain ⟨l, e1, e2⟩ := choose_list k2
  have e3 : ∀ a ∈ l, a.name.size ≤ far ∧ a.params.length ≤ far ∧ ∀ x ∈ a.params, x.name.size ≤ far := fun a ha => by
    obtain ⟨i, hi, rfl⟩ := List.getElem_of_mem ha
    exact (e2 i (by omega) hi).2
  exact ⟨c, l, rfl, ⟨⟨rs, s1, e1.symm, fun i hi => by rw [getW_eq (show i < l.length by omega)]; exact (e2 i hi (by omega)).1⟩, by rw [e1]; exact k1, e3⟩⟩
attribute [local go_sem] loadL_agg
/-! laws.szFunc -/
def L23_0 : List AStep := [⟨.box 51 (.t 0), (some 2), none, []⟩, ⟨.mov (.c (.int .i64 0)), (some 4), none, []⟩]
theorem v23_0 : VS L23_0.eq_1 := rfl
def L23_1 : List AStep := [⟨.bin .sub (.t 5) (.t 8), (some 9), none, []⟩, ⟨.mov (.t 9), (some 1), none, []⟩]
theorem v23_1 : VS L23_1.eq_1 := rfl
def L23_2 : List AStep := ⟨.load 1 false (.t 6), (some 7), none, []⟩ :: ⟨.lenStr (.t 7), (some 8), none, []⟩ :: L23_1
theorem v23_2 : VS L23_2.eq_1 := rfl
def L23_3 : List AStep := ⟨.mov (.t 1), (some 5), none, []⟩ :: ⟨.faddr 0 (.t 2), (some 6), none, []⟩ :: L23_2
theorem v23_3 : VS L23_3.eq_1 := rfl
def L23_4 : List AStep := [⟨.mov (.t 1), (some 10), none, []⟩, ⟨.bin .lss (.t 10) (.c (.int .i64 0)), (some 11), none, []⟩]
theorem v23_4 : VS L23_4.eq_1 := rfl
def L23_5 : List AStep := [⟨.mov (.c (.int .i64 (-1))), (some 4), none, []⟩]
theorem v23_5 : VS L23_5.eq_1 := rfl
def L23_6 : List AStep := [⟨.mov (.t 15), (some 1), none, []⟩]
theorem v23_6 : VS L23_6.eq_1 := rfl
def L23_7 : List AStep := ⟨.mov (.t 1), (some 14), none, []⟩ :: ⟨.call 14 [(.t 13), (.t 14)], (some 15), none, []⟩ :: L23_6
theorem v23_7 : VS L23_7.eq_1 := rfl
def L23_8 : List AStep := ⟨.faddr 1 (.t 2), (some 12), none, []⟩ :: ⟨.load 1 true (.t 12), (some 13), none, []⟩ :: L23_7
theorem v23_8 : VS L23_8.eq_1 := rfl
def L23_9 : List AStep := [⟨.mov (.t 1), (some 16), none, []⟩, ⟨.bin .lss (.t 16) (.c (.int .i64 0)), (some 17), none, []⟩]
theorem v23_9 : VS L23_9.eq_1 := rfl
def L23_10 : List AStep := [⟨.mov (.c (.int .i64 (-1))), (some 4), none, []⟩]
theorem v23_10 : VS L23_10.eq_1 := rfl
def L23_11 : List AStep := [⟨.mov (.t 1), (some 18), none, []⟩, ⟨.mov (.t 18), (some 4), none, []⟩]
theorem v23_11 : VS L23_11.eq_1 := rfl
def C23_0 : ACode := .seq (.reg L23_5) .ret
theorem u23_0 : VC C23_0.eq_1 := rfl
def C23_1 : ACode := .cond (.t 11) C23_0 .skip
theorem u23_1 : VC C23_1.eq_1 := rfl
def C23_2 : ACode := .seq (.reg L23_4) C23_1
theorem u23_2 : VC C23_2.eq_1 := rfl
def C23_3 : ACode := .seq (.reg L23_10) .ret
theorem u23_3 : VC C23_3.eq_1 := rfl
def C23_4 : ACode := .cond (.t 17) C23_3 .skip
theorem u23_4 : VC C23_4.eq_1 := rfl
def C23_5 : ACode := .seq (.reg L23_9) C23_4
theorem u23_5 : VC C23_5.eq_1 := rfl
def C23_6 : ACode := .seq (.reg L23_11) .ret
theorem u23_6 : VC C23_6.eq_1 := rfl
def C23_7 : ACode := .seq C23_5 C23_6
theorem u23_7 : VC C23_7.eq_1 := rfl
def C23_8 : ACode := .seq (.reg L23_8) C23_7
theorem u23_8 : VC C23_8.eq_1 := rfl
def C23_9 : ACode := .seq C23_2 C23_8
theorem u23_9 : VC C23_9.eq_1 := rfl
def C23_10 : ACode := .seq (.reg L23_3) C23_9
theorem u23_10 : VC C23_10.eq_1 := rfl
def C23_11 : ACode := .seq (.reg L23_0) C23_10
theorem u23_11 : VC C23_11.eq_1 := rfl
def F23 : AFunc := ⟨19, [.tmp 4], C23_11⟩
theorem cF23 : compB Tryd.prog 23 = some F23 := by kernel_rfl
attribute [local go_sem ↓] u23_0 u23_1 u23_2 u23_3 u23_4 u23_5 u23_6 u23_7 u23_8 u23_9 u23_10 u23_11 v23_0 v23_1 v23_2 v23_3 v23_4 v23_5 v23_6 v23_7 v23_8 v23_9 v23_10 v23_11
theorem c_szEW (r : RFunc) (a : Func) (left : Int) (h : H) (h1 : 0 ≤ left) (h2 : left ≤ 1048576) (y : AtW 113 h r a) (k : a.name.size ≤ far ∧ a.params.length ≤ far ∧ ∀ x ∈ a.params, x.name.size ≤ far) : bm Tryd.prog 23 [.agg (encW r), .one (.int .i64 left)] h = some (ii (szr left (wtEW a)), h) := by
  refine bm_eq cF23 ?_
  unfold wtEW
  have en : r.name = a.name := y.name
  have e0 : szr left a.name.size = if left - (a.name.size : Int) < 0 then -1 else left - (a.name.size : Int) := rfl
  by_cases b0 : left - (a.name.size : Int) < 0
  · simp +contextual (maxSteps := 2000000) only [go_sem, Nat.reduceEqDiff, reduceCtorEq, Nat.reduceAdd, Nat.reduceLeDiff, F23, encW, en, i64_sub h1 h2 k.1, decide_eq_true b0]
    rw [szr_neg (by rw [e0, if_pos b0]; omega)]
  · rw [if_neg b0] at e0
    have e1 := c_szSignature a.params r.qv (szr left a.name.size) h (by omega) (by omega) y.params k.2.1 k.2.2
    rw [szr_then (by omega)] at e1
    rw [e0] at e1
    by_cases b1 : szr left (a.name.size + wtL wtQ a.params) < 0
    · simp +contextual (maxSteps := 2000000) only [go_sem, Nat.reduceEqDiff, reduceCtorEq, Nat.reduceAdd, Nat.reduceLeDiff, F23, encW, en, i64_sub h1 h2 k.1, decide_eq_false b0, e1, decide_eq_true b1]
      have := szr_neg (b := 0) b1
      rw [Nat.add_zero] at this
      rw [this]
    · simp +contextual (maxSteps := 2000000) only [go_sem, Nat.reduceEqDiff, reduceCtorEq, Nat.reduceAdd, Nat.reduceLeDiff, F23, encW, en, i64_sub h1 h2 k.1, decide_eq_false b0, e1, decide_eq_false b1]
/-! laws.szFuncS -/
def L27_0 : List AStep := [⟨.mov (.c (.int .i64 0)), (some 4), none, []⟩]
theorem v27_0 : VS L27_0.eq_1 := rfl
def L27_1 : List AStep := [⟨.mov (.t 9), (some 1), none, []⟩]
theorem v27_1 : VS L27_1.eq_1 := rfl
def L27_2 : List AStep := ⟨.len (.t 7), (some 8), none, []⟩ :: ⟨.bin .sub (.t 6) (.t 8), (some 9), none, []⟩ :: L27_1
theorem v27_2 : VS L27_2.eq_1 := rfl
def L27_3 : List AStep := ⟨.mov (.t 1), (some 6), none, []⟩ :: ⟨.mov (.t 0), (some 7), none, []⟩ :: L27_2
theorem v27_3 : VS L27_3.eq_1 := rfl
def L27_4 : List AStep := [⟨.mov (.t 1), (some 10), none, []⟩, ⟨.bin .lss (.t 10) (.c (.int .i64 0)), (some 11), none, []⟩]
theorem v27_4 : VS L27_4.eq_1 := rfl
def L27_5 : List AStep := [⟨.mov (.c (.int .i64 (-1))), (some 4), none, []⟩]
theorem v27_5 : VS L27_5.eq_1 := rfl
def L27_6 : List AStep := [⟨.mov (.c (.int .i64 0)), (some 5), none, []⟩]
theorem v27_6 : VS L27_6.eq_1 := rfl
def L27_7 : List AStep := [⟨.len (.t 13), (some 14), none, []⟩, ⟨.bin .lss (.t 12) (.t 14), (some 15), none, []⟩]
theorem v27_7 : VS L27_7.eq_1 := rfl
def L27_8 : List AStep := ⟨.mov (.t 5), (some 12), none, []⟩ :: ⟨.mov (.t 0), (some 13), none, []⟩ :: L27_7
theorem v27_8 : VS L27_8.eq_1 := rfl
def L27_9 : List AStep := [⟨.mov (.t 23), (some 1), none, []⟩]
theorem v27_9 : VS L27_9.eq_1 := rfl
def L27_10 : List AStep := ⟨.mov (.t 1), (some 22), none, []⟩ :: ⟨.call 23 [(.t 21), (.t 22)], (some 23), none, []⟩ :: L27_9
theorem v27_10 : VS L27_10.eq_1 := rfl
def L27_11 : List AStep := ⟨.iaddr 2 (.t 18) (.t 19), (some 20), none, []⟩ :: ⟨.load 2 true (.t 20), (some 21), none, []⟩ :: L27_10
theorem v27_11 : VS L27_11.eq_1 := rfl
def L27_12 : List AStep := ⟨.mov (.t 0), (some 18), none, []⟩ :: ⟨.mov (.t 5), (some 19), none, []⟩ :: L27_11
theorem v27_12 : VS L27_12.eq_1 := rfl
def L27_13 : List AStep := [⟨.mov (.t 1), (some 24), none, []⟩, ⟨.bin .lss (.t 24) (.c (.int .i64 0)), (some 25), none, []⟩]
theorem v27_13 : VS L27_13.eq_1 := rfl
def L27_14 : List AStep := [⟨.mov (.c (.int .i64 (-1))), (some 4), none, []⟩]
theorem v27_14 : VS L27_14.eq_1 := rfl
def L27_15 : List AStep := [⟨.mov (.t 17), (some 5), none, []⟩]
theorem v27_15 : VS L27_15.eq_1 := rfl
def L27_16 : List AStep := ⟨.mov (.t 5), (some 16), none, []⟩ :: ⟨.bin .add (.t 16) (.c (.int .i64 1)), (some 17), none, []⟩ :: L27_15
theorem v27_16 : VS L27_16.eq_1 := rfl
def L27_17 : List AStep := [⟨.mov (.t 1), (some 26), none, []⟩, ⟨.mov (.t 26), (some 4), none, []⟩]
theorem v27_17 : VS L27_17.eq_1 := rfl
def C27_0 : ACode := .seq (.reg L27_5) .ret
theorem u27_0 : VC C27_0.eq_1 := rfl
def C27_1 : ACode := .cond (.t 11) C27_0 .skip
theorem u27_1 : VC C27_1.eq_1 := rfl
def C27_2 : ACode := .seq (.reg L27_4) C27_1
theorem u27_2 : VC C27_2.eq_1 := rfl
def C27_3 : ACode := .cond (.t 15) .skip (.exit 0)
theorem u27_3 : VC C27_3.eq_1 := rfl
def C27_4 : ACode := .seq (.reg L27_8) C27_3
theorem u27_4 : VC C27_4.eq_1 := rfl
def C27_5 : ACode := .seq (.reg L27_14) .ret
theorem u27_5 : VC C27_5.eq_1 := rfl
def C27_6 : ACode := .cond (.t 25) C27_5 .skip
theorem u27_6 : VC C27_6.eq_1 := rfl
def C27_7 : ACode := .seq (.reg L27_13) C27_6
theorem u27_7 : VC C27_7.eq_1 := rfl
def C27_8 : ACode := .seq (.reg L27_12) C27_7
theorem u27_8 : VC C27_8.eq_1 := rfl
def C27_9 : ACode := .block 1 C27_8
theorem u27_9 : VC C27_9.eq_1 := rfl
def C27_10 : ACode := .seq C27_9 (.reg L27_16)
theorem u27_10 : VC C27_10.eq_1 := rfl
def C27_11 : ACode := .seq C27_4 C27_10
theorem u27_11 : VC C27_11.eq_1 := rfl
def C27_12 : ACode := .block 0 (.loop C27_11)
theorem u27_12 : VC C27_12.eq_1 := rfl
def C27_13 : ACode := .seq (.reg L27_6) C27_12
theorem u27_13 : VC C27_13.eq_1 := rfl
def C27_14 : ACode := .seq (.reg L27_17) .ret
theorem u27_14 : VC C27_14.eq_1 := rfl
def C27_15 : ACode := .seq C27_13 C27_14
theorem u27_15 : VC C27_15.eq_1 := rfl
def C27_16 : ACode := .seq C27_2 C27_15
theorem u27_16 : VC C27_16.eq_1 := rfl
def C27_17 : ACode := .seq (.reg L27_3) C27_16
theorem u27_17 : VC C27_17.eq_1 := rfl
def C27_18 : ACode := .seq (.reg L27_0) C27_17
theorem u27_18 : VC C27_18.eq_1 := rfl
def F27 : AFunc := ⟨27, [.tmp 4], C27_18⟩
theorem cF27 : compB Tryd.prog 27 = some F27 := by kernel_rfl
attribute [local go_sem ↓] u27_0 u27_1 u27_2 u27_3 u27_4 u27_5 u27_6 u27_7 u27_8 u27_9 u27_10 u27_11 u27_12 u27_13 u27_14 u27_15 u27_16 u27_17 u27_18 v27_0 v27_1 v27_2 v27_3 v27_4 v27_5 v27_6 v27_7 v27_8 v27_9 v27_10 v27_11 v27_12 v27_13 v27_14 v27_15 v27_16 v27_17
theorem c_szFuncS (l : List Func) (v : CV) (left : Int) (h : H) (h1 : 0 ≤ left) (h2 : left ≤ 1048576) (d : DomW h v l) : bm Tryd.prog 27 [.one v, .one (.int .i64 left)] h = some (ii (szr left (wtW l)), h) := by
  refine bm_eq cF27 ?_
  obtain ⟨rs, y⟩ := d.rd
  have k0 := d.k0
  have yl : lenO (.one v) = some (ii l.length) := by rw [y.out.len, y.len]
  by_cases e : left - (l.length : Int) < 0
  · simp +contextual (maxSteps := 2000000) only [go_sem, Nat.reduceEqDiff, reduceCtorEq, Nat.reduceAdd, Nat.reduceLeDiff, F27, yl, i64_sub h1 h2 k0, decide_eq_true e]
    unfold szr wtW wtL
    rw [if_pos (by omega)]
  simp +contextual (maxSteps := 2000000) only [go_sem, Nat.reduceEqDiff, reduceCtorEq, Nat.reduceAdd, Nat.reduceLeDiff, F27, yl, i64_sub h1 h2 k0, decide_eq_false e]
  refine wpC_loop (fun i T L h' => h' = h ∧ T 0 = .v (.one v) ∧ T 5 = .v (.one (.int .i64 i)) ∧ T 1 = .v (.one (.int .i64 (left - (l.length : Int) - (wsum wtEW l i : Int)))) ∧ 0 ≤ left - (l.length : Int) - (wsum wtEW l i : Int)) l.length ?_ ?_ (Nat.zero_le _) ?_
  · rintro i T L h' hi ⟨rfl, t0, t5, t1, hw⟩
    have hr : i < rs.length := by rw [y.len]; exact hi
    have hm := List.getElem_mem hi
    have e2 := wsum_next (f := wtEW) hi
    have e3 := wsum_le (f := wtEW) (l := l) (show i + 1 ≤ l.length by omega)
    have ye := y.el i hr
    rw [getW_eq hi] at ye
    have e1 := c_szEW rs[i] l[i] (left - (l.length : Int) - (wsum wtEW l i : Int)) h' hw (by omega) ye (d.el _ hm)
    by_cases e4 : left - (l.length : Int) - (wsum wtEW l i : Int) - (wtEW l[i] : Int) < 0
    · simp +contextual (maxSteps := 2000000) only [go_sem, Nat.reduceEqDiff, reduceCtorEq, Nat.reduceAdd, Nat.reduceLeDiff, t0, t1, t5, yl, y.out.iaddr hr, y.out.whole hr, e1, lt_true hi, decide_eq_true (szr_lt.2 e4)]
      unfold szr wtW wtL
      rw [if_pos (by omega)]
    · simp +contextual (maxSteps := 2000000) only [go_sem, Nat.reduceEqDiff, reduceCtorEq, Nat.reduceAdd, Nat.reduceLeDiff, t0, t1, t5, yl, y.out.iaddr hr, y.out.whole hr, e1, lt_true hi, decide_eq_false (show ¬ szr (left - (l.length : Int) - (wsum wtEW l i : Int)) (wtEW l[i]) < 0 by rw [szr_lt]; exact e4)]
      have e5 : szr (left - (l.length : Int) - (wsum wtEW l i : Int)) (wtEW l[i]) = left - (l.length : Int) - (wsum wtEW l (i + 1) : Int) := by
        unfold szr
        rw [if_neg e4, e2]
        omega
      rw [wrap_next hi (by omega), e5]
      exact ⟨rfl, rfl, by omega⟩
  · rintro T L h' ⟨rfl, t0, t5, t1, hw⟩
    simp +contextual (maxSteps := 2000000) only [go_sem, Nat.reduceEqDiff, reduceCtorEq, Nat.reduceAdd, Nat.reduceLeDiff, t0, t1, t5, yl, lt_false]
    unfold szr wtW wtL
    rw [if_neg (by omega)]
    rw [show left - (l.length : Int) - (wsum wtEW l l.length : Int) = left - ((l.length + wsum wtEW l l.length : Nat) : Int) by omega]
  · simp +contextual (maxSteps := 2000000) only [go_sem, Nat.reduceEqDiff, reduceCtorEq, Nat.reduceAdd, Nat.reduceLeDiff, wsum_zero]
    (repeat' (first | refine And.intro ?_ ?_ | intro _)) <;> first | rfl | (simp; done) | (simp; omega)
/-! laws.toFunc -/
def L25_0 : List AStep := [⟨.box 51 (.t 0), (some 1), none, []⟩, ⟨.alloc 48 [(.str (strOfNums [])), (.sl none 0 (some 0))], (some 2), none, []⟩]
theorem v25_0 : VS L25_0.eq_1 := rfl
def L25_1 : List AStep := [⟨.alloc 48 [(.str (strOfNums [])), (.sl none 0 (some 0))], (some 3), none, []⟩]
theorem v25_1 : VS L25_1.eq_1 := rfl
def L25_2 : List AStep := [⟨.faddr 0 (.t 3), (some 6), none, []⟩, ⟨.store 1 (.t 6) (.t 5), none, none, []⟩]
theorem v25_2 : VS L25_2.eq_1 := rfl
def L25_3 : List AStep := ⟨.faddr 0 (.t 1), (some 4), none, []⟩ :: ⟨.load 1 false (.t 4), (some 5), none, []⟩ :: L25_2
theorem v25_3 : VS L25_3.eq_1 := rfl
def L25_4 : List AStep := [⟨.store 1 (.t 10) (.t 9), none, none, []⟩]
theorem v25_4 : VS L25_4.eq_1 := rfl
def L25_5 : List AStep := ⟨.call 16 [(.t 8)], (some 9), none, []⟩ :: ⟨.faddr 1 (.t 3), (some 10), none, []⟩ :: L25_4
theorem v25_5 : VS L25_5.eq_1 := rfl
def L25_6 : List AStep := ⟨.faddr 1 (.t 1), (some 7), none, []⟩ :: ⟨.load 1 true (.t 7), (some 8), none, []⟩ :: L25_5
theorem v25_6 : VS L25_6.eq_1 := rfl
def L25_7 : List AStep := [⟨.load 2 true (.t 3), (some 11), none, []⟩, ⟨.store 2 (.t 2) (.t 11), none, none, []⟩]
theorem v25_7 : VS L25_7.eq_1 := rfl
def C25_0 : ACode := .seq (.reg L25_7) .ret
theorem u25_0 : VC C25_0.eq_1 := rfl
def C25_1 : ACode := .seq (.reg L25_6) C25_0
theorem u25_1 : VC C25_1.eq_1 := rfl
def C25_2 : ACode := .seq (.reg L25_3) C25_1
theorem u25_2 : VC C25_2.eq_1 := rfl
def C25_3 : ACode := .seq (.reg L25_1) C25_2
theorem u25_3 : VC C25_3.eq_1 := rfl
def C25_4 : ACode := .seq (.reg L25_0) C25_3
theorem u25_4 : VC C25_4.eq_1 := rfl
def F25 : AFunc := ⟨12, [.cell 2 2 true], C25_4⟩
theorem cF25 : compB Tryd.prog 25 = some F25 := by kernel_rfl
attribute [local go_sem ↓] u25_0 u25_1 u25_2 u25_3 u25_4 v25_0 v25_1 v25_2 v25_3 v25_4 v25_5 v25_6 v25_7
theorem c_toEW (r : RFunc) (a : Func) (h : H) (y : AtW 113 h r a) (m : a.params.length ≤ 1048576) : callK (bm Tryd.prog 25 [.agg (encW r)] h) fun q h' => Grow h h' ∧ ∃ u : RFunc, q = .agg (encW u) ∧ NtW h h' u a := by
  refine bm_of cF25 ?_
  simp +contextual (maxSteps := 2000000) only [go_sem, Nat.reduceEqDiff, reduceCtorEq, Nat.reduceAdd, Nat.reduceLeDiff, F25, encW]
  refine wp_call (c_to1G a.params r.qv h y.params m) ?_
  rintro q h1 ⟨g1, p, rfl, n1⟩
  simp +contextual (maxSteps := 2000000) only [go_sem, Nat.reduceEqDiff, reduceCtorEq, Nat.reduceAdd, Nat.reduceLeDiff]
  have z : NtW h h1 ⟨r.name, p⟩ a := ⟨y.name, n1⟩
  exact gcK_of ⟨g1, ⟨r.name, p⟩, rfl, z⟩ (fun hs _ => ⟨Grow.refl h, ⟨r.name, p⟩, rfl, y.name, n1.scalar (by simpa [AV.scalar, CV.scalar] using hs) h⟩)
/-! laws.toFuncS -/
def L28_0 : List AStep := [⟨.mov (.c (.sl none 0 (some 0))), (some 2), none, []⟩]
theorem v28_0 : VS L28_0.eq_1 := rfl
def L28_1 : List AStep := [⟨.mkslice 48 40 [(.str (strOfNums [])), (.sl none 0 (some 0))] (.t 6) (.t 6), (some 7), none, []⟩, ⟨.mov (.t 7), (some 3), none, []⟩]
theorem v28_1 : VS L28_1.eq_1 := rfl
def L28_2 : List AStep := ⟨.mov (.t 0), (some 5), none, []⟩ :: ⟨.len (.t 5), (some 6), none, []⟩ :: L28_1
theorem v28_2 : VS L28_2.eq_1 := rfl
def L28_3 : List AStep := [⟨.mov (.c (.int .i64 0)), (some 4), none, []⟩]
theorem v28_3 : VS L28_3.eq_1 := rfl
def L28_4 : List AStep := [⟨.len (.t 9), (some 10), none, []⟩, ⟨.bin .lss (.t 8) (.t 10), (some 11), none, []⟩]
theorem v28_4 : VS L28_4.eq_1 := rfl
def L28_5 : List AStep := ⟨.mov (.t 4), (some 8), none, []⟩ :: ⟨.mov (.t 0), (some 9), none, []⟩ :: L28_4
theorem v28_5 : VS L28_5.eq_1 := rfl
def L28_6 : List AStep := [⟨.store 2 (.t 21) (.t 20), none, none, []⟩]
theorem v28_6 : VS L28_6.eq_1 := rfl
def L28_7 : List AStep := ⟨.call 25 [(.t 19)], (some 20), none, []⟩ :: ⟨.iaddr 2 (.t 14) (.t 15), (some 21), none, []⟩ :: L28_6
theorem v28_7 : VS L28_7.eq_1 := rfl
def L28_8 : List AStep := ⟨.iaddr 2 (.t 16) (.t 17), (some 18), none, []⟩ :: ⟨.load 2 true (.t 18), (some 19), none, []⟩ :: L28_7
theorem v28_8 : VS L28_8.eq_1 := rfl
def L28_9 : List AStep := ⟨.mov (.t 0), (some 16), none, []⟩ :: ⟨.mov (.t 4), (some 17), none, []⟩ :: L28_8
theorem v28_9 : VS L28_9.eq_1 := rfl
def L28_10 : List AStep := ⟨.mov (.t 3), (some 14), none, []⟩ :: ⟨.mov (.t 4), (some 15), none, []⟩ :: L28_9
theorem v28_10 : VS L28_10.eq_1 := rfl
def L28_11 : List AStep := [⟨.mov (.t 13), (some 4), none, []⟩]
theorem v28_11 : VS L28_11.eq_1 := rfl
def L28_12 : List AStep := ⟨.mov (.t 4), (some 12), none, []⟩ :: ⟨.bin .add (.t 12) (.c (.int .i64 1)), (some 13), none, []⟩ :: L28_11
theorem v28_12 : VS L28_12.eq_1 := rfl
def L28_13 : List AStep := [⟨.mov (.t 3), (some 22), none, []⟩, ⟨.mov (.t 22), (some 2), none, []⟩]
theorem v28_13 : VS L28_13.eq_1 := rfl
def C28_0 : ACode := .cond (.t 11) .skip (.exit 0)
theorem u28_0 : VC C28_0.eq_1 := rfl
def C28_1 : ACode := .seq (.reg L28_5) C28_0
theorem u28_1 : VC C28_1.eq_1 := rfl
def C28_2 : ACode := .block 1 (.reg L28_10)
theorem u28_2 : VC C28_2.eq_1 := rfl
def C28_3 : ACode := .seq C28_2 (.reg L28_12)
theorem u28_3 : VC C28_3.eq_1 := rfl
def C28_4 : ACode := .seq C28_1 C28_3
theorem u28_4 : VC C28_4.eq_1 := rfl
def C28_5 : ACode := .block 0 (.loop C28_4)
theorem u28_5 : VC C28_5.eq_1 := rfl
def C28_6 : ACode := .seq (.reg L28_3) C28_5
theorem u28_6 : VC C28_6.eq_1 := rfl
def C28_7 : ACode := .seq (.reg L28_13) .ret
theorem u28_7 : VC C28_7.eq_1 := rfl
def C28_8 : ACode := .seq C28_6 C28_7
theorem u28_8 : VC C28_8.eq_1 := rfl
def C28_9 : ACode := .seq (.reg L28_2) C28_8
theorem u28_9 : VC C28_9.eq_1 := rfl
def C28_10 : ACode := .seq (.reg L28_0) C28_9
theorem u28_10 : VC C28_10.eq_1 := rfl
def F28 : AFunc := ⟨23, [.tmp 2], C28_10⟩
theorem cF28 : compB Tryd.prog 28 = some F28 := by kernel_rfl
attribute [local go_sem ↓] u28_0 u28_1 u28_2 u28_3 u28_4 u28_5 u28_6 u28_7 u28_8 u28_9 u28_10 v28_0 v28_1 v28_2 v28_3 v28_4 v28_5 v28_6 v28_7 v28_8 v28_9 v28_10 v28_11 v28_12 v28_13
theorem c_toFuncS (l : List Func) (v : CV) (h : H) (d : DomW h v l) (m : miniW l) : callK (bm Tryd.prog 28 [.one v] h) fun r h' => Grow h h' ∧ ∃ p rs, r = .one p ∧ NwW h h' p rs l := by
  refine bm_of cF28 ?_
  obtain ⟨rs, y⟩ := d.rd
  have hn := m.len
  have yl : lenO (.one v) = some (ii l.length) := by rw [y.out.len, y.len]
  simp +contextual (maxSteps := 2000000) only [go_sem, Nat.reduceEqDiff, reduceCtorEq, Nat.reduceAdd, Nat.reduceLeDiff, F28, yl]
  refine wp_make (enc := encW) (k := 2) zrW rfl (by omega) (by omega) ?_
  intro h1 o g1 n1 _
  obtain ⟨o, rfl⟩ := n1.one
  simp +contextual (maxSteps := 2000000) only [go_sem, Nat.reduceEqDiff, reduceCtorEq, Nat.reduceAdd, Nat.reduceLeDiff]
  refine wpC_loop (fun i T L h' => Grow h h' ∧ T 0 = .v (.one v) ∧ T 3 = .v (.one o) ∧ T 4 = .v (.one (.int .i64 i)) ∧ ∃ ro, NwW h h' o ro (fillL l zeW i)) l.length ?_ ?_ (Nat.zero_le _) ?_
  · rintro i T L h' hi ⟨g, t0, t3, t4, ro, no⟩
    have y := y.grow g
    have hr : i < rs.length := by rw [y.len]; exact hi
    have hm := List.getElem_mem hi
    have ye := y.el i hr
    rw [getW_eq hi] at ye
    have hio : i < ro.length := by rw [no.out.len, fillL_len (by omega)]; exact hi
    simp +contextual (maxSteps := 2000000) only [go_sem, Nat.reduceEqDiff, reduceCtorEq, Nat.reduceAdd, Nat.reduceLeDiff, t0, t3, t4, yl, y.out.iaddr hr, y.out.whole hr, lt_true hi]
    refine wp_call (c_toEW rs[i] l[i] h' ye (m.params _ hm)) ?_
    rintro q h2 ⟨g2, u, rfl, nu⟩
    simp +contextual (maxSteps := 2000000) only [go_sem, Nat.reduceEqDiff, reduceCtorEq, Nat.reduceAdd, Nat.reduceLeDiff, t0, t3, t4, no.out.out.iaddr hio]
    refine wp_setE (x := u) lenW (no.out.out.grow g2) hio rfl rfl (g.trans g2) ?_
    intro h3 g3 n3 s3
    simp +contextual (maxSteps := 2000000) only [go_sem, Nat.reduceEqDiff, reduceCtorEq, Nat.reduceAdd, Nat.reduceLeDiff, t0, t3, t4]
    have z := no.put hio g2 nu n3 s3 g.n
    rw [fillL_set hi] at z
    exact ⟨g3, by rw [wrap_next hi (by omega)], _, z⟩
  · rintro T L h' ⟨g, t0, t3, t4, ro, no⟩
    simp +contextual (maxSteps := 2000000) only [go_sem, Nat.reduceEqDiff, reduceCtorEq, Nat.reduceAdd, Nat.reduceLeDiff, t0, t3, t4, yl, lt_false]
    rw [fillL_all] at no
    exact gcK_of ⟨g, _, _, rfl, no⟩ (fun hs _ => ⟨Grow.refl h, _, _, rfl, no.scalar (by simpa [AV.scalar] using hs) h⟩)
  · simp +contextual (maxSteps := 2000000) only [go_sem, Nat.reduceEqDiff, reduceCtorEq, Nat.reduceAdd, Nat.reduceLeDiff]
    exact ⟨g1, rfl, _, by rw [fillL_zero]; exact .zeros n1⟩
theorem k_szW (x : List Func) (p : CV) (left : Int) (h : H) (h1 : 0 ≤ left) (h2 : left ≤ 1048576) (d : DomW h p x) : bm Tryd.prog 27 [.one p, .one (.int .i64 left)] h = some (ii (szr left (wtW x)), h) := c_szFuncS x p left h h1 h2 d
theorem k_toW (x : List Func) (p : CV) (h : H) (d : DomW h p x) (m : miniW x) : callK (bm Tryd.prog 28 [.one p] h) fun r h' => Grow h h' ∧ ∃ p' R, r = .one p' ∧ NwW h h' p' R x := c_toFuncS x p h d m
end Go.Proofs.YtoeceafibmafpaaDoor.Am
