/- Lists whose elements hold slices, as arguments: how much of them there is, and a copy of one's own. -/
import Derived.Test.YtoeceafibmafpaaDoorL1
import Derived.Test.YtoeceafibmafpaaDoorL2
import Derived.Test.YtoeceafibmafpaaDoorL4
import Derived.Test.YtoeceafibmafpaaDoorDom
import Derived.Test.YtoeceafibmafpaaDoorK
import Derived.Test.YtoeceafibmafpaaDoorDN
namespace Go.Proofs.YtoeceafibmafpaaDoor.Am
open Go
set_option maxRecDepth 100000
set_option maxHeartbeats 4000000
set_option linter.unusedSimpArgs false
set_option linter.unusedVariables false
attribute [local go_sem ↓] bv_t bv_c ev_t ev_c put_same put_ne put_none kill_at pro_at lb_same lb_ne start_zero start_succ wpC_seq wpC_reg wpC_cond wpC_block wpC_skip wpC_exit wpC_ret thenQ_normal thenQ_exit thenQ_ret inBlk_normal inBlk_exit inBlk_ret wpS_nil wpS_step wpS_again wpS_guard wpO_mov wpO_load wpO_faddr wpO_nilCheck wpO_pick wpO_build wpO_bin wpO_eqb wpO_eqst wpO_eqnil wpO_not wpO_conv wpO_bytesStr wpO_iaddr wpO_idxStr wpO_field wpO_extract wpO_len wpO_lenStr wpO_cap wpO_min wpO_slice wpO_sliceStr wpO_alloc wpO_box wpO_store wpO_call wpO_callv wpO_mkfn wpO_buildSlice wpO_mkslice wpO_append wpO_appz proA_nil proA_cons tmpX_nil tmpX_tmp tmpX_cell doneB_normal doneB_ret agK_cons agK_nil agK_guard agG_tt agG_ff agG_tf agG_ft agG_undef pureB_load results_one results_two results_nil resBs_cons resBs_nil resB_tmp resB_cell
attribute [local go_sem] kill_v kill_lp_ne kill_lp_same pro_v pro_lp_same pro_lp_ne av_v av_lp optB_some optX_some valX_eq ldX_lp ldX_v faX_lp faX_v ncX_lp ncX_ptr ncX_fn boxK_one boxK_agg stL_some stK_lp_one stK_lp_agg stK_v_one stK_v_agg proM_v proM_lp callG_mk callVG_mk callvK_fn fnG_mk ptrsA_nil ptrsA_cons callH_some whenA_true whenA_false guardH_tt guardH_ff guardH_tf guardH_ft guardH_undef agV_one agV_agg lenO_sl lenStrO_str notO_bool pickO_bool convO_int eqbO_bool eqnilO_sl extractO_tup capO_sl minO_int loadL_one loadL_all storeL_eq fillA_nil fillA_one fillA_agg nat_ge neg_ge nat_lt neg_lt buildO bin_add bin_sub bin_mul bin_eql bin_neq bin_lss bin_leq bin_gtr bin_geq str_eql str_neq str_lss str_leq str_gtr str_geq retK_some endK_mk gcK_same gcK_int gcK_bool tupO_one tupO_agg rdy_self ib ii Option.map_none Option.map_some Option.some.injEq exists_eq_left' exists_eq_left ne_eq not_false_eq_true if_true if_false List.map_cons List.map_nil List.getElem?_cons_zero List.getElem?_cons_succ List.length_cons List.length_nil List.take_succ_cons List.take_zero List.take_nil List.drop_succ_cons List.drop_zero List.drop_nil List.cons_append List.nil_append List.append_nil List.set_cons_zero List.set_cons_succ Nat.zero_add forall_const true_and and_true and_self Bool.false_eq_true false_implies true_implies implies_true Bool.not_true Bool.not_false Bool.not_eq_true' Bool.not_eq_false' beq_self_eq_true Bool.bne_true Bool.bne_false
attribute [local go_sem] lenI lenS lenP lenQ lenB lenL lenT encI_0 encS_0 encP_0 encP_1 encQ_0 encQ_1 encQ_2 encQ_3 encB_0 encB_1 encL_0 encL_1 encT_0 encT_1
attribute [local go_sem low] whenA_bool guardH_bool
theorem choose_list {α β : Type} {P : α → β → Prop} : ∀ {rs : List α}, (∀ r ∈ rs, ∃ a, P r a) → ∃ l : List β, l.length = rs.length ∧ ∀ i (hi : i < rs.length) (hj : i < l.length), P rs[i] l[i]
  | [], _ => ⟨[], rfl, fun i hi => absurd hi (Nat.not_lt_zero _)⟩
  | r :: rs, h => by
    obtain ⟨a, ha⟩ := h r List.mem_cons_self
    obtain ⟨l, h1, h2⟩ := choose_list fun x hx => h x (List.mem_cons_of_mem _ hx)
    refine ⟨a :: l, by simp [h1], fun i hi hj => ?_⟩
    cases i with
    | zero => exact ha
    | succ i => exact h2 i (by simpa using hi) (by simpa using hj)
theorem wsum_c {α : Type} {f g : α → Nat} {c : Nat} {l : List α} (h : ∀ x ∈ l, f x ≤ c * (1 + g x)) : wsum f l l.length ≤ c * wtL g l := by
  unfold wtL wsum
  rw [List.take_length]
  induction l with
  | nil => simp
  | cons a r ih =>
    have h1 := h a List.mem_cons_self
    have h2 := ih fun x hx => h x (List.mem_cons_of_mem _ hx)
    simp only [List.map_cons, List.sum_cons, List.length_cons] at h2 ⊢
    have e : c * (r.length + 1 + (g a + (List.map g r).sum)) = c * (1 + g a) + c * (r.length + (List.map g r).sum) := by rw [← Nat.mul_add]; congr 1; omega
    omega
theorem wtL_mem {α : Type} {g : α → Nat} {l : List α} {x : α} (hx : x ∈ l) : 1 + g x ≤ wtL g l := by
  have := wsum_mem (f := g) hx
  have : 0 < l.length := List.length_pos_of_mem hx
  unfold wtL
  omega
theorem setR {α : Type} {rs : List α} {i : Nat} {r : α} (j : Nat) (hj : j < (rs.set i r).length) : (j = i ∧ (rs.set i r)[j] = r) ∨ (j ≠ i ∧ ∃ hk : j < rs.length, (rs.set i r)[j] = rs[j]) := by
  have hk : j < rs.length := by simpa using hj
  by_cases e : j = i
  · subst e; exact .inl ⟨rfl, by simp⟩
  · exact .inr ⟨e, hk, by rw [List.getElem_set_ne (Ne.symm e)]⟩
def wtEC (a : Arg) : Nat := a.name.size + a.list.length + wtL wtP a.pairs
def wtC (l : List Arg) : Nat := wtL wtEC l
theorem getC_set {l : List Arg} {i j : Nat} {a : Arg} (hj : j < l.length) : updC (getC l) i a j = getC (l.set i a) j := by
  unfold updC getC
  by_cases e : j = i
  · subst e; rw [if_pos rfl, List.getElem?_set_self hj]; rfl
  · rw [if_neg e, List.getElem?_set_ne (Ne.symm e)]
theorem OwC.put {h0 h h1 h2 : H} {v : CV} {rs : List RArg} {n : Nat} {f : Nat → Arg} (x : OwC h0 h v rs n f) {i : Nat} (hi : i < rs.length) {r : RArg} {a : Arg} (g : Grow h h1) (y : NtC h h1 r a) (slvpv : SepC r.lv r.pv)
    (o : Nw encC 4 99 h0 h2 (.one v) (rs.set i r)) (st : Stay (.one v) h1 h2) (hg : h0.n ≤ h.n) : OwC h0 h2 v (rs.set i r) n (updC f i a) := by
  have vb : ∀ i, baseOf (.one v) = some i → i < h.n := fun i hi => (x.out.lt hi).1
  have blv : ∀ i (hi : i < rs.length) j, baseOf (.one rs[i].lv) = some j → j < h.n := fun i hi j hj => ((x.el i hi).list.lt hj).1
  have nlv : ∀ j, baseOf (.one r.lv) = some j → h.n ≤ j := fun j hj => (y.list.lt hj).2
  have bpv : ∀ i (hi : i < rs.length) j, baseOf (.one rs[i].pv) = some j → j < h.n := fun i hi j hj => ((x.el i hi).pairs.lt hj).1
  have npv : ∀ j, baseOf (.one r.pv) = some j → h.n ≤ j := fun j hj => (y.pairs.lt hj).2
  refine ⟨o, by simp [x.len], fun j hj => ?_, fun j hj => ?_, fun j hj => ?_, fun j hj => ?_, fun j k hj hk hjk => ?_, fun j k hj hk hjk => ?_, fun j k hj hk hjk => ?_, fun j k hj hk hjk => ?_⟩
  · rcases setR j hj with ⟨e, e2⟩ | ⟨e, hk, e2⟩
    · rw [e2, show updC f i a j = a from if_pos e]
      have z := y.from hg
      exact ⟨z.kind, z.name, z.list.stay st (Sep.new vb nlv).symm, z.pairs.stay st (Sep.new vb npv).symm⟩
    · rw [e2, show updC f i a j = f j from if_neg e]
      have z := (x.el j hk).grow g
      exact ⟨z.kind, z.name, z.list.stay st (x.vlv j hk).symm, z.pairs.stay st (x.vpv j hk).symm⟩
  · rcases setR j hj with ⟨e, e2⟩ | ⟨e, hk, e2⟩
    · rw [e2]; exact Sep.new vb nlv
    · rw [e2]; exact x.vlv j hk
  · rcases setR j hj with ⟨e, e2⟩ | ⟨e, hk, e2⟩
    · rw [e2]; exact Sep.new vb npv
    · rw [e2]; exact x.vpv j hk
  · rcases setR j hj with ⟨e, e2⟩ | ⟨e, hk, e2⟩
    · rw [e2]; exact slvpv
    · rw [e2]; exact x.slvpv j hk
  · rcases setR j hj with ⟨e, e2⟩ | ⟨e, hj2, e2⟩ <;> rcases setR k hk with ⟨d, d2⟩ | ⟨d, hk2, d2⟩
    · omega
    · rw [e2, d2]; exact (Sep.new (blv k hk2) nlv).symm
    · rw [e2, d2]; exact Sep.new (blv j hj2) nlv
    · rw [e2, d2]; exact x.olvlv j k hj2 hk2 hjk
  · rcases setR j hj with ⟨e, e2⟩ | ⟨e, hj2, e2⟩ <;> rcases setR k hk with ⟨d, d2⟩ | ⟨d, hk2, d2⟩
    · omega
    · rw [e2, d2]; exact (Sep.new (bpv k hk2) nlv).symm
    · rw [e2, d2]; exact Sep.new (blv j hj2) npv
    · rw [e2, d2]; exact x.olvpv j k hj2 hk2 hjk
  · rcases setR j hj with ⟨e, e2⟩ | ⟨e, hj2, e2⟩ <;> rcases setR k hk with ⟨d, d2⟩ | ⟨d, hk2, d2⟩
    · omega
    · rw [e2, d2]; exact (Sep.new (blv k hk2) npv).symm
    · rw [e2, d2]; exact Sep.new (bpv j hj2) nlv
    · rw [e2, d2]; exact x.opvlv j k hj2 hk2 hjk
  · rcases setR j hj with ⟨e, e2⟩ | ⟨e, hj2, e2⟩ <;> rcases setR k hk with ⟨d, d2⟩ | ⟨d, hk2, d2⟩
    · omega
    · rw [e2, d2]; exact (Sep.new (bpv k hk2) npv).symm
    · rw [e2, d2]; exact Sep.new (bpv j hj2) npv
    · rw [e2, d2]; exact x.opvpv j k hj2 hk2 hjk
def zrC : RArg := ⟨0, strOfNums [], .sl none 0 (some 0), .sl none 0 (some 0)⟩
def zeC : Arg := ⟨0, strOfNums [], [], []⟩
theorem NwC.zeros {h0 h : H} {v : CV} {n : Nat} (x : Nw encC 4 99 h0 h (.one v) (List.replicate n zrC)) : NwC h0 h v (List.replicate n zrC) (List.replicate n zeC) := by
  refine ⟨⟨x, by simp, fun i hi => ?_, fun i hi => ?_, fun i hi => ?_, fun i hi => ?_, fun i j hi hj hij => ?_, fun i j hi hj hij => ?_, fun i j hi hj hij => ?_, fun i j hi hj hij => ?_⟩⟩
  · have hi2 : i < (List.replicate n zeC).length := by simpa using hi
    rw [getC_eq hi2, List.getElem_replicate, List.getElem_replicate]
    exact ⟨rfl, rfl, .nil, .nil⟩
  all_goals simp only [List.getElem_replicate]
  · exact Sep.nil.symm
  · exact Sep.nil.symm
  · exact Sep.nil
  · exact Sep.nil
  · exact Sep.nil
  · exact Sep.nil
  · exact Sep.nil
theorem NwC.put {h0 h h1 h2 : H} {v : CV} {rs : List RArg} {l : List Arg} (x : NwC h0 h v rs l) {i : Nat} (hi : i < rs.length) {r : RArg} {a : Arg} (g : Grow h h1) (y : NtC h h1 r a) (slvpv : SepC r.lv r.pv)
    (o : Nw encC 4 99 h0 h2 (.one v) (rs.set i r)) (st : Stay (.one v) h1 h2) (hg : h0.n ≤ h.n) : NwC h0 h2 v (rs.set i r) (l.set i a) := by
  have := (x.out.put hi g y slvpv o st hg).congr (g := getC (l.set i a)) fun j hj => getC_set hj
  rw [show l.length = (l.set i a).length by simp] at this
  exact ⟨this⟩
theorem wtC_sm {l : List Arg} (h : wtC l ≤ 1048576) : miniC l := by
  unfold wtC at h
  have h1 : ∀ a ∈ l, wtEC a ≤ 1048576 := fun a ha => by have := wtL_mem (g := wtEC) ha; omega
  exact ⟨by unfold wtL at h; omega, fun a ha => by have := h1 a ha; unfold wtEC at this; omega, fun a ha => by have := h1 a ha; unfold wtEC  at this; omega, fun a ha => by have := h1 a ha; unfold wtEC wtL at this; omega, fun a ha x hx => by have := h1 a ha; unfold wtEC at this; have := wtL_mem (g := wtP) hx; unfold wtP at this; unfold wtP at *; omega, by
    have := wsum_c (f := cellsEC) (g := wtEC) (c := 2) (l := l) (fun a ha => by unfold cellsEC wtEC wtL; omega)
    unfold cellsC
    omega⟩
structure DomC (h : H) (p : CV) (l : List Arg) : Prop where
  rd : ∃ rs, RdC 131 3 171 h p rs l.length (getC l)
  k0 : l.length ≤ far
  el : ∀ a ∈ l, a.name.size ≤ far ∧ a.list.length ≤ far ∧ a.pairs.length ≤ far ∧ ∀ x ∈ a.pairs, x.name.size ≤ far
theorem DomC.grow {h h1 : H} {p : CV} {l : List Arg} (d : DomC h p l) (g : Grow h h1) : DomC h1 p l := ⟨d.rd.imp fun _ y => y.grow g, d.k0, d.el⟩
theorem dEC {h : H} {m : Nat} (cs : List CV) (hk : okA Tryd.prog h (m + 4) 131 cs) : ∃ r : RArg, cs = encC r ∧ ∃ a : Arg, AtC 3 171 h r a ∧ (a.name.size ≤ far ∧ a.list.length ≤ far ∧ a.pairs.length ≤ far ∧ ∀ x ∈ a.pairs, x.name.size ≤ far) := by
  have hk := okA_struct Tryd.underlying131 hk
  obtain ⟨a, r, rfl, h1, hk⟩ := okF_cons hk
  obtain ⟨b, r, rfl, h2, hk⟩ := okF_cons hk
  obtain ⟨c, r, rfl, h3, hk⟩ := okF_cons hk
  obtain ⟨d, r, rfl, h4, hk⟩ := okF_cons hk
  obtain rfl := okF_nil hk
  obtain ⟨n, rfl, _⟩ := dInt _ h1
  obtain ⟨s, rfl, k0⟩ := dText _ h2
  obtain ⟨p, l, rfl, s1, k1⟩ := dInts _ h3
  obtain ⟨q, l2, rfl, s2, k2, k3⟩ := okA_list lenP Tryd.underlying129 (by kernel_rfl) dPair h4
  exact ⟨⟨n, s, p, q⟩, rfl, ⟨n, s, l, l2⟩, ⟨rfl, rfl, s1, s2⟩, k0, k1, k2, k3⟩
theorem dC {h : H} {m : Nat} {v : AV} (hk : okV Tryd.prog h (m + 6) 63 v) : ∃ p x, v = .agg [p] ∧ DomC h p x := by
  obtain ⟨cs, rfl, hq⟩ := okV_agg (by kernel_rfl) hk
  have hk := okA_struct Tryd.underlying63 hq
  clear hq
  obtain ⟨a, r, rfl, hj, hk⟩ := okF_cons hk
  obtain rfl := okF_nil hk
  obtain ⟨p, rs, e, s1, k1, k2⟩ := okA_list lenC Tryd.underlying61 (by kernel_rfl) dEC hj
  subst e
  obtain ⟨l, e1, e2⟩ := choose_list k2
  have e3 : ∀ a ∈ l, a.name.size ≤ far ∧ a.list.length ≤ far ∧ a.pairs.length ≤ far ∧ ∀ x ∈ a.pairs, x.name.size ≤ far := fun a ha => by
    obtain ⟨i, hi, rfl⟩ := List.getElem_of_mem ha
    exact (e2 i (by omega) hi).2
  exact ⟨p, l, rfl, ⟨⟨rs, s1, e1.symm, fun i hi => by rw [getC_eq (show i < l.length by omega)]; exact (e2 i hi (by omega)).1⟩, by rw [e1]; exact k1, e3⟩⟩
/-! laws.szArg -/
def L94_0 : List AStep := [⟨.box 131 (.t 0), (some 2), none, []⟩, ⟨.mov (.c (.int .i64 0)), (some 4), none, []⟩]
theorem v94_0 : VS L94_0.eq_1 := rfl
def L94_1 : List AStep := [⟨.bin .sub (.t 5) (.t 8), (some 9), none, []⟩, ⟨.mov (.t 9), (some 1), none, []⟩]
theorem v94_1 : VS L94_1.eq_1 := rfl
def L94_2 : List AStep := ⟨.load 1 false (.t 6), (some 7), none, []⟩ :: ⟨.lenStr (.t 7), (some 8), none, []⟩ :: L94_1
theorem v94_2 : VS L94_2.eq_1 := rfl
def L94_3 : List AStep := ⟨.mov (.t 1), (some 5), none, []⟩ :: ⟨.faddr 1 (.t 2), (some 6), none, []⟩ :: L94_2
theorem v94_3 : VS L94_3.eq_1 := rfl
def L94_4 : List AStep := [⟨.mov (.t 1), (some 10), none, []⟩, ⟨.bin .lss (.t 10) (.c (.int .i64 0)), (some 11), none, []⟩]
theorem v94_4 : VS L94_4.eq_1 := rfl
def L94_5 : List AStep := [⟨.mov (.c (.int .i64 (-1))), (some 4), none, []⟩]
theorem v94_5 : VS L94_5.eq_1 := rfl
def L94_6 : List AStep := [⟨.mov (.t 15), (some 1), none, []⟩]
theorem v94_6 : VS L94_6.eq_1 := rfl
def L94_7 : List AStep := ⟨.mov (.t 1), (some 14), none, []⟩ :: ⟨.call 116 [(.t 13), (.t 14)], (some 15), none, []⟩ :: L94_6
theorem v94_7 : VS L94_7.eq_1 := rfl
def L94_8 : List AStep := ⟨.faddr 2 (.t 2), (some 12), none, []⟩ :: ⟨.load 1 false (.t 12), (some 13), none, []⟩ :: L94_7
theorem v94_8 : VS L94_8.eq_1 := rfl
def L94_9 : List AStep := [⟨.mov (.t 1), (some 16), none, []⟩, ⟨.bin .lss (.t 16) (.c (.int .i64 0)), (some 17), none, []⟩]
theorem v94_9 : VS L94_9.eq_1 := rfl
def L94_10 : List AStep := [⟨.mov (.c (.int .i64 (-1))), (some 4), none, []⟩]
theorem v94_10 : VS L94_10.eq_1 := rfl
def L94_11 : List AStep := [⟨.mov (.t 21), (some 1), none, []⟩]
theorem v94_11 : VS L94_11.eq_1 := rfl
def L94_12 : List AStep := ⟨.mov (.t 1), (some 20), none, []⟩ :: ⟨.call 117 [(.t 19), (.t 20)], (some 21), none, []⟩ :: L94_11
theorem v94_12 : VS L94_12.eq_1 := rfl
def L94_13 : List AStep := ⟨.faddr 3 (.t 2), (some 18), none, []⟩ :: ⟨.load 1 false (.t 18), (some 19), none, []⟩ :: L94_12
theorem v94_13 : VS L94_13.eq_1 := rfl
def L94_14 : List AStep := [⟨.mov (.t 1), (some 22), none, []⟩, ⟨.bin .lss (.t 22) (.c (.int .i64 0)), (some 23), none, []⟩]
theorem v94_14 : VS L94_14.eq_1 := rfl
def L94_15 : List AStep := [⟨.mov (.c (.int .i64 (-1))), (some 4), none, []⟩]
theorem v94_15 : VS L94_15.eq_1 := rfl
def L94_16 : List AStep := [⟨.mov (.t 1), (some 24), none, []⟩, ⟨.mov (.t 24), (some 4), none, []⟩]
theorem v94_16 : VS L94_16.eq_1 := rfl
def C94_0 : ACode := .seq (.reg L94_5) .ret
theorem u94_0 : VC C94_0.eq_1 := rfl
def C94_1 : ACode := .cond (.t 11) C94_0 .skip
theorem u94_1 : VC C94_1.eq_1 := rfl
def C94_2 : ACode := .seq (.reg L94_4) C94_1
theorem u94_2 : VC C94_2.eq_1 := rfl
def C94_3 : ACode := .seq (.reg L94_10) .ret
theorem u94_3 : VC C94_3.eq_1 := rfl
def C94_4 : ACode := .cond (.t 17) C94_3 .skip
theorem u94_4 : VC C94_4.eq_1 := rfl
def C94_5 : ACode := .seq (.reg L94_9) C94_4
theorem u94_5 : VC C94_5.eq_1 := rfl
def C94_6 : ACode := .seq (.reg L94_15) .ret
theorem u94_6 : VC C94_6.eq_1 := rfl
def C94_7 : ACode := .cond (.t 23) C94_6 .skip
theorem u94_7 : VC C94_7.eq_1 := rfl
def C94_8 : ACode := .seq (.reg L94_14) C94_7
theorem u94_8 : VC C94_8.eq_1 := rfl
def C94_9 : ACode := .seq (.reg L94_16) .ret
theorem u94_9 : VC C94_9.eq_1 := rfl
def C94_10 : ACode := .seq C94_8 C94_9
theorem u94_10 : VC C94_10.eq_1 := rfl
def C94_11 : ACode := .seq (.reg L94_13) C94_10
theorem u94_11 : VC C94_11.eq_1 := rfl
def C94_12 : ACode := .seq C94_5 C94_11
theorem u94_12 : VC C94_12.eq_1 := rfl
def C94_13 : ACode := .seq (.reg L94_8) C94_12
theorem u94_13 : VC C94_13.eq_1 := rfl
def C94_14 : ACode := .seq C94_2 C94_13
theorem u94_14 : VC C94_14.eq_1 := rfl
def C94_15 : ACode := .seq (.reg L94_3) C94_14
theorem u94_15 : VC C94_15.eq_1 := rfl
def C94_16 : ACode := .seq (.reg L94_0) C94_15
theorem u94_16 : VC C94_16.eq_1 := rfl
def F94 : AFunc := ⟨25, [.tmp 4], C94_16⟩
theorem cF94 : compB Tryd.prog 94 = some F94 := by kernel_rfl
attribute [local go_sem ↓] u94_0 u94_1 u94_2 u94_3 u94_4 u94_5 u94_6 u94_7 u94_8 u94_9 u94_10 u94_11 u94_12 u94_13 u94_14 u94_15 u94_16 v94_0 v94_1 v94_2 v94_3 v94_4 v94_5 v94_6 v94_7 v94_8 v94_9 v94_10 v94_11 v94_12 v94_13 v94_14 v94_15 v94_16
theorem c_szEC (r : RArg) (a : Arg) (left : Int) (h : H) (h1 : 0 ≤ left) (h2 : left ≤ 1048576) (y : AtC 3 171 h r a) (k : a.name.size ≤ far ∧ a.list.length ≤ far ∧ a.pairs.length ≤ far ∧ ∀ x ∈ a.pairs, x.name.size ≤ far) : bm Tryd.prog 94 [.agg (encC r), .one (.int .i64 left)] h = some (ii (szr left (wtEC a)), h) := by
  refine bm_eq cF94 ?_
  unfold wtEC
  have en : r.name = a.name := y.name
  have e0 : szr left a.name.size = if left - (a.name.size : Int) < 0 then -1 else left - (a.name.size : Int) := rfl
  have sz0 : ∀ n, szr left n < 0 → szr left n = -1 := fun n hn => by
    have := szr_neg (b := 0) hn
    rwa [Nat.add_zero] at this
  by_cases b0 : left - (a.name.size : Int) < 0
  · simp +contextual (maxSteps := 2000000) only [go_sem, Nat.reduceEqDiff, reduceCtorEq, Nat.reduceAdd, Nat.reduceLeDiff, F94, encC, en, i64_sub h1 h2 k.1, decide_eq_true b0]
    rw [Nat.add_assoc, szr_neg (by rw [e0, if_pos b0]; omega)]
  · rw [if_neg b0] at e0
    have e1 := c_szIntS a.list (.one r.lv) (szr left a.name.size) h (by omega) (by omega) y.list k.2.1
    rw [szr_then (by omega)] at e1
    rw [e0] at e1
    by_cases b1 : szr left (a.name.size + a.list.length) < 0
    · simp +contextual (maxSteps := 2000000) only [go_sem, Nat.reduceEqDiff, reduceCtorEq, Nat.reduceAdd, Nat.reduceLeDiff, F94, encC, en, i64_sub h1 h2 k.1, decide_eq_false b0, e1, decide_eq_true b1]
      rw [szr_neg b1]
    · have u1 := szr_le (a := a.name.size + a.list.length) h1
      have e2 := c_szPairS a.pairs (.one r.pv) (szr left (a.name.size + a.list.length)) h (by omega) (by omega) y.pairs k.2.2.1 k.2.2.2
      rw [szr_then (by omega)] at e2
      by_cases b2 : szr left (a.name.size + a.list.length + wtL wtP a.pairs) < 0
      · simp +contextual (maxSteps := 2000000) only [go_sem, Nat.reduceEqDiff, reduceCtorEq, Nat.reduceAdd, Nat.reduceLeDiff, F94, encC, en, i64_sub h1 h2 k.1, decide_eq_false b0, e1, decide_eq_false b1, e2, decide_eq_true b2]
        rw [sz0 _ b2]
      · simp +contextual (maxSteps := 2000000) only [go_sem, Nat.reduceEqDiff, reduceCtorEq, Nat.reduceAdd, Nat.reduceLeDiff, F94, encC, en, i64_sub h1 h2 k.1, decide_eq_false b0, e1, decide_eq_false b1, e2, decide_eq_false b2]
/-! laws.szArgS -/
def L59_0 : List AStep := [⟨.mov (.c (.int .i64 0)), (some 4), none, []⟩]
theorem v59_0 : VS L59_0.eq_1 := rfl
def L59_1 : List AStep := [⟨.mov (.t 9), (some 1), none, []⟩]
theorem v59_1 : VS L59_1.eq_1 := rfl
def L59_2 : List AStep := ⟨.len (.t 7), (some 8), none, []⟩ :: ⟨.bin .sub (.t 6) (.t 8), (some 9), none, []⟩ :: L59_1
theorem v59_2 : VS L59_2.eq_1 := rfl
def L59_3 : List AStep := ⟨.mov (.t 1), (some 6), none, []⟩ :: ⟨.mov (.t 0), (some 7), none, []⟩ :: L59_2
theorem v59_3 : VS L59_3.eq_1 := rfl
def L59_4 : List AStep := [⟨.mov (.t 1), (some 10), none, []⟩, ⟨.bin .lss (.t 10) (.c (.int .i64 0)), (some 11), none, []⟩]
theorem v59_4 : VS L59_4.eq_1 := rfl
def L59_5 : List AStep := [⟨.mov (.c (.int .i64 (-1))), (some 4), none, []⟩]
theorem v59_5 : VS L59_5.eq_1 := rfl
def L59_6 : List AStep := [⟨.mov (.c (.int .i64 0)), (some 5), none, []⟩]
theorem v59_6 : VS L59_6.eq_1 := rfl
def L59_7 : List AStep := [⟨.len (.t 13), (some 14), none, []⟩, ⟨.bin .lss (.t 12) (.t 14), (some 15), none, []⟩]
theorem v59_7 : VS L59_7.eq_1 := rfl
def L59_8 : List AStep := ⟨.mov (.t 5), (some 12), none, []⟩ :: ⟨.mov (.t 0), (some 13), none, []⟩ :: L59_7
theorem v59_8 : VS L59_8.eq_1 := rfl
def L59_9 : List AStep := [⟨.mov (.t 23), (some 1), none, []⟩]
theorem v59_9 : VS L59_9.eq_1 := rfl
def L59_10 : List AStep := ⟨.mov (.t 1), (some 22), none, []⟩ :: ⟨.call 94 [(.t 21), (.t 22)], (some 23), none, []⟩ :: L59_9
theorem v59_10 : VS L59_10.eq_1 := rfl
def L59_11 : List AStep := ⟨.iaddr 4 (.t 18) (.t 19), (some 20), none, []⟩ :: ⟨.load 4 true (.t 20), (some 21), none, []⟩ :: L59_10
theorem v59_11 : VS L59_11.eq_1 := rfl
def L59_12 : List AStep := ⟨.mov (.t 0), (some 18), none, []⟩ :: ⟨.mov (.t 5), (some 19), none, []⟩ :: L59_11
theorem v59_12 : VS L59_12.eq_1 := rfl
def L59_13 : List AStep := [⟨.mov (.t 1), (some 24), none, []⟩, ⟨.bin .lss (.t 24) (.c (.int .i64 0)), (some 25), none, []⟩]
theorem v59_13 : VS L59_13.eq_1 := rfl
def L59_14 : List AStep := [⟨.mov (.c (.int .i64 (-1))), (some 4), none, []⟩]
theorem v59_14 : VS L59_14.eq_1 := rfl
def L59_15 : List AStep := [⟨.mov (.t 17), (some 5), none, []⟩]
theorem v59_15 : VS L59_15.eq_1 := rfl
def L59_16 : List AStep := ⟨.mov (.t 5), (some 16), none, []⟩ :: ⟨.bin .add (.t 16) (.c (.int .i64 1)), (some 17), none, []⟩ :: L59_15
theorem v59_16 : VS L59_16.eq_1 := rfl
def L59_17 : List AStep := [⟨.mov (.t 1), (some 26), none, []⟩, ⟨.mov (.t 26), (some 4), none, []⟩]
theorem v59_17 : VS L59_17.eq_1 := rfl
def C59_0 : ACode := .seq (.reg L59_5) .ret
theorem u59_0 : VC C59_0.eq_1 := rfl
def C59_1 : ACode := .cond (.t 11) C59_0 .skip
theorem u59_1 : VC C59_1.eq_1 := rfl
def C59_2 : ACode := .seq (.reg L59_4) C59_1
theorem u59_2 : VC C59_2.eq_1 := rfl
def C59_3 : ACode := .cond (.t 15) .skip (.exit 0)
theorem u59_3 : VC C59_3.eq_1 := rfl
def C59_4 : ACode := .seq (.reg L59_8) C59_3
theorem u59_4 : VC C59_4.eq_1 := rfl
def C59_5 : ACode := .seq (.reg L59_14) .ret
theorem u59_5 : VC C59_5.eq_1 := rfl
def C59_6 : ACode := .cond (.t 25) C59_5 .skip
theorem u59_6 : VC C59_6.eq_1 := rfl
def C59_7 : ACode := .seq (.reg L59_13) C59_6
theorem u59_7 : VC C59_7.eq_1 := rfl
def C59_8 : ACode := .seq (.reg L59_12) C59_7
theorem u59_8 : VC C59_8.eq_1 := rfl
def C59_9 : ACode := .block 1 C59_8
theorem u59_9 : VC C59_9.eq_1 := rfl
def C59_10 : ACode := .seq C59_9 (.reg L59_16)
theorem u59_10 : VC C59_10.eq_1 := rfl
def C59_11 : ACode := .seq C59_4 C59_10
theorem u59_11 : VC C59_11.eq_1 := rfl
def C59_12 : ACode := .block 0 (.loop C59_11)
theorem u59_12 : VC C59_12.eq_1 := rfl
def C59_13 : ACode := .seq (.reg L59_6) C59_12
theorem u59_13 : VC C59_13.eq_1 := rfl
def C59_14 : ACode := .seq (.reg L59_17) .ret
theorem u59_14 : VC C59_14.eq_1 := rfl
def C59_15 : ACode := .seq C59_13 C59_14
theorem u59_15 : VC C59_15.eq_1 := rfl
def C59_16 : ACode := .seq C59_2 C59_15
theorem u59_16 : VC C59_16.eq_1 := rfl
def C59_17 : ACode := .seq (.reg L59_3) C59_16
theorem u59_17 : VC C59_17.eq_1 := rfl
def C59_18 : ACode := .seq (.reg L59_0) C59_17
theorem u59_18 : VC C59_18.eq_1 := rfl
def F59 : AFunc := ⟨27, [.tmp 4], C59_18⟩
theorem cF59 : compB Tryd.prog 59 = some F59 := by kernel_rfl
attribute [local go_sem ↓] u59_0 u59_1 u59_2 u59_3 u59_4 u59_5 u59_6 u59_7 u59_8 u59_9 u59_10 u59_11 u59_12 u59_13 u59_14 u59_15 u59_16 u59_17 u59_18 v59_0 v59_1 v59_2 v59_3 v59_4 v59_5 v59_6 v59_7 v59_8 v59_9 v59_10 v59_11 v59_12 v59_13 v59_14 v59_15 v59_16 v59_17
theorem c_szArgS (l : List Arg) (v : CV) (left : Int) (h : H) (h1 : 0 ≤ left) (h2 : left ≤ 1048576) (d : DomC h v l) : bm Tryd.prog 59 [.one v, .one (.int .i64 left)] h = some (ii (szr left (wtC l)), h) := by
  refine bm_eq cF59 ?_
  obtain ⟨rs, y⟩ := d.rd
  have k0 := d.k0
  have yl : lenO (.one v) = some (ii l.length) := by rw [y.out.len, y.len]
  by_cases e : left - (l.length : Int) < 0
  · simp +contextual (maxSteps := 2000000) only [go_sem, Nat.reduceEqDiff, reduceCtorEq, Nat.reduceAdd, Nat.reduceLeDiff, F59, yl, i64_sub h1 h2 k0, decide_eq_true e]
    unfold szr wtC wtL
    rw [if_pos (by omega)]
  simp +contextual (maxSteps := 2000000) only [go_sem, Nat.reduceEqDiff, reduceCtorEq, Nat.reduceAdd, Nat.reduceLeDiff, F59, yl, i64_sub h1 h2 k0, decide_eq_false e]
  refine wpC_loop (fun i T L h' => h' = h ∧ T 0 = .v (.one v) ∧ T 5 = .v (.one (.int .i64 i)) ∧ T 1 = .v (.one (.int .i64 (left - (l.length : Int) - (wsum wtEC l i : Int)))) ∧ 0 ≤ left - (l.length : Int) - (wsum wtEC l i : Int)) l.length ?_ ?_ (Nat.zero_le _) ?_
  · rintro i T L h' hi ⟨rfl, t0, t5, t1, hw⟩
    have hr : i < rs.length := by rw [y.len]; exact hi
    have hm := List.getElem_mem hi
    have e2 := wsum_next (f := wtEC) hi
    have e3 := wsum_le (f := wtEC) (l := l) (show i + 1 ≤ l.length by omega)
    have ye := y.el i hr
    rw [getC_eq hi] at ye
    have e1 := c_szEC rs[i] l[i] (left - (l.length : Int) - (wsum wtEC l i : Int)) h' hw (by omega) ye (d.el _ hm)
    by_cases e4 : left - (l.length : Int) - (wsum wtEC l i : Int) - (wtEC l[i] : Int) < 0
    · simp +contextual (maxSteps := 2000000) only [go_sem, Nat.reduceEqDiff, reduceCtorEq, Nat.reduceAdd, Nat.reduceLeDiff, t0, t1, t5, yl, y.out.iaddr hr, y.out.whole hr, e1, lt_true hi, decide_eq_true (szr_lt.2 e4)]
      unfold szr wtC wtL
      rw [if_pos (by omega)]
    · simp +contextual (maxSteps := 2000000) only [go_sem, Nat.reduceEqDiff, reduceCtorEq, Nat.reduceAdd, Nat.reduceLeDiff, t0, t1, t5, yl, y.out.iaddr hr, y.out.whole hr, e1, lt_true hi, decide_eq_false (show ¬ szr (left - (l.length : Int) - (wsum wtEC l i : Int)) (wtEC l[i]) < 0 by rw [szr_lt]; exact e4)]
      have e5 : szr (left - (l.length : Int) - (wsum wtEC l i : Int)) (wtEC l[i]) = left - (l.length : Int) - (wsum wtEC l (i + 1) : Int) := by
        unfold szr
        rw [if_neg e4, e2]
        omega
      rw [wrap_next hi (by omega), e5]
      exact ⟨rfl, rfl, by omega⟩
  · rintro T L h' ⟨rfl, t0, t5, t1, hw⟩
    simp +contextual (maxSteps := 2000000) only [go_sem, Nat.reduceEqDiff, reduceCtorEq, Nat.reduceAdd, Nat.reduceLeDiff, t0, t1, t5, yl, lt_false]
    unfold szr wtC wtL
    rw [if_neg (by omega)]
    rw [show left - (l.length : Int) - (wsum wtEC l l.length : Int) = left - ((l.length + wsum wtEC l l.length : Nat) : Int) by omega]
  · simp +contextual (maxSteps := 2000000) only [go_sem, Nat.reduceEqDiff, reduceCtorEq, Nat.reduceAdd, Nat.reduceLeDiff, wsum_zero]
    (repeat' (first | refine And.intro ?_ ?_ | intro _)) <;> first | rfl | (simp; done) | (simp; omega)
/-! laws.toArg -/
def L97_0 : List AStep := [⟨.box 131 (.t 0), (some 1), none, []⟩, ⟨.alloc 99 [(.int .i64 0), (.str (strOfNums [])), (.sl none 0 (some 0)), (.sl none 0 (some 0))], (some 2), none, []⟩]
theorem v97_0 : VS L97_0.eq_1 := rfl
def L97_1 : List AStep := [⟨.alloc 99 [(.int .i64 0), (.str (strOfNums [])), (.sl none 0 (some 0)), (.sl none 0 (some 0))], (some 3), none, []⟩]
theorem v97_1 : VS L97_1.eq_1 := rfl
def L97_2 : List AStep := [⟨.faddr 0 (.t 3), (some 6), none, []⟩, ⟨.store 1 (.t 6) (.t 5), none, none, []⟩]
theorem v97_2 : VS L97_2.eq_1 := rfl
def L97_3 : List AStep := ⟨.faddr 0 (.t 1), (some 4), none, []⟩ :: ⟨.load 1 false (.t 4), (some 5), none, []⟩ :: L97_2
theorem v97_3 : VS L97_3.eq_1 := rfl
def L97_4 : List AStep := [⟨.faddr 1 (.t 3), (some 9), none, []⟩, ⟨.store 1 (.t 9) (.t 8), none, none, []⟩]
theorem v97_4 : VS L97_4.eq_1 := rfl
def L97_5 : List AStep := ⟨.faddr 1 (.t 1), (some 7), none, []⟩ :: ⟨.load 1 false (.t 7), (some 8), none, []⟩ :: L97_4
theorem v97_5 : VS L97_5.eq_1 := rfl
def L97_6 : List AStep := [⟨.store 1 (.t 13) (.t 12), none, none, []⟩]
theorem v97_6 : VS L97_6.eq_1 := rfl
def L97_7 : List AStep := ⟨.call 121 [(.t 11)], (some 12), none, []⟩ :: ⟨.faddr 2 (.t 3), (some 13), none, []⟩ :: L97_6
theorem v97_7 : VS L97_7.eq_1 := rfl
def L97_8 : List AStep := ⟨.faddr 2 (.t 1), (some 10), none, []⟩ :: ⟨.load 1 false (.t 10), (some 11), none, []⟩ :: L97_7
theorem v97_8 : VS L97_8.eq_1 := rfl
def L97_9 : List AStep := [⟨.store 1 (.t 17) (.t 16), none, none, []⟩]
theorem v97_9 : VS L97_9.eq_1 := rfl
def L97_10 : List AStep := ⟨.call 122 [(.t 15)], (some 16), none, []⟩ :: ⟨.faddr 3 (.t 3), (some 17), none, []⟩ :: L97_9
theorem v97_10 : VS L97_10.eq_1 := rfl
def L97_11 : List AStep := ⟨.faddr 3 (.t 1), (some 14), none, []⟩ :: ⟨.load 1 false (.t 14), (some 15), none, []⟩ :: L97_10
theorem v97_11 : VS L97_11.eq_1 := rfl
def L97_12 : List AStep := [⟨.load 4 true (.t 3), (some 18), none, []⟩, ⟨.store 4 (.t 2) (.t 18), none, none, []⟩]
theorem v97_12 : VS L97_12.eq_1 := rfl
def C97_0 : ACode := .seq (.reg L97_12) .ret
theorem u97_0 : VC C97_0.eq_1 := rfl
def C97_1 : ACode := .seq (.reg L97_11) C97_0
theorem u97_1 : VC C97_1.eq_1 := rfl
def C97_2 : ACode := .seq (.reg L97_8) C97_1
theorem u97_2 : VC C97_2.eq_1 := rfl
def C97_3 : ACode := .seq (.reg L97_5) C97_2
theorem u97_3 : VC C97_3.eq_1 := rfl
def C97_4 : ACode := .seq (.reg L97_3) C97_3
theorem u97_4 : VC C97_4.eq_1 := rfl
def C97_5 : ACode := .seq (.reg L97_1) C97_4
theorem u97_5 : VC C97_5.eq_1 := rfl
def C97_6 : ACode := .seq (.reg L97_0) C97_5
theorem u97_6 : VC C97_6.eq_1 := rfl
def F97 : AFunc := ⟨19, [.cell 2 4 true], C97_6⟩
theorem cF97 : compB Tryd.prog 97 = some F97 := by kernel_rfl
attribute [local go_sem ↓] u97_0 u97_1 u97_2 u97_3 u97_4 u97_5 u97_6 v97_0 v97_1 v97_2 v97_3 v97_4 v97_5 v97_6 v97_7 v97_8 v97_9 v97_10 v97_11 v97_12
theorem c_toEC (r : RArg) (a : Arg) (h : H) (y : AtC 3 171 h r a) (m : a.list.length ≤ 1048576 ∧ a.pairs.length ≤ 1048576) : callK (bm Tryd.prog 97 [.agg (encC r)] h) fun q h' => Grow h h' ∧ ∃ u : RArg, q = .agg (encC u) ∧ NtC h h' u a ∧ SepC u.lv u.pv := by
  refine bm_of cF97 ?_
  simp +contextual (maxSteps := 2000000) only [go_sem, Nat.reduceEqDiff, reduceCtorEq, Nat.reduceAdd, Nat.reduceLeDiff, F97, encC]
  refine wp_call (c_toIntS a.list _ h y.list m.1) ?_
  rintro q h1 ⟨g1, n1⟩
  obtain ⟨c, rfl⟩ := n1.one
  simp +contextual (maxSteps := 2000000) only [go_sem, Nat.reduceEqDiff, reduceCtorEq, Nat.reduceAdd, Nat.reduceLeDiff]
  refine wp_call (c_toPairS a.pairs _ h1 (y.pairs.grow g1) m.2) ?_
  rintro q h2 ⟨g2, n2⟩
  obtain ⟨d, rfl⟩ := n2.one
  simp +contextual (maxSteps := 2000000) only [go_sem, Nat.reduceEqDiff, reduceCtorEq, Nat.reduceAdd, Nat.reduceLeDiff]
  have z : NtC h h2 ⟨r.kind, r.name, c, d⟩ a := ⟨y.kind, y.name, n1.grow g2, n2.from g1.n⟩
  exact gcK_of ⟨g1.trans g2, ⟨r.kind, r.name, c, d⟩, rfl, z, n1.apart n2⟩ (fun hs _ => by
    simp only [AV.scalar, List.all_cons, List.all_nil, Bool.and_true, Bool.and_eq_true] at hs
    exact ⟨Grow.refl h, ⟨r.kind, r.name, c, d⟩, rfl, ⟨y.kind, y.name, z.list.scalar (by simpa [AV.scalar] using hs.2.2.1) h, z.pairs.scalar (by simpa [AV.scalar] using hs.2.2.2) h⟩, n1.apart n2⟩)
/-! laws.toArgS -/
def L62_0 : List AStep := [⟨.mov (.c (.sl none 0 (some 0))), (some 2), none, []⟩]
theorem v62_0 : VS L62_0.eq_1 := rfl
def L62_1 : List AStep := [⟨.mkslice 99 72 [(.int .i64 0), (.str (strOfNums [])), (.sl none 0 (some 0)), (.sl none 0 (some 0))] (.t 6) (.t 6), (some 7), none, []⟩, ⟨.mov (.t 7), (some 3), none, []⟩]
theorem v62_1 : VS L62_1.eq_1 := rfl
def L62_2 : List AStep := ⟨.mov (.t 0), (some 5), none, []⟩ :: ⟨.len (.t 5), (some 6), none, []⟩ :: L62_1
theorem v62_2 : VS L62_2.eq_1 := rfl
def L62_3 : List AStep := [⟨.mov (.c (.int .i64 0)), (some 4), none, []⟩]
theorem v62_3 : VS L62_3.eq_1 := rfl
def L62_4 : List AStep := [⟨.len (.t 9), (some 10), none, []⟩, ⟨.bin .lss (.t 8) (.t 10), (some 11), none, []⟩]
theorem v62_4 : VS L62_4.eq_1 := rfl
def L62_5 : List AStep := ⟨.mov (.t 4), (some 8), none, []⟩ :: ⟨.mov (.t 0), (some 9), none, []⟩ :: L62_4
theorem v62_5 : VS L62_5.eq_1 := rfl
def L62_6 : List AStep := [⟨.store 4 (.t 21) (.t 20), none, none, []⟩]
theorem v62_6 : VS L62_6.eq_1 := rfl
def L62_7 : List AStep := ⟨.call 97 [(.t 19)], (some 20), none, []⟩ :: ⟨.iaddr 4 (.t 14) (.t 15), (some 21), none, []⟩ :: L62_6
theorem v62_7 : VS L62_7.eq_1 := rfl
def L62_8 : List AStep := ⟨.iaddr 4 (.t 16) (.t 17), (some 18), none, []⟩ :: ⟨.load 4 true (.t 18), (some 19), none, []⟩ :: L62_7
theorem v62_8 : VS L62_8.eq_1 := rfl
def L62_9 : List AStep := ⟨.mov (.t 0), (some 16), none, []⟩ :: ⟨.mov (.t 4), (some 17), none, []⟩ :: L62_8
theorem v62_9 : VS L62_9.eq_1 := rfl
def L62_10 : List AStep := ⟨.mov (.t 3), (some 14), none, []⟩ :: ⟨.mov (.t 4), (some 15), none, []⟩ :: L62_9
theorem v62_10 : VS L62_10.eq_1 := rfl
def L62_11 : List AStep := [⟨.mov (.t 13), (some 4), none, []⟩]
theorem v62_11 : VS L62_11.eq_1 := rfl
def L62_12 : List AStep := ⟨.mov (.t 4), (some 12), none, []⟩ :: ⟨.bin .add (.t 12) (.c (.int .i64 1)), (some 13), none, []⟩ :: L62_11
theorem v62_12 : VS L62_12.eq_1 := rfl
def L62_13 : List AStep := [⟨.mov (.t 3), (some 22), none, []⟩, ⟨.mov (.t 22), (some 2), none, []⟩]
theorem v62_13 : VS L62_13.eq_1 := rfl
def C62_0 : ACode := .cond (.t 11) .skip (.exit 0)
theorem u62_0 : VC C62_0.eq_1 := rfl
def C62_1 : ACode := .seq (.reg L62_5) C62_0
theorem u62_1 : VC C62_1.eq_1 := rfl
def C62_2 : ACode := .block 1 (.reg L62_10)
theorem u62_2 : VC C62_2.eq_1 := rfl
def C62_3 : ACode := .seq C62_2 (.reg L62_12)
theorem u62_3 : VC C62_3.eq_1 := rfl
def C62_4 : ACode := .seq C62_1 C62_3
theorem u62_4 : VC C62_4.eq_1 := rfl
def C62_5 : ACode := .block 0 (.loop C62_4)
theorem u62_5 : VC C62_5.eq_1 := rfl
def C62_6 : ACode := .seq (.reg L62_3) C62_5
theorem u62_6 : VC C62_6.eq_1 := rfl
def C62_7 : ACode := .seq (.reg L62_13) .ret
theorem u62_7 : VC C62_7.eq_1 := rfl
def C62_8 : ACode := .seq C62_6 C62_7
theorem u62_8 : VC C62_8.eq_1 := rfl
def C62_9 : ACode := .seq (.reg L62_2) C62_8
theorem u62_9 : VC C62_9.eq_1 := rfl
def C62_10 : ACode := .seq (.reg L62_0) C62_9
theorem u62_10 : VC C62_10.eq_1 := rfl
def F62 : AFunc := ⟨23, [.tmp 2], C62_10⟩
theorem cF62 : compB Tryd.prog 62 = some F62 := by kernel_rfl
attribute [local go_sem ↓] u62_0 u62_1 u62_2 u62_3 u62_4 u62_5 u62_6 u62_7 u62_8 u62_9 u62_10 v62_0 v62_1 v62_2 v62_3 v62_4 v62_5 v62_6 v62_7 v62_8 v62_9 v62_10 v62_11 v62_12 v62_13
theorem c_toArgS (l : List Arg) (v : CV) (h : H) (d : DomC h v l) (m : miniC l) : callK (bm Tryd.prog 62 [.one v] h) fun r h' => Grow h h' ∧ ∃ p rs, r = .one p ∧ NwC h h' p rs l := by
  refine bm_of cF62 ?_
  obtain ⟨rs, y⟩ := d.rd
  have hn := m.len
  have yl : lenO (.one v) = some (ii l.length) := by rw [y.out.len, y.len]
  simp +contextual (maxSteps := 2000000) only [go_sem, Nat.reduceEqDiff, reduceCtorEq, Nat.reduceAdd, Nat.reduceLeDiff, F62, yl]
  refine wp_make (enc := encC) (k := 4) zrC rfl (by omega) (by omega) ?_
  intro h1 o g1 n1 _
  obtain ⟨o, rfl⟩ := n1.one
  simp +contextual (maxSteps := 2000000) only [go_sem, Nat.reduceEqDiff, reduceCtorEq, Nat.reduceAdd, Nat.reduceLeDiff]
  refine wpC_loop (fun i T L h' => Grow h h' ∧ T 0 = .v (.one v) ∧ T 3 = .v (.one o) ∧ T 4 = .v (.one (.int .i64 i)) ∧ ∃ ro, NwC h h' o ro (fillL l zeC i)) l.length ?_ ?_ (Nat.zero_le _) ?_
  · rintro i T L h' hi ⟨g, t0, t3, t4, ro, no⟩
    have y := y.grow g
    have hr : i < rs.length := by rw [y.len]; exact hi
    have hm := List.getElem_mem hi
    have ye := y.el i hr
    rw [getC_eq hi] at ye
    have hio : i < ro.length := by rw [no.out.len, fillL_len (by omega)]; exact hi
    simp +contextual (maxSteps := 2000000) only [go_sem, Nat.reduceEqDiff, reduceCtorEq, Nat.reduceAdd, Nat.reduceLeDiff, t0, t3, t4, yl, y.out.iaddr hr, y.out.whole hr, lt_true hi]
    refine wp_call (c_toEC rs[i] l[i] h' ye ⟨m.list _ hm, m.pairs _ hm⟩) ?_
    rintro q h2 ⟨g2, u, rfl, nu, su⟩
    simp +contextual (maxSteps := 2000000) only [go_sem, Nat.reduceEqDiff, reduceCtorEq, Nat.reduceAdd, Nat.reduceLeDiff, t0, t3, t4, no.out.out.iaddr hio]
    refine wp_setE (x := u) lenC (no.out.out.grow g2) hio rfl rfl (g.trans g2) ?_
    intro h3 g3 n3 s3
    simp +contextual (maxSteps := 2000000) only [go_sem, Nat.reduceEqDiff, reduceCtorEq, Nat.reduceAdd, Nat.reduceLeDiff, t0, t3, t4]
    have z := no.put hio g2 nu su n3 s3 g.n
    rw [fillL_set hi] at z
    exact ⟨g3, by rw [wrap_next hi (by omega)], _, z⟩
  · rintro T L h' ⟨g, t0, t3, t4, ro, no⟩
    simp +contextual (maxSteps := 2000000) only [go_sem, Nat.reduceEqDiff, reduceCtorEq, Nat.reduceAdd, Nat.reduceLeDiff, t0, t3, t4, yl, lt_false]
    rw [fillL_all] at no
    exact gcK_of ⟨g, _, _, rfl, no⟩ (fun hs _ => ⟨Grow.refl h, _, _, rfl, no.scalar (by simpa [AV.scalar] using hs) h⟩)
  · simp +contextual (maxSteps := 2000000) only [go_sem, Nat.reduceEqDiff, reduceCtorEq, Nat.reduceAdd, Nat.reduceLeDiff]
    exact ⟨g1, rfl, _, by rw [fillL_zero]; exact .zeros n1⟩
/-! laws.szCall -/
def L30_0 : List AStep := [⟨.box 63 (.t 0), (some 2), none, []⟩, ⟨.mov (.c (.int .i64 0)), (some 4), none, []⟩]
theorem v30_0 : VS L30_0.eq_1 := rfl
def L30_1 : List AStep := [⟨.mov (.t 8), (some 1), none, []⟩]
theorem v30_1 : VS L30_1.eq_1 := rfl
def L30_2 : List AStep := ⟨.mov (.t 1), (some 7), none, []⟩ :: ⟨.call 59 [(.t 6), (.t 7)], (some 8), none, []⟩ :: L30_1
theorem v30_2 : VS L30_2.eq_1 := rfl
def L30_3 : List AStep := ⟨.faddr 0 (.t 2), (some 5), none, []⟩ :: ⟨.load 1 false (.t 5), (some 6), none, []⟩ :: L30_2
theorem v30_3 : VS L30_3.eq_1 := rfl
def L30_4 : List AStep := [⟨.mov (.t 1), (some 9), none, []⟩, ⟨.bin .lss (.t 9) (.c (.int .i64 0)), (some 10), none, []⟩]
theorem v30_4 : VS L30_4.eq_1 := rfl
def L30_5 : List AStep := [⟨.mov (.c (.int .i64 (-1))), (some 4), none, []⟩]
theorem v30_5 : VS L30_5.eq_1 := rfl
def L30_6 : List AStep := [⟨.mov (.t 1), (some 11), none, []⟩, ⟨.mov (.t 11), (some 4), none, []⟩]
theorem v30_6 : VS L30_6.eq_1 := rfl
def C30_0 : ACode := .seq (.reg L30_5) .ret
theorem u30_0 : VC C30_0.eq_1 := rfl
def C30_1 : ACode := .cond (.t 10) C30_0 .skip
theorem u30_1 : VC C30_1.eq_1 := rfl
def C30_2 : ACode := .seq (.reg L30_4) C30_1
theorem u30_2 : VC C30_2.eq_1 := rfl
def C30_3 : ACode := .seq (.reg L30_6) .ret
theorem u30_3 : VC C30_3.eq_1 := rfl
def C30_4 : ACode := .seq C30_2 C30_3
theorem u30_4 : VC C30_4.eq_1 := rfl
def C30_5 : ACode := .seq (.reg L30_3) C30_4
theorem u30_5 : VC C30_5.eq_1 := rfl
def C30_6 : ACode := .seq (.reg L30_0) C30_5
theorem u30_6 : VC C30_6.eq_1 := rfl
def F30 : AFunc := ⟨12, [.tmp 4], C30_6⟩
theorem cF30 : compB Tryd.prog 30 = some F30 := by kernel_rfl
attribute [local go_sem ↓] u30_0 u30_1 u30_2 u30_3 u30_4 u30_5 u30_6 v30_0 v30_1 v30_2 v30_3 v30_4 v30_5 v30_6
theorem k_szC (x : List Arg) (p : CV) (left : Int) (h : H) (h1 : 0 ≤ left) (h2 : left ≤ 1048576) (d : DomC h p x) : bm Tryd.prog 30 [.agg [p], .one (.int .i64 left)] h = some (ii (szr left (wtC x)), h) := by
  refine bm_eq cF30 ?_
  have e := c_szArgS x p left h h1 h2 d
  by_cases b : szr left (wtC x) < 0
  · simp +contextual (maxSteps := 2000000) only [go_sem, Nat.reduceEqDiff, reduceCtorEq, Nat.reduceAdd, Nat.reduceLeDiff, F30, e, decide_eq_true b]
    rw [szr_m1 b]
  · simp +contextual (maxSteps := 2000000) only [go_sem, Nat.reduceEqDiff, reduceCtorEq, Nat.reduceAdd, Nat.reduceLeDiff, F30, e, decide_eq_false b]
/-! laws.toCall -/
def L32_0 : List AStep := [⟨.box 63 (.t 0), (some 1), none, []⟩, ⟨.alloc 68 [(.sl none 0 (some 0))], (some 2), none, []⟩]
theorem v32_0 : VS L32_0.eq_1 := rfl
def L32_1 : List AStep := [⟨.alloc 68 [(.sl none 0 (some 0))], (some 3), none, []⟩]
theorem v32_1 : VS L32_1.eq_1 := rfl
def L32_2 : List AStep := [⟨.store 1 (.t 7) (.t 6), none, none, []⟩]
theorem v32_2 : VS L32_2.eq_1 := rfl
def L32_3 : List AStep := ⟨.call 62 [(.t 5)], (some 6), none, []⟩ :: ⟨.faddr 0 (.t 3), (some 7), none, []⟩ :: L32_2
theorem v32_3 : VS L32_3.eq_1 := rfl
def L32_4 : List AStep := ⟨.faddr 0 (.t 1), (some 4), none, []⟩ :: ⟨.load 1 false (.t 4), (some 5), none, []⟩ :: L32_3
theorem v32_4 : VS L32_4.eq_1 := rfl
def L32_5 : List AStep := [⟨.load 1 true (.t 3), (some 8), none, []⟩, ⟨.store 1 (.t 2) (.t 8), none, none, []⟩]
theorem v32_5 : VS L32_5.eq_1 := rfl
def C32_0 : ACode := .seq (.reg L32_5) .ret
theorem u32_0 : VC C32_0.eq_1 := rfl
def C32_1 : ACode := .seq (.reg L32_4) C32_0
theorem u32_1 : VC C32_1.eq_1 := rfl
def C32_2 : ACode := .seq (.reg L32_1) C32_1
theorem u32_2 : VC C32_2.eq_1 := rfl
def C32_3 : ACode := .seq (.reg L32_0) C32_2
theorem u32_3 : VC C32_3.eq_1 := rfl
def F32 : AFunc := ⟨9, [.cell 2 1 true], C32_3⟩
theorem cF32 : compB Tryd.prog 32 = some F32 := by kernel_rfl
attribute [local go_sem ↓] u32_0 u32_1 u32_2 u32_3 v32_0 v32_1 v32_2 v32_3 v32_4 v32_5
theorem k_toC (x : List Arg) (p : CV) (h : H) (d : DomC h p x) (m : miniC x) : callK (bm Tryd.prog 32 [.agg [p]] h) fun r h' => Grow h h' ∧ ∃ p' R, r = .agg [p'] ∧ NwC h h' p' R x := by
  refine bm_of cF32 ?_
  simp +contextual (maxSteps := 2000000) only [go_sem, Nat.reduceEqDiff, reduceCtorEq, Nat.reduceAdd, Nat.reduceLeDiff, F32]
  refine wp_call (c_toArgS x p h d m) ?_
  rintro r h1 ⟨g1, p', R, rfl, n1⟩
  simp +contextual (maxSteps := 2000000) only [go_sem, Nat.reduceEqDiff, reduceCtorEq, Nat.reduceAdd, Nat.reduceLeDiff]
  exact gcK_of ⟨g1, _, _, rfl, n1⟩ (fun hs _ => ⟨Grow.refl h, _, _, rfl, n1.scalar (by simpa [AV.scalar] using hs) h⟩)
def wtEV (a : Sg) : Nat := wtL wtQ a.params
def wtV (l : List Sg) : Nat := wtL wtEV l
theorem getV_set {l : List Sg} {i j : Nat} {a : Sg} (hj : j < l.length) : updV (getV l) i a j = getV (l.set i a) j := by
  unfold updV getV
  by_cases e : j = i
  · subst e; rw [if_pos rfl, List.getElem?_set_self hj]; rfl
  · rw [if_neg e, List.getElem?_set_ne (Ne.symm e)]
theorem OwV.put {h0 h h1 h2 : H} {v : CV} {rs : List RSg} {n : Nat} {f : Nat → Sg} (x : OwV h0 h v rs n f) {i : Nat} (hi : i < rs.length) {r : RSg} {a : Sg} (g : Grow h h1) (y : NtV h h1 r a) 
    (o : Nw encV 1 38 h0 h2 (.one v) (rs.set i r)) (st : Stay (.one v) h1 h2) (hg : h0.n ≤ h.n) : OwV h0 h2 v (rs.set i r) n (updV f i a) := by
  have vb : ∀ i, baseOf (.one v) = some i → i < h.n := fun i hi => (x.out.lt hi).1
  have bqv : ∀ i (hi : i < rs.length) j, baseOf (.one rs[i].qv) = some j → j < h.n := fun i hi j hj => ((x.el i hi).params.lt hj).1
  have nqv : ∀ j, baseOf (.one r.qv) = some j → h.n ≤ j := fun j hj => (y.params.lt hj).2
  refine ⟨o, by simp [x.len], fun j hj => ?_, fun j hj => ?_, fun j k hj hk hjk => ?_⟩
  · rcases setR j hj with ⟨e, e2⟩ | ⟨e, hk, e2⟩
    · rw [e2, show updV f i a j = a from if_pos e]
      have z := y.from hg
      exact ⟨z.params.stay st (Sep.new vb nqv).symm⟩
    · rw [e2, show updV f i a j = f j from if_neg e]
      have z := (x.el j hk).grow g
      exact ⟨z.params.stay st (x.vqv j hk).symm⟩
  · rcases setR j hj with ⟨e, e2⟩ | ⟨e, hk, e2⟩
    · rw [e2]; exact Sep.new vb nqv
    · rw [e2]; exact x.vqv j hk
  · rcases setR j hj with ⟨e, e2⟩ | ⟨e, hj2, e2⟩ <;> rcases setR k hk with ⟨d, d2⟩ | ⟨d, hk2, d2⟩
    · omega
    · rw [e2, d2]; exact (Sep.new (bqv k hk2) nqv).symm
    · rw [e2, d2]; exact Sep.new (bqv j hj2) nqv
    · rw [e2, d2]; exact x.oqvqv j k hj2 hk2 hjk
def zrV : RSg := ⟨.sl none 0 (some 0)⟩
def zeV : Sg := ⟨[]⟩
theorem NwV.zeros {h0 h : H} {v : CV} {n : Nat} (x : Nw encV 1 38 h0 h (.one v) (List.replicate n zrV)) : NwV h0 h v (List.replicate n zrV) (List.replicate n zeV) := by
  refine ⟨⟨x, by simp, fun i hi => ?_, fun i hi => ?_, fun i j hi hj hij => ?_⟩⟩
  · have hi2 : i < (List.replicate n zeV).length := by simpa using hi
    rw [getV_eq hi2, List.getElem_replicate, List.getElem_replicate]
    exact ⟨.nil⟩
  all_goals simp only [List.getElem_replicate]
  · exact Sep.nil.symm
  · exact Sep.nil
theorem NwV.put {h0 h h1 h2 : H} {v : CV} {rs : List RSg} {l : List Sg} (x : NwV h0 h v rs l) {i : Nat} (hi : i < rs.length) {r : RSg} {a : Sg} (g : Grow h h1) (y : NtV h h1 r a) 
    (o : Nw encV 1 38 h0 h2 (.one v) (rs.set i r)) (st : Stay (.one v) h1 h2) (hg : h0.n ≤ h.n) : NwV h0 h2 v (rs.set i r) (l.set i a) := by
  have := (x.out.put hi g y  o st hg).congr (g := getV (l.set i a)) fun j hj => getV_set hj
  rw [show l.length = (l.set i a).length by simp] at this
  exact ⟨this⟩
theorem wtV_sm {l : List Sg} (h : wtV l ≤ 1048576) : miniV l := by
  unfold wtV at h
  have h1 : ∀ a ∈ l, wtEV a ≤ 1048576 := fun a ha => by have := wtL_mem (g := wtEV) ha; omega
  exact ⟨by unfold wtL at h; omega, fun a ha => by have := h1 a ha; unfold wtEV wtL at this; omega, fun a ha x hx => by have := h1 a ha; unfold wtEV at this; have := wtL_mem (g := wtQ) hx; unfold wtQ at this; unfold wtQ at *; omega, by
    have := wsum_c (f := cellsEV) (g := wtEV) (c := 4) (l := l) (fun a ha => by unfold cellsEV wtEV wtL; omega)
    unfold cellsV
    omega⟩
theorem c_szEV (r : RSg) (a : Sg) (left : Int) (h : H) (h1 : 0 ≤ left) (h2 : left ≤ 1048576) (y : AtV 113 h r a) (k : a.params.length ≤ far ∧ ∀ x ∈ a.params, x.name.size ≤ far) : bm Tryd.prog 14 [.agg (encV r), .one (.int .i64 left)] h = some (ii (szr left (wtEV a)), h) := c_szSignature a.params r.qv left h h1 h2 y.params k.1 k.2
theorem c_toEV (r : RSg) (a : Sg) (h : H) (y : AtV 113 h r a) (m : a.params.length ≤ 1048576) : callK (bm Tryd.prog 16 [.agg (encV r)] h) fun q h' => Grow h h' ∧ ∃ u : RSg, q = .agg (encV u) ∧ NtV h h' u a := by
  obtain ⟨q, h1, e, g, p, rfl, n⟩ := c_to1G a.params r.qv h y.params m
  exact ⟨_, h1, e, g, ⟨p⟩, rfl, ⟨n⟩⟩
def wtEW (a : Func) : Nat := a.name.size + wtL wtQ a.params
def wtW (l : List Func) : Nat := wtL wtEW l
theorem getW_set {l : List Func} {i j : Nat} {a : Func} (hj : j < l.length) : updW (getW l) i a j = getW (l.set i a) j := by
  unfold updW getW
  by_cases e : j = i
  · subst e; rw [if_pos rfl, List.getElem?_set_self hj]; rfl
  · rw [if_neg e, List.getElem?_set_ne (Ne.symm e)]
theorem OwW.put {h0 h h1 h2 : H} {v : CV} {rs : List RFunc} {n : Nat} {f : Nat → Func} (x : OwW h0 h v rs n f) {i : Nat} (hi : i < rs.length) {r : RFunc} {a : Func} (g : Grow h h1) (y : NtW h h1 r a) 
    (o : Nw encW 2 48 h0 h2 (.one v) (rs.set i r)) (st : Stay (.one v) h1 h2) (hg : h0.n ≤ h.n) : OwW h0 h2 v (rs.set i r) n (updW f i a) := by
  have vb : ∀ i, baseOf (.one v) = some i → i < h.n := fun i hi => (x.out.lt hi).1
  have bqv : ∀ i (hi : i < rs.length) j, baseOf (.one rs[i].qv) = some j → j < h.n := fun i hi j hj => ((x.el i hi).params.lt hj).1
  have nqv : ∀ j, baseOf (.one r.qv) = some j → h.n ≤ j := fun j hj => (y.params.lt hj).2
  refine ⟨o, by simp [x.len], fun j hj => ?_, fun j hj => ?_, fun j k hj hk hjk => ?_⟩
  · rcases setR j hj with ⟨e, e2⟩ | ⟨e, hk, e2⟩
    · rw [e2, show updW f i a j = a from if_pos e]
      have z := y.from hg
      exact ⟨z.name, z.params.stay st (Sep.new vb nqv).symm⟩
    · rw [e2, show updW f i a j = f j from if_neg e]
      have z := (x.el j hk).grow g
      exact ⟨z.name, z.params.stay st (x.vqv j hk).symm⟩
  · rcases setR j hj with ⟨e, e2⟩ | ⟨e, hk, e2⟩
    · rw [e2]; exact Sep.new vb nqv
    · rw [e2]; exact x.vqv j hk
  · rcases setR j hj with ⟨e, e2⟩ | ⟨e, hj2, e2⟩ <;> rcases setR k hk with ⟨d, d2⟩ | ⟨d, hk2, d2⟩
    · omega
    · rw [e2, d2]; exact (Sep.new (bqv k hk2) nqv).symm
    · rw [e2, d2]; exact Sep.new (bqv j hj2) nqv
    · rw [e2, d2]; exact x.oqvqv j k hj2 hk2 hjk
def zrW : RFunc := ⟨strOfNums [], .sl none 0 (some 0)⟩
def zeW : Func := ⟨strOfNums [], []⟩
theorem NwW.zeros {h0 h : H} {v : CV} {n : Nat} (x : Nw encW 2 48 h0 h (.one v) (List.replicate n zrW)) : NwW h0 h v (List.replicate n zrW) (List.replicate n zeW) := by
  refine ⟨⟨x, by simp, fun i hi => ?_, fun i hi => ?_, fun i j hi hj hij => ?_⟩⟩
  · have hi2 : i < (List.replicate n zeW).length := by simpa using hi
    rw [getW_eq hi2, List.getElem_replicate, List.getElem_replicate]
    exact ⟨rfl, .nil⟩
  all_goals simp only [List.getElem_replicate]
  · exact Sep.nil.symm
  · exact Sep.nil
theorem NwW.put {h0 h h1 h2 : H} {v : CV} {rs : List RFunc} {l : List Func} (x : NwW h0 h v rs l) {i : Nat} (hi : i < rs.length) {r : RFunc} {a : Func} (g : Grow h h1) (y : NtW h h1 r a) 
    (o : Nw encW 2 48 h0 h2 (.one v) (rs.set i r)) (st : Stay (.one v) h1 h2) (hg : h0.n ≤ h.n) : NwW h0 h2 v (rs.set i r) (l.set i a) := by
  have := (x.out.put hi g y  o st hg).congr (g := getW (l.set i a)) fun j hj => getW_set hj
  rw [show l.length = (l.set i a).length by simp] at this
  exact ⟨this⟩
theorem wtW_sm {l : List Func} (h : wtW l ≤ 1048576) : miniW l := by
  unfold wtW at h
  have h1 : ∀ a ∈ l, wtEW a ≤ 1048576 := fun a ha => by have := wtL_mem (g := wtEW) ha; omega
  exact ⟨by unfold wtL at h; omega, fun a ha => by have := h1 a ha; unfold wtEW at this; omega, fun a ha => by have := h1 a ha; unfold wtEW wtL at this; omega, fun a ha x hx => by have := h1 a ha; unfold wtEW at this; have := wtL_mem (g := wtQ) hx; unfold wtQ at this; unfold wtQ at *; omega, by
    have := wsum_c (f := cellsEW) (g := wtEW) (c := 4) (l := l) (fun a ha => by unfold cellsEW wtEW wtL; omega)
    unfold cellsW
    omega⟩
theorem dEW {h : H} {m : Nat} (cs : List CV) (hk : okA Tryd.prog h (m + 5) 51 cs) : ∃ r : RFunc, cs = encW r ∧ ∃ a : Func, AtW 113 h r a ∧ (a.name.size ≤ far ∧ a.params.length ≤ far ∧ ∀ x ∈ a.params, x.name.size ≤ far) := by
  have hk := okA_struct Tryd.underlying51 hk
  obtain ⟨a, r, rfl, h1, hk⟩ := okF_cons hk
  obtain ⟨b, r, rfl, h2, hk⟩ := okF_cons hk
  obtain rfl := okF_nil hk
  obtain ⟨s, rfl, k0⟩ := dText _ h1
  have h3 := okA_struct Tryd.underlying33 h2
  obtain ⟨b, r, rfl, h4, h5⟩ := okF_cons h3
  obtain rfl := okF_nil h5
  obtain ⟨p, l, rfl, s1, k1, k2⟩ := okA_list lenQ Tryd.underlying31 (by kernel_rfl) dParam h4
  exact ⟨⟨s, p⟩, rfl, ⟨s, l⟩, ⟨rfl, s1⟩, k0, k1, k2⟩
attribute [local go_sem] loadL_agg
/-! laws.szFunc -/
def L23_0 : List AStep := [⟨.box 51 (.t 0), (some 2), none, []⟩, ⟨.mov (.c (.int .i64 0)), (some 4), none, []⟩]
theorem v23_0 : VS L23_0.eq_1 := rfl
def L23_1 : List AStep := [⟨.bin .sub (.t 5) (.t 8), (some 9), none, []⟩, ⟨.mov (.t 9), (some 1), none, []⟩]
theorem v23_1 : VS L23_1.eq_1 := rfl
def L23_2 : List AStep := ⟨.load 1 false (.t 6), (some 7), none, []⟩ :: ⟨.lenStr (.t 7), (some 8), none, []⟩ :: L23_1
theorem v23_2 : VS L23_2.eq_1 := rfl
def L23_3 : List AStep := ⟨.mov (.t 1), (some 5), none, []⟩ :: ⟨.faddr 0 (.t 2), (some 6), none, []⟩ :: L23_2
theorem v23_3 : VS L23_3.eq_1 := rfl
def L23_4 : List AStep := [⟨.mov (.t 1), (some 10), none, []⟩, ⟨.bin .lss (.t 10) (.c (.int .i64 0)), (some 11), none, []⟩]
theorem v23_4 : VS L23_4.eq_1 := rfl
def L23_5 : List AStep := [⟨.mov (.c (.int .i64 (-1))), (some 4), none, []⟩]
theorem v23_5 : VS L23_5.eq_1 := rfl
def L23_6 : List AStep := [⟨.mov (.t 15), (some 1), none, []⟩]
theorem v23_6 : VS L23_6.eq_1 := rfl
def L23_7 : List AStep := ⟨.mov (.t 1), (some 14), none, []⟩ :: ⟨.call 14 [(.t 13), (.t 14)], (some 15), none, []⟩ :: L23_6
theorem v23_7 : VS L23_7.eq_1 := rfl
def L23_8 : List AStep := ⟨.faddr 1 (.t 2), (some 12), none, []⟩ :: ⟨.load 1 true (.t 12), (some 13), none, []⟩ :: L23_7
theorem v23_8 : VS L23_8.eq_1 := rfl
def L23_9 : List AStep := [⟨.mov (.t 1), (some 16), none, []⟩, ⟨.bin .lss (.t 16) (.c (.int .i64 0)), (some 17), none, []⟩]
theorem v23_9 : VS L23_9.eq_1 := rfl
def L23_10 : List AStep := [⟨.mov (.c (.int .i64 (-1))), (some 4), none, []⟩]
theorem v23_10 : VS L23_10.eq_1 := rfl
def L23_11 : List AStep := [⟨.mov (.t 1), (some 18), none, []⟩, ⟨.mov (.t 18), (some 4), none, []⟩]
theorem v23_11 : VS L23_11.eq_1 := rfl
def C23_0 : ACode := .seq (.reg L23_5) .ret
theorem u23_0 : VC C23_0.eq_1 := rfl
def C23_1 : ACode := .cond (.t 11) C23_0 .skip
theorem u23_1 : VC C23_1.eq_1 := rfl
def C23_2 : ACode := .seq (.reg L23_4) C23_1
theorem u23_2 : VC C23_2.eq_1 := rfl
def C23_3 : ACode := .seq (.reg L23_10) .ret
theorem u23_3 : VC C23_3.eq_1 := rfl
def C23_4 : ACode := .cond (.t 17) C23_3 .skip
theorem u23_4 : VC C23_4.eq_1 := rfl
def C23_5 : ACode := .seq (.reg L23_9) C23_4
theorem u23_5 : VC C23_5.eq_1 := rfl
def C23_6 : ACode := .seq (.reg L23_11) .ret
theorem u23_6 : VC C23_6.eq_1 := rfl
def C23_7 : ACode := .seq C23_5 C23_6
theorem u23_7 : VC C23_7.eq_1 := rfl
def C23_8 : ACode := .seq (.reg L23_8) C23_7
theorem u23_8 : VC C23_8.eq_1 := rfl
def C23_9 : ACode := .seq C23_2 C23_8
theorem u23_9 : VC C23_9.eq_1 := rfl
def C23_10 : ACode := .seq (.reg L23_3) C23_9
theorem u23_10 : VC C23_10.eq_1 := rfl
def C23_11 : ACode := .seq (.reg L23_0) C23_10
theorem u23_11 : VC C23_11.eq_1 := rfl
def F23 : AFunc := ⟨19, [.tmp 4], C23_11⟩
theorem cF23 : compB Tryd.prog 23 = some F23 := by kernel_rfl
attribute [local go_sem ↓] u23_0 u23_1 u23_2 u23_3 u23_4 u23_5 u23_6 u23_7 u23_8 u23_9 u23_10 u23_11 v23_0 v23_1 v23_2 v23_3 v23_4 v23_5 v23_6 v23_7 v23_8 v23_9 v23_10 v23_11
theorem c_szEW (r : RFunc) (a : Func) (left : Int) (h : H) (h1 : 0 ≤ left) (h2 : left ≤ 1048576) (y : AtW 113 h r a) (k : a.name.size ≤ far ∧ a.params.length ≤ far ∧ ∀ x ∈ a.params, x.name.size ≤ far) : bm Tryd.prog 23 [.agg (encW r), .one (.int .i64 left)] h = some (ii (szr left (wtEW a)), h) := by
  refine bm_eq cF23 ?_
  unfold wtEW
  have en : r.name = a.name := y.name
  have e0 : szr left a.name.size = if left - (a.name.size : Int) < 0 then -1 else left - (a.name.size : Int) := rfl
  by_cases b0 : left - (a.name.size : Int) < 0
  · simp +contextual (maxSteps := 2000000) only [go_sem, Nat.reduceEqDiff, reduceCtorEq, Nat.reduceAdd, Nat.reduceLeDiff, F23, encW, en, i64_sub h1 h2 k.1, decide_eq_true b0]
    rw [szr_neg (by rw [e0, if_pos b0]; omega)]
  · rw [if_neg b0] at e0
    have e1 := c_szSignature a.params r.qv (szr left a.name.size) h (by omega) (by omega) y.params k.2.1 k.2.2
    rw [szr_then (by omega)] at e1
    rw [e0] at e1
    by_cases b1 : szr left (a.name.size + wtL wtQ a.params) < 0
    · simp +contextual (maxSteps := 2000000) only [go_sem, Nat.reduceEqDiff, reduceCtorEq, Nat.reduceAdd, Nat.reduceLeDiff, F23, encW, en, i64_sub h1 h2 k.1, decide_eq_false b0, e1, decide_eq_true b1]
      have := szr_neg (b := 0) b1
      rw [Nat.add_zero] at this
      rw [this]
    · simp +contextual (maxSteps := 2000000) only [go_sem, Nat.reduceEqDiff, reduceCtorEq, Nat.reduceAdd, Nat.reduceLeDiff, F23, encW, en, i64_sub h1 h2 k.1, decide_eq_false b0, e1, decide_eq_false b1]
/-! laws.toFunc -/
def L25_0 : List AStep := [⟨.box 51 (.t 0), (some 1), none, []⟩, ⟨.alloc 48 [(.str (strOfNums [])), (.sl none 0 (some 0))], (some 2), none, []⟩]
theorem v25_0 : VS L25_0.eq_1 := rfl
def L25_1 : List AStep := [⟨.alloc 48 [(.str (strOfNums [])), (.sl none 0 (some 0))], (some 3), none, []⟩]
theorem v25_1 : VS L25_1.eq_1 := rfl
def L25_2 : List AStep := [⟨.faddr 0 (.t 3), (some 6), none, []⟩, ⟨.store 1 (.t 6) (.t 5), none, none, []⟩]
theorem v25_2 : VS L25_2.eq_1 := rfl
def L25_3 : List AStep := ⟨.faddr 0 (.t 1), (some 4), none, []⟩ :: ⟨.load 1 false (.t 4), (some 5), none, []⟩ :: L25_2
theorem v25_3 : VS L25_3.eq_1 := rfl
def L25_4 : List AStep := [⟨.store 1 (.t 10) (.t 9), none, none, []⟩]
theorem v25_4 : VS L25_4.eq_1 := rfl
def L25_5 : List AStep := ⟨.call 16 [(.t 8)], (some 9), none, []⟩ :: ⟨.faddr 1 (.t 3), (some 10), none, []⟩ :: L25_4
theorem v25_5 : VS L25_5.eq_1 := rfl
def L25_6 : List AStep := ⟨.faddr 1 (.t 1), (some 7), none, []⟩ :: ⟨.load 1 true (.t 7), (some 8), none, []⟩ :: L25_5
theorem v25_6 : VS L25_6.eq_1 := rfl
def L25_7 : List AStep := [⟨.load 2 true (.t 3), (some 11), none, []⟩, ⟨.store 2 (.t 2) (.t 11), none, none, []⟩]
theorem v25_7 : VS L25_7.eq_1 := rfl
def C25_0 : ACode := .seq (.reg L25_7) .ret
theorem u25_0 : VC C25_0.eq_1 := rfl
def C25_1 : ACode := .seq (.reg L25_6) C25_0
theorem u25_1 : VC C25_1.eq_1 := rfl
def C25_2 : ACode := .seq (.reg L25_3) C25_1
theorem u25_2 : VC C25_2.eq_1 := rfl
def C25_3 : ACode := .seq (.reg L25_1) C25_2
theorem u25_3 : VC C25_3.eq_1 := rfl
def C25_4 : ACode := .seq (.reg L25_0) C25_3
theorem u25_4 : VC C25_4.eq_1 := rfl
def F25 : AFunc := ⟨12, [.cell 2 2 true], C25_4⟩
theorem cF25 : compB Tryd.prog 25 = some F25 := by kernel_rfl
attribute [local go_sem ↓] u25_0 u25_1 u25_2 u25_3 u25_4 v25_0 v25_1 v25_2 v25_3 v25_4 v25_5 v25_6 v25_7
theorem c_toEW (r : RFunc) (a : Func) (h : H) (y : AtW 113 h r a) (m : a.params.length ≤ 1048576) : callK (bm Tryd.prog 25 [.agg (encW r)] h) fun q h' => Grow h h' ∧ ∃ u : RFunc, q = .agg (encW u) ∧ NtW h h' u a := by
  refine bm_of cF25 ?_
  simp +contextual (maxSteps := 2000000) only [go_sem, Nat.reduceEqDiff, reduceCtorEq, Nat.reduceAdd, Nat.reduceLeDiff, F25, encW]
  refine wp_call (c_to1G a.params r.qv h y.params m) ?_
  rintro q h1 ⟨g1, p, rfl, n1⟩
  simp +contextual (maxSteps := 2000000) only [go_sem, Nat.reduceEqDiff, reduceCtorEq, Nat.reduceAdd, Nat.reduceLeDiff]
  have z : NtW h h1 ⟨r.name, p⟩ a := ⟨y.name, n1⟩
  exact gcK_of ⟨g1, ⟨r.name, p⟩, rfl, z⟩ (fun hs _ => ⟨Grow.refl h, ⟨r.name, p⟩, rfl, y.name, n1.scalar (by simpa [AV.scalar, CV.scalar] using hs) h⟩)
end Go.Proofs.YtoeceafibmafpaaDoor.Am
