/- The abstract machine: from a run of the machine that gives true to the row's statement. -/
import Derived.Test.YtnphlonhogcedaaAmArgs
import Derived.HandedShaped
import Derived.OpenShut
namespace Go.Proofs.Ytnphlonhogcedaa.Am
open Go Go.RowKit Go.ChangeShapes Go.WideShapes Go.ChangeAt

def okV (P : Program) (h : H) (m : Nat) (t : TypeId) : AV → Prop
  | .one c => isAggT P t = some false ∧ okA P h m t [c]
  | .agg cs => isAggT P t = some true ∧ okA P h m t cs
  | .tup _ => False
def okVs (P : Program) (h : H) (m : Nat) : List TypeId → List AV → Prop
  | [], [] => True
  | t :: ts, v :: vs => okV P h m t v ∧ okVs P h m ts vs
  | _, _ => False
theorem okV_grow {P : Program} {h h' : H} (g : Grow h h') {m : Nat} {t : TypeId} {v : AV} (hv : okV P h m t v) : okV P h' m t v := by
  cases v with
  | one c => exact ⟨hv.1, okA_grow g hv.2⟩
  | agg cs => exact ⟨hv.1, okA_grow g hv.2⟩
  | tup l => exact hv
theorem okVs_grow {P : Program} {h h' : H} (g : Grow h h') {m : Nat} : ∀ {ts : List TypeId} {vs : List AV}, okVs P h m ts vs → okVs P h' m ts vs
  | [], [], _ => trivial
  | _ :: _, _ :: _, ⟨h1, h2⟩ => ⟨okV_grow g h1, okVs_grow g h2⟩
  | [], _ :: _, h => h.elim
  | _ :: _, [], h => h.elim

section
variable {D : Type} {enc : TypeId × Value → D} {P : Program} {w : World}

/-- Of a value, its form. -/
theorem value_form {m base : Nat} {t : TypeId} {v : Value} (hp : plainT P m t = true) (hv : Value.okWide P w .any base t v) :
    (isAggT P t = some true ∧ ∃ cs, v = .agg cs) ∨ (isAggT P t = some false ∧ v.cells = #[v]) := by
  cases m with
  | zero => simp [plainT] at hp
  | succ m =>
    unfold plainT at hp
    unfold Value.okWide at hv
    unfold isAggT
    split at hp
    · rename_i hu
      rw [hu] at hv ⊢
      right
      refine ⟨rfl, ?_⟩
      simp only [Cell.okWide, Cell.ok, hu] at hv
      cases v <;> first | rfl | exact hv.elim
    · rename_i k hu
      rw [hu] at hv ⊢
      right
      refine ⟨rfl, ?_⟩
      simp only [Cell.okWide, Cell.ok, hu] at hv
      cases v <;> first | rfl | exact hv.elim
    · rename_i hu
      rw [hu] at hv ⊢
      right
      refine ⟨rfl, ?_⟩
      simp only [Cell.okWide, Cell.ok, hu] at hv
      cases v <;> first | rfl | exact hv.elim
    · rename_i e hu
      rw [hu] at hv ⊢
      right
      refine ⟨rfl, ?_⟩
      simp only [Cell.okWide, Cell.ok, hu] at hv
      cases v <;> first | rfl | exact hv.elim
    · rename_i fs hu
      rw [hu] at hv ⊢
      left
      obtain ⟨cs, h1, _⟩ := hv
      exact ⟨rfl, cs, h1⟩
    · simp at hp

theorem lays_value {m base : Nat} {t : TypeId} {v : Value} {d : DataW D} {ps : List MemPlace} (hp : plainT P m t = true) (hv : Value.okWide P w .any base t v) (ht : DataW.Trod enc P w 0 (fun _ => true) true t v d ps)
    (β : Inj) (h : H) (hR : Rel P β h w) (hno : NoRw h) (hex : ∀ b, b < w.heap.size → exempt β b) :
    ∃ β' h' av, Rel P β' h' w ∧ NoRw h' ∧ Ext β β' ∧ Grow h h' ∧ relV P β' w av v ∧ okV P h' m t av := by
  obtain ⟨fuel, ht⟩ := ht
  obtain ⟨β', h', cs, r1, r2, r3, r4, r5, r6⟩ := lays m t hp fuel _ _ ht β h hR hno hex
  rcases value_form hp hv with ⟨h1, arr, rfl⟩ | ⟨h1, h2⟩
  · exact ⟨β', h', .agg cs, r1, r2, r3, r4, ⟨arr, rfl, r5⟩, h1, r6⟩
  · rw [h2] at r5
    match cs, r5 with
    | [c], r5 => exact ⟨β', h', .one c, r1, r2, r3, r4, r5.1, h1, r6⟩

theorem lays_values {m base : Nat} : ∀ {ts : List TypeId} {vs : List Value} {ds : List (DataW D)} {ps : List MemPlace}, (∀ t ∈ ts, plainT P m t = true) → (∀ (j : Nat) t v, ts[j]? = some t → vs[j]? = some v → Value.okWide P w .any base t v) →
    DataW.TrodAll enc P w 0 (fun _ => true) true ts vs ds ps → ∀ (β : Inj) (h : H), Rel P β h w → NoRw h → (∀ b, b < w.heap.size → exempt β b) →
    ∃ β' h' avs, Rel P β' h' w ∧ NoRw h' ∧ Ext β β' ∧ Grow h h' ∧ relVs P β' w avs vs ∧ okVs P h' m ts avs
  | [], [], [], _, _, _, _, β, h, hR, hno, _ => ⟨β, h, [], hR, hno, Ext.refl β, Grow.refl h, trivial, trivial⟩
  | t :: ts, v :: vs, d :: ds, ps, hp, hv, ht, β, h, hR, hno, hex => by
    obtain ⟨p, q, h1, h2, _⟩ := ht
    obtain ⟨β1, h1', av, r1, r2, r3, r4, r5, r6⟩ := lays_value (hp t (.head _)) (hv 0 t v rfl rfl) h1 β h hR hno hex
    obtain ⟨β2, h2', avs, s1, s2, s3, s4, s5, s6⟩ := lays_values (fun t ht => hp t (.tail _ ht)) (fun j t v h3 h4 => hv (j + 1) t v h3 h4) h2 β1 h1' r1 r2 (fun b hb => (hex b hb).ext r3)
    exact ⟨β2, h2', av :: avs, s1, s2, r3.trans s3, r4.trans s4, ⟨r5.mono s3 (Shapes.refl w), s5⟩, okV_grow s4 r6, s6⟩
  | [], _ :: _, _, _, _, _, h, _, _, _, _, _ => h.elim
  | _ :: _, [], _, _, _, _, h, _, _, _, _, _ => h.elim
  | [], [], _ :: _, _, _, _, h, _, _, _, _, _ => h.elim
  | _ :: _, _ :: _, [], _, _, _, h, _, _, _, _, _ => h.elim

/-- A call of the model's, from a run of the machine that gives true of whatever came in. -/
theorem law_calls (hm : P.follows .mixedOrders = true) {f : Nat} {m base : Nat} {ts : List TypeId} {vs : List Value} {ds : List (DataW D)} {ps : List MemPlace} (hw : 0 < w.heap.size) (hp : ∀ t ∈ ts, plainT P m t = true)
    (hv : ∀ (j : Nat) t v, ts[j]? = some t → vs[j]? = some v → Value.okWide P w .any base t v) (ht : DataW.TrodAll enc P w 0 (fun _ => true) true ts vs ds ps)
    (hlaw : ∀ h avs, okVs P h m ts avs → ∃ h', am P f avs h = some (.one (.bool true), h')) :
    Calls P f vs.toArray w fun e W' => e = .returned (.bool true) ∧ Below w.heap.size w W' ∧ ∀ a, W'.frozen? a = w.frozen? a := by
  have hR0 : Rel P (fun i => if i = 0 then some (w.heap.size - 1, 0) else none) ⟨1, fun _ => ⟨[], 0, .dead⟩⟩ w := by
    refine ⟨?_, fun i b d h => absurd rfl h, fun i j b d d' _ h => by simp at h, ?_, fun i b d h => by simp at h, ⟨w.heap.size - 1, 0, rfl, by omega⟩⟩
    · intro i b d hi
      left
      split at hi
      · simp at hi
        exact ⟨w.heap.size - 1, 0, rfl, by omega⟩
      · simp at hi
    · intro i hi
      have : i ≠ 0 := fun e => by subst e; simp at hi
      simp [this]
  obtain ⟨β, h, avs, r1, r2, _, _, r5, r6⟩ := lays_values hp hv ht _ _ hR0 (fun i => by simp) (fun b hb => ⟨w.heap.size - 1, 0, rfl, by omega⟩)
  obtain ⟨h', hl⟩ := hlaw h avs r6
  refine ((am_sound hm f avs h _ h' hl).2 β w vs r1 r5).mono ?_
  rintro e W' ⟨u, β', rfl, hu, _, hs⟩
  have : u = .bool true := hu
  subst this
  exact ⟨rfl, ⟨hs.os, hs.tape, hs.output, hs.size, fun k hk => hs.keep k hk fun i d _ h1 => absurd h1 (r2 i)⟩, hs.fro⟩

theorem trod_below (hl : laidOutB P = true) {W W' : World} (hb : Below W.heap.size W W') {sp : Nat → Bool} : ∀ {ts : List TypeId} {vs : List Value} {ds : List (DataW D)} {ps : List MemPlace}, (∀ t ∈ ts, P.readableRec t = true ∧ t < P.types.size) →
    DataW.TrodAll enc P W 0 (fun _ => true) true ts vs ds ps → (∀ x ∈ ps, x.block < W.heap.size) → (∀ x ∈ ps, sp x.block = true) → DataW.TrodAll enc P W' 0 sp true ts vs ds ps
  | [], [], [], _, _, h, _, _ => h
  | t :: ts, v :: vs, d :: ds, ps, hr, ⟨p, q, h1, h2, h3⟩, hlt, hsp => by
    subst h3
    obtain ⟨g1, g2⟩ := hr t (.head _)
    exact ⟨p, q, WideElems.Trod_stays hl g1 g2 h1 (fun x hx => hb.same (hlt x (List.mem_append_left _ hx))) (fun x hx => hsp x (List.mem_append_left _ hx)),
      trod_below hl hb (fun t ht => hr t (.tail _ ht)) h2 (fun x hx => hlt x (List.mem_append_right _ hx)) (fun x hx => hsp x (List.mem_append_right _ hx)), rfl⟩
  | [], _ :: _, _, _, _, h, _, _ => h.elim
  | _ :: _, [], _, _, _, h, _, _ => h.elim
  | [], [], _ :: _, _, _, h, _, _ => h.elim
  | _ :: _, _ :: _, [], _, _, h, _, _ => h.elim

theorem trodAll_length {base : Nat} {spare : Nat → Bool} {held : Bool} : ∀ {ts : List TypeId} {vs : List Value} {ds : List (DataW D)} {ps : List MemPlace}, DataW.TrodAll enc P w base spare held ts vs ds ps → ds.length = ts.length
  | [], [], [], _, _ => rfl
  | _ :: _, _ :: _, _ :: _, _, ⟨_, _, _, h2, _⟩ => by simp [trodAll_length h2]
  | [], _ :: _, _, _, h => h.elim
  | _ :: _, [], _, _, h => h.elim
  | [], [], _ :: _, _, h => h.elim
  | _ :: _, _ :: _, [], _, h => h.elim

/-- The row's contract. -/
theorem law_contract {s : ChangeSpec} {f : Nat} {fn : Func} {m : Nat} {tb : TypeId} (hm : P.follows .mixedOrders = true) (hlo : laidOutB P = true) (hvars : s.vars = []) (hres : fn.resultTypes = #[tb]) (htb : P.underlying tb = some .bool)
    (hsp : ∀ ds : List (DataW D), ds.length = fn.params.toList.length → s.fn D ds = { results := [.lit (.bool true)], args := ds })
    (hp : ∀ t ∈ fn.params.toList, plainT P m t = true) (hrd : ∀ t ∈ fn.params.toList, P.readableRec t = true ∧ t < P.types.size)
    (hlaw : ∀ h avs, okVs P h m fn.params.toList avs → ∃ h', am P f avs h = some (.one (.bool true), h'))
    {apart fresh handsOn again : Bool} {W : World} {base : Nat} {args : Array Value} {ds gs : List (DataW D)} {before : List MemPlace} (hw : 0 < W.heap.size)
    (hval : ∀ (j : Nat) t v, fn.params[j]? = some t → args[j]? = some v → Value.okWide P W .any base t v)
    (hW : DataW.Whole enc P fn.params.toList s.vars apart W args.toList ds gs before) :
    Calls P f args W fun e W' => ∃ v, e = .returned v ∧ s.post enc P fn apart fresh handsOn again W args v W' := by
  have hW' := hW
  obtain ⟨p, q, hA, hV, hb, hfz, hnd⟩ := hW
  rw [hvars] at hV
  have hgs : gs = [] ∧ q = [] := by
    cases gs with
    | nil => exact ⟨rfl, hV⟩
    | cons g gs => exact hV.elim
  obtain ⟨rfl, rfl⟩ := hgs
  rw [List.append_nil] at hb
  subst hb
  have hlt : ∀ x ∈ before, x.block < W.heap.size := fun x hx => by simpa using hW'.lt x hx
  have hlen := trodAll_length hA
  have hc := law_calls hm (f := f) hw hp (fun j t v h1 h2 => hval j t v (by simpa using h1) (by simpa using h2)) hA hlaw
  refine hc.mono ?_
  rintro e W' ⟨rfl, hbl, hfr⟩
  refine ⟨_, rfl, post_of_same (pa := before) (pv := []) hW' ?_ ?_ ?_ (by simp) (hbl.frame _) hfr ?_⟩
  · intro b sp hd
    rw [List.append_nil, hsp ds hlen, hres]
    exact trodAll_cons_mk (shut_bool htb _) trodAll_mk0
  · intro sp hs
    rw [List.append_nil, hsp ds hlen]
    exact trod_below hlo hbl hrd hA hlt hs
  · intro sp _
    rw [List.append_nil, hsp ds hlen, hvars]
    rfl
  · exact ok_one hres rfl (okWide_bool_mk htb _)
end
/-- There is a block: one that stands behind the packages' variables. -/
theorem heap_pos {P : Program} {W : World} (h1 : P.globals.size < (begin P (fun _ _ => 0) default).world.heap.size) (hsh : W.ShapedOpen P) : 0 < W.heap.size := by
  obtain ⟨o, _, h4, _⟩ := hsh.2 P.globals.size (Nat.le_refl _) h1
  exact Nat.lt_of_le_of_lt (Nat.zero_le _) (Array.getElem?_eq_some_iff.1 h4).1
end Go.Proofs.Ytnphlonhogcedaa.Am
