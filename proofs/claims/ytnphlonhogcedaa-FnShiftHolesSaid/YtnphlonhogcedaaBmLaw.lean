/- The second machine: from a run of it that gives true to the row's statement. -/
import Derived.Test.YtnphlonhogcedaaBmCode
namespace Go.Proofs.Ytnphlonhogcedaa.Am
open Go Go.RowKit Go.ChangeShapes Go.WideShapes Go.ChangeAt
set_option linter.unusedVariables false

/-- Each block as it is. -/
def same2 (β : Inj) : Re := fun b => if (β b).isSome then some b else none
section
variable {P : Program} {β : Inj} {h : H} {w : World}
theorem rA_same {a : Nat × Nat} (h : ∃ p, β a.1 = some p) : rA (same2 β) a a := by
  obtain ⟨p, hp⟩ := h
  exact ⟨by simp [same2, hp], rfl⟩
theorem rCaps_same : ∀ {l : List (Nat × Nat)} {vs : List Value}, capsR β l vs → rCaps (same2 β) l l
  | [], [], _ => rfl
  | a :: l, v :: vs, ⟨⟨m, h1, b, d, h2, h3⟩, h4⟩ => ⟨a, l, rfl, rA_same ⟨_, h2⟩, rCaps_same h4⟩
  | [], _ :: _, h => h.elim
  | _ :: _, [], h => h.elim
theorem rC_same {c : CV} {v : Value} (hr : relC P β w c v) : rC (same2 β) c c := by
  cases c with
  | sl a n k => cases a with
    | none => rfl
    | some a =>
      obtain ⟨m, c', h1, h2, h3, h4⟩ := hr
      refine ⟨a, rfl, rA_same ?_⟩
      rcases h4 with h4 | ⟨⟨b, d, h4, _⟩, _⟩
      · exact h4.2
      · exact ⟨_, h4⟩
  | ptr a => cases a with
    | none => rfl
    | some a =>
      obtain ⟨m, h1, b, d, h2, h3⟩ := hr
      exact ⟨a, rfl, rA_same ⟨_, h2⟩⟩
  | fn f l =>
    obtain ⟨cv, h1, h2⟩ := hr
    exact ⟨l, rfl, rCaps_same h2⟩
  | _ => rfl
theorem rL_same : ∀ {l : List CV}, (∀ c ∈ l, rC (same2 β) c c) → rL (same2 β) l l
  | [], _ => rfl
  | c :: l, h => ⟨c, l, rfl, h c (.head _), rL_same fun d hd => h d (.tail _ hd)⟩
theorem rL_same2 : ∀ {l : List CV} {vs : List Value}, relL P β w l vs → rL (same2 β) l l
  | [], [], _ => rfl
  | c :: l, v :: vs, ⟨h1, h2⟩ => ⟨c, l, rfl, rC_same h1, rL_same2 h2⟩
  | [], _ :: _, h => h.elim
  | _ :: _, [], h => h.elim
theorem rT_same : ∀ {l : List AV} {vs : List Value}, relT P β w l vs → rT (same2 β) l l
  | [], [], _ => rfl
  | .one c :: l, v :: vs, ⟨h1, h2⟩ => ⟨_, l, rfl, ⟨c, rfl, rC_same h1⟩, rT_same h2⟩
  | .agg c :: l, v :: vs, ⟨⟨arr, h0, h1⟩, h2⟩ => ⟨_, l, rfl, ⟨c, rfl, rL_same2 h1⟩, rT_same h2⟩
  | .tup _ :: _, _ :: _, ⟨h, _⟩ => h.elim
  | [], _ :: _, h => h.elim
  | _ :: _, [], h => h.elim
theorem rV_same {a : AV} {v : Value} (hr : relV P β w a v) : rV (same2 β) a a := by
  cases a with
  | one c => exact ⟨c, rfl, rC_same hr⟩
  | agg c => obtain ⟨arr, h1, h2⟩ := hr; exact ⟨c, rfl, rL_same2 h2⟩
  | tup l => cases l with
    | nil => exact rV_undef
    | cons x l => obtain ⟨arr, h1, h2⟩ := hr; exact ⟨_, rfl, rT_same h2⟩
theorem rVs_same : ∀ {l : List AV} {vs : List Value}, relVs P β w l vs → rVs (same2 β) l l
  | [], [], _ => rfl
  | a :: l, v :: vs, ⟨h1, h2⟩ => ⟨a, l, rfl, rV_same h1, rVs_same h2⟩
  | [], _ :: _, h => h.elim
  | _ :: _, [], h => h.elim
theorem RelH_same (hR : Rel P β h w) : RelH (same2 β) h h := by
  have hb : ∀ {b b'}, same2 β b = some b' → b' = b ∧ ∃ p, β b = some p := by
    intro b b' hb
    unfold same2 at hb
    split at hb
    · rename_i hs
      simp at hb
      exact ⟨hb.symm, Option.isSome_iff_exists.1 hs⟩
    · simp at hb
  refine ⟨fun b b' h1 => ?_, fun a b x h1 h2 => by rw [← (hb h1).1, ← (hb h2).1]⟩
  obtain ⟨rfl, ⟨q, d⟩, hp⟩ := hb h1
  have hlt : b' < h.n := by
    rcases Nat.lt_or_ge b' h.n with h2 | h2
    · exact h2
    · rw [hR.dom b' h2] at hp; simp at hp
  refine ⟨hlt, hlt, rfl, rfl, fun hd => rL_same fun c hc => ?_⟩
  obtain ⟨cells, t, fr, k1, k2, k3⟩ := hR.live b' q d hd hp
  obtain ⟨i, hi⟩ := List.mem_iff_getElem?.1 hc
  obtain ⟨v, k4, k5⟩ := k3 i c hi
  exact rC_same k5
end

section
variable {D : Type} {enc : TypeId × Value → D} {P : Program} {w : World}
theorem law_callsB (hm : P.follows .mixedOrders = true) {f : Nat} {m base : Nat} {ts : List TypeId} {vs : List Value} {ds : List (DataW D)} {ps : List MemPlace} (hw : 0 < w.heap.size) (hp : ∀ t ∈ ts, plainT P m t = true)
    (hv : ∀ (j : Nat) t v, ts[j]? = some t → vs[j]? = some v → Value.okWide P w .any base t v) (ht : DataW.TrodAll enc P w 0 (fun _ => true) true ts vs ds ps)
    (hlaw : ∀ h avs, okVs P h m ts avs → ∃ h', bm P f avs h = some (.one (.bool true), h')) :
    Calls P f vs.toArray w fun e W' => e = .returned (.bool true) ∧ Below w.heap.size w W' ∧ ∀ a, W'.frozen? a = w.frozen? a := by
  have hR0 : Rel P (fun i => if i = 0 then some (w.heap.size - 1, 0) else none) ⟨1, fun _ => ⟨[], 0, .dead⟩⟩ w := by
    refine ⟨?_, fun i b d h => absurd rfl h, fun i j b d d' _ h => by simp at h, ?_, fun i b d h => by simp at h, ⟨w.heap.size - 1, 0, rfl, by omega⟩⟩
    · intro i b d hi
      left
      split at hi
      · simp at hi
        exact ⟨w.heap.size - 1, 0, rfl, by omega⟩
      · simp at hi
    · intro i hi
      have : i ≠ 0 := fun e => by subst e; simp at hi
      simp [this]
  obtain ⟨β, h, avs, r1, r2, _, _, r5, r6⟩ := lays_values hp hv ht _ _ hR0 (fun i => by simp) (fun b hb => ⟨w.heap.size - 1, 0, rfl, by omega⟩)
  obtain ⟨h', hl⟩ := hlaw h avs r6
  obtain ⟨β1, r', h1', k1, _, k3, _⟩ := bm_sim f avs h _ h' hl (same2 β) h avs (RelH_same r1) (rVs_same r5)
  rw [rV_bool k3] at k1
  refine ((am_sound hm f avs h _ h1' k1).2 β w vs r1 r5).mono ?_
  rintro e W' ⟨u, β', rfl, hu, _, hs⟩
  have : u = .bool true := hu
  subst this
  exact ⟨rfl, ⟨hs.os, hs.tape, hs.output, hs.size, fun k hk => hs.keep k hk fun i d _ h1 => absurd h1 (r2 i)⟩, hs.fro⟩

/-- The row's contract. -/
theorem law_contractB {s : ChangeSpec} {f : Nat} {fn : Func} {m : Nat} {tb : TypeId} (hm : P.follows .mixedOrders = true) (hlo : laidOutB P = true) (hvars : s.vars = []) (hres : fn.resultTypes = #[tb]) (htb : P.underlying tb = some .bool)
    (hsp : ∀ ds : List (DataW D), ds.length = fn.params.toList.length → s.fn D ds = { results := [.lit (.bool true)], args := ds })
    (hp : ∀ t ∈ fn.params.toList, plainT P m t = true) (hrd : ∀ t ∈ fn.params.toList, P.readableRec t = true ∧ t < P.types.size)
    (hlaw : ∀ h avs, okVs P h m fn.params.toList avs → ∃ h', bm P f avs h = some (.one (.bool true), h'))
    {apart fresh handsOn again : Bool} {W : World} {base : Nat} {args : Array Value} {ds gs : List (DataW D)} {before : List MemPlace} (hw : 0 < W.heap.size)
    (hval : ∀ (j : Nat) t v, fn.params[j]? = some t → args[j]? = some v → Value.okWide P W .any base t v)
    (hW : DataW.Whole enc P fn.params.toList s.vars apart W args.toList ds gs before) :
    Calls P f args W fun e W' => ∃ v, e = .returned v ∧ s.post enc P fn apart fresh handsOn again W args v W' := by
  have hW' := hW
  obtain ⟨p, q, hA, hV, hb, hfz, hnd⟩ := hW
  rw [hvars] at hV
  have hgs : gs = [] ∧ q = [] := by
    cases gs with
    | nil => exact ⟨rfl, hV⟩
    | cons g gs => exact hV.elim
  obtain ⟨rfl, rfl⟩ := hgs
  rw [List.append_nil] at hb
  subst hb
  have hlt : ∀ x ∈ before, x.block < W.heap.size := fun x hx => by simpa using hW'.lt x hx
  have hlen := trodAll_length hA
  have hc := law_callsB hm (f := f) hw hp (fun j t v h1 h2 => hval j t v (by simpa using h1) (by simpa using h2)) hA hlaw
  refine hc.mono ?_
  rintro e W' ⟨rfl, hbl, hfr⟩
  refine ⟨_, rfl, post_of_same (pa := before) (pv := []) hW' ?_ ?_ ?_ (by simp) (hbl.frame _) hfr ?_⟩
  · intro b sp hd
    rw [List.append_nil, hsp ds hlen, hres]
    exact trodAll_cons_mk (shut_bool htb _) trodAll_mk0
  · intro sp hs
    rw [List.append_nil, hsp ds hlen]
    exact trod_below hlo hbl hrd hA hlt hs
  · intro sp _
    rw [List.append_nil, hsp ds hlen, hvars]
    rfl
  · exact ok_one hres rfl (okWide_bool_mk htb _)
end
end Go.Proofs.Ytnphlonhogcedaa.Am
