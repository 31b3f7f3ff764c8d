/- The abstract machine: an operation looks at its slots alone; what has no look at the heap gives the same over every heap; a block that is laid changes nothing for the others. -/
import Derived.Test.YtnphlonhogcedaaAmReg
namespace Go.Proofs.Ytnphlonhogcedaa.Am
open Go

section
variable {S T : Tm} {h h' : H}

theorem ev_congr {x : AX} (hs : ∀ t ∈ x.slots, S t = T t) : x.ev S = x.ev T := by
  cases x with
  | t n => exact hs n (by simp [AX.slots])
  | c v => rfl
theorem evs_congr : ∀ {l : List AX}, (∀ t ∈ l.flatMap AX.slots, S t = T t) → l.map (·.ev S) = l.map (·.ev T)
  | [], _ => rfl
  | x :: l, hs => by
    simp only [List.map_cons]
    rw [ev_congr (x := x) (fun t ht => hs t (by simp [ht])), evs_congr (l := l) (fun t ht => hs t (by rw [List.flatMap_cons]; exact List.mem_append_right _ ht))]
theorem parts_congr : ∀ {l : List (Nat × Nat × AX)}, (∀ t ∈ (l.flatMap fun p => p.2.2.slots), S t = T t) → (l.map fun p => (p.1, p.2.1, p.2.2.ev S)) = (l.map fun p => (p.1, p.2.1, p.2.2.ev T))
  | [], _ => rfl
  | x :: l, hs => by
    simp only [List.map_cons]
    rw [ev_congr (x := x.2.2) (fun t ht => hs t (by simp [ht])), parts_congr (l := l) (fun t ht => hs t (by rw [List.flatMap_cons]; exact List.mem_append_right _ ht))]
theorem boundA_congr {x : AX} (hs : ∀ t ∈ x.slots, S t = T t) (y : Nat) : boundA S x y = boundA T x y := by
  unfold boundA
  rw [ev_congr hs]
theorem boundsA_congr {lo hi mx : Option AX} (h1 : ∀ t ∈ oslots lo, S t = T t) (h2 : ∀ t ∈ oslots hi, S t = T t) (h3 : ∀ t ∈ oslots mx, S t = T t) (n : Nat) (c : Option Nat) :
    boundsA S n c lo hi mx = boundsA T n c lo hi mx := by
  have e1 : maxA S n c mx = maxA T n c mx := by
    unfold maxA
    cases mx with
    | none => rfl
    | some x => simp only [boundA_congr (x := x) h3]
  have e2 : ∀ m, highA S n m hi mx = highA T n m hi mx := by
    intro m
    unfold highA
    cases hi with
    | none => rfl
    | some x => simp only [boundA_congr (x := x) h2]
  have e3 : ∀ k, lowA S k lo = lowA T k lo := by
    intro k
    unfold lowA
    cases lo with
    | none => rfl
    | some x => simp only [boundA_congr (x := x) h1]
  unfold boundsA
  rw [e1]
  cases maxA T n c mx with
  | none => rfl
  | some m =>
    simp only [e2]
    cases highA T n m hi mx with
    | none => rfl
    | some k => simp only [e3]

theorem pureA_congr {o : AOp} (hs : ∀ t ∈ o.slots, S t = T t) : pureA o S h = pureA o T h := by
  cases o with
  | mov x | load _ _ x | nilCheck x | not x | conv _ x | bytesStr x | faddr _ x | field _ _ _ x | extract x _ | len x | lenStr x | cap x =>
    simp only [pureA]
    rw [ev_congr (x := x) hs]
  | pick c a b =>
    simp only [pureA]
    rw [ev_congr (x := c) (fun t ht => hs t (by simp [AOp.slots, ht])), ev_congr (x := a) (fun t ht => hs t (by simp [AOp.slots, ht])), ev_congr (x := b) (fun t ht => hs t (by simp [AOp.slots, ht]))]
  | build z ps =>
    simp only [pureA]
    rw [parts_congr hs]
  | bin _ x y | eqb _ x y | eqst _ _ x y | eqnil _ x y | iaddr _ x y | idxStr x y | min x y =>
    simp only [pureA]
    rw [ev_congr (x := x) (fun t ht => hs t (by simp [AOp.slots, ht])), ev_congr (x := y) (fun t ht => hs t (by simp [AOp.slots, ht]))]
  | mkfn f l =>
    simp only [pureA]
    rw [evs_congr hs]
  | slice ty size x lo hi mx =>
    simp only [pureA]
    rw [ev_congr (x := x) (fun t ht => hs t (by simp [AOp.slots, ht]))]
    simp only [boundsA_congr (lo := lo) (hi := hi) (mx := mx) (fun t ht => hs t (by simp [AOp.slots, ht])) (fun t ht => hs t (by simp [AOp.slots, ht])) (fun t ht => hs t (by simp [AOp.slots, ht]))]
  | sliceStr x lo hi =>
    simp only [pureA]
    rw [ev_congr (x := x) (fun t ht => hs t (by simp [AOp.slots, ht]))]
    simp only [boundsA_congr (lo := lo) (hi := hi) (mx := none) (fun t ht => hs t (by simp [AOp.slots, ht])) (fun t ht => hs t (by simp [AOp.slots, ht])) (fun t ht => by simp [oslots] at ht)]
  | alloc _ _ | box _ _ | buildSlice _ _ _ _ | store _ _ _ | mkslice _ _ _ _ _ | call _ _ | callv _ _ | append _ _ _ _ _ | appz _ _ _ _ _ _ => rfl

theorem laidA_congr {o : AOp} (hs : ∀ t ∈ o.slots, S t = T t) : laidA o S = laidA o T := by
  cases o with
  | box _ x =>
    simp only [laidA]
    rw [ev_congr (x := x) hs]
  | buildSlice _ _ _ ps =>
    simp only [laidA]
    rw [parts_congr hs]
  | mkslice _ _ _ x y =>
    simp only [laidA]
    rw [ev_congr (x := x) (fun t ht => hs t (by simp [AOp.slots, ht])), ev_congr (x := y) (fun t ht => hs t (by simp [AOp.slots, ht]))]
  | _ => rfl

theorem opA_congr {call : Oracle} {o : AOp} (hs : ∀ t ∈ o.slots, S t = T t) : opA call o S h = opA call o T h := by
  cases o with
  | alloc _ _ => rfl
  | box _ x =>
    simp only [opA]
    rw [ev_congr (x := x) hs]
  | buildSlice _ _ _ ps =>
    simp only [opA]
    rw [parts_congr hs]
  | mkslice _ _ _ x y | store _ x y | append _ _ _ x y | appz _ _ _ _ x y =>
    simp only [opA]
    rw [ev_congr (x := x) (fun t ht => hs t (by simp [AOp.slots, ht])), ev_congr (x := y) (fun t ht => hs t (by simp [AOp.slots, ht]))]
  | call f l =>
    simp only [opA]
    rw [evs_congr hs]
  | callv x l =>
    simp only [opA]
    rw [ev_congr (x := x) (fun t ht => hs t (by simp only [AOp.slots]; exact List.mem_append_left _ ht)), evs_congr (fun t ht => hs t (by simp only [AOp.slots]; exact List.mem_append_right _ ht))]
  | mov _ | pick _ _ _ | build _ _ | load _ _ _ | nilCheck _ | bin _ _ _ | eqb _ _ _ | eqst _ _ _ _ | eqnil _ _ _ | not _ | conv _ _ | bytesStr _ | mkfn _ _ | slice _ _ _ _ _ _ | sliceStr _ _ _ | faddr _ _
  | iaddr _ _ _ | idxStr _ _ | field _ _ _ _ | extract _ _ | len _ | lenStr _ | cap _ | min _ _ =>
    simp only [opA]
    rw [pureA_congr hs]

theorem wantA_congr {g : Option (Nat × Bool)} (hs : ∀ t b, g = some (t, b) → S t = T t) : wantA g S = wantA g T := by
  cases g with
  | none => rfl
  | some p =>
    obtain ⟨t, b⟩ := p
    simp only [wantA]
    rw [hs t b rfl]

theorem pureA_any {o : AOp} (hl : isLoad o = false) : pureA o T h = pureA o T h' := by
  cases o <;> simp only [isLoad, reduceCtorEq] at hl <;> rfl

theorem load_alloc {a : Nat × Nat} {k ty : Nat} {cs c : List CV} (hl : h.load a k = some c) : (h.alloc cs ty).load a k = some c := by
  unfold H.load at hl ⊢
  split at hl
  · rename_i hc
    have : (h.alloc cs ty).f a.1 = h.f a.1 := alloc_f_old (by have := hc.1.1; omega)
    rw [this, if_pos ⟨⟨Nat.lt_succ_of_lt hc.1.1, hc.1.2⟩, hc.2⟩]
    exact hl
  · simp at hl

theorem pureA_alloc {o : AOp} {cs : List CV} {ty : Nat} {v : AV} (hv : pureA o T h = some v) : pureA o T (h.alloc cs ty) = some v := by
  cases hl : isLoad o with
  | false => rw [← pureA_any (h := h) hl]; exact hv
  | true =>
    cases o <;> simp only [isLoad, reduceCtorEq] at hl
    · simp only [pureA] at hv ⊢
      split at hv
      · rename_i a he
        split at hv
        · rename_i c hc
          rw [load_alloc hc]
          exact hv
        · simp at hv
      · simp at hv
    · simp only [pureA] at hv ⊢
      split at hv
      · rename_i a n c he
        split at hv
        · simp at hv
        · rename_i hn
          rw [if_neg hn]
          split at hv
          · rename_i c hc
            rw [load_alloc hc]
            exact hv
          · simp at hv
      · simp at hv
    · simp only [pureA] at hv ⊢
      split at hv
      · rename_i n c he
        exact hv
      · rename_i a n c he
        split at hv
        · rename_i l k m hb
          split at hv
          · rename_i hc
            have e : (h.alloc cs ty).f a.1 = h.f a.1 := alloc_f_old (by have := hc.1; omega)
            rw [e, if_pos ⟨Nat.lt_succ_of_lt hc.1, hc.2⟩]
            exact hv
          · simp at hv
        · simp at hv
      · simp at hv

theorem same_eq {x y : AV} (hs : x.same y = true) : x = y := by
  cases x <;> cases y <;> simp [AV.same] at hs
  · rw [hs]
  · rw [hs]
end
end Go.Proofs.Ytnphlonhogcedaa.Am
