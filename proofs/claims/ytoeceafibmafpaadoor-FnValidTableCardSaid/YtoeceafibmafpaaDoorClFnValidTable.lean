/- The law FnValidTable: whatever the input, it answers true and the input reads as it did. -/
import Derived.Test.YtoeceafibmafpaaDoorRows
import Derived.Test.YtoeceafibmafpaaDoorLwValidTable
import Derived.Test.YtoeceafibmafpaaDoorDK
import Derived.Test.YtoeceafibmafpaaDoorEX
/- template: closes a law's row and its tied card (a seat of cards). YtoeceafibmafpaaDoor seat, Tryd alias, FnValidTable law, fnValidTable law in lower case, 5 number, .slice none 0 0 witness arguments, 6 depth, 4 the type bool, 42 parameter types, subst ht; exact ⟨by kernel_rfl, of_decide_eq_true (by kernel_rfl)⟩ what the row says of the harness -/
namespace Go.Proofs.YtoeceafibmafpaaDoor.fnValidTable
open Go Go.RowKit Go.ChangeShapes Go.WideShapes Go.ChangeAt
theorem own : ownKnob Tryd.checked.prog.godebug = none := by kernel_rfl
theorem laidOut : laidOutB Tryd.checked.prog = true := by kernel_rfl
theorem closed : joinedFacts Tryd.pinned.checked.prog 5 Tryd.f5 Rows.fnValidTableSpec Rows.fnValidTableRow = true := by kernel_rfl
theorem inst : Tryd.f5.isInstance Tryd.pinned.checked.prog Rows.fnValidTableRow.origin Rows.fnValidTableRow.targs := of_decide_eq_true (by kernel_rfl)
theorem wrap : Tryd.f5.isWrapper Tryd.pinned.checked.prog Rows.fnValidTableRow.wrapper Rows.fnValidTableRow.mainSum := by unfold Func.isWrapper; first | (rw [if_pos (by decide +kernel)]; kernel_rfl) | (rw [if_neg (by decide +kernel)]; exact ⟨rfl, rfl⟩)
theorem named : Tryd.pinned.checked.prog.funcNamed Rows.fnValidTableRow.func = some 5 := by kernel_rfl
theorem params : Tryd.f5.params.toList = [42] := by rw [Tryd.params5]
theorem plain : ∀ t ∈ [42], Am.plainT Tryd.checked.prog 6 t = true := by
  intro t ht
  simp only [List.mem_cons, List.not_mem_nil, or_false] at ht
  subst ht; kernel_rfl
theorem readable : ∀ t ∈ [42], Tryd.checked.prog.readableRec t = true ∧ t < Tryd.checked.prog.types.size := by
  intro t ht
  simp only [List.mem_cons, List.not_mem_nil, or_false] at ht
  subst ht; exact ⟨by kernel_rfl, of_decide_eq_true (by kernel_rfl)⟩
set_option maxRecDepth 100000 in
theorem lifted (os : Os) (started : os.Started) (H : Type) (enc : TypeId × Value → H) :
    ReturnsInHanded {} Tryd.checked os 5 .any (fun w args => (Rows.fnValidTableSpec.pre enc Tryd.prog Tryd.f5 [] false w args ∧ laidMetH Tryd.prog laid3 w) ∧ sizedMet enc Tryd.prog Tryd.f5 (OpenSpec.ofChange Rows.fnValidTableSpec) false w args)
      (Rows.fnValidTableSpec.post enc Tryd.prog Tryd.f5 false true false false) := by
  refine returnsInHanded_of_change_and (C := Tryd.checked) (X := fun w _ => laidMetH Tryd.prog laid3 w) (fun _ _ _ hh h => h.of_heap hh) own started (by kernel_rfl) Tryd.func5
    (ChangeSpec.witness_shaped (enc := enc) (C := Tryd.checked) (os := os) (X := fun w _ => laidMetH Tryd.prog laid3 w) false (World.doorLaid Tryd.prog 400 os) #[.slice none 0 0] 8 rfl (World.shaped_of_RefB (by kernel_rfl) (by kernel_rfl)) (by kernel_rfl) (by kernel_rfl) (by kernel_rfl) (door_met os _)) ?_
  intro W base args ds gs before hval hW _ _ hL _
  have htab := tab_of_laid hL
  exact Am.law_contractB (m := 6) (tb := 4) Tryd.checked.mixed Am.ext_sound laidOut rfl (by kernel_rfl) Tryd.underlying4 (fun ds hd => by
    rw [params] at hd
    rcases ds with _ | ⟨d1, _ | ⟨d2, r⟩⟩ <;> first | rfl | (simp at hd)) (by rw [params]; exact plain) (by rw [params]; exact readable)
    (fun h avs hok => Am.law_of (Am.law5 h avs (by rw [params] at hok; exact hok))) (tab_all htab) (heap_of_tab htab) hval hW

theorem row : Rows.FnValidTableSaid :=
  OpenClaim.holds_of_wide 5 Tryd.f5 rfl rfl rfl rfl rfl rfl rfl ⟨rfl, rfl, rfl, rfl, rfl⟩ rfl rfl rfl rfl rfl named Tryd.func5 closed inst wrap
    (fun os started H enc _ => lifted os started H enc)
/-- The card. -/
theorem said : Rows.FnValidTableCardSaid :=
  Claim7.holds_tied_plain_at .later [] [.data, .data, .data] true (true, "4aab2393da41de535f907e32b887845e3d3a7304f71e65f6745ae1961aadae5e") false
    row (fun _ h => by cases h) (by kernel_rfl) (fun _ h => by cases h) fnValidTable_row_tie rfl ⟨rfl, rfl⟩ (by kernel_rfl) rfl
    (fun f fn hf hfn => by
      obtain rfl : f = 5 := Option.some.inj (named.symm.trans hf) |>.symm
      obtain rfl : fn = Tryd.f5 := (Option.some.inj (Tryd.func5.symm.trans hfn)).symm
      exact ⟨by kernel_rfl, fun j t ht => by
        have hm : t ∈ [42] := by rw [← params]; simpa using Array.mem_of_getElem? ht
        have hall : ([42].all fun u => !Tryd.prog.wantsStandIn u) = true := by kernel_rfl
        exact (show Tryd.prog.wantsStandIn t = false by simpa using List.all_eq_true.1 hall t hm)⟩)
    (by kernel_rfl)
end Go.Proofs.YtoeceafibmafpaaDoor.fnValidTable
