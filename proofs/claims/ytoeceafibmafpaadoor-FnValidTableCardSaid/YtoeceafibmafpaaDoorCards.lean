/-
  DERIVED. GIVEN WITH THE SEED: THE CARDS: each row of YtoeceafibmafpaaDoorRows.lean that lists a variable, with what it lists TIED to the program's text (the seventh form; the later family's looks); each row that meets fmt, with fmt's text TOLD by the authors' own Lean function (tested against real Go, not proved from fmt's source: count such statements apart). THE CARD IS WHAT COUNTS. Prove the row's statement (the work); the ties are given (YtoeceafibmafpaaDoorTie.lean); close each card by the builder's one call (the guide's Derived/Test/ToyasCard.lean, 'card_holds'). Laid BY PROGRAM, IN A SANDBOX (cutbox-door.mjs). By AI agents, Wed Nov 11 2026. No macro, syntax, notation, axiom, sorry.
-/
import Derived.Test.YtoeceafibmafpaaDoorRows
import GoSem.ClaimSeven
namespace Go.Proofs.YtoeceafibmafpaaDoor
namespace Rows

/-- THE TIED CARD OF 'laws.FnExactShapeText'. -/
def fnExactShapeTextCard : Claim7 := { stood := { row := fnExactShapeTextRow, standIns := [], harness := (true, "4aab2393da41de535f907e32b887845e3d3a7304f71e65f6745ae1961aadae5e"), looks := false }, kinds := [], alts := [], laidByText := true, laidKinds := [.data, .data, .data], laidTests := true, laidLooks := .later }
def FnExactShapeTextCardSaid : Prop := Claim7.holds Tryd.pinned (.plain (OpenSpec.ofChange fnExactShapeTextSpec)) fnExactShapeTextCard

/-- THE TIED CARD OF 'laws.FnExactSignatureText'. -/
def fnExactSignatureTextCard : Claim7 := { stood := { row := fnExactSignatureTextRow, standIns := [], harness := (true, "4aab2393da41de535f907e32b887845e3d3a7304f71e65f6745ae1961aadae5e"), looks := false }, kinds := [], alts := [], laidByText := true, laidKinds := [.data, .data, .data], laidTests := true, laidLooks := .later }
def FnExactSignatureTextCardSaid : Prop := Claim7.holds Tryd.pinned (.plain (OpenSpec.ofChange fnExactSignatureTextSpec)) fnExactSignatureTextCard

/-- THE TIED CARD OF 'laws.FnValidTable'. -/
def fnValidTableCard : Claim7 := { stood := { row := fnValidTableRow, standIns := [], harness := (true, "4aab2393da41de535f907e32b887845e3d3a7304f71e65f6745ae1961aadae5e"), looks := false }, kinds := [], alts := [], laidByText := true, laidKinds := [.data, .data, .data], laidTests := true, laidLooks := .later }
def FnValidTableCardSaid : Prop := Claim7.holds Tryd.pinned (.plain (OpenSpec.ofChange fnValidTableSpec)) fnValidTableCard

/-- THE TIED CARD OF 'laws.FnExactFuncText'. -/
def fnExactFuncTextCard : Claim7 := { stood := { row := fnExactFuncTextRow, standIns := [], harness := (true, "4aab2393da41de535f907e32b887845e3d3a7304f71e65f6745ae1961aadae5e"), looks := false }, kinds := [], alts := [], laidByText := true, laidKinds := [.data, .data, .data], laidTests := true, laidLooks := .later }
def FnExactFuncTextCardSaid : Prop := Claim7.holds Tryd.pinned (.plain (OpenSpec.ofChange fnExactFuncTextSpec)) fnExactFuncTextCard

/-- THE TIED CARD OF 'laws.FnExactValidTable'. -/
def fnExactValidTableCard : Claim7 := { stood := { row := fnExactValidTableRow, standIns := [], harness := (true, "4aab2393da41de535f907e32b887845e3d3a7304f71e65f6745ae1961aadae5e"), looks := false }, kinds := [], alts := [], laidByText := true, laidKinds := [.data, .data, .data], laidTests := true, laidLooks := .later }
def FnExactValidTableCardSaid : Prop := Claim7.holds Tryd.pinned (.plain (OpenSpec.ofChange fnExactValidTableSpec)) fnExactValidTableCard

/-- THE TIED CARD OF 'laws.FnExactCallText'. -/
def fnExactCallTextCard : Claim7 := { stood := { row := fnExactCallTextRow, standIns := [], harness := (true, "4aab2393da41de535f907e32b887845e3d3a7304f71e65f6745ae1961aadae5e"), looks := false }, kinds := [], alts := [], laidByText := true, laidKinds := [.data, .data, .data], laidTests := true, laidLooks := .later }
def FnExactCallTextCardSaid : Prop := Claim7.holds Tryd.pinned (.plain (OpenSpec.ofChange fnExactCallTextSpec)) fnExactCallTextCard

/-- THE SECOND FORM's CARD OF 'laws.FnExactShapeText'. -/
def fnExactShapeTextUptoCard : Claim7 := { stood := { row := fnExactShapeTextUptoRow, standIns := [], harness := (true, "4aab2393da41de535f907e32b887845e3d3a7304f71e65f6745ae1961aadae5e"), looks := false }, kinds := [], alts := [], laidByText := true, laidKinds := [.data, .data, .data], laidTests := true, laidLooks := .later }
def FnExactShapeTextUptoCardSaid : Prop := Claim7.holds Tryd.pinned (.plain (OpenSpec.upto fnExactShapeTextSpec)) fnExactShapeTextUptoCard

/-- THE SECOND FORM's CARD OF 'laws.FnExactSignatureText'. -/
def fnExactSignatureTextUptoCard : Claim7 := { stood := { row := fnExactSignatureTextUptoRow, standIns := [], harness := (true, "4aab2393da41de535f907e32b887845e3d3a7304f71e65f6745ae1961aadae5e"), looks := false }, kinds := [], alts := [], laidByText := true, laidKinds := [.data, .data, .data], laidTests := true, laidLooks := .later }
def FnExactSignatureTextUptoCardSaid : Prop := Claim7.holds Tryd.pinned (.plain (OpenSpec.upto fnExactSignatureTextSpec)) fnExactSignatureTextUptoCard

/-- THE SECOND FORM's CARD OF 'laws.FnValidTable'. -/
def fnValidTableUptoCard : Claim7 := { stood := { row := fnValidTableUptoRow, standIns := [], harness := (true, "4aab2393da41de535f907e32b887845e3d3a7304f71e65f6745ae1961aadae5e"), looks := false }, kinds := [], alts := [], laidByText := true, laidKinds := [.data, .data, .data], laidTests := true, laidLooks := .later }
def FnValidTableUptoCardSaid : Prop := Claim7.holds Tryd.pinned (.plain (OpenSpec.upto fnValidTableSpec)) fnValidTableUptoCard

/-- THE SECOND FORM's CARD OF 'laws.FnExactFuncText'. -/
def fnExactFuncTextUptoCard : Claim7 := { stood := { row := fnExactFuncTextUptoRow, standIns := [], harness := (true, "4aab2393da41de535f907e32b887845e3d3a7304f71e65f6745ae1961aadae5e"), looks := false }, kinds := [], alts := [], laidByText := true, laidKinds := [.data, .data, .data], laidTests := true, laidLooks := .later }
def FnExactFuncTextUptoCardSaid : Prop := Claim7.holds Tryd.pinned (.plain (OpenSpec.upto fnExactFuncTextSpec)) fnExactFuncTextUptoCard

/-- THE SECOND FORM's CARD OF 'laws.FnExactValidTable'. -/
def fnExactValidTableUptoCard : Claim7 := { stood := { row := fnExactValidTableUptoRow, standIns := [], harness := (true, "4aab2393da41de535f907e32b887845e3d3a7304f71e65f6745ae1961aadae5e"), looks := false }, kinds := [], alts := [], laidByText := true, laidKinds := [.data, .data, .data], laidTests := true, laidLooks := .later }
def FnExactValidTableUptoCardSaid : Prop := Claim7.holds Tryd.pinned (.plain (OpenSpec.upto fnExactValidTableSpec)) fnExactValidTableUptoCard

/-- THE SECOND FORM's CARD OF 'laws.FnExactCallText'. -/
def fnExactCallTextUptoCard : Claim7 := { stood := { row := fnExactCallTextUptoRow, standIns := [], harness := (true, "4aab2393da41de535f907e32b887845e3d3a7304f71e65f6745ae1961aadae5e"), looks := false }, kinds := [], alts := [], laidByText := true, laidKinds := [.data, .data, .data], laidTests := true, laidLooks := .later }
def FnExactCallTextUptoCardSaid : Prop := Claim7.holds Tryd.pinned (.plain (OpenSpec.upto fnExactCallTextSpec)) fnExactCallTextUptoCard
end Rows
end Go.Proofs.YtoeceafibmafpaaDoor
