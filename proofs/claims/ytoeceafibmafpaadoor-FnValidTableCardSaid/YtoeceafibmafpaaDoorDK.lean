/- The heap that the door's own run leaves: it meets the rows' condition on the listed variables; and what that condition gives. -/
import Derived.Test.YtoeceafibmafpaaDoorRows
import Derived.Test.YtoeceafibmafpaaDoorTie
import Derived.Test.YtoeceafibmafpaaDoorCards
import Derived.Test.YtoeceafibmafpaaDoorMaD
import Derived.ProofKit
import Derived.LaidMore
import Derived.OpenShut
import Derived.Stop.Joined
import Derived.Stop.LaidErr
import Derived.Lib.LaidTab
import Derived.Lib.ItoaNum
import Derived.SevenTiedAt
namespace Go.Proofs.YtoeceafibmafpaaDoor
open Go Go.Lib Go.RowKit
def laid3 : List (String × DataW Unit) := [("math/bits.deBruijn32tab", Rows.laid_math_bits_deBruijn32tab), ("math/bits.deBruijn64tab", Rows.laid_math_bits_deBruijn64tab), ("internal/strconv.uint64pow10", Rows.laid_internal_strconv_uint64pow10)]
theorem door_met (os : Os) (args : Array Value) : laidMetH Tryd.prog laid3 ((World.doorLaid Tryd.prog 400 os).forCall (fun _ _ => 0) ⟨#[], args, []⟩).memory :=
  laidMetH_of_parts3 (fuel := 8) (laidMet_of_run' 8 (by kernel_rfl) (by kernel_rfl)) (by kernel_rfl) (by kernel_rfl)
theorem tab_of_laid {W : World} (h : laidMetH Tryd.prog laid3 W) : TabIs Tryd.prog W "internal/strconv.uint64pow10" .u64 pow10Tab := by
  rw [MakeChecks.laidMetH_plain _ _ _ (by kernel_rfl)] at h
  have h2 : laidMet Tryd.prog (("internal/strconv.uint64pow10", tabData .u64 pow10Tab) :: []) W := laidMet.tail (laidMet.tail h)
  exact tabIs_of_head (g := 1) (t := 177) (e := 162) (n := 20) (by kernel_rfl) (by kernel_rfl) Tryd.underlying177 Tryd.underlying162 (by kernel_rfl) (by kernel_rfl) h2
theorem tab_all {W : World} (h : TabIs Tryd.prog W "internal/strconv.uint64pow10" .u64 pow10Tab) : ∀ g, Tryd.prog.globalNamed "internal/strconv.uint64pow10" = some g → TabIs Tryd.prog W "internal/strconv.uint64pow10" .u64 pow10Tab := fun _ _ => h
theorem heap_of_tab {W : World} (h : TabIs Tryd.prog W "internal/strconv.uint64pow10" .u64 pow10Tab) : 0 < W.heap.size := by
  unfold TabIs World.var? at h
  cases hg : Tryd.prog.globalNamed "internal/strconv.uint64pow10" with
  | none => rw [hg] at h; cases h
  | some g =>
    rw [hg] at h
    simp only [Option.bind_some] at h
    rcases Nat.lt_or_ge g W.heap.size with h2 | h2
    · omega
    · rw [Array.getElem?_eq_none h2] at h; cases h
end Go.Proofs.YtoeceafibmafpaaDoor
