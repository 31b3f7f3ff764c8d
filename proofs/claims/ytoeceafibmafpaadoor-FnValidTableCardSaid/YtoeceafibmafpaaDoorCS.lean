/- Cuts do not depend on the heap. -/
import Derived.Test.YtoeceafibmafpaaDoorMaD
namespace Go.Proofs.YtoeceafibmafpaaDoor.Am
open Go
theorem cut_same {ty k : Nat} {h h' : H} {v w w' : AV} {lo hi mx : Option AV} (e : cutO ty k h v lo hi mx = some w) (e' : cutO ty k h' v lo hi mx = some w') : w' = w := by
  unfold cutO at e e'
  simp only [pureA] at e e'
  split at e
  · rename_i hv
    rw [hv] at e'
    simp only at e'
    rw [e] at e'
    exact (Option.some.inj e').symm
  · rename_i hv
    rw [hv] at e'
    simp only at e'
    split at e
    · rename_i hb
      rw [hb] at e'
      simp only at e'
      split at e
      · split at e'
        · rw [e] at e'
          exact (Option.some.inj e').symm
        · simp at e'
      · simp at e
    · simp at e
  · simp at e
end Go.Proofs.YtoeceafibmafpaaDoor.Am
