/- Contracts of OverFlat, as the laws want them. -/
import Derived.Test.YtekkimfdcbgcoacB1
import Derived.Test.YtekkimfdcbgcoacB2
namespace Go.Proofs.Ytekkimfdcbgcoac.Am
open Go
theorem k_iOverFlat (f g : Flat) (p n q m : CV) (h : H) (hf : SlF h p n f) (hg : SlF h q m g) (s : miniF f) (t : miniF g) :
    callK (bm Try.prog 38 [.agg [p, n], .agg [q, m]] h) fun r h' => Grow h h' ∧ ∃ p' n', r = .tup [.agg [p', n'], .one (.bool (OverFlat f g).isSome)] ∧ NwF h h' p' n' (orF (OverFlat f g)) :=
  c_OverFlat f g p n q m h hf hg s.sm t.sm (by have := s.pl; have := t.pl; unfold big; omega) (by have := s.nl; have := t.nl; unfold big; omega)
end Go.Proofs.Ytekkimfdcbgcoac.Am
