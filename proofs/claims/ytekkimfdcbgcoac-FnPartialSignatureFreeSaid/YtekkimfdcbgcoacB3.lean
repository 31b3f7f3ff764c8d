/- Contracts of OverFlat, as the laws want them. -/
import Derived.Test.YtekkimfdcbgcoacB1
import Derived.Test.YtekkimfdcbgcoacB2
namespace Go.Proofs.Ytekkimfdcbgcoac.Am
open Go
end Go.Proofs.Ytekkimfdcbgcoac.Am
