/- Contracts of OverFlat, as the laws want them. -/
import Derived.Test.YtekkimfdcbgcoabB1
import Derived.Test.YtekkimfdcbgcoabB2
namespace Go.Proofs.Ytekkimfdcbgcoab.Am
open Go
end Go.Proofs.Ytekkimfdcbgcoab.Am
