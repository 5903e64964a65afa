/- Bytes. -/
import Derived.Test.YtkaammmkejiafaaLb
import Derived.Test.YtkaammmkejiafaaP0
namespace Go.Proofs.Ytkaammmkejiafaa.Q
open Go.RowKit Go.Proofs.Ytkaammmkejiafaa.P
def isB (l : List Int) : Prop := ∀ x ∈ l, 0 ≤ x ∧ x ≤ 255
end Go.Proofs.Ytkaammmkejiafaa.Q
