/- The pure statement of FnChains. -/
import Derived.Test.YtkaammmkejiafaaWf
import Derived.Test.YtkaammmkejiafaaPDb0
namespace Go.Proofs.Ytkaammmkejiafaa.P
open Go.RowKit Go.Proofs.YtkaammmkejiafaaW.PrintWords Go.Proofs.YtkaammmkejiafaaW.PrintLast Go.Proofs.Ytkaammmkejiafaa.Op
def laws_FnChains.Pure : Prop := ∀ (l0 : List Int), (fun xs : List Int => xs.length * Try.prog.bytesOf 5 ≤ reachBytes ∧ xs.length ≤ maxLen ∧ ∀ x ∈ xs, (fun n : Int => (Lit.int .u8 n).wf = true) x) l0 → ∃ k, laws_FnChains.f k l0 = some true
end Go.Proofs.Ytkaammmkejiafaa.P
