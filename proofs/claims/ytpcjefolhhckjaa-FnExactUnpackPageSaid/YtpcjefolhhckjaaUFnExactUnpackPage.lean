/- The pure statement of FnExactUnpackPage. -/
import Derived.Test.YtpcjefolhhckjaaWf
import Derived.Test.YtpcjefolhhckjaaPD0
namespace Go.Proofs.Ytpcjefolhhckjaa.P
open Go.RowKit Go.Proofs.YtpcjefolhhckjaaW.PrintWords Go.Proofs.YtpcjefolhhckjaaW.PrintLast Go.Proofs.Ytpcjefolhhckjaa.Op
def laws_FnExactUnpackPage.Pure : Prop := ∀ (l0 : List Int), (fun xs : List Int => xs.length * Try.prog.bytesOf 5 ≤ reachBytes ∧ xs.length ≤ maxLen ∧ ∀ x ∈ xs, (fun n : Int => (Lit.int .u8 n).wf = true) x) l0 → ∃ k, laws_FnExactUnpackPage.f k l0 = some true
end Go.Proofs.Ytpcjefolhhckjaa.P
