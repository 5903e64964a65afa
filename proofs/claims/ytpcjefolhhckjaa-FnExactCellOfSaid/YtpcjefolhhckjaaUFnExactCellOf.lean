/- The pure statement of FnExactCellOf. -/
import Derived.Test.YtpcjefolhhckjaaWf
import Derived.Test.YtpcjefolhhckjaaPD0
namespace Go.Proofs.Ytpcjefolhhckjaa.P
open Go.RowKit Go.Proofs.YtpcjefolhhckjaaW.PrintWords Go.Proofs.YtpcjefolhhckjaaW.PrintLast Go.Proofs.Ytpcjefolhhckjaa.Op
def laws_FnExactCellOf.Pure : Prop := ∀ (a0_0 : Int) (a0_1 : Int) (l0_2 : List (S100)) (a1 : Int), (fun n : Int => (Lit.int .i64 n).wf = true) a0_0 → (fun n : Int => (Lit.int .i64 n).wf = true) a0_1 → (fun xs : List (S100) => xs.length * Try.prog.bytesOf 100 ≤ reachBytes ∧ xs.length ≤ maxLen ∧ ∀ x ∈ xs, wf100 x) l0_2 → (fun n : Int => (Lit.int .i64 n).wf = true) a1 → ∃ k, laws_FnExactCellOf.f k a0_0 a0_1 l0_2 a1 = some true
end Go.Proofs.Ytpcjefolhhckjaa.P
