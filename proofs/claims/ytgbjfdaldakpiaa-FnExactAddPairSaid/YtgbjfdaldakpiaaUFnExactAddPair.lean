/- The pure statement of FnExactAddPair. -/
import Derived.Test.YtgbjfdaldakpiaaWf
import Derived.Test.YtgbjfdaldakpiaaPD0
namespace Go.Proofs.Ytgbjfdaldakpiaa.P
open Go.RowKit Go.Proofs.YtgbjfdaldakpiaaW.PrintWords Go.Proofs.YtgbjfdaldakpiaaW.PrintLast Go.Proofs.Ytgbjfdaldakpiaa.Op
def laws_FnExactAddPair.Pure : Prop := ∀ (l0 : List (S40)) (a1 : Int) (a2 : Int), (fun xs : List (S40) => xs.length * Try.prog.bytesOf 40 ≤ reachBytes ∧ xs.length ≤ maxLen ∧ ∀ x ∈ xs, wf40 x) l0 → (fun n : Int => (Lit.int .i64 n).wf = true) a1 → (fun n : Int => (Lit.int .i64 n).wf = true) a2 → ∃ k, laws_FnExactAddPair.f k l0 a1 a2 = some true
end Go.Proofs.Ytgbjfdaldakpiaa.P
