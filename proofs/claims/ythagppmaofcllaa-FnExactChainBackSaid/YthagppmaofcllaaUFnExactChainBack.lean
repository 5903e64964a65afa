/- The pure statement of FnExactChainBack. -/
import Derived.Test.YthagppmaofcllaaWf
import Derived.Test.YthagppmaofcllaaPDm1
namespace Go.Proofs.Ythagppmaofcllaa.P
open Go.RowKit Go.Proofs.YthagppmaofcllaaW.PrintWords Go.Proofs.YthagppmaofcllaaW.PrintLast Go.Proofs.Ythagppmaofcllaa.Op
def ZlFnExactChainBack.Pure : Prop := ∀ (l0 : List (S78)) (a1 : Int), (fun xs : List (S78) => xs.length * Try.prog.bytesOf 78 ≤ reachBytes ∧ xs.length ≤ maxLen ∧ ∀ x ∈ xs, wf78 x) l0 → (fun n : Int => (Lit.int .i64 n).wf = true) a1 → ∃ k, ZlFnExactChainBack.f k l0 a1 = some true
end Go.Proofs.Ythagppmaofcllaa.P
