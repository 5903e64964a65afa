/- The pure statement of FnBacks. -/
import Derived.Test.YthagppmaofcllaaWf
import Derived.Test.YthagppmaofcllaaPDm1
namespace Go.Proofs.Ythagppmaofcllaa.P
open Go.RowKit Go.Proofs.YthagppmaofcllaaW.PrintWords Go.Proofs.YthagppmaofcllaaW.PrintLast Go.Proofs.Ythagppmaofcllaa.Op
def laws_FnBacks.Pure : Prop := ∀ (l0 : List Int), (fun xs : List Int => xs.length * Try.prog.bytesOf 5 ≤ reachBytes ∧ xs.length ≤ maxLen ∧ ∀ x ∈ xs, (fun n : Int => (Lit.int .u8 n).wf = true) x) l0 → ∃ k, laws_FnBacks.f k l0 = some true
end Go.Proofs.Ythagppmaofcllaa.P
