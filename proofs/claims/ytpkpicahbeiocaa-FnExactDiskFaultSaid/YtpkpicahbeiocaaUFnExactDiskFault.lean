/- The pure statement of FnExactDiskFault. -/
import Derived.Test.YtpkpicahbeiocaaWf
import Derived.Test.YtpkpicahbeiocaaPD0
namespace Go.Proofs.Ytpkpicahbeiocaa.P
open Go.RowKit Go.Proofs.YtpkpicahbeiocaaW.PrintWords Go.Proofs.YtpkpicahbeiocaaW.PrintLast Go.Proofs.Ytpkpicahbeiocaa.Op
def laws_FnExactDiskFault.Pure : Prop := ∀ (l0_0 : List (List Int)) (l0_1 : List (S137)), (fun xs : List (List Int) => xs.length * Try.prog.bytesOf 28 ≤ reachBytes ∧ xs.length ≤ maxLen ∧ ∀ x ∈ xs, (fun xs : List Int => xs.length * Try.prog.bytesOf 5 ≤ reachBytes ∧ xs.length ≤ maxLen ∧ ∀ x ∈ xs, (fun n : Int => (Lit.int .u8 n).wf = true) x) x) l0_0 → (fun xs : List (S137) => xs.length * Try.prog.bytesOf 137 ≤ reachBytes ∧ xs.length ≤ maxLen ∧ ∀ x ∈ xs, wf137 x) l0_1 → ∃ k, laws_FnExactDiskFault.f k l0_0 l0_1 = some true
end Go.Proofs.Ytpkpicahbeiocaa.P
