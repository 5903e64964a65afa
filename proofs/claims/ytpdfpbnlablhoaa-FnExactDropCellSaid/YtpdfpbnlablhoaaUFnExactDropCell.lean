/- The pure statement of FnExactDropCell. -/
import Derived.Test.YtpdfpbnlablhoaaWf
import Derived.Test.YtpdfpbnlablhoaaPD0
namespace Go.Proofs.Ytpdfpbnlablhoaa.P
open Go.RowKit Go.Proofs.YtpdfpbnlablhoaaW.PrintWords Go.Proofs.YtpdfpbnlablhoaaW.PrintLast Go.Proofs.Ytpdfpbnlablhoaa.Op
def laws_FnExactDropCell.Pure : Prop := ∀ (a0_0 : Int) (a0_1 : Int) (l0_2 : List (S92)) (a1 : Int) (a2 : Int), (fun n : Int => (Lit.int .i64 n).wf = true) a0_0 → (fun n : Int => (Lit.int .i64 n).wf = true) a0_1 → (fun xs : List (S92) => xs.length * Try.prog.bytesOf 92 ≤ reachBytes ∧ xs.length ≤ maxLen ∧ ∀ x ∈ xs, wf92 x) l0_2 → (fun n : Int => (Lit.int .i64 n).wf = true) a1 → (fun n : Int => (Lit.int .i64 n).wf = true) a2 → ∃ k, laws_FnExactDropCell.f k a0_0 a0_1 l0_2 a1 a2 = some true
end Go.Proofs.Ytpdfpbnlablhoaa.P
