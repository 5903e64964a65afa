/- The pure statement of FnExactNewEngine. -/
import Derived.Test.YtonbnmaelepcbaaWf
import Derived.Test.YtonbnmaelepcbaaPDb0
namespace Go.Proofs.Ytonbnmaelepcbaa.P
open Go.RowKit Go.Proofs.YtonbnmaelepcbaaW.PrintWords Go.Proofs.YtonbnmaelepcbaaW.PrintLast Go.Proofs.Ytonbnmaelepcbaa.Op
def laws_FnExactNewEngine.Pure : Prop := ∀ (l0 : List (S107)), (fun xs : List (S107) => xs.length * Try.prog.bytesOf 107 ≤ reachBytes ∧ xs.length ≤ maxLen ∧ ∀ x ∈ xs, wf107 x) l0 → ∃ k, laws_FnExactNewEngine.f k l0 = some true
end Go.Proofs.Ytonbnmaelepcbaa.P
