/- The pure statement of FnExactNewPage. -/
import Derived.Test.YtpcjefolhhckjaaWf
import Derived.Test.YtpcjefolhhckjaaPD0
namespace Go.Proofs.Ytpcjefolhhckjaa.P
open Go.RowKit Go.Proofs.YtpcjefolhhckjaaW.PrintWords Go.Proofs.YtpcjefolhhckjaaW.PrintLast Go.Proofs.Ytpcjefolhhckjaa.Op
def laws_FnExactNewPage.Pure : Prop := ∀ (a0 : Int), (fun n : Int => (Lit.int .i64 n).wf = true) a0 → ∃ k, laws_FnExactNewPage.f k a0 = some true
end Go.Proofs.Ytpcjefolhhckjaa.P
