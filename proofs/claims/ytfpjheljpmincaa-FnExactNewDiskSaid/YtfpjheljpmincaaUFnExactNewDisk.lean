/- The pure statement of FnExactNewDisk. -/
import Derived.Test.YtfpjheljpmincaaWf
import Derived.Test.YtfpjheljpmincaaPDall0
namespace Go.Proofs.Ytfpjheljpmincaa.P
open Go.RowKit Go.Proofs.YtfpjheljpmincaaW.PrintWords Go.Proofs.YtfpjheljpmincaaW.PrintLast Go.Proofs.Ytfpjheljpmincaa.Op
def laws_FnExactNewDisk.Pure : Prop := ∀ (a0 : Int), (fun n : Int => (Lit.int .i64 n).wf = true) a0 → ∃ k, laws_FnExactNewDisk.f k a0 = some true
end Go.Proofs.Ytfpjheljpmincaa.P
