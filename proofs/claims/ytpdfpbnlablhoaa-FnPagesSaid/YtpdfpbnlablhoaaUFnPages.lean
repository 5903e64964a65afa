/- The pure statement of FnPages. -/
import Derived.Test.YtpdfpbnlablhoaaWf
import Derived.Test.YtpdfpbnlablhoaaPD0
namespace Go.Proofs.Ytpdfpbnlablhoaa.P
open Go.RowKit Go.Proofs.YtpdfpbnlablhoaaW.PrintWords Go.Proofs.YtpdfpbnlablhoaaW.PrintLast Go.Proofs.Ytpdfpbnlablhoaa.Op
def laws_FnPages.Pure : Prop := ∀ (l0 : List Int), (fun xs : List Int => xs.length * Try.prog.bytesOf 5 ≤ reachBytes ∧ xs.length ≤ maxLen ∧ ∀ x ∈ xs, (fun n : Int => (Lit.int .u8 n).wf = true) x) l0 → ∃ k, laws_FnPages.f k l0 = some true
end Go.Proofs.Ytpdfpbnlablhoaa.P
