/- The pure statement of FnExactDepthOf. -/
import Derived.Test.YtdhdgkonghefeaaWf
import Derived.Test.YtdhdgkonghefeaaPDm1
namespace Go.Proofs.Ytdhdgkonghefeaa.P
open Go.RowKit Go.Proofs.YtdhdgkonghefeaaW.PrintWords Go.Proofs.YtdhdgkonghefeaaW.PrintLast Go.Proofs.Ytdhdgkonghefeaa.Op
def laws_FnExactDepthOf.Pure : Prop := ∀ (a0_0 : Int) (l0_1 : List (S89)), (fun n : Int => (Lit.int .i64 n).wf = true) a0_0 → (fun xs : List (S89) => xs.length * Try.prog.bytesOf 89 ≤ reachBytes ∧ xs.length ≤ maxLen ∧ ∀ x ∈ xs, wf89 x) l0_1 → ∃ k, laws_FnExactDepthOf.f k a0_0 l0_1 = some true
end Go.Proofs.Ytdhdgkonghefeaa.P
