/- The pure statement of FnExactPathTo. -/
import Derived.Test.YtdhdgkonghefeaaWf
import Derived.Test.YtdhdgkonghefeaaPDm1
namespace Go.Proofs.Ytdhdgkonghefeaa.P
open Go.RowKit Go.Proofs.YtdhdgkonghefeaaW.PrintWords Go.Proofs.YtdhdgkonghefeaaW.PrintLast Go.Proofs.Ytdhdgkonghefeaa.Op
def laws_FnExactPathTo.Pure : Prop := ∀ (a0_0 : Int) (l0_1 : List (S89)) (a1 : Int), (fun n : Int => (Lit.int .i64 n).wf = true) a0_0 → (fun xs : List (S89) => xs.length * Try.prog.bytesOf 89 ≤ reachBytes ∧ xs.length ≤ maxLen ∧ ∀ x ∈ xs, wf89 x) l0_1 → (fun n : Int => (Lit.int .i64 n).wf = true) a1 → ∃ k, laws_FnExactPathTo.f k a0_0 l0_1 a1 = some true
end Go.Proofs.Ytdhdgkonghefeaa.P
