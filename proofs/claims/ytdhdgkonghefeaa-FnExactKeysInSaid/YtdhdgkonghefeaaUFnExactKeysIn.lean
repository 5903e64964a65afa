/- The pure statement of FnExactKeysIn. -/
import Derived.Test.YtdhdgkonghefeaaWf
import Derived.Test.YtdhdgkonghefeaaPDm0
import Derived.Test.YtdhdgkonghefeaaPDe0
namespace Go.Proofs.Ytdhdgkonghefeaa.P
open Go.RowKit Go.Proofs.YtdhdgkonghefeaaW.PrintWords Go.Proofs.YtdhdgkonghefeaaW.PrintLast Go.Proofs.Ytdhdgkonghefeaa.Op
def laws_FnExactKeysIn.Pure : Prop := ∀ (a0_0 : Int) (l0_1 : List (S89)) (a1 : Int) (a2 : Int), (fun n : Int => (Lit.int .i64 n).wf = true) a0_0 → (fun xs : List (S89) => xs.length * Try.prog.bytesOf 89 ≤ reachBytes ∧ xs.length ≤ maxLen ∧ ∀ x ∈ xs, wf89 x) l0_1 → (fun n : Int => (Lit.int .i64 n).wf = true) a1 → (fun n : Int => (Lit.int .i64 n).wf = true) a2 → ∃ k, laws_FnExactKeysIn.f k a0_0 l0_1 a1 a2 = some true
end Go.Proofs.Ytdhdgkonghefeaa.P
