/- The pure statement of FnExactCommitChain. -/
import Derived.Test.YtlabafjldndcgaaWf
import Derived.Test.YtlabafjldndcgaaPD0
namespace Go.Proofs.Ytlabafjldndcgaa.P
open Go.RowKit Go.Proofs.YtlabafjldndcgaaW.PrintWords Go.Proofs.YtlabafjldndcgaaW.PrintLast Go.Proofs.Ytlabafjldndcgaa.Op
def laws_FnExactCommitChain.Pure : Prop := ∀ (l0 : List (S61)) (a1 : Int) (a2 : Int), (fun xs : List (S61) => xs.length * Try.prog.bytesOf 61 ≤ reachBytes ∧ xs.length ≤ maxLen ∧ ∀ x ∈ xs, wf61 x) l0 → (fun n : Int => (Lit.int .i64 n).wf = true) a1 → (fun n : Int => (Lit.int .i64 n).wf = true) a2 → ∃ k, laws_FnExactCommitChain.f k l0 a1 a2 = some true
end Go.Proofs.Ytlabafjldndcgaa.P
