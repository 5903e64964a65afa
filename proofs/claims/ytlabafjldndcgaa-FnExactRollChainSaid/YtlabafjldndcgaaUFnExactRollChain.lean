/- The pure statement of FnExactRollChain. -/
import Derived.Test.YtlabafjldndcgaaWf
import Derived.Test.YtlabafjldndcgaaPDf
namespace Go.Proofs.Ytlabafjldndcgaa.P
open Go.RowKit Go.Proofs.YtlabafjldndcgaaW.PrintWords Go.Proofs.YtlabafjldndcgaaW.PrintLast Go.Proofs.Ytlabafjldndcgaa.Op
def laws_FnExactRollChain.Pure : Prop := ∀ (l0 : List (S61)) (a1 : Int), (fun xs : List (S61) => xs.length * Try.prog.bytesOf 61 ≤ reachBytes ∧ xs.length ≤ maxLen ∧ ∀ x ∈ xs, wf61 x) l0 → (fun n : Int => (Lit.int .i64 n).wf = true) a1 → ∃ k, laws_FnExactRollChain.f k l0 a1 = some true
end Go.Proofs.Ytlabafjldndcgaa.P
