/- The pure statement of FnExactChainFault. -/
import Derived.Test.YtlabafjldndcgaaWf
import Derived.Test.YtlabafjldndcgaaPDa
namespace Go.Proofs.Ytlabafjldndcgaa.P
open Go.RowKit Go.Proofs.YtlabafjldndcgaaW.PrintWords Go.Proofs.YtlabafjldndcgaaW.PrintLast Go.Proofs.Ytlabafjldndcgaa.Op
def laws_FnExactChainFault.Pure : Prop := ∀ (l0 : List (S61)), (fun xs : List (S61) => xs.length * Try.prog.bytesOf 61 ≤ reachBytes ∧ xs.length ≤ maxLen ∧ ∀ x ∈ xs, wf61 x) l0 → ∃ k, laws_FnExactChainFault.f k l0 = some true
end Go.Proofs.Ytlabafjldndcgaa.P
