/- The pure statement of FnExactWriterOf. -/
import Derived.Test.YtlabafjldndcgaaWf
import Derived.Test.YtlabafjldndcgaaPDb
namespace Go.Proofs.Ytlabafjldndcgaa.P
open Go.RowKit Go.Proofs.YtlabafjldndcgaaW.PrintWords Go.Proofs.YtlabafjldndcgaaW.PrintLast Go.Proofs.Ytlabafjldndcgaa.Op
def laws_FnExactWriterOf.Pure : Prop := ∀ (l0 : List (S61)), (fun xs : List (S61) => xs.length * Try.prog.bytesOf 61 ≤ reachBytes ∧ xs.length ≤ maxLen ∧ ∀ x ∈ xs, wf61 x) l0 → ∃ k, laws_FnExactWriterOf.f k l0 = some true
end Go.Proofs.Ytlabafjldndcgaa.P
