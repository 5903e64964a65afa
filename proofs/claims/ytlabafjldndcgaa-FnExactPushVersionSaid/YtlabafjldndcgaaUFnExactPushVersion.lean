/- The pure statement of FnExactPushVersion. -/
import Derived.Test.YtlabafjldndcgaaWf
import Derived.Test.YtlabafjldndcgaaPD0
namespace Go.Proofs.Ytlabafjldndcgaa.P
open Go.RowKit Go.Proofs.YtlabafjldndcgaaW.PrintWords Go.Proofs.YtlabafjldndcgaaW.PrintLast Go.Proofs.Ytlabafjldndcgaa.Op
def laws_FnExactPushVersion.Pure : Prop := ∀ (l0 : List (S61)) (a1_0 : Int) (a1_1 : Int) (a2 : Bool) (a3 : Int), (fun xs : List (S61) => xs.length * Try.prog.bytesOf 61 ≤ reachBytes ∧ xs.length ≤ maxLen ∧ ∀ x ∈ xs, wf61 x) l0 → (fun n : Int => (Lit.int .i64 n).wf = true) a1_0 → (fun n : Int => (Lit.int .i64 n).wf = true) a1_1 → (fun n : Int => (Lit.int .i64 n).wf = true) a3 → ∃ k, laws_FnExactPushVersion.f k l0 a1_0 a1_1 a2 a3 = some true
end Go.Proofs.Ytlabafjldndcgaa.P
