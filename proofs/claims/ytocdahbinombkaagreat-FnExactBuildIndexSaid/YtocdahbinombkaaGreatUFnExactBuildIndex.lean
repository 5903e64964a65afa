/- The pure statement of FnExactBuildIndex. -/
import Derived.Test.YtocdahbinombkaaGreatWf
import Derived.Test.YtocdahbinombkaaGreatPDm0
namespace Go.Proofs.YtocdahbinombkaaGreat.P
open Go.RowKit Go.Proofs.YtocdahbinombkaaGreatW.PrintWords Go.Proofs.YtocdahbinombkaaGreatW.PrintLast Go.Proofs.YtocdahbinombkaaGreat.Op
def laws_FnExactBuildIndex.Pure : Prop := ∀ (a0_0 : Int) (a0_1 : Int) (l0_2 : List (S73)) (l0_3 : List (S77)), (fun n : Int => (Lit.int .i64 n).wf = true) a0_0 → (fun n : Int => (Lit.int .i64 n).wf = true) a0_1 → (fun xs : List (S73) => xs.length * Tryz.prog.bytesOf 73 ≤ reachBytes ∧ xs.length ≤ maxLen ∧ ∀ x ∈ xs, wf73 x) l0_2 → (fun xs : List (S77) => xs.length * Tryz.prog.bytesOf 77 ≤ reachBytes ∧ xs.length ≤ maxLen ∧ ∀ x ∈ xs, wf77 x) l0_3 → ∃ k, laws_FnExactBuildIndex.f k a0_0 a0_1 l0_2 l0_3 = some true
end Go.Proofs.YtocdahbinombkaaGreat.P
