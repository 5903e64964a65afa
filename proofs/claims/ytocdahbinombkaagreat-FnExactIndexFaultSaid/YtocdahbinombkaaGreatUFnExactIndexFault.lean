/- The pure statement of FnExactIndexFault. -/
import Derived.Test.YtocdahbinombkaaGreatWf
import Derived.Test.YtocdahbinombkaaGreatPDm0
namespace Go.Proofs.YtocdahbinombkaaGreat.P
open Go.RowKit Go.Proofs.YtocdahbinombkaaGreatW.PrintWords Go.Proofs.YtocdahbinombkaaGreatW.PrintLast Go.Proofs.YtocdahbinombkaaGreat.Op
def laws_FnExactIndexFault.Pure : Prop := ∀ (a0_0 : Int) (a0_1 : Int) (l0_2 : List (S73)) (l0_3 : List (S77)) (l1 : List (S59)), (fun n : Int => (Lit.int .i64 n).wf = true) a0_0 → (fun n : Int => (Lit.int .i64 n).wf = true) a0_1 → (fun xs : List (S73) => xs.length * Tryz.prog.bytesOf 73 ≤ reachBytes ∧ xs.length ≤ maxLen ∧ ∀ x ∈ xs, wf73 x) l0_2 → (fun xs : List (S77) => xs.length * Tryz.prog.bytesOf 77 ≤ reachBytes ∧ xs.length ≤ maxLen ∧ ∀ x ∈ xs, wf77 x) l0_3 → (fun xs : List (S59) => xs.length * Tryz.prog.bytesOf 59 ≤ reachBytes ∧ xs.length ≤ maxLen ∧ ∀ x ∈ xs, wf59 x) l1 → ∃ k, laws_FnExactIndexFault.f k a0_0 a0_1 l0_2 l0_3 l1 = some true
end Go.Proofs.YtocdahbinombkaaGreat.P
