/- The pure statement of FnExactSameAnswers. -/
import Derived.Test.YtonbnmaelepcbaaWf
import Derived.Test.YtonbnmaelepcbaaPDg0
namespace Go.Proofs.Ytonbnmaelepcbaa.P
open Go.RowKit Go.Proofs.YtonbnmaelepcbaaW.PrintWords Go.Proofs.YtonbnmaelepcbaaW.PrintLast Go.Proofs.Ytonbnmaelepcbaa.Op
def laws_FnExactSameAnswers.Pure : Prop := ∀ (a0_0 : Int) (a0_1 : Int) (l0_2 : List (S139)) (l0_3 : List (S143)) (a1_0 : Int) (a1_1 : Int) (l1_2 : List (S139)) (l1_3 : List (S143)), (fun n : Int => (Lit.int .i64 n).wf = true) a0_0 → (fun n : Int => (Lit.int .i64 n).wf = true) a0_1 → (fun xs : List (S139) => xs.length * Try.prog.bytesOf 139 ≤ reachBytes ∧ xs.length ≤ maxLen ∧ ∀ x ∈ xs, wf139 x) l0_2 → (fun xs : List (S143) => xs.length * Try.prog.bytesOf 143 ≤ reachBytes ∧ xs.length ≤ maxLen ∧ ∀ x ∈ xs, wf143 x) l0_3 → (fun n : Int => (Lit.int .i64 n).wf = true) a1_0 → (fun n : Int => (Lit.int .i64 n).wf = true) a1_1 → (fun xs : List (S139) => xs.length * Try.prog.bytesOf 139 ≤ reachBytes ∧ xs.length ≤ maxLen ∧ ∀ x ∈ xs, wf139 x) l1_2 → (fun xs : List (S143) => xs.length * Try.prog.bytesOf 143 ≤ reachBytes ∧ xs.length ≤ maxLen ∧ ∀ x ∈ xs, wf143 x) l1_3 → ∃ k, laws_FnExactSameAnswers.f k a0_0 a0_1 l0_2 l0_3 a1_0 a1_1 l1_2 l1_3 = some true
end Go.Proofs.Ytonbnmaelepcbaa.P
