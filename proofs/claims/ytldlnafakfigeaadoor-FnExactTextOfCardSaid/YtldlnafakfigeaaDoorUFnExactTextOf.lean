/- The pure statement of FnExactTextOf. -/
import Derived.Test.YtldlnafakfigeaaDoorWf
import Derived.Test.YtldlnafakfigeaaDoorPDall0
namespace Go.Proofs.YtldlnafakfigeaaDoor.P
open Go.RowKit Go.Proofs.YtldlnafakfigeaaDoorW.PrintWords Go.Proofs.YtldlnafakfigeaaDoorW.PrintLast Go.Proofs.YtldlnafakfigeaaDoor.Op
def laws_FnExactTextOf.Pure : Prop := ∀ (a0_0 : Int) (a0_1 : Int) (l0_2 : List (S61)) (l0_3 : List (S65)), (fun n : Int => (Lit.int .i64 n).wf = true) a0_0 → (fun n : Int => (Lit.int .i64 n).wf = true) a0_1 → (fun xs : List (S61) => xs.length * Tryd.prog.bytesOf 61 ≤ reachBytes ∧ xs.length ≤ maxLen ∧ ∀ x ∈ xs, wf61 x) l0_2 → (fun xs : List (S65) => xs.length * Tryd.prog.bytesOf 65 ≤ reachBytes ∧ xs.length ≤ maxLen ∧ ∀ x ∈ xs, wf65 x) l0_3 → ∃ k, laws_FnExactTextOf.f k a0_0 a0_1 l0_2 l0_3 = some true
end Go.Proofs.YtldlnafakfigeaaDoor.P
