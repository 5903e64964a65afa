/- The pure statement of FnExactCrashLog. -/
import Derived.Test.YthagppmaofcllaaWf
import Derived.Test.YthagppmaofcllaaPDm1
namespace Go.Proofs.Ythagppmaofcllaa.P
open Go.RowKit Go.Proofs.YthagppmaofcllaaW.PrintWords Go.Proofs.YthagppmaofcllaaW.PrintLast Go.Proofs.Ythagppmaofcllaa.Op
def ZlFnExactCrashLog.Pure : Prop := ∀ (l0_0 : List Int) (l0_1 : List Int) (a1 : Int), (fun xs : List Int => xs.length * Try.prog.bytesOf 5 ≤ reachBytes ∧ xs.length ≤ maxLen ∧ ∀ x ∈ xs, (fun n : Int => (Lit.int .u8 n).wf = true) x) l0_0 → (fun xs : List Int => xs.length * Try.prog.bytesOf 5 ≤ reachBytes ∧ xs.length ≤ maxLen ∧ ∀ x ∈ xs, (fun n : Int => (Lit.int .u8 n).wf = true) x) l0_1 → (fun n : Int => (Lit.int .i64 n).wf = true) a1 → ∃ k, ZlFnExactCrashLog.f k l0_0 l0_1 a1 = some true
end Go.Proofs.Ythagppmaofcllaa.P
