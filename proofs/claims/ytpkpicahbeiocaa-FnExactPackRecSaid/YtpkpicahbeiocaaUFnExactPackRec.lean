/- The pure statement of FnExactPackRec. -/
import Derived.Test.YtpkpicahbeiocaaWf
import Derived.Test.YtpkpicahbeiocaaPD0
namespace Go.Proofs.Ytpkpicahbeiocaa.P
open Go.RowKit Go.Proofs.YtpkpicahbeiocaaW.PrintWords Go.Proofs.YtpkpicahbeiocaaW.PrintLast Go.Proofs.Ytpkpicahbeiocaa.Op
def laws_FnExactPackRec.Pure : Prop := ∀ (a0_0 : Int) (a0_1 : Int) (a0_2 : Int) (a0_3 : Bool) (a0_4 : Int) (a0_5 : Bool) (a0_6 : Int) (a0_7 : Int), (fun n : Int => (Lit.int .i64 n).wf = true) a0_0 → (fun n : Int => (Lit.int .i64 n).wf = true) a0_1 → (fun n : Int => (Lit.int .i64 n).wf = true) a0_2 → (fun n : Int => (Lit.int .i64 n).wf = true) a0_4 → (fun n : Int => (Lit.int .i64 n).wf = true) a0_6 → (fun n : Int => (Lit.int .i64 n).wf = true) a0_7 → ∃ k, laws_FnExactPackRec.f k a0_0 a0_1 a0_2 a0_3 a0_4 a0_5 a0_6 a0_7 = some true
end Go.Proofs.Ytpkpicahbeiocaa.P
