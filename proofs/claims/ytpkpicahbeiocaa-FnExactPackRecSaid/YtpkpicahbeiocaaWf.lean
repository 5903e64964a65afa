/- What the readings of this seat's arguments tell. -/
import Derived.Test.YtpkpicahbeiocaaOp
import Derived.Test.YtpkpicahbeiocaaP0
import Derived.KernelRfl
namespace Go.Proofs.Ytpkpicahbeiocaa.P
open Go.RowKit Go.Proofs.YtpkpicahbeiocaaW.PrintWords Go.Proofs.YtpkpicahbeiocaaW.PrintLast Go.Proofs.Ytpkpicahbeiocaa.Op
def wf23 (x : S23) : Prop := (fun n : Int => (Lit.int .i64 n).wf = true) x.f0 ∧ ((fun n : Int => (Lit.int .i64 n).wf = true) x.f1 ∧ ((fun n : Int => (Lit.int .i64 n).wf = true) x.f2 ∧ ((fun _ : Bool => True) x.f3 ∧ ((fun n : Int => (Lit.int .i64 n).wf = true) x.f4 ∧ ((fun _ : Bool => True) x.f5 ∧ ((fun n : Int => (Lit.int .i64 n).wf = true) x.f6 ∧ ((fun n : Int => (Lit.int .i64 n).wf = true) x.f7)))))))
theorem opens23 : Opens Try.prog 23 k23 wf23 :=
  Opens.imp (opens_struct (fun p => (⟨p.1, p.2.1, p.2.2.1, p.2.2.2.1, p.2.2.2.2.1, p.2.2.2.2.2.1, p.2.2.2.2.2.2.1, p.2.2.2.2.2.2.2⟩ : S23)) (fun _ => rfl) Try.underlying23 (by kernel_rfl) (fs_cons rfl rfl (by kernel_rfl) rfl (opens_int Try.underlying2) (fs_cons rfl rfl (by kernel_rfl) rfl (opens_int Try.underlying2) (fs_cons rfl rfl (by kernel_rfl) rfl (opens_int Try.underlying2) (fs_cons rfl rfl (by kernel_rfl) rfl (opens_bool Try.underlying4) (fs_cons rfl rfl (by kernel_rfl) rfl (opens_int Try.underlying2) (fs_cons rfl rfl (by kernel_rfl) rfl (opens_bool Try.underlying4) (fs_cons rfl rfl (by kernel_rfl) rfl (opens_int Try.underlying2) (fs_one rfl rfl (by kernel_rfl) (opens_int Try.underlying2)))))))))) (fun _ h => h)
end Go.Proofs.Ytpkpicahbeiocaa.P
