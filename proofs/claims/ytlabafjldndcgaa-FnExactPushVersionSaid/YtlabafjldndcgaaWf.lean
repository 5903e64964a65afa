/- What the readings of this seat's arguments tell. -/
import Derived.Test.YtlabafjldndcgaaOp
import Derived.Test.YtlabafjldndcgaaP0
import Derived.KernelRfl
namespace Go.Proofs.Ytlabafjldndcgaa.P
open Go.RowKit Go.Proofs.YtlabafjldndcgaaW.PrintWords Go.Proofs.YtlabafjldndcgaaW.PrintLast Go.Proofs.Ytlabafjldndcgaa.Op
def wf61 (x : S61) : Prop := (fun n : Int => (Lit.int .i64 n).wf = true) x.f0 ∧ ((fun n : Int => (Lit.int .i64 n).wf = true) x.f1 ∧ ((fun _ : Bool => True) x.f2 ∧ ((fun n : Int => (Lit.int .i64 n).wf = true) x.f3)))
theorem opens61 : Opens Try.prog 61 k61 wf61 :=
  Opens.imp (opens_struct (fun p => (⟨p.1, p.2.1, p.2.2.1, p.2.2.2⟩ : S61)) (fun _ => rfl) Try.underlying61 (by kernel_rfl) (fs_cons rfl rfl (by kernel_rfl) rfl (opens_int Try.underlying2) (fs_cons rfl rfl (by kernel_rfl) rfl (opens_int Try.underlying2) (fs_cons rfl rfl (by kernel_rfl) rfl (opens_bool Try.underlying4) (fs_one rfl rfl (by kernel_rfl) (opens_int Try.underlying2)))))) (fun _ h => h)
def wf34 (x : S34) : Prop := (fun n : Int => (Lit.int .i64 n).wf = true) x.f0 ∧ ((fun n : Int => (Lit.int .i64 n).wf = true) x.f1)
theorem opens34 : Opens Try.prog 34 k34 wf34 :=
  Opens.imp (opens_struct (fun p => (⟨p.1, p.2⟩ : S34)) (fun _ => rfl) Try.underlying34 (by kernel_rfl) (fs_cons rfl rfl (by kernel_rfl) rfl (opens_int Try.underlying2) (fs_one rfl rfl (by kernel_rfl) (opens_int Try.underlying2)))) (fun _ h => h)
end Go.Proofs.Ytlabafjldndcgaa.P
