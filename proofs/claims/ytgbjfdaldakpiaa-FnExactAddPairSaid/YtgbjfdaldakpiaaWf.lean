/- What the readings of this seat's arguments tell. -/
import Derived.Test.YtgbjfdaldakpiaaOp
import Derived.Test.YtgbjfdaldakpiaaP0
import Derived.KernelRfl
namespace Go.Proofs.Ytgbjfdaldakpiaa.P
open Go.RowKit Go.Proofs.YtgbjfdaldakpiaaW.PrintWords Go.Proofs.YtgbjfdaldakpiaaW.PrintLast Go.Proofs.Ytgbjfdaldakpiaa.Op
def wf40 (x : S40) : Prop := (fun n : Int => (Lit.int .i64 n).wf = true) x.f0 ∧ ((fun n : Int => (Lit.int .i64 n).wf = true) x.f1)
theorem opens40 : Opens Try.prog 40 k40 wf40 :=
  Opens.imp (opens_struct (fun p => (⟨p.1, p.2⟩ : S40)) (fun _ => rfl) Try.underlying40 (by kernel_rfl) (fs_cons rfl rfl (by kernel_rfl) rfl (opens_int Try.underlying2) (fs_one rfl rfl (by kernel_rfl) (opens_int Try.underlying2)))) (fun _ h => h)
end Go.Proofs.Ytgbjfdaldakpiaa.P
