/- What the readings of this seat's arguments tell. -/
import Derived.Test.YtcpdnoogpfkkdaaOp
import Derived.Test.YtcpdnoogpfkkdaaP0
import Derived.KernelRfl
namespace Go.Proofs.Ytcpdnoogpfkkdaa.P
open Go.RowKit Go.Proofs.YtcpdnoogpfkkdaaW.PrintWords Go.Proofs.YtcpdnoogpfkkdaaW.PrintLast Go.Proofs.Ytcpdnoogpfkkdaa.Op
def wf41 (x : S41) : Prop := (fun n : Int => (Lit.int .i64 n).wf = true) x.f0 ∧ ((fun n : Int => (Lit.int .i64 n).wf = true) x.f1)
theorem opens41 : Opens Try.prog 41 k41 wf41 :=
  Opens.imp (opens_struct (fun p => (⟨p.1, p.2⟩ : S41)) (fun _ => rfl) Try.underlying41 (by kernel_rfl) (fs_cons rfl rfl (by kernel_rfl) rfl (opens_int Try.underlying2) (fs_one rfl rfl (by kernel_rfl) (opens_int Try.underlying2)))) (fun _ h => h)
end Go.Proofs.Ytcpdnoogpfkkdaa.P
