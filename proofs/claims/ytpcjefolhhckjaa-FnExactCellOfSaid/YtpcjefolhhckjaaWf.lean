/- What the readings of this seat's arguments tell. -/
import Derived.Test.YtpcjefolhhckjaaOp
import Derived.Test.YtpcjefolhhckjaaP0
import Derived.KernelRfl
namespace Go.Proofs.Ytpcjefolhhckjaa.P
open Go.RowKit Go.Proofs.YtpcjefolhhckjaaW.PrintWords Go.Proofs.YtpcjefolhhckjaaW.PrintLast Go.Proofs.Ytpcjefolhhckjaa.Op
def wf100 (x : S100) : Prop := (fun n : Int => (Lit.int .i64 n).wf = true) x.f0 ∧ ((fun n : Int => (Lit.int .i64 n).wf = true) x.f1)
theorem opens100 : Opens Try.prog 100 k100 wf100 :=
  Opens.imp (opens_struct (fun p => (⟨p.1, p.2⟩ : S100)) (fun _ => rfl) Try.underlying100 (by kernel_rfl) (fs_cons rfl rfl (by kernel_rfl) rfl (opens_int Try.underlying2) (fs_one rfl rfl (by kernel_rfl) (opens_int Try.underlying2)))) (fun _ h => h)
def wf39 (x : S39) : Prop := (fun n : Int => (Lit.int .i64 n).wf = true) x.f0 ∧ ((fun n : Int => (Lit.int .i64 n).wf = true) x.f1 ∧ ((fun xs : List (S100) => xs.length * Try.prog.bytesOf 100 ≤ reachBytes ∧ xs.length ≤ maxLen ∧ ∀ x ∈ xs, wf100 x) x.f2))
theorem opens39 : Opens Try.prog 39 k39 wf39 :=
  Opens.imp (opens_struct (fun p => (⟨p.1, p.2.1, p.2.2⟩ : S39)) (fun _ => rfl) Try.underlying39 (by kernel_rfl) (fs_cons rfl rfl (by kernel_rfl) rfl (opens_int Try.underlying2) (fs_cons rfl rfl (by kernel_rfl) rfl (opens_int Try.underlying2) (fs_one rfl rfl (by kernel_rfl) (opens_slice Try.underlying37 (by kernel_rfl) opens100))))) (fun _ h => h)
end Go.Proofs.Ytpcjefolhhckjaa.P
