/- What the readings of this seat's arguments tell. -/
import Derived.Test.YthagppmaofcllaaOp
import Derived.Test.YthagppmaofcllaaP0
import Derived.KernelRfl
namespace Go.Proofs.Ythagppmaofcllaa.P
open Go.RowKit Go.Proofs.YthagppmaofcllaaW.PrintWords Go.Proofs.YthagppmaofcllaaW.PrintLast Go.Proofs.Ythagppmaofcllaa.Op
def wf24 (x : S24) : Prop := (fun xs : List Int => xs.length * Try.prog.bytesOf 5 ≤ reachBytes ∧ xs.length ≤ maxLen ∧ ∀ x ∈ xs, (fun n : Int => (Lit.int .u8 n).wf = true) x) x.f0 ∧ ((fun xs : List Int => xs.length * Try.prog.bytesOf 5 ≤ reachBytes ∧ xs.length ≤ maxLen ∧ ∀ x ∈ xs, (fun n : Int => (Lit.int .u8 n).wf = true) x) x.f1)
theorem opens24 : Opens Try.prog 24 k24 wf24 :=
  Opens.imp (opens_struct (fun p => (⟨p.1, p.2⟩ : S24)) (fun _ => rfl) Try.underlying24 (by kernel_rfl) (fs_cons rfl rfl (by kernel_rfl) rfl (opens_slice Try.underlying22 (by kernel_rfl) (opens_int Try.underlying5)) (fs_one rfl rfl (by kernel_rfl) (opens_slice Try.underlying22 (by kernel_rfl) (opens_int Try.underlying5))))) (fun _ h => h)
def wf78 (x : S78) : Prop := (fun n : Int => (Lit.int .i64 n).wf = true) x.f0 ∧ ((fun n : Int => (Lit.int .i64 n).wf = true) x.f1 ∧ ((fun n : Int => (Lit.int .i64 n).wf = true) x.f2 ∧ ((fun _ : Bool => True) x.f3 ∧ ((fun n : Int => (Lit.int .i64 n).wf = true) x.f4 ∧ ((fun _ : Bool => True) x.f5 ∧ ((fun n : Int => (Lit.int .i64 n).wf = true) x.f6 ∧ ((fun n : Int => (Lit.int .i64 n).wf = true) x.f7)))))))
theorem opens78 : Opens Try.prog 78 k78 wf78 :=
  Opens.imp (opens_struct (fun p => (⟨p.1, p.2.1, p.2.2.1, p.2.2.2.1, p.2.2.2.2.1, p.2.2.2.2.2.1, p.2.2.2.2.2.2.1, p.2.2.2.2.2.2.2⟩ : S78)) (fun _ => rfl) Try.underlying78 (by kernel_rfl) (fs_cons rfl rfl (by kernel_rfl) rfl (opens_int Try.underlying2) (fs_cons rfl rfl (by kernel_rfl) rfl (opens_int Try.underlying2) (fs_cons rfl rfl (by kernel_rfl) rfl (opens_int Try.underlying2) (fs_cons rfl rfl (by kernel_rfl) rfl (opens_bool Try.underlying4) (fs_cons rfl rfl (by kernel_rfl) rfl (opens_int Try.underlying2) (fs_cons rfl rfl (by kernel_rfl) rfl (opens_bool Try.underlying4) (fs_cons rfl rfl (by kernel_rfl) rfl (opens_int Try.underlying2) (fs_one rfl rfl (by kernel_rfl) (opens_int Try.underlying2)))))))))) (fun _ h => h)
end Go.Proofs.Ythagppmaofcllaa.P
