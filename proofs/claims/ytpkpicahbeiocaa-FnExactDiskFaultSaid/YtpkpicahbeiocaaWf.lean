/- What the readings of this seat's arguments tell. -/
import Derived.Test.YtpkpicahbeiocaaOp
import Derived.Test.YtpkpicahbeiocaaP0
import Derived.KernelRfl
namespace Go.Proofs.Ytpkpicahbeiocaa.P
open Go.RowKit Go.Proofs.YtpkpicahbeiocaaW.PrintWords Go.Proofs.YtpkpicahbeiocaaW.PrintLast Go.Proofs.Ytpkpicahbeiocaa.Op
def wf23 (x : S23) : Prop := (fun n : Int => (Lit.int .i64 n).wf = true) x.f0 ∧ ((fun n : Int => (Lit.int .i64 n).wf = true) x.f1 ∧ ((fun n : Int => (Lit.int .i64 n).wf = true) x.f2 ∧ ((fun _ : Bool => True) x.f3 ∧ ((fun n : Int => (Lit.int .i64 n).wf = true) x.f4 ∧ ((fun _ : Bool => True) x.f5 ∧ ((fun n : Int => (Lit.int .i64 n).wf = true) x.f6 ∧ ((fun n : Int => (Lit.int .i64 n).wf = true) x.f7)))))))
theorem opens23 : Opens Try.prog 23 k23 wf23 :=
  Opens.imp (opens_struct (fun p => (⟨p.1, p.2.1, p.2.2.1, p.2.2.2.1, p.2.2.2.2.1, p.2.2.2.2.2.1, p.2.2.2.2.2.2.1, p.2.2.2.2.2.2.2⟩ : S23)) (fun _ => rfl) Try.underlying23 (by kernel_rfl) (fs_cons rfl rfl (by kernel_rfl) rfl (opens_int Try.underlying2) (fs_cons rfl rfl (by kernel_rfl) rfl (opens_int Try.underlying2) (fs_cons rfl rfl (by kernel_rfl) rfl (opens_int Try.underlying2) (fs_cons rfl rfl (by kernel_rfl) rfl (opens_bool Try.underlying4) (fs_cons rfl rfl (by kernel_rfl) rfl (opens_int Try.underlying2) (fs_cons rfl rfl (by kernel_rfl) rfl (opens_bool Try.underlying4) (fs_cons rfl rfl (by kernel_rfl) rfl (opens_int Try.underlying2) (fs_one rfl rfl (by kernel_rfl) (opens_int Try.underlying2)))))))))) (fun _ h => h)
def wf137 (x : S137) : Prop := (fun n : Int => (Lit.int .i64 n).wf = true) x.f0 ∧ ((fun n : Int => (Lit.int .i64 n).wf = true) x.f1 ∧ ((fun xs : List Int => xs.length * Try.prog.bytesOf 5 ≤ reachBytes ∧ xs.length ≤ maxLen ∧ ∀ x ∈ xs, (fun n : Int => (Lit.int .u8 n).wf = true) x) x.f2))
theorem opens137 : Opens Try.prog 137 k137 wf137 :=
  Opens.imp (opens_struct (fun p => (⟨p.1, p.2.1, p.2.2⟩ : S137)) (fun _ => rfl) Try.underlying137 (by kernel_rfl) (fs_cons rfl rfl (by kernel_rfl) rfl (opens_int Try.underlying2) (fs_cons rfl rfl (by kernel_rfl) rfl (opens_int Try.underlying2) (fs_one rfl rfl (by kernel_rfl) (opens_slice Try.underlying28 (by kernel_rfl) (opens_int Try.underlying5)))))) (fun _ h => h)
def wf81 (x : S81) : Prop := (fun xs : List (List Int) => xs.length * Try.prog.bytesOf 28 ≤ reachBytes ∧ xs.length ≤ maxLen ∧ ∀ x ∈ xs, (fun xs : List Int => xs.length * Try.prog.bytesOf 5 ≤ reachBytes ∧ xs.length ≤ maxLen ∧ ∀ x ∈ xs, (fun n : Int => (Lit.int .u8 n).wf = true) x) x) x.f0 ∧ ((fun xs : List (S137) => xs.length * Try.prog.bytesOf 137 ≤ reachBytes ∧ xs.length ≤ maxLen ∧ ∀ x ∈ xs, wf137 x) x.f1)
theorem opens81 : Opens Try.prog 81 k81 wf81 :=
  Opens.imp (opens_struct (fun p => (⟨p.1, p.2⟩ : S81)) (fun _ => rfl) Try.underlying81 (by kernel_rfl) (fs_cons rfl rfl (by kernel_rfl) rfl (opens_slice Try.underlying78 (by kernel_rfl) (opens_slice Try.underlying28 (by kernel_rfl) (opens_int Try.underlying5))) (fs_one rfl rfl (by kernel_rfl) (opens_slice Try.underlying79 (by kernel_rfl) opens137)))) (fun _ h => h)
end Go.Proofs.Ytpkpicahbeiocaa.P
