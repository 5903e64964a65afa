/- What the readings of this seat's arguments tell. -/
import Derived.Test.YtdhdgkonghefeaaOp
import Derived.Test.YtdhdgkonghefeaaP0
import Derived.KernelRfl
namespace Go.Proofs.Ytdhdgkonghefeaa.P
open Go.RowKit Go.Proofs.YtdhdgkonghefeaaW.PrintWords Go.Proofs.YtdhdgkonghefeaaW.PrintLast Go.Proofs.Ytdhdgkonghefeaa.Op
def wf89 (x : S89) : Prop := (fun _ : Bool => True) x.f0 ∧ ((fun xs : List Int => xs.length * Try.prog.bytesOf 2 ≤ reachBytes ∧ xs.length ≤ maxLen ∧ ∀ x ∈ xs, (fun n : Int => (Lit.int .i64 n).wf = true) x) x.f1 ∧ ((fun xs : List Int => xs.length * Try.prog.bytesOf 2 ≤ reachBytes ∧ xs.length ≤ maxLen ∧ ∀ x ∈ xs, (fun n : Int => (Lit.int .i64 n).wf = true) x) x.f2))
theorem opens89 : Opens Try.prog 89 k89 wf89 :=
  Opens.imp (opens_struct (fun p => (⟨p.1, p.2.1, p.2.2⟩ : S89)) (fun _ => rfl) Try.underlying89 (by kernel_rfl) (fs_cons rfl rfl (by kernel_rfl) rfl (opens_bool Try.underlying4) (fs_cons rfl rfl (by kernel_rfl) rfl (opens_slice Try.underlying39 (by kernel_rfl) (opens_int Try.underlying2)) (fs_one rfl rfl (by kernel_rfl) (opens_slice Try.underlying39 (by kernel_rfl) (opens_int Try.underlying2)))))) (fun _ h => h)
def wf24 (x : S24) : Prop := (fun n : Int => (Lit.int .i64 n).wf = true) x.f0 ∧ ((fun xs : List (S89) => xs.length * Try.prog.bytesOf 89 ≤ reachBytes ∧ xs.length ≤ maxLen ∧ ∀ x ∈ xs, wf89 x) x.f1)
theorem opens24 : Opens Try.prog 24 k24 wf24 :=
  Opens.imp (opens_struct (fun p => (⟨p.1, p.2⟩ : S24)) (fun _ => rfl) Try.underlying24 (by kernel_rfl) (fs_cons rfl rfl (by kernel_rfl) rfl (opens_int Try.underlying2) (fs_one rfl rfl (by kernel_rfl) (opens_slice Try.underlying22 (by kernel_rfl) opens89)))) (fun _ h => h)
end Go.Proofs.Ytdhdgkonghefeaa.P
