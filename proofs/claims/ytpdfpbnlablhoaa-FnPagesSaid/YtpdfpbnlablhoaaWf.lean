/- What the readings of this seat's arguments tell. -/
import Derived.Test.YtpdfpbnlablhoaaOp
import Derived.Test.YtpdfpbnlablhoaaP0
import Derived.KernelRfl
namespace Go.Proofs.Ytpdfpbnlablhoaa.P
open Go.RowKit Go.Proofs.YtpdfpbnlablhoaaW.PrintWords Go.Proofs.YtpdfpbnlablhoaaW.PrintLast Go.Proofs.Ytpdfpbnlablhoaa.Op
def wf92 (x : S92) : Prop := (fun n : Int => (Lit.int .i64 n).wf = true) x.f0 ∧ ((fun n : Int => (Lit.int .i64 n).wf = true) x.f1)
theorem opens92 : Opens Try.prog 92 k92 wf92 :=
  Opens.imp (opens_struct (fun p => (⟨p.1, p.2⟩ : S92)) (fun _ => rfl) Try.underlying92 (by kernel_rfl) (fs_cons rfl rfl (by kernel_rfl) rfl (opens_int Try.underlying2) (fs_one rfl rfl (by kernel_rfl) (opens_int Try.underlying2)))) (fun _ h => h)
def wf24 (x : S24) : Prop := (fun n : Int => (Lit.int .i64 n).wf = true) x.f0 ∧ ((fun n : Int => (Lit.int .i64 n).wf = true) x.f1 ∧ ((fun xs : List (S92) => xs.length * Try.prog.bytesOf 92 ≤ reachBytes ∧ xs.length ≤ maxLen ∧ ∀ x ∈ xs, wf92 x) x.f2))
theorem opens24 : Opens Try.prog 24 k24 wf24 :=
  Opens.imp (opens_struct (fun p => (⟨p.1, p.2.1, p.2.2⟩ : S24)) (fun _ => rfl) Try.underlying24 (by kernel_rfl) (fs_cons rfl rfl (by kernel_rfl) rfl (opens_int Try.underlying2) (fs_cons rfl rfl (by kernel_rfl) rfl (opens_int Try.underlying2) (fs_one rfl rfl (by kernel_rfl) (opens_slice Try.underlying22 (by kernel_rfl) opens92))))) (fun _ h => h)
end Go.Proofs.Ytpdfpbnlablhoaa.P
