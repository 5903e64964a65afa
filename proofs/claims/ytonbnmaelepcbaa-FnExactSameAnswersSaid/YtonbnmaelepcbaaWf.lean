/- What the readings of this seat's arguments tell. -/
import Derived.Test.YtonbnmaelepcbaaOp
import Derived.Test.YtonbnmaelepcbaaP0
import Derived.KernelRfl
namespace Go.Proofs.Ytonbnmaelepcbaa.P
open Go.RowKit Go.Proofs.YtonbnmaelepcbaaW.PrintWords Go.Proofs.YtonbnmaelepcbaaW.PrintLast Go.Proofs.Ytonbnmaelepcbaa.Op
def wf171 (x : S171) : Prop := (fun n : Int => (Lit.int .i64 n).wf = true) x.f0 ∧ ((fun _ : Bool => True) x.f1 ∧ ((fun _ : Bool => True) x.f2 ∧ ((fun n : Int => (Lit.int .i64 n).wf = true) x.f3)))
theorem opens171 : Opens Try.prog 171 k171 wf171 :=
  Opens.imp (opens_struct (fun p => (⟨p.1, p.2.1, p.2.2.1, p.2.2.2⟩ : S171)) (fun _ => rfl) Try.underlying171 (by kernel_rfl) (fs_cons rfl rfl (by kernel_rfl) rfl (opens_int Try.underlying2) (fs_cons rfl rfl (by kernel_rfl) rfl (opens_bool Try.underlying4) (fs_cons rfl rfl (by kernel_rfl) rfl (opens_bool Try.underlying4) (fs_one rfl rfl (by kernel_rfl) (opens_int Try.underlying2)))))) (fun _ h => h)
def wf139 (x : S139) : Prop := (fun n : Int => (Lit.int .i64 n).wf = true) x.f0 ∧ ((fun n : Int => (Lit.int .i64 n).wf = true) x.f1 ∧ ((fun n : Int => (Lit.int .i64 n).wf = true) x.f2 ∧ ((fun n : Int => (Lit.int .i64 n).wf = true) x.f3 ∧ ((fun xs : List (S171) => xs.length * Try.prog.bytesOf 171 ≤ reachBytes ∧ xs.length ≤ maxLen ∧ ∀ x ∈ xs, wf171 x) x.f4))))
theorem opens139 : Opens Try.prog 139 k139 wf139 :=
  Opens.imp (opens_struct (fun p => (⟨p.1, p.2.1, p.2.2.1, p.2.2.2.1, p.2.2.2.2⟩ : S139)) (fun _ => rfl) Try.underlying139 (by kernel_rfl) (fs_cons rfl rfl (by kernel_rfl) rfl (opens_int Try.underlying2) (fs_cons rfl rfl (by kernel_rfl) rfl (opens_int Try.underlying2) (fs_cons rfl rfl (by kernel_rfl) rfl (opens_int Try.underlying2) (fs_cons rfl rfl (by kernel_rfl) rfl (opens_int Try.underlying2) (fs_one rfl rfl (by kernel_rfl) (opens_slice Try.underlying137 (by kernel_rfl) opens171))))))) (fun _ h => h)
def wf173 (x : S173) : Prop := (fun n : Int => (Lit.int .i64 n).wf = true) x.f0 ∧ ((fun n : Int => (Lit.int .i64 n).wf = true) x.f1 ∧ ((fun _ : Bool => True) x.f2 ∧ ((fun n : Int => (Lit.int .i64 n).wf = true) x.f3)))
theorem opens173 : Opens Try.prog 173 k173 wf173 :=
  Opens.imp (opens_struct (fun p => (⟨p.1, p.2.1, p.2.2.1, p.2.2.2⟩ : S173)) (fun _ => rfl) Try.underlying173 (by kernel_rfl) (fs_cons rfl rfl (by kernel_rfl) rfl (opens_int Try.underlying2) (fs_cons rfl rfl (by kernel_rfl) rfl (opens_int Try.underlying2) (fs_cons rfl rfl (by kernel_rfl) rfl (opens_bool Try.underlying4) (fs_one rfl rfl (by kernel_rfl) (opens_int Try.underlying2)))))) (fun _ h => h)
def wf143 (x : S143) : Prop := (fun n : Int => (Lit.int .i64 n).wf = true) x.f0 ∧ ((fun xs : List (S173) => xs.length * Try.prog.bytesOf 173 ≤ reachBytes ∧ xs.length ≤ maxLen ∧ ∀ x ∈ xs, wf173 x) x.f1)
theorem opens143 : Opens Try.prog 143 k143 wf143 :=
  Opens.imp (opens_struct (fun p => (⟨p.1, p.2⟩ : S143)) (fun _ => rfl) Try.underlying143 (by kernel_rfl) (fs_cons rfl rfl (by kernel_rfl) rfl (opens_int Try.underlying2) (fs_one rfl rfl (by kernel_rfl) (opens_slice Try.underlying141 (by kernel_rfl) opens173)))) (fun _ h => h)
def wf25 (x : S25) : Prop := (fun n : Int => (Lit.int .i64 n).wf = true) x.f0 ∧ ((fun n : Int => (Lit.int .i64 n).wf = true) x.f1 ∧ ((fun xs : List (S139) => xs.length * Try.prog.bytesOf 139 ≤ reachBytes ∧ xs.length ≤ maxLen ∧ ∀ x ∈ xs, wf139 x) x.f2 ∧ ((fun xs : List (S143) => xs.length * Try.prog.bytesOf 143 ≤ reachBytes ∧ xs.length ≤ maxLen ∧ ∀ x ∈ xs, wf143 x) x.f3)))
theorem opens25 : Opens Try.prog 25 k25 wf25 :=
  Opens.imp (opens_struct (fun p => (⟨p.1, p.2.1, p.2.2.1, p.2.2.2⟩ : S25)) (fun _ => rfl) Try.underlying25 (by kernel_rfl) (fs_cons rfl rfl (by kernel_rfl) rfl (opens_int Try.underlying2) (fs_cons rfl rfl (by kernel_rfl) rfl (opens_int Try.underlying2) (fs_cons rfl rfl (by kernel_rfl) rfl (opens_slice Try.underlying22 (by kernel_rfl) opens139) (fs_one rfl rfl (by kernel_rfl) (opens_slice Try.underlying23 (by kernel_rfl) opens143)))))) (fun _ h => h)
def wf107 (x : S107) : Prop := (fun n : Int => (Lit.int .i64 n).wf = true) x.f0 ∧ ((fun n : Int => (Lit.int .i64 n).wf = true) x.f1)
theorem opens107 : Opens Try.prog 107 k107 wf107 :=
  Opens.imp (opens_struct (fun p => (⟨p.1, p.2⟩ : S107)) (fun _ => rfl) Try.underlying107 (by kernel_rfl) (fs_cons rfl rfl (by kernel_rfl) rfl (opens_int Try.underlying2) (fs_one rfl rfl (by kernel_rfl) (opens_int Try.underlying2)))) (fun _ h => h)
end Go.Proofs.Ytonbnmaelepcbaa.P
