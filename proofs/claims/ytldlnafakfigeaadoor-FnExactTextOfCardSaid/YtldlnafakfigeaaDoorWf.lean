/- What the readings of this seat's arguments tell. -/
import Derived.Test.YtldlnafakfigeaaDoorOp
import Derived.Test.YtldlnafakfigeaaDoorP0
import Derived.KernelRfl
namespace Go.Proofs.YtldlnafakfigeaaDoor.P
open Go.RowKit Go.Proofs.YtldlnafakfigeaaDoorW.PrintWords Go.Proofs.YtldlnafakfigeaaDoorW.PrintLast Go.Proofs.YtldlnafakfigeaaDoor.Op
def wf109 (x : S109) : Prop := (fun n : Int => (Lit.int .i64 n).wf = true) x.f0 ∧ ((fun _ : Bool => True) x.f1 ∧ ((fun _ : Bool => True) x.f2 ∧ ((fun n : Int => (Lit.int .i64 n).wf = true) x.f3)))
theorem opens109 : Opens Tryd.prog 109 k109 wf109 :=
  Opens.imp (opens_struct (fun p => (⟨p.1, p.2.1, p.2.2.1, p.2.2.2⟩ : S109)) (fun _ => rfl) Tryd.underlying109 (by kernel_rfl) (fs_cons rfl rfl (by kernel_rfl) rfl (opens_int Tryd.underlying2) (fs_cons rfl rfl (by kernel_rfl) rfl (opens_bool Tryd.underlying4) (fs_cons rfl rfl (by kernel_rfl) rfl (opens_bool Tryd.underlying4) (fs_one rfl rfl (by kernel_rfl) (opens_int Tryd.underlying2)))))) (fun _ h => h)
def wf61 (x : S61) : Prop := (fun n : Int => (Lit.int .i64 n).wf = true) x.f0 ∧ ((fun n : Int => (Lit.int .i64 n).wf = true) x.f1 ∧ ((fun n : Int => (Lit.int .i64 n).wf = true) x.f2 ∧ ((fun n : Int => (Lit.int .i64 n).wf = true) x.f3 ∧ ((fun xs : List (S109) => xs.length * Tryd.prog.bytesOf 109 ≤ reachBytes ∧ xs.length ≤ maxLen ∧ ∀ x ∈ xs, wf109 x) x.f4))))
theorem opens61 : Opens Tryd.prog 61 k61 wf61 :=
  Opens.imp (opens_struct (fun p => (⟨p.1, p.2.1, p.2.2.1, p.2.2.2.1, p.2.2.2.2⟩ : S61)) (fun _ => rfl) Tryd.underlying61 (by kernel_rfl) (fs_cons rfl rfl (by kernel_rfl) rfl (opens_int Tryd.underlying2) (fs_cons rfl rfl (by kernel_rfl) rfl (opens_int Tryd.underlying2) (fs_cons rfl rfl (by kernel_rfl) rfl (opens_int Tryd.underlying2) (fs_cons rfl rfl (by kernel_rfl) rfl (opens_int Tryd.underlying2) (fs_one rfl rfl (by kernel_rfl) (opens_slice Tryd.underlying59 (by kernel_rfl) opens109))))))) (fun _ h => h)
def wf111 (x : S111) : Prop := (fun n : Int => (Lit.int .i64 n).wf = true) x.f0 ∧ ((fun n : Int => (Lit.int .i64 n).wf = true) x.f1 ∧ ((fun _ : Bool => True) x.f2 ∧ ((fun n : Int => (Lit.int .i64 n).wf = true) x.f3)))
theorem opens111 : Opens Tryd.prog 111 k111 wf111 :=
  Opens.imp (opens_struct (fun p => (⟨p.1, p.2.1, p.2.2.1, p.2.2.2⟩ : S111)) (fun _ => rfl) Tryd.underlying111 (by kernel_rfl) (fs_cons rfl rfl (by kernel_rfl) rfl (opens_int Tryd.underlying2) (fs_cons rfl rfl (by kernel_rfl) rfl (opens_int Tryd.underlying2) (fs_cons rfl rfl (by kernel_rfl) rfl (opens_bool Tryd.underlying4) (fs_one rfl rfl (by kernel_rfl) (opens_int Tryd.underlying2)))))) (fun _ h => h)
def wf65 (x : S65) : Prop := (fun n : Int => (Lit.int .i64 n).wf = true) x.f0 ∧ ((fun xs : List (S111) => xs.length * Tryd.prog.bytesOf 111 ≤ reachBytes ∧ xs.length ≤ maxLen ∧ ∀ x ∈ xs, wf111 x) x.f1)
theorem opens65 : Opens Tryd.prog 65 k65 wf65 :=
  Opens.imp (opens_struct (fun p => (⟨p.1, p.2⟩ : S65)) (fun _ => rfl) Tryd.underlying65 (by kernel_rfl) (fs_cons rfl rfl (by kernel_rfl) rfl (opens_int Tryd.underlying2) (fs_one rfl rfl (by kernel_rfl) (opens_slice Tryd.underlying63 (by kernel_rfl) opens111)))) (fun _ h => h)
def wf25 (x : S25) : Prop := (fun n : Int => (Lit.int .i64 n).wf = true) x.f0 ∧ ((fun n : Int => (Lit.int .i64 n).wf = true) x.f1 ∧ ((fun xs : List (S61) => xs.length * Tryd.prog.bytesOf 61 ≤ reachBytes ∧ xs.length ≤ maxLen ∧ ∀ x ∈ xs, wf61 x) x.f2 ∧ ((fun xs : List (S65) => xs.length * Tryd.prog.bytesOf 65 ≤ reachBytes ∧ xs.length ≤ maxLen ∧ ∀ x ∈ xs, wf65 x) x.f3)))
theorem opens25 : Opens Tryd.prog 25 k25 wf25 :=
  Opens.imp (opens_struct (fun p => (⟨p.1, p.2.1, p.2.2.1, p.2.2.2⟩ : S25)) (fun _ => rfl) Tryd.underlying25 (by kernel_rfl) (fs_cons rfl rfl (by kernel_rfl) rfl (opens_int Tryd.underlying2) (fs_cons rfl rfl (by kernel_rfl) rfl (opens_int Tryd.underlying2) (fs_cons rfl rfl (by kernel_rfl) rfl (opens_slice Tryd.underlying22 (by kernel_rfl) opens61) (fs_one rfl rfl (by kernel_rfl) (opens_slice Tryd.underlying23 (by kernel_rfl) opens65)))))) (fun _ h => h)
end Go.Proofs.YtldlnafakfigeaaDoor.P
