/- What the readings of this seat's arguments tell. -/
import Derived.Test.YtocdahbinombkaaGreatOp
import Derived.Test.YtocdahbinombkaaGreatP0
import Derived.KernelRfl
namespace Go.Proofs.YtocdahbinombkaaGreat.P
open Go.RowKit Go.Proofs.YtocdahbinombkaaGreatW.PrintWords Go.Proofs.YtocdahbinombkaaGreatW.PrintLast Go.Proofs.YtocdahbinombkaaGreat.Op
def wf136 (x : S136) : Prop := (fun n : Int => (Lit.int .i64 n).wf = true) x.f0 ∧ ((fun _ : Bool => True) x.f1 ∧ ((fun _ : Bool => True) x.f2 ∧ ((fun n : Int => (Lit.int .i64 n).wf = true) x.f3)))
theorem opens136 : Opens Tryz.prog 136 k136 wf136 :=
  Opens.imp (opens_struct (fun p => (⟨p.1, p.2.1, p.2.2.1, p.2.2.2⟩ : S136)) (fun _ => rfl) Tryz.underlying136 (by kernel_rfl) (fs_cons rfl rfl (by kernel_rfl) rfl (opens_int Tryz.underlying2) (fs_cons rfl rfl (by kernel_rfl) rfl (opens_bool Tryz.underlying4) (fs_cons rfl rfl (by kernel_rfl) rfl (opens_bool Tryz.underlying4) (fs_one rfl rfl (by kernel_rfl) (opens_int Tryz.underlying2)))))) (fun _ h => h)
def wf73 (x : S73) : Prop := (fun n : Int => (Lit.int .i64 n).wf = true) x.f0 ∧ ((fun n : Int => (Lit.int .i64 n).wf = true) x.f1 ∧ ((fun n : Int => (Lit.int .i64 n).wf = true) x.f2 ∧ ((fun n : Int => (Lit.int .i64 n).wf = true) x.f3 ∧ ((fun xs : List (S136) => xs.length * Tryz.prog.bytesOf 136 ≤ reachBytes ∧ xs.length ≤ maxLen ∧ ∀ x ∈ xs, wf136 x) x.f4))))
theorem opens73 : Opens Tryz.prog 73 k73 wf73 :=
  Opens.imp (opens_struct (fun p => (⟨p.1, p.2.1, p.2.2.1, p.2.2.2.1, p.2.2.2.2⟩ : S73)) (fun _ => rfl) Tryz.underlying73 (by kernel_rfl) (fs_cons rfl rfl (by kernel_rfl) rfl (opens_int Tryz.underlying2) (fs_cons rfl rfl (by kernel_rfl) rfl (opens_int Tryz.underlying2) (fs_cons rfl rfl (by kernel_rfl) rfl (opens_int Tryz.underlying2) (fs_cons rfl rfl (by kernel_rfl) rfl (opens_int Tryz.underlying2) (fs_one rfl rfl (by kernel_rfl) (opens_slice Tryz.underlying71 (by kernel_rfl) opens136))))))) (fun _ h => h)
def wf138 (x : S138) : Prop := (fun n : Int => (Lit.int .i64 n).wf = true) x.f0 ∧ ((fun n : Int => (Lit.int .i64 n).wf = true) x.f1 ∧ ((fun _ : Bool => True) x.f2 ∧ ((fun n : Int => (Lit.int .i64 n).wf = true) x.f3)))
theorem opens138 : Opens Tryz.prog 138 k138 wf138 :=
  Opens.imp (opens_struct (fun p => (⟨p.1, p.2.1, p.2.2.1, p.2.2.2⟩ : S138)) (fun _ => rfl) Tryz.underlying138 (by kernel_rfl) (fs_cons rfl rfl (by kernel_rfl) rfl (opens_int Tryz.underlying2) (fs_cons rfl rfl (by kernel_rfl) rfl (opens_int Tryz.underlying2) (fs_cons rfl rfl (by kernel_rfl) rfl (opens_bool Tryz.underlying4) (fs_one rfl rfl (by kernel_rfl) (opens_int Tryz.underlying2)))))) (fun _ h => h)
def wf77 (x : S77) : Prop := (fun n : Int => (Lit.int .i64 n).wf = true) x.f0 ∧ ((fun xs : List (S138) => xs.length * Tryz.prog.bytesOf 138 ≤ reachBytes ∧ xs.length ≤ maxLen ∧ ∀ x ∈ xs, wf138 x) x.f1)
theorem opens77 : Opens Tryz.prog 77 k77 wf77 :=
  Opens.imp (opens_struct (fun p => (⟨p.1, p.2⟩ : S77)) (fun _ => rfl) Tryz.underlying77 (by kernel_rfl) (fs_cons rfl rfl (by kernel_rfl) rfl (opens_int Tryz.underlying2) (fs_one rfl rfl (by kernel_rfl) (opens_slice Tryz.underlying75 (by kernel_rfl) opens138)))) (fun _ h => h)
def wf25 (x : S25) : Prop := (fun n : Int => (Lit.int .i64 n).wf = true) x.f0 ∧ ((fun n : Int => (Lit.int .i64 n).wf = true) x.f1 ∧ ((fun xs : List (S73) => xs.length * Tryz.prog.bytesOf 73 ≤ reachBytes ∧ xs.length ≤ maxLen ∧ ∀ x ∈ xs, wf73 x) x.f2 ∧ ((fun xs : List (S77) => xs.length * Tryz.prog.bytesOf 77 ≤ reachBytes ∧ xs.length ≤ maxLen ∧ ∀ x ∈ xs, wf77 x) x.f3)))
theorem opens25 : Opens Tryz.prog 25 k25 wf25 :=
  Opens.imp (opens_struct (fun p => (⟨p.1, p.2.1, p.2.2.1, p.2.2.2⟩ : S25)) (fun _ => rfl) Tryz.underlying25 (by kernel_rfl) (fs_cons rfl rfl (by kernel_rfl) rfl (opens_int Tryz.underlying2) (fs_cons rfl rfl (by kernel_rfl) rfl (opens_int Tryz.underlying2) (fs_cons rfl rfl (by kernel_rfl) rfl (opens_slice Tryz.underlying22 (by kernel_rfl) opens73) (fs_one rfl rfl (by kernel_rfl) (opens_slice Tryz.underlying23 (by kernel_rfl) opens77)))))) (fun _ h => h)
def wf59 (x : S59) : Prop := (fun n : Int => (Lit.int .i64 n).wf = true) x.f0 ∧ ((fun n : Int => (Lit.int .i64 n).wf = true) x.f1)
theorem opens59 : Opens Tryz.prog 59 k59 wf59 :=
  Opens.imp (opens_struct (fun p => (⟨p.1, p.2⟩ : S59)) (fun _ => rfl) Tryz.underlying59 (by kernel_rfl) (fs_cons rfl rfl (by kernel_rfl) rfl (opens_int Tryz.underlying2) (fs_one rfl rfl (by kernel_rfl) (opens_int Tryz.underlying2)))) (fun _ h => h)
end Go.Proofs.YtocdahbinombkaaGreat.P
