import Derived.Test.YthagppmaofcllaaZz
import Derived.Test.YthagppmaofcllaaP0
import Derived.Test.YthagppmaofcllaaPCadefgh3
import Derived.Test.YthagppmaofcllaaPCall2
import Derived.Test.YthagppmaofcllaaPDadefgh0
import Derived.Test.YthagppmaofcllaaPDall0
import Derived.Test.YthagppmaofcllaaWRepsOne
import Derived.Test.YthagppmaofcllaaWTab
import Derived.Test.YthagppmaofcllaaLv
namespace Go.Proofs.Ythagppmaofcllaa.P
open Go.RowKit Go.Proofs.YthagppmaofcllaaW.PrintWords Go.Proofs.YthagppmaofcllaaW.PrintLast Go.Proofs.YthagppmaofcllaaW.PrintMore
attribute [local go_sem] max2_int min2_int max_two min_two max_three min_three max_four min_four   -- for this text's walks alone
set_option linter.unusedVariables false
set_option linter.unusedSimpArgs false
theorem ye0 {p : Prop} (h : p := by refine zQ ?_; refine Qk (cs := #[.int .i64 t58, .int .i64 t59, .int .i64 t60, .bool ((Go.bits .and .u8 (rd y56 4) 1) == 1), .int .i64 t61, .bool ((Go.bits .and .u8 (rd y56 4) 2) == 2), .int .i64 t62, .int .i64 0]) ?_ 7 _ rfl; refine zQ ?_; refine Qk (cs := #[.int .i64 t58, .int .i64 t59, .int .i64 t60, .bool ((Go.bits .and .u8 (rd y56 4) 1) == 1), .int .i64 t61, .bool ((Go.bits .and .u8 (rd y56 4) 2) == 2), .int .i64 0, .int .i64 0]) ?_ 6 _ rfl; refine zQ ?_; refine Qk (cs := #[.int .i64 t58, .int .i64 t59, .int .i64 t60, .bool ((Go.bits .and .u8 (rd y56 4) 1) == 1), .int .i64 t61, .bool false, .int .i64 0, .int .i64 0]) ?_ 5 _ rfl; refine zQ ?_; refine Qk (cs := #[.int .i64 t58, .int .i64 t59, .int .i64 t60, .bool ((Go.bits .and .u8 (rd y56 4) 1) == 1), .int .i64 0, .bool false, .int .i64 0, .int .i64 0]) ?_ 4 _ rfl; refine zQ ?_; refine Qk (cs := #[.int .i64 t58, .int .i64 t59, .int .i64 t60, .bool false, .int .i64 0, .bool false, .int .i64 0, .int .i64 0]) ?_ 3 _ rfl; refine zQ ?_; refine Qk (cs := #[.int .i64 t58, .int .i64 t59, .int .i64 0, .bool false, .int .i64 0, .bool false, .int .i64 0, .int .i64 0]) ?_ 2 _ rfl; refine zQ ?_; refine Qk (cs := #[.int .i64 t58, .int .i64 0, .int .i64 0, .bool false, .int .i64 0, .bool false, .int .i64 0, .int .i64 0]) ?_ 1 _ rfl; refine zQ ?_; refine Qk (cs := #[.int .i64 0, .int .i64 0, .int .i64 0, .bool false, .int .i64 0, .bool false, .int .i64 0, .int .i64 0]) ?_ 0 _ rfl; refine zQ ?_; exact BK54.out) : p := h
theorem ye1 {p : Prop} (h : p := by refine zV ?_; exact (Kd.Qae (Kd.Qad (p := ⟨gb54, 7, none⟩) (Kd.Qad (p := ⟨gb54, 6, none⟩) (Kd.Qad (p := ⟨gb54, 5, none⟩) (Kd.Qad (p := ⟨gb54, 4, none⟩) (Kd.Qad (p := ⟨gb54, 3, none⟩) (Kd.Qad (p := ⟨gb54, 2, none⟩) (Kd.Qad (p := ⟨gb54, 1, none⟩) (Kd.Qad (p := ⟨gb54, 0, none⟩) (Kd.Qae HO_0.out (fun k_ hk => (⟨hk, hk.2.2⟩ : _ ∧ k_ ≠ gb54))) (fun _ hk => hk.2) (.int .i64 t58)) (fun _ hk => hk.2) (.int .i64 t59)) (fun _ hk => hk.2) (.int .i64 t60)) (fun _ hk => hk.2) (.bool ((Go.bits .and .u8 (rd y56 4) 1) == 1))) (fun _ hk => hk.2) (.int .i64 t61)) (fun _ hk => hk.2) (.bool ((Go.bits .and .u8 (rd y56 4) 2) == 2))) (fun _ hk => hk.2) (.int .i64 t62)) (fun _ hk => hk.2) (.int .i64 t63)) (fun _ h_ => h_.1))) : p := h
theorem ye2 {p : Prop} (h : p := by refine zV ?_; exact (Kd.Qae (Kd.Qad (p := ⟨gb54, 7, none⟩) (Kd.Qad (p := ⟨gb54, 6, none⟩) (Kd.Qad (p := ⟨gb54, 5, none⟩) (Kd.Qad (p := ⟨gb54, 4, none⟩) (Kd.Qad (p := ⟨gb54, 3, none⟩) (Kd.Qad (p := ⟨gb54, 2, none⟩) (Kd.Qad (p := ⟨gb54, 1, none⟩) (Kd.Qad (p := ⟨gb54, 0, none⟩) (Kd.Qae HO65.out (fun k_ hk => (⟨hk, hk.2.2⟩ : _ ∧ k_ ≠ gb54))) (fun _ hk => hk.2) (.int .i64 t58)) (fun _ hk => hk.2) (.int .i64 t59)) (fun _ hk => hk.2) (.int .i64 t60)) (fun _ hk => hk.2) (.bool ((Go.bits .and .u8 (rd y56 4) 1) == 1))) (fun _ hk => hk.2) (.int .i64 t61)) (fun _ hk => hk.2) (.bool ((Go.bits .and .u8 (rd y56 4) 2) == 2))) (fun _ hk => hk.2) (.int .i64 t62)) (fun _ hk => hk.2) (.int .i64 t63)) (fun _ h_ => h_.1))) : p := h
theorem ye3 {p : Prop} (h : p := by refine zV ?_; exact (Kd.Qae (Kd.Qad (p := ⟨gb54, 7, none⟩) (Kd.Qad (p := ⟨gb54, 6, none⟩) (Kd.Qad (p := ⟨gb54, 5, none⟩) (Kd.Qad (p := ⟨gb54, 4, none⟩) (Kd.Qad (p := ⟨gb54, 3, none⟩) (Kd.Qad (p := ⟨gb54, 2, none⟩) (Kd.Qad (p := ⟨gb54, 1, none⟩) (Kd.Qad (p := ⟨gb54, 0, none⟩) (Kd.Qae HO66.out (fun k_ hk => (⟨hk, hk.2.2⟩ : _ ∧ k_ ≠ gb54))) (fun _ hk => hk.2) (.int .i64 t58)) (fun _ hk => hk.2) (.int .i64 t59)) (fun _ hk => hk.2) (.int .i64 t60)) (fun _ hk => hk.2) (.bool ((Go.bits .and .u8 (rd y56 4) 1) == 1))) (fun _ hk => hk.2) (.int .i64 t61)) (fun _ hk => hk.2) (.bool ((Go.bits .and .u8 (rd y56 4) 2) == 2))) (fun _ hk => hk.2) (.int .i64 t62)) (fun _ hk => hk.2) (.int .i64 t63)) (fun _ h_ => h_.1))) : p := h
theorem ye4 {p : Prop} (h : p := by refine zV ?_; exact (Kd.Qae (Kd.Qad (p := ⟨gb54, 7, none⟩) (Kd.Qad (p := ⟨gb54, 6, none⟩) (Kd.Qad (p := ⟨gb54, 5, none⟩) (Kd.Qad (p := ⟨gb54, 4, none⟩) (Kd.Qad (p := ⟨gb54, 3, none⟩) (Kd.Qad (p := ⟨gb54, 2, none⟩) (Kd.Qad (p := ⟨gb54, 1, none⟩) (Kd.Qad (p := ⟨gb54, 0, none⟩) (Kd.Qae HO67.out (fun k_ hk => (⟨hk, hk.2.2⟩ : _ ∧ k_ ≠ gb54))) (fun _ hk => hk.2) (.int .i64 t58)) (fun _ hk => hk.2) (.int .i64 t59)) (fun _ hk => hk.2) (.int .i64 t60)) (fun _ hk => hk.2) (.bool ((Go.bits .and .u8 (rd y56 4) 1) == 1))) (fun _ hk => hk.2) (.int .i64 t61)) (fun _ hk => hk.2) (.bool ((Go.bits .and .u8 (rd y56 4) 2) == 2))) (fun _ hk => hk.2) (.int .i64 t62)) (fun _ hk => hk.2) (.int .i64 t63)) (fun _ h_ => h_.1))) : p := h
theorem ye5 {p : Prop} (h : p := by refine zV ?_; exact (Kd.Qae (Kd.Qad (p := ⟨gb54, 7, none⟩) (Kd.Qad (p := ⟨gb54, 6, none⟩) (Kd.Qad (p := ⟨gb54, 5, none⟩) (Kd.Qad (p := ⟨gb54, 4, none⟩) (Kd.Qad (p := ⟨gb54, 3, none⟩) (Kd.Qad (p := ⟨gb54, 2, none⟩) (Kd.Qad (p := ⟨gb54, 1, none⟩) (Kd.Qad (p := ⟨gb54, 0, none⟩) (Kd.Qae HO68.out (fun k_ hk => (⟨hk, hk.2.2⟩ : _ ∧ k_ ≠ gb54))) (fun _ hk => hk.2) (.int .i64 t58)) (fun _ hk => hk.2) (.int .i64 t59)) (fun _ hk => hk.2) (.int .i64 t60)) (fun _ hk => hk.2) (.bool ((Go.bits .and .u8 (rd y56 4) 1) == 1))) (fun _ hk => hk.2) (.int .i64 t61)) (fun _ hk => hk.2) (.bool ((Go.bits .and .u8 (rd y56 4) 2) == 2))) (fun _ hk => hk.2) (.int .i64 t62)) (fun _ hk => hk.2) (.int .i64 t63)) (fun _ h_ => h_.1))) : p := h
theorem ye6 {p : Prop} (h : p := by refine zV ?_; exact (Kd.Qae (Kd.Qad (p := ⟨gb54, 7, none⟩) (Kd.Qad (p := ⟨gb54, 6, none⟩) (Kd.Qad (p := ⟨gb54, 5, none⟩) (Kd.Qad (p := ⟨gb54, 4, none⟩) (Kd.Qad (p := ⟨gb54, 3, none⟩) (Kd.Qad (p := ⟨gb54, 2, none⟩) (Kd.Qad (p := ⟨gb54, 1, none⟩) (Kd.Qad (p := ⟨gb54, 0, none⟩) (Kd.Qae HO69.out (fun k_ hk => (⟨hk, hk.2.2⟩ : _ ∧ k_ ≠ gb54))) (fun _ hk => hk.2) (.int .i64 t58)) (fun _ hk => hk.2) (.int .i64 t59)) (fun _ hk => hk.2) (.int .i64 t60)) (fun _ hk => hk.2) (.bool ((Go.bits .and .u8 (rd y56 4) 1) == 1))) (fun _ hk => hk.2) (.int .i64 t61)) (fun _ hk => hk.2) (.bool ((Go.bits .and .u8 (rd y56 4) 2) == 2))) (fun _ hk => hk.2) (.int .i64 t62)) (fun _ hk => hk.2) (.int .i64 t63)) (fun _ h_ => h_.1))) : p := h
theorem ye7 {p : Prop} (h : p := by refine zV ?_; exact (Kd.Qae (Kd.Qad (p := ⟨gb54, 7, none⟩) (Kd.Qad (p := ⟨gb54, 6, none⟩) (Kd.Qad (p := ⟨gb54, 5, none⟩) (Kd.Qad (p := ⟨gb54, 4, none⟩) (Kd.Qad (p := ⟨gb54, 3, none⟩) (Kd.Qad (p := ⟨gb54, 2, none⟩) (Kd.Qad (p := ⟨gb54, 1, none⟩) (Kd.Qad (p := ⟨gb54, 0, none⟩) (Kd.Qae HO71.out (fun k_ hk => (⟨hk, hk.2.2⟩ : _ ∧ k_ ≠ gb54))) (fun _ hk => hk.2) (.int .i64 t58)) (fun _ hk => hk.2) (.int .i64 t59)) (fun _ hk => hk.2) (.int .i64 t60)) (fun _ hk => hk.2) (.bool ((Go.bits .and .u8 (rd y56 4) 1) == 1))) (fun _ hk => hk.2) (.int .i64 t61)) (fun _ hk => hk.2) (.bool ((Go.bits .and .u8 (rd y56 4) 2) == 2))) (fun _ hk => hk.2) (.int .i64 t62)) (fun _ hk => hk.2) (.int .i64 t63)) (fun _ h_ => h_.1))) : p := h
theorem ye8 {p : Prop} (h : p := by refine zV ?_; exact (Kd.Qae (Kd.Qad (p := ⟨gb54, 7, none⟩) (Kd.Qad (p := ⟨gb54, 6, none⟩) (Kd.Qad (p := ⟨gb54, 5, none⟩) (Kd.Qad (p := ⟨gb54, 4, none⟩) (Kd.Qad (p := ⟨gb54, 3, none⟩) (Kd.Qad (p := ⟨gb54, 2, none⟩) (Kd.Qad (p := ⟨gb54, 1, none⟩) (Kd.Qad (p := ⟨gb54, 0, none⟩) (Kd.Qae HO77.out (fun k_ hk => (⟨hk, hk.2.2⟩ : _ ∧ k_ ≠ gb54))) (fun _ hk => hk.2) (.int .i64 t58)) (fun _ hk => hk.2) (.int .i64 t59)) (fun _ hk => hk.2) (.int .i64 t60)) (fun _ hk => hk.2) (.bool ((Go.bits .and .u8 (rd y56 4) 1) == 1))) (fun _ hk => hk.2) (.int .i64 t61)) (fun _ hk => hk.2) (.bool ((Go.bits .and .u8 (rd y56 4) 2) == 2))) (fun _ hk => hk.2) (.int .i64 t62)) (fun _ hk => hk.2) (.int .i64 t63)) (fun _ h_ => h_.1))) : p := h
theorem ye9 {p : Prop} (h : p := by refine zR ?_; exact (Kd.Qw (Kd.Qx (p := ⟨gb54, 7, none⟩) (Kd.Qx (p := ⟨gb54, 6, none⟩) (Kd.Qx (p := ⟨gb54, 5, none⟩) (Kd.Qx (p := ⟨gb54, 4, none⟩) (Kd.Qx (p := ⟨gb54, 3, none⟩) (Kd.Qx (p := ⟨gb54, 2, none⟩) (Kd.Qx (p := ⟨gb54, 1, none⟩) (Kd.Qx (p := ⟨gb54, 0, none⟩) (Kd.Qw HO_3.out (fun k_ hk => (⟨hk, hk.2⟩ : _ ∧ k_ ≠ gb54))) (fun _ hk => hk.2) (.int .i64 t58)) (fun _ hk => hk.2) (.int .i64 t59)) (fun _ hk => hk.2) (.int .i64 t60)) (fun _ hk => hk.2) (.bool ((Go.bits .and .u8 (rd y56 4) 1) == 1))) (fun _ hk => hk.2) (.int .i64 t61)) (fun _ hk => hk.2) (.bool ((Go.bits .and .u8 (rd y56 4) 2) == 2))) (fun _ hk => hk.2) (.int .i64 t62)) (fun _ hk => hk.2) (.int .i64 t63)) (fun _ h_ => h_.1))) : p := h
theorem ye10 {p : Prop} (h : p := by refine zV ?_; exact Kd.Qae HO65.out (fun _ hk => ⟨hk.1.1, ⟨hk.1.2, hk.2⟩⟩)) : p := h
theorem ye11 {p : Prop} (h : p := by refine zV ?_; exact Kd.Qae HO66.out (fun _ hk => ⟨hk.1.1, ⟨hk.1.2, hk.2⟩⟩)) : p := h
theorem ye12 {p : Prop} (h : p := by refine zV ?_; exact Kd.Qae HO67.out (fun _ hk => ⟨hk.1.1, ⟨hk.1.2, hk.2⟩⟩)) : p := h
theorem ye13 {p : Prop} (h : p := by refine zV ?_; exact Kd.Qae HO68.out (fun _ hk => ⟨hk.1.1, ⟨hk.1.2, hk.2⟩⟩)) : p := h
theorem ye14 {p : Prop} (h : p := by refine zV ?_; exact Kd.Qae HO69.out (fun _ hk => ⟨hk.1.1, ⟨hk.1.2, hk.2⟩⟩)) : p := h
theorem ye15 {p : Prop} (h : p := by refine zV ?_; exact Kd.Qae HO71.out (fun _ hk => ⟨hk.1.1, ⟨hk.1.2, hk.2⟩⟩)) : p := h
theorem ye16 {p : Prop} (h : p := by refine zV ?_; exact Kd.Qae HO77.out (fun _ hk => ⟨hk.1.1, ⟨hk.1.2, hk.2⟩⟩)) : p := h
theorem ye17 {p : Prop} (h : p := by refine zV ?_; exact Kd.Qae HO_0.out (fun _ hk => ⟨hk.1.1, ⟨hk.1.2, hk.2⟩⟩)) : p := h
theorem ye18 {p : Prop} (h : p := by first | (go_simp; done) | (go_simp; rfl)) : p := h
def Ziunpack.T5 : Bool × List (List Nat × List Nat) := (true, [([], []), ([0], [0]), ([1], [1]), ([], []), ([3], [3]), ([4, 2], [4]), ([], []), ([6], [6]), ([7, 5], [7]), ([], []), ([9], [9]), ([10], [10]), ([11], [11]), ([12], [12]), ([], []), ([14], [14]), ([15], [15]), ([16], [16]), ([17], [17]), ([], []), ([19], [19]), ([20, 8], [20]), ([], []), ([22], [22]), ([23, 21], [23]), ([], []), ([25], [25]), ([26, 24], [26]), ([2, 5, 8, 13, 18, 21, 24, 27], [2, 5, 8, 13, 18, 21, 24, 27]), ([], []), ([29, 28, 27, 0, 1, 2, 3, 4, 5, 6, 7, 8, 9, 10, 11, 12, 13, 14, 15, 16, 17, 18, 19, 20, 21, 22, 23, 24, 25, 26, 27, 28, 29], [28, 29])])
def Ziunpack.B5 : List Nat := [0, 1, 3, 0, 8, 31, 0, 64, 255, 0, 512, 1536, 3584, 7680, 0, 16384, 49152, 114688, 245760, 0, 524288, 1573375, 0, 4194304, 16253439, 0, 33554432, 133693951, 268435455, 0, 1073741823]
theorem Ziunpack.tab5 : rtab .any (opsOf Try.f51 5) = Ziunpack.T5 := by kernel_rfl
theorem Ziunpack.bits5 : waitsOk Ziunpack.T5.2 Ziunpack.B5 = true := by kernel_rfl
set_option maxHeartbeats 40000000 in
set_option maxRecDepth 100000 in
theorem Ziunpack.calls (k : Nat) (P0_ : Nat → Prop) (A0 : Option Addr) (c0 : Nat) (l0 : List Int) (r : List (S48)) (w : World) (hs0 : Kd.V (Kd.int .u8) 5 w w.heap.size (fun k_ => P0_ k_) (.slice A0 l0.length c0) l0) (h : Ziunpack.f k l0 = some r) :
 Calls Try.prog 51 #[.slice A0 l0.length c0] w fun e w' => ∃ v0_ : Value, e = .returned (v0_) ∧ Kd.R k48 48 w' w.heap.size (fun k_ => (w.heap.size ≤ k_)) v0_ r ∧ Below w.heap.size w w' := by
 have hu48 := Try.underlying48
 have HO0 := Qz.mk (show Kd.V (Kd.int .u8) 5 w w.heap.size (fun k_ => (P0_ k_ ∨ w.heap.size ≤ k_)) (.slice A0 l0.length c0) l0 from Kd.Qae hs0 (fun k_ hk => .inl hk))
 have HB := Qz.mk (Below.refl w.heap.size w)
 have H : (Ziunpack.l0 k l0 (([] : List (S48)))) = some r := h
 clear h
 obtain ⟨y93, hy93⟩ : ∃ y_ : List (S48), y_ = (([] : List (S48))) := ⟨_, rfl⟩
 replace H : (Ziunpack.l0 k l0 y93) = some r := by first | (rw [hy93]; with_reducible exact H) | (have H2_ := (Option.bind_some _ _).symm.trans H; rw [hy93]; with_reducible exact H2_) | (have H2_ := (Option.bind_some _ _).symm.trans H; with_reducible exact H2_) | with_reducible exact H | (rw [hy93]; exact H) | exact H
 have Ny93 := Qz.mk hy93
 clear hy93
 have H' := Qz.mk H
 clear H
 go_enter Try.func51, Try.ntmps51
 go_wp2_with (first | ((with_reducible refine gate_dst (N := 6) rfl ?_); refine Kd.R_lit k48 _ 48 ?hg (N := 6) ?hd (xs := ([] : List (S48))) (inner := []) (ok := fun _ => True) (okp := fun _ => True) ?hr ?hp (fun _ hk => hk) trivial (Below.refl _ _) (Nat.le_refl _) (by simp) ?_; (case hd => rfl); (case hg => rfl); (case hr => exact ye18); (case hp => exact (Reps.none _ _)); intro v282 w2 ho3 hb hg_ hnew_; clear hg_ hnew_; (first | rw [← Ny93.out] at ho3 | (simp only [Int.reduceToNat] at ho3; rw [← Ny93.out] at ho3)); have n0_ := Qz.mk (Kd.V_elder' (zv HO0) (Kd.Qah ho3) hb); have n1_ := Qz.mk (Kd.Qan (Kd.R_newM (M := fun k_ => (w.heap.size ≤ k_)) ho3 (Qp zb) (fun k_ h_ => h_)) (Qp zb)); have n2_ := Qz.mk (Qq zb hb); clear HO0; clear HB; have HO0 := n0_; have HO283 := n1_; have HB := n2_; clear n0_ n1_ n2_; clear hb ho3))
 go_loopg [0, 3] k (fun kq v0 v3 w' => ∃ (x0_1 : List Int) (x3_1 : List (S48)), Qz (Ziunpack.l0 kq x0_1 x3_1 = some r) ∧ Qz (kq ≤ k) ∧ Qz (Kd.V (Kd.int .u8) 5 w' w.heap.size (fun k_ => (P0_ k_ ∨ w.heap.size ≤ k_) ∧ some k_ ≠ (v3 : Value).ownBlock) v0 x0_1) ∧ Qz (Kd.R k48 48 w' w.heap.size (fun k_ => (w.heap.size ≤ k_)) v3 x3_1) ∧ Qz (Below w.heap.size w w'))
 case atStart => exact ⟨(l0), (y93), H', ⟨Nat.le_refl _⟩, ⟨zv HO0⟩, ⟨by refine zR ?_; exact Kd.Qw HO283.out (fun _ hk => hk.1)⟩, ⟨zb⟩⟩
 case round =>
  clear H'
  try clear p2
  obtain ⟨x0_1, x3_1, HA, HK1, HO_0, HO_3, HB⟩ := hrel
  cases gk with
  | zero => exact absurd HA.out (by simp [Ziunpack.l0])
  | succ k1 =>
   have H := HA.out
   clear HA
   simp only [Ziunpack.l0] at H
   by_cases c4 : (x0_1.length : Int) ≥ 13
   ·rw [if_pos c4] at H
    have c4b0 : decide (13 ≤ (x0_1.length : Int)) = true := decide_eq_true c4
    have c4b1 : decide (13 ≤ x0_1.length) = true := decide_eq_true (by omega)
    clear c4
    by_cases c5 : 13 ≤ (x0_1.length : Int)
    ·rw [if_pos c5] at H
     have c5b0 := eq_true c5
     have c5b1 : decide (13 ≤ (x0_1.length : Int)) = true := decide_eq_true c5
     clear c5
     obtain ⟨y56, hy56⟩ : ∃ y_ : List Int, y_ = (x0_1.take 13) := ⟨_, rfl⟩
     replace H : (if 1 ≤ (y56.length : Int) then ((Zitake.f k1 (y56.take 1)).bind fun t58 => (if 3 ≤ (y56.length : Int) then ((Zitake.f k1 ((y56.take 3).drop 1)).bind fun t59 => (if 4 ≤ (y56.length : Int) then ((Zitake.f k1 ((y56.take 4).drop 3)).bind fun t60 => (if 4 < (y56.length : Int) then (if 7 ≤ (y56.length : Int) then ((Zitake.f k1 ((y56.take 7).drop 5)).bind fun t61 => (if 9 ≤ (y56.length : Int) then ((Zitake.f k1 ((y56.take 9).drop 7)).bind fun t62 => (if 11 ≤ (y56.length : Int) then ((Zitake.f k1 ((y56.take 11).drop 9)).bind fun t63 => ((ZiRecFault.f k1 t58 t59 t60 ((Go.bits .and .u8 (rd y56 4) 1) == 1) t61 ((Go.bits .and .u8 (rd y56 4) 2) == 2) t62 t63).bind fun t89 => (if t89 = 0 then ((ZiRec_pack.f k1 t58 t59 t60 ((Go.bits .and .u8 (rd y56 4) 1) == 1) t61 ((Go.bits .and .u8 (rd y56 4) 2) == 2) t62 t63).bind fun t88 => ((ZcEqual_byte.f k1 t88 y56).bind fun t91 => (if t91 = true then (if x3_1.length < 2199023255552 then (Ziunpack.l0 k1 (x0_1.drop 13) (x3_1 ++ [(⟨t58, t59, t60, ((Go.bits .and .u8 (rd y56 4) 1) == 1), t61, ((Go.bits .and .u8 (rd y56 4) 2) == 2), t62, t63⟩ : S48)])) else (none)) else (some x3_1)))) else (some x3_1)))) else (none))) else (none))) else (none)) else (none))) else (none))) else (none))) else (none)) = some r := by first | (rw [hy56]; with_reducible exact H) | (have H2_ := (Option.bind_some _ _).symm.trans H; rw [hy56]; with_reducible exact H2_) | (have H2_ := (Option.bind_some _ _).symm.trans H; with_reducible exact H2_) | with_reducible exact H | (rw [hy56]; exact H) | exact H
     have Ny56 := Qz.mk hy56
     clear hy56
     by_cases c6 : 1 ≤ (y56.length : Int)
     ·rw [if_pos c6] at H
      have c6b0 := eq_true c6
      have c6b1 : decide (1 ≤ (y56.length : Int)) = true := decide_eq_true c6
      clear c6
      obtain ⟨y87, hy87⟩ : ∃ y_ : List Int, y_ = (y56.take 1) := ⟨_, rfl⟩
      replace H : ((Zitake.f k1 y87).bind fun t58 => (if 3 ≤ (y56.length : Int) then ((Zitake.f k1 ((y56.take 3).drop 1)).bind fun t59 => (if 4 ≤ (y56.length : Int) then ((Zitake.f k1 ((y56.take 4).drop 3)).bind fun t60 => (if 4 < (y56.length : Int) then (if 7 ≤ (y56.length : Int) then ((Zitake.f k1 ((y56.take 7).drop 5)).bind fun t61 => (if 9 ≤ (y56.length : Int) then ((Zitake.f k1 ((y56.take 9).drop 7)).bind fun t62 => (if 11 ≤ (y56.length : Int) then ((Zitake.f k1 ((y56.take 11).drop 9)).bind fun t63 => ((ZiRecFault.f k1 t58 t59 t60 ((Go.bits .and .u8 (rd y56 4) 1) == 1) t61 ((Go.bits .and .u8 (rd y56 4) 2) == 2) t62 t63).bind fun t89 => (if t89 = 0 then ((ZiRec_pack.f k1 t58 t59 t60 ((Go.bits .and .u8 (rd y56 4) 1) == 1) t61 ((Go.bits .and .u8 (rd y56 4) 2) == 2) t62 t63).bind fun t88 => ((ZcEqual_byte.f k1 t88 y56).bind fun t91 => (if t91 = true then (if x3_1.length < 2199023255552 then (Ziunpack.l0 k1 (x0_1.drop 13) (x3_1 ++ [(⟨t58, t59, t60, ((Go.bits .and .u8 (rd y56 4) 1) == 1), t61, ((Go.bits .and .u8 (rd y56 4) 2) == 2), t62, t63⟩ : S48)])) else (none)) else (some x3_1)))) else (some x3_1)))) else (none))) else (none))) else (none)) else (none))) else (none))) else (none))) = some r := by first | (rw [hy87]; with_reducible exact H) | (have H2_ := (Option.bind_some _ _).symm.trans H; rw [hy87]; with_reducible exact H2_) | (have H2_ := (Option.bind_some _ _).symm.trans H; with_reducible exact H2_) | with_reducible exact H | (rw [hy87]; exact H) | exact H
      have Ny87 := Qz.mk hy87
      clear hy87
      replace H := Option.bind_eq_some_iff.mp H
      obtain ⟨t58, A70, H⟩ := H
      replace H : (if 3 ≤ (y56.length : Int) then ((Zitake.f k1 ((y56.take 3).drop 1)).bind fun t59 => (if 4 ≤ (y56.length : Int) then ((Zitake.f k1 ((y56.take 4).drop 3)).bind fun t60 => (if 4 < (y56.length : Int) then (if 7 ≤ (y56.length : Int) then ((Zitake.f k1 ((y56.take 7).drop 5)).bind fun t61 => (if 9 ≤ (y56.length : Int) then ((Zitake.f k1 ((y56.take 9).drop 7)).bind fun t62 => (if 11 ≤ (y56.length : Int) then ((Zitake.f k1 ((y56.take 11).drop 9)).bind fun t63 => ((ZiRecFault.f k1 t58 t59 t60 ((Go.bits .and .u8 (rd y56 4) 1) == 1) t61 ((Go.bits .and .u8 (rd y56 4) 2) == 2) t62 t63).bind fun t89 => (if t89 = 0 then ((ZiRec_pack.f k1 t58 t59 t60 ((Go.bits .and .u8 (rd y56 4) 1) == 1) t61 ((Go.bits .and .u8 (rd y56 4) 2) == 2) t62 t63).bind fun t88 => ((ZcEqual_byte.f k1 t88 y56).bind fun t91 => (if t91 = true then (if x3_1.length < 2199023255552 then (Ziunpack.l0 k1 (x0_1.drop 13) (x3_1 ++ [(⟨t58, t59, t60, ((Go.bits .and .u8 (rd y56 4) 1) == 1), t61, ((Go.bits .and .u8 (rd y56 4) 2) == 2), t62, t63⟩ : S48)])) else (none)) else (some x3_1)))) else (some x3_1)))) else (none))) else (none))) else (none)) else (none))) else (none))) else (none)) = some r := H
      have A7 := Qz.mk A70
      clear A70
      by_cases c8 : 3 ≤ (y56.length : Int)
      ·rw [if_pos c8] at H
       have c8b0 := eq_true c8
       have c8b1 : decide (3 ≤ (y56.length : Int)) = true := decide_eq_true c8
       clear c8
       obtain ⟨y78, hy78⟩ : ∃ y_ : List Int, y_ = ((y56.take 3).drop 1) := ⟨_, rfl⟩
       replace H : ((Zitake.f k1 y78).bind fun t59 => (if 4 ≤ (y56.length : Int) then ((Zitake.f k1 ((y56.take 4).drop 3)).bind fun t60 => (if 4 < (y56.length : Int) then (if 7 ≤ (y56.length : Int) then ((Zitake.f k1 ((y56.take 7).drop 5)).bind fun t61 => (if 9 ≤ (y56.length : Int) then ((Zitake.f k1 ((y56.take 9).drop 7)).bind fun t62 => (if 11 ≤ (y56.length : Int) then ((Zitake.f k1 ((y56.take 11).drop 9)).bind fun t63 => ((ZiRecFault.f k1 t58 t59 t60 ((Go.bits .and .u8 (rd y56 4) 1) == 1) t61 ((Go.bits .and .u8 (rd y56 4) 2) == 2) t62 t63).bind fun t89 => (if t89 = 0 then ((ZiRec_pack.f k1 t58 t59 t60 ((Go.bits .and .u8 (rd y56 4) 1) == 1) t61 ((Go.bits .and .u8 (rd y56 4) 2) == 2) t62 t63).bind fun t88 => ((ZcEqual_byte.f k1 t88 y56).bind fun t91 => (if t91 = true then (if x3_1.length < 2199023255552 then (Ziunpack.l0 k1 (x0_1.drop 13) (x3_1 ++ [(⟨t58, t59, t60, ((Go.bits .and .u8 (rd y56 4) 1) == 1), t61, ((Go.bits .and .u8 (rd y56 4) 2) == 2), t62, t63⟩ : S48)])) else (none)) else (some x3_1)))) else (some x3_1)))) else (none))) else (none))) else (none)) else (none))) else (none))) = some r := by first | (rw [hy78]; with_reducible exact H) | (have H2_ := (Option.bind_some _ _).symm.trans H; rw [hy78]; with_reducible exact H2_) | (have H2_ := (Option.bind_some _ _).symm.trans H; with_reducible exact H2_) | with_reducible exact H | (rw [hy78]; exact H) | exact H
       have Ny78 := Qz.mk hy78
       clear hy78
       replace H := Option.bind_eq_some_iff.mp H
       obtain ⟨t59, A90, H⟩ := H
       replace H : (if 4 ≤ (y56.length : Int) then ((Zitake.f k1 ((y56.take 4).drop 3)).bind fun t60 => (if 4 < (y56.length : Int) then (if 7 ≤ (y56.length : Int) then ((Zitake.f k1 ((y56.take 7).drop 5)).bind fun t61 => (if 9 ≤ (y56.length : Int) then ((Zitake.f k1 ((y56.take 9).drop 7)).bind fun t62 => (if 11 ≤ (y56.length : Int) then ((Zitake.f k1 ((y56.take 11).drop 9)).bind fun t63 => ((ZiRecFault.f k1 t58 t59 t60 ((Go.bits .and .u8 (rd y56 4) 1) == 1) t61 ((Go.bits .and .u8 (rd y56 4) 2) == 2) t62 t63).bind fun t89 => (if t89 = 0 then ((ZiRec_pack.f k1 t58 t59 t60 ((Go.bits .and .u8 (rd y56 4) 1) == 1) t61 ((Go.bits .and .u8 (rd y56 4) 2) == 2) t62 t63).bind fun t88 => ((ZcEqual_byte.f k1 t88 y56).bind fun t91 => (if t91 = true then (if x3_1.length < 2199023255552 then (Ziunpack.l0 k1 (x0_1.drop 13) (x3_1 ++ [(⟨t58, t59, t60, ((Go.bits .and .u8 (rd y56 4) 1) == 1), t61, ((Go.bits .and .u8 (rd y56 4) 2) == 2), t62, t63⟩ : S48)])) else (none)) else (some x3_1)))) else (some x3_1)))) else (none))) else (none))) else (none)) else (none))) else (none)) = some r := H
       have A9 := Qz.mk A90
       clear A90
       by_cases c10 : 4 ≤ (y56.length : Int)
       ·rw [if_pos c10] at H
        have c10b0 := eq_true c10
        have c10b1 : decide (4 ≤ (y56.length : Int)) = true := decide_eq_true c10
        clear c10
        obtain ⟨y79, hy79⟩ : ∃ y_ : List Int, y_ = ((y56.take 4).drop 3) := ⟨_, rfl⟩
        replace H : ((Zitake.f k1 y79).bind fun t60 => (if 4 < (y56.length : Int) then (if 7 ≤ (y56.length : Int) then ((Zitake.f k1 ((y56.take 7).drop 5)).bind fun t61 => (if 9 ≤ (y56.length : Int) then ((Zitake.f k1 ((y56.take 9).drop 7)).bind fun t62 => (if 11 ≤ (y56.length : Int) then ((Zitake.f k1 ((y56.take 11).drop 9)).bind fun t63 => ((ZiRecFault.f k1 t58 t59 t60 ((Go.bits .and .u8 (rd y56 4) 1) == 1) t61 ((Go.bits .and .u8 (rd y56 4) 2) == 2) t62 t63).bind fun t89 => (if t89 = 0 then ((ZiRec_pack.f k1 t58 t59 t60 ((Go.bits .and .u8 (rd y56 4) 1) == 1) t61 ((Go.bits .and .u8 (rd y56 4) 2) == 2) t62 t63).bind fun t88 => ((ZcEqual_byte.f k1 t88 y56).bind fun t91 => (if t91 = true then (if x3_1.length < 2199023255552 then (Ziunpack.l0 k1 (x0_1.drop 13) (x3_1 ++ [(⟨t58, t59, t60, ((Go.bits .and .u8 (rd y56 4) 1) == 1), t61, ((Go.bits .and .u8 (rd y56 4) 2) == 2), t62, t63⟩ : S48)])) else (none)) else (some x3_1)))) else (some x3_1)))) else (none))) else (none))) else (none)) else (none))) = some r := by first | (rw [hy79]; with_reducible exact H) | (have H2_ := (Option.bind_some _ _).symm.trans H; rw [hy79]; with_reducible exact H2_) | (have H2_ := (Option.bind_some _ _).symm.trans H; with_reducible exact H2_) | with_reducible exact H | (rw [hy79]; exact H) | exact H
        have Ny79 := Qz.mk hy79
        clear hy79
        replace H := Option.bind_eq_some_iff.mp H
        obtain ⟨t60, A110, H⟩ := H
        replace H : (if 4 < (y56.length : Int) then (if 7 ≤ (y56.length : Int) then ((Zitake.f k1 ((y56.take 7).drop 5)).bind fun t61 => (if 9 ≤ (y56.length : Int) then ((Zitake.f k1 ((y56.take 9).drop 7)).bind fun t62 => (if 11 ≤ (y56.length : Int) then ((Zitake.f k1 ((y56.take 11).drop 9)).bind fun t63 => ((ZiRecFault.f k1 t58 t59 t60 ((Go.bits .and .u8 (rd y56 4) 1) == 1) t61 ((Go.bits .and .u8 (rd y56 4) 2) == 2) t62 t63).bind fun t89 => (if t89 = 0 then ((ZiRec_pack.f k1 t58 t59 t60 ((Go.bits .and .u8 (rd y56 4) 1) == 1) t61 ((Go.bits .and .u8 (rd y56 4) 2) == 2) t62 t63).bind fun t88 => ((ZcEqual_byte.f k1 t88 y56).bind fun t91 => (if t91 = true then (if x3_1.length < 2199023255552 then (Ziunpack.l0 k1 (x0_1.drop 13) (x3_1 ++ [(⟨t58, t59, t60, ((Go.bits .and .u8 (rd y56 4) 1) == 1), t61, ((Go.bits .and .u8 (rd y56 4) 2) == 2), t62, t63⟩ : S48)])) else (none)) else (some x3_1)))) else (some x3_1)))) else (none))) else (none))) else (none)) else (none)) = some r := H
        have A11 := Qz.mk A110
        clear A110
        by_cases c12 : 4 < (y56.length : Int)
        ·rw [if_pos c12] at H
         have c12b0 : decide (4 < (y56.length : Int)) = true := decide_eq_true c12
         have c12b1 : decide (4 < y56.length) = true := decide_eq_true (by omega)
         clear c12
         by_cases c13 : 7 ≤ (y56.length : Int)
         ·rw [if_pos c13] at H
          have c13b0 := eq_true c13
          have c13b1 : decide (7 ≤ (y56.length : Int)) = true := decide_eq_true c13
          clear c13
          obtain ⟨y80, hy80⟩ : ∃ y_ : List Int, y_ = ((y56.take 7).drop 5) := ⟨_, rfl⟩
          replace H : ((Zitake.f k1 y80).bind fun t61 => (if 9 ≤ (y56.length : Int) then ((Zitake.f k1 ((y56.take 9).drop 7)).bind fun t62 => (if 11 ≤ (y56.length : Int) then ((Zitake.f k1 ((y56.take 11).drop 9)).bind fun t63 => ((ZiRecFault.f k1 t58 t59 t60 ((Go.bits .and .u8 (rd y56 4) 1) == 1) t61 ((Go.bits .and .u8 (rd y56 4) 2) == 2) t62 t63).bind fun t89 => (if t89 = 0 then ((ZiRec_pack.f k1 t58 t59 t60 ((Go.bits .and .u8 (rd y56 4) 1) == 1) t61 ((Go.bits .and .u8 (rd y56 4) 2) == 2) t62 t63).bind fun t88 => ((ZcEqual_byte.f k1 t88 y56).bind fun t91 => (if t91 = true then (if x3_1.length < 2199023255552 then (Ziunpack.l0 k1 (x0_1.drop 13) (x3_1 ++ [(⟨t58, t59, t60, ((Go.bits .and .u8 (rd y56 4) 1) == 1), t61, ((Go.bits .and .u8 (rd y56 4) 2) == 2), t62, t63⟩ : S48)])) else (none)) else (some x3_1)))) else (some x3_1)))) else (none))) else (none))) = some r := by first | (rw [hy80]; with_reducible exact H) | (have H2_ := (Option.bind_some _ _).symm.trans H; rw [hy80]; with_reducible exact H2_) | (have H2_ := (Option.bind_some _ _).symm.trans H; with_reducible exact H2_) | with_reducible exact H | (rw [hy80]; exact H) | exact H
          have Ny80 := Qz.mk hy80
          clear hy80
          replace H := Option.bind_eq_some_iff.mp H
          obtain ⟨t61, A140, H⟩ := H
          replace H : (if 9 ≤ (y56.length : Int) then ((Zitake.f k1 ((y56.take 9).drop 7)).bind fun t62 => (if 11 ≤ (y56.length : Int) then ((Zitake.f k1 ((y56.take 11).drop 9)).bind fun t63 => ((ZiRecFault.f k1 t58 t59 t60 ((Go.bits .and .u8 (rd y56 4) 1) == 1) t61 ((Go.bits .and .u8 (rd y56 4) 2) == 2) t62 t63).bind fun t89 => (if t89 = 0 then ((ZiRec_pack.f k1 t58 t59 t60 ((Go.bits .and .u8 (rd y56 4) 1) == 1) t61 ((Go.bits .and .u8 (rd y56 4) 2) == 2) t62 t63).bind fun t88 => ((ZcEqual_byte.f k1 t88 y56).bind fun t91 => (if t91 = true then (if x3_1.length < 2199023255552 then (Ziunpack.l0 k1 (x0_1.drop 13) (x3_1 ++ [(⟨t58, t59, t60, ((Go.bits .and .u8 (rd y56 4) 1) == 1), t61, ((Go.bits .and .u8 (rd y56 4) 2) == 2), t62, t63⟩ : S48)])) else (none)) else (some x3_1)))) else (some x3_1)))) else (none))) else (none)) = some r := H
          have A14 := Qz.mk A140
          clear A140
          by_cases c15 : 9 ≤ (y56.length : Int)
          ·rw [if_pos c15] at H
           have c15b0 := eq_true c15
           have c15b1 : decide (9 ≤ (y56.length : Int)) = true := decide_eq_true c15
           clear c15
           obtain ⟨y85, hy85⟩ : ∃ y_ : List Int, y_ = ((y56.take 9).drop 7) := ⟨_, rfl⟩
           replace H : ((Zitake.f k1 y85).bind fun t62 => (if 11 ≤ (y56.length : Int) then ((Zitake.f k1 ((y56.take 11).drop 9)).bind fun t63 => ((ZiRecFault.f k1 t58 t59 t60 ((Go.bits .and .u8 (rd y56 4) 1) == 1) t61 ((Go.bits .and .u8 (rd y56 4) 2) == 2) t62 t63).bind fun t89 => (if t89 = 0 then ((ZiRec_pack.f k1 t58 t59 t60 ((Go.bits .and .u8 (rd y56 4) 1) == 1) t61 ((Go.bits .and .u8 (rd y56 4) 2) == 2) t62 t63).bind fun t88 => ((ZcEqual_byte.f k1 t88 y56).bind fun t91 => (if t91 = true then (if x3_1.length < 2199023255552 then (Ziunpack.l0 k1 (x0_1.drop 13) (x3_1 ++ [(⟨t58, t59, t60, ((Go.bits .and .u8 (rd y56 4) 1) == 1), t61, ((Go.bits .and .u8 (rd y56 4) 2) == 2), t62, t63⟩ : S48)])) else (none)) else (some x3_1)))) else (some x3_1)))) else (none))) = some r := by first | (rw [hy85]; with_reducible exact H) | (have H2_ := (Option.bind_some _ _).symm.trans H; rw [hy85]; with_reducible exact H2_) | (have H2_ := (Option.bind_some _ _).symm.trans H; with_reducible exact H2_) | with_reducible exact H | (rw [hy85]; exact H) | exact H
           have Ny85 := Qz.mk hy85
           clear hy85
           replace H := Option.bind_eq_some_iff.mp H
           obtain ⟨t62, A160, H⟩ := H
           replace H : (if 11 ≤ (y56.length : Int) then ((Zitake.f k1 ((y56.take 11).drop 9)).bind fun t63 => ((ZiRecFault.f k1 t58 t59 t60 ((Go.bits .and .u8 (rd y56 4) 1) == 1) t61 ((Go.bits .and .u8 (rd y56 4) 2) == 2) t62 t63).bind fun t89 => (if t89 = 0 then ((ZiRec_pack.f k1 t58 t59 t60 ((Go.bits .and .u8 (rd y56 4) 1) == 1) t61 ((Go.bits .and .u8 (rd y56 4) 2) == 2) t62 t63).bind fun t88 => ((ZcEqual_byte.f k1 t88 y56).bind fun t91 => (if t91 = true then (if x3_1.length < 2199023255552 then (Ziunpack.l0 k1 (x0_1.drop 13) (x3_1 ++ [(⟨t58, t59, t60, ((Go.bits .and .u8 (rd y56 4) 1) == 1), t61, ((Go.bits .and .u8 (rd y56 4) 2) == 2), t62, t63⟩ : S48)])) else (none)) else (some x3_1)))) else (some x3_1)))) else (none)) = some r := H
           have A16 := Qz.mk A160
           clear A160
           by_cases c17 : 11 ≤ (y56.length : Int)
           ·rw [if_pos c17] at H
            have c17b0 := eq_true c17
            have c17b1 : decide (11 ≤ (y56.length : Int)) = true := decide_eq_true c17
            clear c17
            obtain ⟨y86, hy86⟩ : ∃ y_ : List Int, y_ = ((y56.take 11).drop 9) := ⟨_, rfl⟩
            replace H : ((Zitake.f k1 y86).bind fun t63 => ((ZiRecFault.f k1 t58 t59 t60 ((Go.bits .and .u8 (rd y56 4) 1) == 1) t61 ((Go.bits .and .u8 (rd y56 4) 2) == 2) t62 t63).bind fun t89 => (if t89 = 0 then ((ZiRec_pack.f k1 t58 t59 t60 ((Go.bits .and .u8 (rd y56 4) 1) == 1) t61 ((Go.bits .and .u8 (rd y56 4) 2) == 2) t62 t63).bind fun t88 => ((ZcEqual_byte.f k1 t88 y56).bind fun t91 => (if t91 = true then (if x3_1.length < 2199023255552 then (Ziunpack.l0 k1 (x0_1.drop 13) (x3_1 ++ [(⟨t58, t59, t60, ((Go.bits .and .u8 (rd y56 4) 1) == 1), t61, ((Go.bits .and .u8 (rd y56 4) 2) == 2), t62, t63⟩ : S48)])) else (none)) else (some x3_1)))) else (some x3_1)))) = some r := by first | (rw [hy86]; with_reducible exact H) | (have H2_ := (Option.bind_some _ _).symm.trans H; rw [hy86]; with_reducible exact H2_) | (have H2_ := (Option.bind_some _ _).symm.trans H; with_reducible exact H2_) | with_reducible exact H | (rw [hy86]; exact H) | exact H
            have Ny86 := Qz.mk hy86
            clear hy86
            replace H := Option.bind_eq_some_iff.mp H
            obtain ⟨t63, A180, H⟩ := H
            replace H : ((ZiRecFault.f k1 t58 t59 t60 ((Go.bits .and .u8 (rd y56 4) 1) == 1) t61 ((Go.bits .and .u8 (rd y56 4) 2) == 2) t62 t63).bind fun t89 => (if t89 = 0 then ((ZiRec_pack.f k1 t58 t59 t60 ((Go.bits .and .u8 (rd y56 4) 1) == 1) t61 ((Go.bits .and .u8 (rd y56 4) 2) == 2) t62 t63).bind fun t88 => ((ZcEqual_byte.f k1 t88 y56).bind fun t91 => (if t91 = true then (if x3_1.length < 2199023255552 then (Ziunpack.l0 k1 (x0_1.drop 13) (x3_1 ++ [(⟨t58, t59, t60, ((Go.bits .and .u8 (rd y56 4) 1) == 1), t61, ((Go.bits .and .u8 (rd y56 4) 2) == 2), t62, t63⟩ : S48)])) else (none)) else (some x3_1)))) else (some x3_1))) = some r := H
            have A18 := Qz.mk A180
            clear A180
            replace H := Option.bind_eq_some_iff.mp H
            obtain ⟨t89, A190, H⟩ := H
            replace H : (if t89 = 0 then ((ZiRec_pack.f k1 t58 t59 t60 ((Go.bits .and .u8 (rd y56 4) 1) == 1) t61 ((Go.bits .and .u8 (rd y56 4) 2) == 2) t62 t63).bind fun t88 => ((ZcEqual_byte.f k1 t88 y56).bind fun t91 => (if t91 = true then (if x3_1.length < 2199023255552 then (Ziunpack.l0 k1 (x0_1.drop 13) (x3_1 ++ [(⟨t58, t59, t60, ((Go.bits .and .u8 (rd y56 4) 1) == 1), t61, ((Go.bits .and .u8 (rd y56 4) 2) == 2), t62, t63⟩ : S48)])) else (none)) else (some x3_1)))) else (some x3_1)) = some r := H
            have A19 := Qz.mk A190
            clear A190
            have HX_ := Qz.mk H
            clear H
            obtain ⟨Ao26, co26, eo26⟩ := Kd.V_slice HO_0.out
            subst eo26
            have q27 : (13 : Int) ≤ ((x0_1.length : Int) : Int) := of_decide_eq_true za
            obtain ⟨i027, hi027, _, hsz27, _⟩ := info_parts info5
            have hroom27 : x0_1.length ≤ co26 := (Kd.Qak HO_0.out).2.1
            have hC27 : Kd.F (Kd.int .u8) _ _ Ao26 x0_1.length x0_1 := (Kd.V_at (base := w.heap.size) HO_0.out).2.2
            have hcut27 := cut_to (P := Try.prog) 22 5 .i64 Try.underlying22 hi027 Ao26 x0_1.length co26 13 (by omega) q27 hroom27
            have hr27 := Kd.F_take (m := 13) hC27 (by omega)
            have hy27 : y56.length = (13 : Int).toNat := (by rw [Ny56.out, List.length_take]; omega)
            rw [← Ny56.out] at hr27
            rw [← hy27] at hcut27
            have HO65 := Qz.mk (show Kd.V (Kd.int .u8) 5 _ w.heap.size _ (.slice Ao26 y56.length co26) y56 from Kd.V_mk (by omega) hr27)
            have HC288 := Qz.mk (show y56.length ≤ co26 from by omega)
            clear hr27 hC27 hroom27 hi027 hsz27
            have KY27 := Qz.mk hy27
            clear hy27
            replace q27 := eq_true q27
            try go_wp2
            have n0_ := Qz.mk (Kd.Qt HO_0.out)
            have n1_ := Qz.mk (Kd.Qo HO_3.out)
            have n2_ := Qz.mk (Kd.Qt HO65.out)
            have n3_ := Qz.mk (Qb HB.out)
            clear HO_0
            clear HO_3
            clear HO65
            clear HB
            have HO_0 := n0_
            have HO_3 := n1_
            have HO65 := n2_
            have HB := n3_
            clear n0_ n1_ n2_ n3_
            have q29 : (1 : Int) ≤ ((y56.length : Int) : Int) := of_decide_eq_true za
            obtain ⟨i029, hi029, _, hsz29, _⟩ := info_parts info5
            have hroom29 : y56.length ≤ co26 := (Kd.Qak HO65.out).2.1
            have hC29 : Kd.F (Kd.int .u8) _ _ Ao26 y56.length y56 := (Kd.V_at (base := w.heap.size) HO65.out).2.2
            have hcut29 := cut_to (P := Try.prog) 22 5 .i64 Try.underlying22 hi029 Ao26 y56.length co26 1 (by omega) q29 hroom29
            have hr29 := Kd.F_take (m := 1) hC29 (by omega)
            have hy29 : y87.length = (1 : Int).toNat := (by rw [Ny87.out, List.length_take]; omega)
            rw [← Ny87.out] at hr29
            rw [← hy29] at hcut29
            have HO66 := Qz.mk (show Kd.V (Kd.int .u8) 5 _ w.heap.size _ (.slice Ao26 y87.length co26) y87 from Kd.V_mk (by omega) hr29)
            have HC293 := Qz.mk (show y87.length ≤ co26 from by omega)
            clear hr29 hC29 hroom29 hi029 hsz29
            have KY29 := Qz.mk hy29
            clear hy29
            replace q29 := eq_true q29
            have q30 : (3 : Int) ≤ ((y56.length : Int) : Int) := of_decide_eq_true za
            obtain ⟨i030, hi030, _, hsz30, _⟩ := info_parts info5
            have hroom30 : y56.length ≤ co26 := (Kd.Qak HO65.out).2.1
            have hC30 : Kd.F (Kd.int .u8) _ _ Ao26 y56.length y56 := (Kd.V_at (base := w.heap.size) HO65.out).2.2
            have ql30 : (1 : Int) ≤ (3 : Int) := (by omega)
            have hcut30 := cut_mid (P := Try.prog) 22 5 .i64 .i64 Try.underlying22 hi030 1 hsz30 Ao26 y56.length co26 1 3 (by omega) ql30 q30 hroom30
            have hr30 := Kd.F_mid (lo := (1 : Int).toNat) (hi := (3 : Int).toNat) (c := co26) hC30 (by omega) (by omega) hroom30
            obtain ⟨A30, hA30⟩ : ∃ A1, A1 = (if co26 = (1 : Int).toNat then Ao26 else (Ao26 : Option Addr).map (·.add ((1 : Int).toNat * 1))) := ⟨_, rfl⟩
            obtain ⟨c30, hc30⟩ : ∃ c1, c1 = co26 - (1 : Int).toNat := ⟨_, rfl⟩
            have hy30 : y78.length = (3 : Int).toNat - (1 : Int).toNat := (by rw [Ny78.out, List.length_drop, List.length_take] <;> omega)
            rw [show ((y56).take (3 : Int).toNat).drop (1 : Int).toNat = y78 from Ny78.out.symm] at hr30
            replace hr30 : Kd.F (Kd.int .u8) _ _ A30 y78.length y78 := (by rw [hA30]; exact hr30)
            rw [← hy30, ← hA30, ← hc30] at hcut30
            have HO67 := Qz.mk (show Kd.V (Kd.int .u8) 5 _ w.heap.size _ (.slice A30 y78.length c30) y78 from Kd.V_mk (by rw [hy30, hc30]; exact Nat.sub_le_sub_right (Nat.le_trans (by omega) hroom30) _) hr30)
            have HC299 := Qz.mk (show y78.length ≤ c30 from by rw [hy30, hc30]; exact Nat.sub_le_sub_right (Nat.le_trans (by omega) hroom30) _)
            clear hr30 hC30 hroom30 hi030 hsz30 hc30
            have KY30 := Qz.mk hy30
            have KA30 := Qz.mk hA30
            clear hy30 hA30
            replace q30 := eq_true q30
            have q31 : (4 : Int) ≤ ((y56.length : Int) : Int) := of_decide_eq_true za
            obtain ⟨i031, hi031, _, hsz31, _⟩ := info_parts info5
            have hroom31 : y56.length ≤ co26 := (Kd.Qak HO65.out).2.1
            have hC31 : Kd.F (Kd.int .u8) _ _ Ao26 y56.length y56 := (Kd.V_at (base := w.heap.size) HO65.out).2.2
            have ql31 : (3 : Int) ≤ (4 : Int) := (by omega)
            have hcut31 := cut_mid (P := Try.prog) 22 5 .i64 .i64 Try.underlying22 hi031 1 hsz31 Ao26 y56.length co26 3 4 (by omega) ql31 q31 hroom31
            have hr31 := Kd.F_mid (lo := (3 : Int).toNat) (hi := (4 : Int).toNat) (c := co26) hC31 (by omega) (by omega) hroom31
            obtain ⟨A31, hA31⟩ : ∃ A1, A1 = (if co26 = (3 : Int).toNat then Ao26 else (Ao26 : Option Addr).map (·.add ((3 : Int).toNat * 1))) := ⟨_, rfl⟩
            obtain ⟨c31, hc31⟩ : ∃ c1, c1 = co26 - (3 : Int).toNat := ⟨_, rfl⟩
            have hy31 : y79.length = (4 : Int).toNat - (3 : Int).toNat := (by rw [Ny79.out, List.length_drop, List.length_take] <;> omega)
            rw [show ((y56).take (4 : Int).toNat).drop (3 : Int).toNat = y79 from Ny79.out.symm] at hr31
            replace hr31 : Kd.F (Kd.int .u8) _ _ A31 y79.length y79 := (by rw [hA31]; exact hr31)
            rw [← hy31, ← hA31, ← hc31] at hcut31
            have HO68 := Qz.mk (show Kd.V (Kd.int .u8) 5 _ w.heap.size _ (.slice A31 y79.length c31) y79 from Kd.V_mk (by rw [hy31, hc31]; exact Nat.sub_le_sub_right (Nat.le_trans (by omega) hroom31) _) hr31)
            have HC305 := Qz.mk (show y79.length ≤ c31 from by rw [hy31, hc31]; exact Nat.sub_le_sub_right (Nat.le_trans (by omega) hroom31) _)
            clear hr31 hC31 hroom31 hi031 hsz31 hc31
            have KY31 := Qz.mk hy31
            have KA31 := Qz.mk hA31
            clear hy31 hA31
            replace q31 := eq_true q31
            have p307 : 0 ≤ (4 : Int) := (by omega)
            have q57 : 4 < (y56.length : Int) := of_decide_eq_true za
            obtain ⟨ad57, e307, hx57_0⟩ := Kd.at_int (Kd.Qak HO65.out).2.2 4 p307 q57
            cases e307
            (try simp only [show (4 : Int).toNat = 4 from rfl, Nat.reduceMul, Nat.reduceEqDiff, Go.Addr.add, ↓reduceIte] at hx57_0)
            have qi307 : (4 < y56.length) = True := eq_true (by omega)
            (try rw [show ((4 : Int)).toNat = 4 from rfl] at hx57_0)
            replace p307 := eq_true p307
            replace q57 := eq_true q57
            have p308 : 0 ≤ (4 : Int) := (by omega)
            have q95 : 4 < (y56.length : Int) := of_decide_eq_true za
            obtain ⟨ad95, e308, hx95_0⟩ := Kd.at_int (Kd.Qak HO65.out).2.2 4 p308 q95
            obtain rfl : ad57 = ad95 := (by injection e308)
            (try simp only [show (4 : Int).toNat = 4 from rfl, Nat.reduceMul, Nat.reduceEqDiff, Go.Addr.add, ↓reduceIte] at hx95_0)
            have qi308 : (4 < y56.length) = True := eq_true (by omega)
            (try rw [show ((4 : Int)).toNat = 4 from rfl] at hx95_0)
            replace p308 := eq_true p308
            replace q95 := eq_true q95
            have q32 : (7 : Int) ≤ ((y56.length : Int) : Int) := of_decide_eq_true za
            obtain ⟨i032, hi032, _, hsz32, _⟩ := info_parts info5
            have hroom32 : y56.length ≤ co26 := (Kd.Qak HO65.out).2.1
            have hC32 : Kd.F (Kd.int .u8) _ _ (some ad57) y56.length y56 := (Kd.V_at (base := w.heap.size) HO65.out).2.2
            have ql32 : (5 : Int) ≤ (7 : Int) := (by omega)
            have hcut32 := cut_mid (P := Try.prog) 22 5 .i64 .i64 Try.underlying22 hi032 1 hsz32 (some ad57) y56.length co26 5 7 (by omega) ql32 q32 hroom32
            have hr32 := Kd.F_mid (lo := (5 : Int).toNat) (hi := (7 : Int).toNat) (c := co26) hC32 (by omega) (by omega) hroom32
            obtain ⟨A32, hA32⟩ : ∃ A1, A1 = (if co26 = (5 : Int).toNat then (some ad57) else ((some ad57) : Option Addr).map (·.add ((5 : Int).toNat * 1))) := ⟨_, rfl⟩
            obtain ⟨c32, hc32⟩ : ∃ c1, c1 = co26 - (5 : Int).toNat := ⟨_, rfl⟩
            have hy32 : y80.length = (7 : Int).toNat - (5 : Int).toNat := (by rw [Ny80.out, List.length_drop, List.length_take] <;> omega)
            rw [show ((y56).take (7 : Int).toNat).drop (5 : Int).toNat = y80 from Ny80.out.symm] at hr32
            replace hr32 : Kd.F (Kd.int .u8) _ _ A32 y80.length y80 := (by rw [hA32]; exact hr32)
            rw [← hy32, ← hA32, ← hc32] at hcut32
            have HO69 := Qz.mk (show Kd.V (Kd.int .u8) 5 _ w.heap.size _ (.slice A32 y80.length c32) y80 from Kd.V_mk (by rw [hy32, hc32]; exact Nat.sub_le_sub_right (Nat.le_trans (by omega) hroom32) _) hr32)
            have HC313 := Qz.mk (show y80.length ≤ c32 from by rw [hy32, hc32]; exact Nat.sub_le_sub_right (Nat.le_trans (by omega) hroom32) _)
            clear hr32 hC32 hroom32 hi032 hsz32 hc32
            have KY32 := Qz.mk hy32
            have KA32 := Qz.mk hA32
            clear hy32 hA32
            replace q32 := eq_true q32
            have q33 : (9 : Int) ≤ ((y56.length : Int) : Int) := of_decide_eq_true za
            obtain ⟨i033, hi033, _, hsz33, _⟩ := info_parts info5
            have hroom33 : y56.length ≤ co26 := (Kd.Qak HO65.out).2.1
            have hC33 : Kd.F (Kd.int .u8) _ _ (some ad57) y56.length y56 := (Kd.V_at (base := w.heap.size) HO65.out).2.2
            have ql33 : (7 : Int) ≤ (9 : Int) := (by omega)
            have hcut33 := cut_mid (P := Try.prog) 22 5 .i64 .i64 Try.underlying22 hi033 1 hsz33 (some ad57) y56.length co26 7 9 (by omega) ql33 q33 hroom33
            have hr33 := Kd.F_mid (lo := (7 : Int).toNat) (hi := (9 : Int).toNat) (c := co26) hC33 (by omega) (by omega) hroom33
            obtain ⟨A33, hA33⟩ : ∃ A1, A1 = (if co26 = (7 : Int).toNat then (some ad57) else ((some ad57) : Option Addr).map (·.add ((7 : Int).toNat * 1))) := ⟨_, rfl⟩
            obtain ⟨c33, hc33⟩ : ∃ c1, c1 = co26 - (7 : Int).toNat := ⟨_, rfl⟩
            have hy33 : y85.length = (9 : Int).toNat - (7 : Int).toNat := (by rw [Ny85.out, List.length_drop, List.length_take] <;> omega)
            rw [show ((y56).take (9 : Int).toNat).drop (7 : Int).toNat = y85 from Ny85.out.symm] at hr33
            replace hr33 : Kd.F (Kd.int .u8) _ _ A33 y85.length y85 := (by rw [hA33]; exact hr33)
            rw [← hy33, ← hA33, ← hc33] at hcut33
            have HO71 := Qz.mk (show Kd.V (Kd.int .u8) 5 _ w.heap.size _ (.slice A33 y85.length c33) y85 from Kd.V_mk (by rw [hy33, hc33]; exact Nat.sub_le_sub_right (Nat.le_trans (by omega) hroom33) _) hr33)
            have HC319 := Qz.mk (show y85.length ≤ c33 from by rw [hy33, hc33]; exact Nat.sub_le_sub_right (Nat.le_trans (by omega) hroom33) _)
            clear hr33 hC33 hroom33 hi033 hsz33 hc33
            have KY33 := Qz.mk hy33
            have KA33 := Qz.mk hA33
            clear hy33 hA33
            replace q33 := eq_true q33
            have q34 : (11 : Int) ≤ ((y56.length : Int) : Int) := of_decide_eq_true za
            obtain ⟨i034, hi034, _, hsz34, _⟩ := info_parts info5
            have hroom34 : y56.length ≤ co26 := (Kd.Qak HO65.out).2.1
            have hC34 : Kd.F (Kd.int .u8) _ _ (some ad57) y56.length y56 := (Kd.V_at (base := w.heap.size) HO65.out).2.2
            have ql34 : (9 : Int) ≤ (11 : Int) := (by omega)
            have hcut34 := cut_mid (P := Try.prog) 22 5 .i64 .i64 Try.underlying22 hi034 1 hsz34 (some ad57) y56.length co26 9 11 (by omega) ql34 q34 hroom34
            have hr34 := Kd.F_mid (lo := (9 : Int).toNat) (hi := (11 : Int).toNat) (c := co26) hC34 (by omega) (by omega) hroom34
            obtain ⟨A34, hA34⟩ : ∃ A1, A1 = (if co26 = (9 : Int).toNat then (some ad57) else ((some ad57) : Option Addr).map (·.add ((9 : Int).toNat * 1))) := ⟨_, rfl⟩
            obtain ⟨c34, hc34⟩ : ∃ c1, c1 = co26 - (9 : Int).toNat := ⟨_, rfl⟩
            have hy34 : y86.length = (11 : Int).toNat - (9 : Int).toNat := (by rw [Ny86.out, List.length_drop, List.length_take] <;> omega)
            rw [show ((y56).take (11 : Int).toNat).drop (9 : Int).toNat = y86 from Ny86.out.symm] at hr34
            replace hr34 : Kd.F (Kd.int .u8) _ _ A34 y86.length y86 := (by rw [hA34]; exact hr34)
            rw [← hy34, ← hA34, ← hc34] at hcut34
            have HO77 := Qz.mk (show Kd.V (Kd.int .u8) 5 _ w.heap.size _ (.slice A34 y86.length c34) y86 from Kd.V_mk (by rw [hy34, hc34]; exact Nat.sub_le_sub_right (Nat.le_trans (by omega) hroom34) _) hr34)
            have HC325 := Qz.mk (show y86.length ≤ c34 from by rw [hy34, hc34]; exact Nat.sub_le_sub_right (Nat.le_trans (by omega) hroom34) _)
            clear hr34 hC34 hroom34 hi034 hsz34 hc34
            have KY34 := Qz.mk hy34
            have KA34 := Qz.mk hA34
            clear hy34 hA34
            replace q34 := eq_true q34
            refine start_ (n := 31) (S := fun w' => w'.cell? ⟨ad57.block, ad57.off + 4, none⟩ = some (.int .u8 (rd y56 4)) ∧ w'.cell? ⟨ad57.block, ad57.off + 4, none⟩ = some (.int .u8 (rd y56 4))) (ds := []) #[Z, Z, Z, Z, Z, Z, Z, Z, Z, Z, Z, Z, Z, Z, Z, Z, Z, Z, Z, Z, Z, Z, Z, Z, Z, Z, Z, Z, Z, Z, Z] (by kernel_rfl) rfl rfl ⟨hx57_0, hx95_0⟩ (fun hHeld => ?_); refine with_tabW Ziunpack.tab5 Ziunpack.bits5 (fun HT_ HW_ => ?_)
            generalize wr.drew = w28 at HO_0 HO_3 HO65 HB HO66 HO67 HO68 HO69 HO71 HO77 hx57_0 hx95_0 hHeld ⊢
            refine zp 0 14 ?_; refine zp 1 15 ?_; refine zp 3 17 ?_; refine zp 4 18 ?_; refine zp 6 20 ?_; refine zp 7 21 ?_; refine zp 9 23 ?_; refine zp 10 24 ?_; refine zp 14 28 ?_; refine zp 15 29 ?_; refine zp 19 33 ?_; refine zp 20 34 ?_; refine zp 22 36 ?_; refine zp 23 37 ?_; refine zp 25 39 ?_; refine zp 26 40 ?_; refine zt 11 25 ?_; refine zp 12 26 ?_; refine zp 13 27 ?_; refine zt 16 30 ?_; refine zp 17 31 ?_; refine zp 18 32 ?_
            refine join_ (σ := Nat) 1 #[Y, Y, Y, Y, Y, Y, Y, Y, Y, Y, Y, Y, Y, Y, Y, Y, Y, Y, Y, Y, Y, Y, Y, Y, Y, Y, Y, Y, Y, Y, Z] (fun s_ => [(16, .int .i64 t58), (19, .int .i64 t59), (22, .int .i64 t60), (35, .int .i64 t61), (38, .int .i64 t62), (41, .int .i64 t63), (5, .pointer (some ⟨s_, 0, none⟩)), (42, .agg #[.int .i64 t58, .int .i64 t59, .int .i64 t60, .bool ((Go.bits .and .u8 (rd y56 4) 1) == 1), .int .i64 t61, .bool ((Go.bits .and .u8 (rd y56 4) 2) == 2), .int .i64 t62, .int .i64 t63])]) (fun s_ w' => (w'.cell? ⟨ad57.block, ad57.off + 4, none⟩ = some (.int .u8 (rd y56 4)) ∧ w'.cell? ⟨ad57.block, ad57.off + 4, none⟩ = some (.int .u8 (rd y56 4))) ∧ (Kd.V (Kd.int .u8) 5 w' w.heap.size (fun k_ => (P0_ k_ ∨ w.heap.size ≤ k_) ∧ some k_ ≠ (u3 : Value).ownBlock ∧ k_ ≠ s_) (.slice (some ad57) y56.length co26) y56) ∧ (Kd.V (Kd.int .u8) 5 w' w.heap.size (fun k_ => (P0_ k_ ∨ w.heap.size ≤ k_) ∧ some k_ ≠ (u3 : Value).ownBlock ∧ k_ ≠ s_) (.slice (some ad57) y87.length co26) y87) ∧ (Kd.V (Kd.int .u8) 5 w' w.heap.size (fun k_ => (P0_ k_ ∨ w.heap.size ≤ k_) ∧ some k_ ≠ (u3 : Value).ownBlock ∧ k_ ≠ s_) (.slice A30 y78.length c30) y78) ∧ (Kd.V (Kd.int .u8) 5 w' w.heap.size (fun k_ => (P0_ k_ ∨ w.heap.size ≤ k_) ∧ some k_ ≠ (u3 : Value).ownBlock ∧ k_ ≠ s_) (.slice A31 y79.length c31) y79) ∧ (Kd.V (Kd.int .u8) 5 w' w.heap.size (fun k_ => (P0_ k_ ∨ w.heap.size ≤ k_) ∧ some k_ ≠ (u3 : Value).ownBlock ∧ k_ ≠ s_) (.slice A32 y80.length c32) y80) ∧ (Kd.V (Kd.int .u8) 5 w' w.heap.size (fun k_ => (P0_ k_ ∨ w.heap.size ≤ k_) ∧ some k_ ≠ (u3 : Value).ownBlock ∧ k_ ≠ s_) (.slice A33 y85.length c33) y85) ∧ (Kd.V (Kd.int .u8) 5 w' w.heap.size (fun k_ => (P0_ k_ ∨ w.heap.size ≤ k_) ∧ some k_ ≠ (u3 : Value).ownBlock ∧ k_ ≠ s_) (.slice A34 y86.length c34) y86) ∧ (Kd.V (Kd.int .u8) 5 w' w.heap.size (fun k_ => (P0_ k_ ∨ w.heap.size ≤ k_) ∧ some k_ ≠ (u3 : Value).ownBlock ∧ k_ ≠ s_) (.slice (some ad57) x0_1.length co26) x0_1) ∧ (Kd.R k48 48 w' w.heap.size (fun k_ => (w.heap.size ≤ k_) ∧ k_ ≠ s_) u3 x3_1) ∧ (w'.heap[s_]? = some (.cells #[.int .i64 0, .int .i64 0, .int .i64 0, .bool false, .int .i64 0, .bool false, .int .i64 0, .int .i64 0] 48 (0, 0))) ∧ (w.heap.size ≤ s_) ∧ (w.heap.size ≤ s_) ∧ (Below w.heap.size w w')) ?_ ?_
            rotate_left
            ·intro hJ2_5_8_21_24_27_29
             refine join_ (σ := Unit) 2 #[Y, Y, Y, Y, Y, Y, Y, Y, Y, Y, Y, Y, Y, Y, Y, Y, Y, Y, Y, Y, Y, Y, Y, Y, Y, Y, Y, Y, Y, Z, Z] (fun s_ => [(16, .int .i64 t58), (19, .int .i64 t59), (22, .int .i64 t60), (35, .int .i64 t61), (38, .int .i64 t62), (41, .int .i64 t63), (42, .agg #[.int .i64 t58, .int .i64 t59, .int .i64 t60, .bool ((Go.bits .and .u8 (rd y56 4) 1) == 1), .int .i64 t61, .bool ((Go.bits .and .u8 (rd y56 4) 2) == 2), .int .i64 t62, .int .i64 t63])]) (fun s_ w' => (w'.cell? ⟨ad57.block, ad57.off + 4, none⟩ = some (.int .u8 (rd y56 4)) ∧ w'.cell? ⟨ad57.block, ad57.off + 4, none⟩ = some (.int .u8 (rd y56 4))) ∧ (Kd.V (Kd.int .u8) 5 w' w.heap.size (fun k_ => (P0_ k_ ∨ w.heap.size ≤ k_) ∧ some k_ ≠ (u3 : Value).ownBlock) (.slice (some ad57) y56.length co26) y56) ∧ (Kd.V (Kd.int .u8) 5 w' w.heap.size (fun k_ => (P0_ k_ ∨ w.heap.size ≤ k_) ∧ some k_ ≠ (u3 : Value).ownBlock) (.slice (some ad57) y87.length co26) y87) ∧ (Kd.V (Kd.int .u8) 5 w' w.heap.size (fun k_ => (P0_ k_ ∨ w.heap.size ≤ k_) ∧ some k_ ≠ (u3 : Value).ownBlock) (.slice A30 y78.length c30) y78) ∧ (Kd.V (Kd.int .u8) 5 w' w.heap.size (fun k_ => (P0_ k_ ∨ w.heap.size ≤ k_) ∧ some k_ ≠ (u3 : Value).ownBlock) (.slice A31 y79.length c31) y79) ∧ (Kd.V (Kd.int .u8) 5 w' w.heap.size (fun k_ => (P0_ k_ ∨ w.heap.size ≤ k_) ∧ some k_ ≠ (u3 : Value).ownBlock) (.slice A32 y80.length c32) y80) ∧ (Kd.V (Kd.int .u8) 5 w' w.heap.size (fun k_ => (P0_ k_ ∨ w.heap.size ≤ k_) ∧ some k_ ≠ (u3 : Value).ownBlock) (.slice A33 y85.length c33) y85) ∧ (Kd.V (Kd.int .u8) 5 w' w.heap.size (fun k_ => (P0_ k_ ∨ w.heap.size ≤ k_) ∧ some k_ ≠ (u3 : Value).ownBlock) (.slice A34 y86.length c34) y86) ∧ (Kd.V (Kd.int .u8) 5 w' w.heap.size (fun k_ => (P0_ k_ ∨ w.heap.size ≤ k_) ∧ some k_ ≠ (u3 : Value).ownBlock) (.slice (some ad57) x0_1.length co26) x0_1) ∧ (Kd.R k48 48 w' w.heap.size (fun k_ => (w.heap.size ≤ k_)) u3 x3_1) ∧ (Below w.heap.size w w')) ?_ ?_
             rotate_left
             ·intro hJ2_5_8_21_24_27
              refine join_ (σ := Nat) 3 #[Y, Y, Y, Y, Y, Y, Y, Y, Y, Y, Y, Y, Y, Y, Y, Y, Y, Y, Y, Y, Y, Y, Y, Y, Y, Y, Y, Z, Z, Y, Z] (fun s_ => [(16, .int .i64 t58), (19, .int .i64 t59), (22, .int .i64 t60), (35, .int .i64 t61), (38, .int .i64 t62), (5, .pointer (some ⟨s_, 0, none⟩))]) (fun s_ w' => (w'.cell? ⟨ad57.block, ad57.off + 4, none⟩ = some (.int .u8 (rd y56 4)) ∧ w'.cell? ⟨ad57.block, ad57.off + 4, none⟩ = some (.int .u8 (rd y56 4))) ∧ (Kd.V (Kd.int .u8) 5 w' w.heap.size (fun k_ => (P0_ k_ ∨ w.heap.size ≤ k_) ∧ some k_ ≠ (u3 : Value).ownBlock ∧ k_ ≠ s_) (.slice (some ad57) y56.length co26) y56) ∧ (Kd.V (Kd.int .u8) 5 w' w.heap.size (fun k_ => (P0_ k_ ∨ w.heap.size ≤ k_) ∧ some k_ ≠ (u3 : Value).ownBlock ∧ k_ ≠ s_) (.slice (some ad57) y87.length co26) y87) ∧ (Kd.V (Kd.int .u8) 5 w' w.heap.size (fun k_ => (P0_ k_ ∨ w.heap.size ≤ k_) ∧ some k_ ≠ (u3 : Value).ownBlock ∧ k_ ≠ s_) (.slice A30 y78.length c30) y78) ∧ (Kd.V (Kd.int .u8) 5 w' w.heap.size (fun k_ => (P0_ k_ ∨ w.heap.size ≤ k_) ∧ some k_ ≠ (u3 : Value).ownBlock ∧ k_ ≠ s_) (.slice A31 y79.length c31) y79) ∧ (Kd.V (Kd.int .u8) 5 w' w.heap.size (fun k_ => (P0_ k_ ∨ w.heap.size ≤ k_) ∧ some k_ ≠ (u3 : Value).ownBlock ∧ k_ ≠ s_) (.slice A32 y80.length c32) y80) ∧ (Kd.V (Kd.int .u8) 5 w' w.heap.size (fun k_ => (P0_ k_ ∨ w.heap.size ≤ k_) ∧ some k_ ≠ (u3 : Value).ownBlock ∧ k_ ≠ s_) (.slice A33 y85.length c33) y85) ∧ (Kd.V (Kd.int .u8) 5 w' w.heap.size (fun k_ => (P0_ k_ ∨ w.heap.size ≤ k_) ∧ some k_ ≠ (u3 : Value).ownBlock ∧ k_ ≠ s_) (.slice A34 y86.length c34) y86) ∧ (Kd.V (Kd.int .u8) 5 w' w.heap.size (fun k_ => (P0_ k_ ∨ w.heap.size ≤ k_) ∧ some k_ ≠ (u3 : Value).ownBlock ∧ k_ ≠ s_) (.slice (some ad57) x0_1.length co26) x0_1) ∧ (Kd.R k48 48 w' w.heap.size (fun k_ => (w.heap.size ≤ k_) ∧ k_ ≠ s_) u3 x3_1) ∧ (w'.heap[s_]? = some (.cells #[.int .i64 0, .int .i64 0, .int .i64 0, .bool false, .int .i64 0, .bool false, .int .i64 0, .int .i64 0] 48 (0, 0))) ∧ (w.heap.size ≤ s_) ∧ (w.heap.size ≤ s_) ∧ (Below w.heap.size w w')) ?_ ?_
              rotate_left
              ·intro hJ2_5_8_21_24_29
               refine join_ (σ := Unit) 4 #[Y, Y, Y, Y, Y, Y, Y, Y, Y, Y, Y, Y, Y, Y, Y, Y, Y, Y, Y, Y, Y, Y, Y, Y, Y, Y, Y, Z, Z, Z, Z] (fun s_ => [(16, .int .i64 t58), (19, .int .i64 t59), (22, .int .i64 t60), (35, .int .i64 t61), (38, .int .i64 t62)]) (fun s_ w' => (w'.cell? ⟨ad57.block, ad57.off + 4, none⟩ = some (.int .u8 (rd y56 4)) ∧ w'.cell? ⟨ad57.block, ad57.off + 4, none⟩ = some (.int .u8 (rd y56 4))) ∧ (Kd.V (Kd.int .u8) 5 w' w.heap.size (fun k_ => (P0_ k_ ∨ w.heap.size ≤ k_) ∧ some k_ ≠ (u3 : Value).ownBlock) (.slice (some ad57) y56.length co26) y56) ∧ (Kd.V (Kd.int .u8) 5 w' w.heap.size (fun k_ => (P0_ k_ ∨ w.heap.size ≤ k_) ∧ some k_ ≠ (u3 : Value).ownBlock) (.slice (some ad57) y87.length co26) y87) ∧ (Kd.V (Kd.int .u8) 5 w' w.heap.size (fun k_ => (P0_ k_ ∨ w.heap.size ≤ k_) ∧ some k_ ≠ (u3 : Value).ownBlock) (.slice A30 y78.length c30) y78) ∧ (Kd.V (Kd.int .u8) 5 w' w.heap.size (fun k_ => (P0_ k_ ∨ w.heap.size ≤ k_) ∧ some k_ ≠ (u3 : Value).ownBlock) (.slice A31 y79.length c31) y79) ∧ (Kd.V (Kd.int .u8) 5 w' w.heap.size (fun k_ => (P0_ k_ ∨ w.heap.size ≤ k_) ∧ some k_ ≠ (u3 : Value).ownBlock) (.slice A32 y80.length c32) y80) ∧ (Kd.V (Kd.int .u8) 5 w' w.heap.size (fun k_ => (P0_ k_ ∨ w.heap.size ≤ k_) ∧ some k_ ≠ (u3 : Value).ownBlock) (.slice A33 y85.length c33) y85) ∧ (Kd.V (Kd.int .u8) 5 w' w.heap.size (fun k_ => (P0_ k_ ∨ w.heap.size ≤ k_) ∧ some k_ ≠ (u3 : Value).ownBlock) (.slice A34 y86.length c34) y86) ∧ (Kd.V (Kd.int .u8) 5 w' w.heap.size (fun k_ => (P0_ k_ ∨ w.heap.size ≤ k_) ∧ some k_ ≠ (u3 : Value).ownBlock) (.slice (some ad57) x0_1.length co26) x0_1) ∧ (Kd.R k48 48 w' w.heap.size (fun k_ => (w.heap.size ≤ k_)) u3 x3_1) ∧ (Below w.heap.size w w')) ?_ ?_
               rotate_left
               ·intro hJ2_5_8_21_24
                refine join_ (σ := Nat) 4 #[Y, Y, Y, Y, Y, Y, Y, Y, Y, Y, Y, Y, Y, Y, Y, Y, Y, Y, Y, Y, Y, Y, Y, Y, Z, Y, Y, Z, Z, Y, Z] (fun s_ => [(16, .int .i64 t58), (19, .int .i64 t59), (22, .int .i64 t60), (35, .int .i64 t61), (5, .pointer (some ⟨s_, 0, none⟩))]) (fun s_ w' => (w'.cell? ⟨ad57.block, ad57.off + 4, none⟩ = some (.int .u8 (rd y56 4)) ∧ w'.cell? ⟨ad57.block, ad57.off + 4, none⟩ = some (.int .u8 (rd y56 4))) ∧ (Kd.V (Kd.int .u8) 5 w' w.heap.size (fun k_ => (P0_ k_ ∨ w.heap.size ≤ k_) ∧ some k_ ≠ (u3 : Value).ownBlock ∧ k_ ≠ s_) (.slice (some ad57) y56.length co26) y56) ∧ (Kd.V (Kd.int .u8) 5 w' w.heap.size (fun k_ => (P0_ k_ ∨ w.heap.size ≤ k_) ∧ some k_ ≠ (u3 : Value).ownBlock ∧ k_ ≠ s_) (.slice (some ad57) y87.length co26) y87) ∧ (Kd.V (Kd.int .u8) 5 w' w.heap.size (fun k_ => (P0_ k_ ∨ w.heap.size ≤ k_) ∧ some k_ ≠ (u3 : Value).ownBlock ∧ k_ ≠ s_) (.slice A30 y78.length c30) y78) ∧ (Kd.V (Kd.int .u8) 5 w' w.heap.size (fun k_ => (P0_ k_ ∨ w.heap.size ≤ k_) ∧ some k_ ≠ (u3 : Value).ownBlock ∧ k_ ≠ s_) (.slice A31 y79.length c31) y79) ∧ (Kd.V (Kd.int .u8) 5 w' w.heap.size (fun k_ => (P0_ k_ ∨ w.heap.size ≤ k_) ∧ some k_ ≠ (u3 : Value).ownBlock ∧ k_ ≠ s_) (.slice A32 y80.length c32) y80) ∧ (Kd.V (Kd.int .u8) 5 w' w.heap.size (fun k_ => (P0_ k_ ∨ w.heap.size ≤ k_) ∧ some k_ ≠ (u3 : Value).ownBlock ∧ k_ ≠ s_) (.slice A33 y85.length c33) y85) ∧ (Kd.V (Kd.int .u8) 5 w' w.heap.size (fun k_ => (P0_ k_ ∨ w.heap.size ≤ k_) ∧ some k_ ≠ (u3 : Value).ownBlock ∧ k_ ≠ s_) (.slice A34 y86.length c34) y86) ∧ (Kd.V (Kd.int .u8) 5 w' w.heap.size (fun k_ => (P0_ k_ ∨ w.heap.size ≤ k_) ∧ some k_ ≠ (u3 : Value).ownBlock ∧ k_ ≠ s_) (.slice (some ad57) x0_1.length co26) x0_1) ∧ (Kd.R k48 48 w' w.heap.size (fun k_ => (w.heap.size ≤ k_) ∧ k_ ≠ s_) u3 x3_1) ∧ (w'.heap[s_]? = some (.cells #[.int .i64 0, .int .i64 0, .int .i64 0, .bool false, .int .i64 0, .bool false, .int .i64 0, .int .i64 0] 48 (0, 0))) ∧ (w.heap.size ≤ s_) ∧ (w.heap.size ≤ s_) ∧ (Below w.heap.size w w')) ?_ ?_
                rotate_left
                ·intro hJ2_5_8_21_29
                 refine join_ (σ := Unit) 5 #[Y, Y, Y, Y, Y, Y, Y, Y, Y, Y, Y, Y, Y, Y, Y, Y, Y, Y, Y, Y, Y, Y, Y, Y, Z, Y, Y, Z, Z, Z, Z] (fun s_ => [(16, .int .i64 t58), (19, .int .i64 t59), (22, .int .i64 t60), (35, .int .i64 t61)]) (fun s_ w' => (w'.cell? ⟨ad57.block, ad57.off + 4, none⟩ = some (.int .u8 (rd y56 4)) ∧ w'.cell? ⟨ad57.block, ad57.off + 4, none⟩ = some (.int .u8 (rd y56 4))) ∧ (Kd.V (Kd.int .u8) 5 w' w.heap.size (fun k_ => (P0_ k_ ∨ w.heap.size ≤ k_) ∧ some k_ ≠ (u3 : Value).ownBlock) (.slice (some ad57) y56.length co26) y56) ∧ (Kd.V (Kd.int .u8) 5 w' w.heap.size (fun k_ => (P0_ k_ ∨ w.heap.size ≤ k_) ∧ some k_ ≠ (u3 : Value).ownBlock) (.slice (some ad57) y87.length co26) y87) ∧ (Kd.V (Kd.int .u8) 5 w' w.heap.size (fun k_ => (P0_ k_ ∨ w.heap.size ≤ k_) ∧ some k_ ≠ (u3 : Value).ownBlock) (.slice A30 y78.length c30) y78) ∧ (Kd.V (Kd.int .u8) 5 w' w.heap.size (fun k_ => (P0_ k_ ∨ w.heap.size ≤ k_) ∧ some k_ ≠ (u3 : Value).ownBlock) (.slice A31 y79.length c31) y79) ∧ (Kd.V (Kd.int .u8) 5 w' w.heap.size (fun k_ => (P0_ k_ ∨ w.heap.size ≤ k_) ∧ some k_ ≠ (u3 : Value).ownBlock) (.slice A32 y80.length c32) y80) ∧ (Kd.V (Kd.int .u8) 5 w' w.heap.size (fun k_ => (P0_ k_ ∨ w.heap.size ≤ k_) ∧ some k_ ≠ (u3 : Value).ownBlock) (.slice A33 y85.length c33) y85) ∧ (Kd.V (Kd.int .u8) 5 w' w.heap.size (fun k_ => (P0_ k_ ∨ w.heap.size ≤ k_) ∧ some k_ ≠ (u3 : Value).ownBlock) (.slice A34 y86.length c34) y86) ∧ (Kd.V (Kd.int .u8) 5 w' w.heap.size (fun k_ => (P0_ k_ ∨ w.heap.size ≤ k_) ∧ some k_ ≠ (u3 : Value).ownBlock) (.slice (some ad57) x0_1.length co26) x0_1) ∧ (Kd.R k48 48 w' w.heap.size (fun k_ => (w.heap.size ≤ k_)) u3 x3_1) ∧ (Below w.heap.size w w')) ?_ ?_
                 rotate_left
                 ·intro hJ2_5_8_21
                  refine join_ (σ := Nat) 5 #[Y, Y, Y, Y, Y, Y, Y, Y, Y, Y, Y, Y, Y, Y, Y, Y, Y, Y, Y, Y, Y, Z, Y, Y, Z, Y, Y, Z, Z, Y, Z] (fun s_ => [(16, .int .i64 t58), (19, .int .i64 t59), (22, .int .i64 t60), (5, .pointer (some ⟨s_, 0, none⟩))]) (fun s_ w' => (w'.cell? ⟨ad57.block, ad57.off + 4, none⟩ = some (.int .u8 (rd y56 4)) ∧ w'.cell? ⟨ad57.block, ad57.off + 4, none⟩ = some (.int .u8 (rd y56 4))) ∧ (Kd.V (Kd.int .u8) 5 w' w.heap.size (fun k_ => (P0_ k_ ∨ w.heap.size ≤ k_) ∧ some k_ ≠ (u3 : Value).ownBlock ∧ k_ ≠ s_) (.slice (some ad57) y56.length co26) y56) ∧ (Kd.V (Kd.int .u8) 5 w' w.heap.size (fun k_ => (P0_ k_ ∨ w.heap.size ≤ k_) ∧ some k_ ≠ (u3 : Value).ownBlock ∧ k_ ≠ s_) (.slice (some ad57) y87.length co26) y87) ∧ (Kd.V (Kd.int .u8) 5 w' w.heap.size (fun k_ => (P0_ k_ ∨ w.heap.size ≤ k_) ∧ some k_ ≠ (u3 : Value).ownBlock ∧ k_ ≠ s_) (.slice A30 y78.length c30) y78) ∧ (Kd.V (Kd.int .u8) 5 w' w.heap.size (fun k_ => (P0_ k_ ∨ w.heap.size ≤ k_) ∧ some k_ ≠ (u3 : Value).ownBlock ∧ k_ ≠ s_) (.slice A31 y79.length c31) y79) ∧ (Kd.V (Kd.int .u8) 5 w' w.heap.size (fun k_ => (P0_ k_ ∨ w.heap.size ≤ k_) ∧ some k_ ≠ (u3 : Value).ownBlock ∧ k_ ≠ s_) (.slice A32 y80.length c32) y80) ∧ (Kd.V (Kd.int .u8) 5 w' w.heap.size (fun k_ => (P0_ k_ ∨ w.heap.size ≤ k_) ∧ some k_ ≠ (u3 : Value).ownBlock ∧ k_ ≠ s_) (.slice A33 y85.length c33) y85) ∧ (Kd.V (Kd.int .u8) 5 w' w.heap.size (fun k_ => (P0_ k_ ∨ w.heap.size ≤ k_) ∧ some k_ ≠ (u3 : Value).ownBlock ∧ k_ ≠ s_) (.slice A34 y86.length c34) y86) ∧ (Kd.V (Kd.int .u8) 5 w' w.heap.size (fun k_ => (P0_ k_ ∨ w.heap.size ≤ k_) ∧ some k_ ≠ (u3 : Value).ownBlock ∧ k_ ≠ s_) (.slice (some ad57) x0_1.length co26) x0_1) ∧ (Kd.R k48 48 w' w.heap.size (fun k_ => (w.heap.size ≤ k_) ∧ k_ ≠ s_) u3 x3_1) ∧ (w'.heap[s_]? = some (.cells #[.int .i64 0, .int .i64 0, .int .i64 0, .bool false, .int .i64 0, .bool false, .int .i64 0, .int .i64 0] 48 (0, 0))) ∧ (w.heap.size ≤ s_) ∧ (w.heap.size ≤ s_) ∧ (Below w.heap.size w w')) ?_ ?_
                  rotate_left
                  ·intro hJ2_5_8_29
                   refine join_ (σ := Unit) 6 #[Y, Y, Y, Y, Y, Y, Y, Y, Y, Y, Y, Y, Y, Y, Y, Y, Y, Y, Y, Y, Y, Z, Y, Y, Z, Y, Y, Z, Z, Z, Z] (fun s_ => [(16, .int .i64 t58), (19, .int .i64 t59), (22, .int .i64 t60)]) (fun s_ w' => (w'.cell? ⟨ad57.block, ad57.off + 4, none⟩ = some (.int .u8 (rd y56 4)) ∧ w'.cell? ⟨ad57.block, ad57.off + 4, none⟩ = some (.int .u8 (rd y56 4))) ∧ (Kd.V (Kd.int .u8) 5 w' w.heap.size (fun k_ => (P0_ k_ ∨ w.heap.size ≤ k_) ∧ some k_ ≠ (u3 : Value).ownBlock) (.slice (some ad57) y56.length co26) y56) ∧ (Kd.V (Kd.int .u8) 5 w' w.heap.size (fun k_ => (P0_ k_ ∨ w.heap.size ≤ k_) ∧ some k_ ≠ (u3 : Value).ownBlock) (.slice (some ad57) y87.length co26) y87) ∧ (Kd.V (Kd.int .u8) 5 w' w.heap.size (fun k_ => (P0_ k_ ∨ w.heap.size ≤ k_) ∧ some k_ ≠ (u3 : Value).ownBlock) (.slice A30 y78.length c30) y78) ∧ (Kd.V (Kd.int .u8) 5 w' w.heap.size (fun k_ => (P0_ k_ ∨ w.heap.size ≤ k_) ∧ some k_ ≠ (u3 : Value).ownBlock) (.slice A31 y79.length c31) y79) ∧ (Kd.V (Kd.int .u8) 5 w' w.heap.size (fun k_ => (P0_ k_ ∨ w.heap.size ≤ k_) ∧ some k_ ≠ (u3 : Value).ownBlock) (.slice A32 y80.length c32) y80) ∧ (Kd.V (Kd.int .u8) 5 w' w.heap.size (fun k_ => (P0_ k_ ∨ w.heap.size ≤ k_) ∧ some k_ ≠ (u3 : Value).ownBlock) (.slice A33 y85.length c33) y85) ∧ (Kd.V (Kd.int .u8) 5 w' w.heap.size (fun k_ => (P0_ k_ ∨ w.heap.size ≤ k_) ∧ some k_ ≠ (u3 : Value).ownBlock) (.slice A34 y86.length c34) y86) ∧ (Kd.V (Kd.int .u8) 5 w' w.heap.size (fun k_ => (P0_ k_ ∨ w.heap.size ≤ k_) ∧ some k_ ≠ (u3 : Value).ownBlock) (.slice (some ad57) x0_1.length co26) x0_1) ∧ (Kd.R k48 48 w' w.heap.size (fun k_ => (w.heap.size ≤ k_)) u3 x3_1) ∧ (Below w.heap.size w w')) ?_ ?_
                   rotate_left
                   ·intro hJ2_5_8
                    refine join_ (σ := Nat) 6 #[Y, Y, Y, Y, Y, Y, Y, Y, Z, Y, Y, Y, Y, Y, Y, Y, Y, Y, Y, Y, Y, Z, Y, Y, Z, Y, Y, Z, Z, Y, Z] (fun s_ => [(16, .int .i64 t58), (19, .int .i64 t59), (5, .pointer (some ⟨s_, 0, none⟩))]) (fun s_ w' => (w'.cell? ⟨ad57.block, ad57.off + 4, none⟩ = some (.int .u8 (rd y56 4)) ∧ w'.cell? ⟨ad57.block, ad57.off + 4, none⟩ = some (.int .u8 (rd y56 4))) ∧ (Kd.V (Kd.int .u8) 5 w' w.heap.size (fun k_ => (P0_ k_ ∨ w.heap.size ≤ k_) ∧ some k_ ≠ (u3 : Value).ownBlock ∧ k_ ≠ s_) (.slice (some ad57) y56.length co26) y56) ∧ (Kd.V (Kd.int .u8) 5 w' w.heap.size (fun k_ => (P0_ k_ ∨ w.heap.size ≤ k_) ∧ some k_ ≠ (u3 : Value).ownBlock ∧ k_ ≠ s_) (.slice (some ad57) y87.length co26) y87) ∧ (Kd.V (Kd.int .u8) 5 w' w.heap.size (fun k_ => (P0_ k_ ∨ w.heap.size ≤ k_) ∧ some k_ ≠ (u3 : Value).ownBlock ∧ k_ ≠ s_) (.slice A30 y78.length c30) y78) ∧ (Kd.V (Kd.int .u8) 5 w' w.heap.size (fun k_ => (P0_ k_ ∨ w.heap.size ≤ k_) ∧ some k_ ≠ (u3 : Value).ownBlock ∧ k_ ≠ s_) (.slice A31 y79.length c31) y79) ∧ (Kd.V (Kd.int .u8) 5 w' w.heap.size (fun k_ => (P0_ k_ ∨ w.heap.size ≤ k_) ∧ some k_ ≠ (u3 : Value).ownBlock ∧ k_ ≠ s_) (.slice A32 y80.length c32) y80) ∧ (Kd.V (Kd.int .u8) 5 w' w.heap.size (fun k_ => (P0_ k_ ∨ w.heap.size ≤ k_) ∧ some k_ ≠ (u3 : Value).ownBlock ∧ k_ ≠ s_) (.slice A33 y85.length c33) y85) ∧ (Kd.V (Kd.int .u8) 5 w' w.heap.size (fun k_ => (P0_ k_ ∨ w.heap.size ≤ k_) ∧ some k_ ≠ (u3 : Value).ownBlock ∧ k_ ≠ s_) (.slice A34 y86.length c34) y86) ∧ (Kd.V (Kd.int .u8) 5 w' w.heap.size (fun k_ => (P0_ k_ ∨ w.heap.size ≤ k_) ∧ some k_ ≠ (u3 : Value).ownBlock ∧ k_ ≠ s_) (.slice (some ad57) x0_1.length co26) x0_1) ∧ (Kd.R k48 48 w' w.heap.size (fun k_ => (w.heap.size ≤ k_) ∧ k_ ≠ s_) u3 x3_1) ∧ (w'.heap[s_]? = some (.cells #[.int .i64 0, .int .i64 0, .int .i64 0, .bool false, .int .i64 0, .bool false, .int .i64 0, .int .i64 0] 48 (0, 0))) ∧ (w.heap.size ≤ s_) ∧ (w.heap.size ≤ s_) ∧ (Below w.heap.size w w')) ?_ ?_
                    rotate_left
                    ·intro hJ2_5_29
                     refine join_ (σ := Unit) 7 #[Y, Y, Y, Y, Y, Y, Y, Y, Z, Y, Y, Y, Y, Y, Y, Y, Y, Y, Y, Y, Y, Z, Y, Y, Z, Y, Y, Z, Z, Z, Z] (fun s_ => [(16, .int .i64 t58), (19, .int .i64 t59)]) (fun s_ w' => (w'.cell? ⟨ad57.block, ad57.off + 4, none⟩ = some (.int .u8 (rd y56 4)) ∧ w'.cell? ⟨ad57.block, ad57.off + 4, none⟩ = some (.int .u8 (rd y56 4))) ∧ (Kd.V (Kd.int .u8) 5 w' w.heap.size (fun k_ => (P0_ k_ ∨ w.heap.size ≤ k_) ∧ some k_ ≠ (u3 : Value).ownBlock) (.slice (some ad57) y56.length co26) y56) ∧ (Kd.V (Kd.int .u8) 5 w' w.heap.size (fun k_ => (P0_ k_ ∨ w.heap.size ≤ k_) ∧ some k_ ≠ (u3 : Value).ownBlock) (.slice (some ad57) y87.length co26) y87) ∧ (Kd.V (Kd.int .u8) 5 w' w.heap.size (fun k_ => (P0_ k_ ∨ w.heap.size ≤ k_) ∧ some k_ ≠ (u3 : Value).ownBlock) (.slice A30 y78.length c30) y78) ∧ (Kd.V (Kd.int .u8) 5 w' w.heap.size (fun k_ => (P0_ k_ ∨ w.heap.size ≤ k_) ∧ some k_ ≠ (u3 : Value).ownBlock) (.slice A31 y79.length c31) y79) ∧ (Kd.V (Kd.int .u8) 5 w' w.heap.size (fun k_ => (P0_ k_ ∨ w.heap.size ≤ k_) ∧ some k_ ≠ (u3 : Value).ownBlock) (.slice A32 y80.length c32) y80) ∧ (Kd.V (Kd.int .u8) 5 w' w.heap.size (fun k_ => (P0_ k_ ∨ w.heap.size ≤ k_) ∧ some k_ ≠ (u3 : Value).ownBlock) (.slice A33 y85.length c33) y85) ∧ (Kd.V (Kd.int .u8) 5 w' w.heap.size (fun k_ => (P0_ k_ ∨ w.heap.size ≤ k_) ∧ some k_ ≠ (u3 : Value).ownBlock) (.slice A34 y86.length c34) y86) ∧ (Kd.V (Kd.int .u8) 5 w' w.heap.size (fun k_ => (P0_ k_ ∨ w.heap.size ≤ k_) ∧ some k_ ≠ (u3 : Value).ownBlock) (.slice (some ad57) x0_1.length co26) x0_1) ∧ (Kd.R k48 48 w' w.heap.size (fun k_ => (w.heap.size ≤ k_)) u3 x3_1) ∧ (Below w.heap.size w w')) ?_ ?_
                     rotate_left
                     ·intro hJ2_5
                      refine join_ (σ := Nat) 7 #[Y, Y, Y, Y, Y, Z, Y, Y, Z, Y, Y, Y, Y, Y, Y, Y, Y, Y, Y, Y, Y, Z, Y, Y, Z, Y, Y, Z, Z, Y, Z] (fun s_ => [(16, .int .i64 t58), (5, .pointer (some ⟨s_, 0, none⟩))]) (fun s_ w' => (w'.cell? ⟨ad57.block, ad57.off + 4, none⟩ = some (.int .u8 (rd y56 4)) ∧ w'.cell? ⟨ad57.block, ad57.off + 4, none⟩ = some (.int .u8 (rd y56 4))) ∧ (Kd.V (Kd.int .u8) 5 w' w.heap.size (fun k_ => (P0_ k_ ∨ w.heap.size ≤ k_) ∧ some k_ ≠ (u3 : Value).ownBlock ∧ k_ ≠ s_) (.slice (some ad57) y56.length co26) y56) ∧ (Kd.V (Kd.int .u8) 5 w' w.heap.size (fun k_ => (P0_ k_ ∨ w.heap.size ≤ k_) ∧ some k_ ≠ (u3 : Value).ownBlock ∧ k_ ≠ s_) (.slice (some ad57) y87.length co26) y87) ∧ (Kd.V (Kd.int .u8) 5 w' w.heap.size (fun k_ => (P0_ k_ ∨ w.heap.size ≤ k_) ∧ some k_ ≠ (u3 : Value).ownBlock ∧ k_ ≠ s_) (.slice A30 y78.length c30) y78) ∧ (Kd.V (Kd.int .u8) 5 w' w.heap.size (fun k_ => (P0_ k_ ∨ w.heap.size ≤ k_) ∧ some k_ ≠ (u3 : Value).ownBlock ∧ k_ ≠ s_) (.slice A31 y79.length c31) y79) ∧ (Kd.V (Kd.int .u8) 5 w' w.heap.size (fun k_ => (P0_ k_ ∨ w.heap.size ≤ k_) ∧ some k_ ≠ (u3 : Value).ownBlock ∧ k_ ≠ s_) (.slice A32 y80.length c32) y80) ∧ (Kd.V (Kd.int .u8) 5 w' w.heap.size (fun k_ => (P0_ k_ ∨ w.heap.size ≤ k_) ∧ some k_ ≠ (u3 : Value).ownBlock ∧ k_ ≠ s_) (.slice A33 y85.length c33) y85) ∧ (Kd.V (Kd.int .u8) 5 w' w.heap.size (fun k_ => (P0_ k_ ∨ w.heap.size ≤ k_) ∧ some k_ ≠ (u3 : Value).ownBlock ∧ k_ ≠ s_) (.slice A34 y86.length c34) y86) ∧ (Kd.V (Kd.int .u8) 5 w' w.heap.size (fun k_ => (P0_ k_ ∨ w.heap.size ≤ k_) ∧ some k_ ≠ (u3 : Value).ownBlock ∧ k_ ≠ s_) (.slice (some ad57) x0_1.length co26) x0_1) ∧ (Kd.R k48 48 w' w.heap.size (fun k_ => (w.heap.size ≤ k_) ∧ k_ ≠ s_) u3 x3_1) ∧ (w'.heap[s_]? = some (.cells #[.int .i64 0, .int .i64 0, .int .i64 0, .bool false, .int .i64 0, .bool false, .int .i64 0, .int .i64 0] 48 (0, 0))) ∧ (w.heap.size ≤ s_) ∧ (w.heap.size ≤ s_) ∧ (Below w.heap.size w w')) ?_ ?_
                      rotate_left
                      ·intro hJ2_29
                       refine join_ (σ := Unit) 8 #[Y, Y, Y, Y, Y, Z, Y, Y, Z, Y, Y, Y, Y, Y, Y, Y, Y, Y, Y, Y, Y, Z, Y, Y, Z, Y, Y, Z, Z, Z, Z] (fun s_ => [(16, .int .i64 t58)]) (fun s_ w' => (w'.cell? ⟨ad57.block, ad57.off + 4, none⟩ = some (.int .u8 (rd y56 4)) ∧ w'.cell? ⟨ad57.block, ad57.off + 4, none⟩ = some (.int .u8 (rd y56 4))) ∧ (Kd.V (Kd.int .u8) 5 w' w.heap.size (fun k_ => (P0_ k_ ∨ w.heap.size ≤ k_) ∧ some k_ ≠ (u3 : Value).ownBlock) (.slice (some ad57) y56.length co26) y56) ∧ (Kd.V (Kd.int .u8) 5 w' w.heap.size (fun k_ => (P0_ k_ ∨ w.heap.size ≤ k_) ∧ some k_ ≠ (u3 : Value).ownBlock) (.slice (some ad57) y87.length co26) y87) ∧ (Kd.V (Kd.int .u8) 5 w' w.heap.size (fun k_ => (P0_ k_ ∨ w.heap.size ≤ k_) ∧ some k_ ≠ (u3 : Value).ownBlock) (.slice A30 y78.length c30) y78) ∧ (Kd.V (Kd.int .u8) 5 w' w.heap.size (fun k_ => (P0_ k_ ∨ w.heap.size ≤ k_) ∧ some k_ ≠ (u3 : Value).ownBlock) (.slice A31 y79.length c31) y79) ∧ (Kd.V (Kd.int .u8) 5 w' w.heap.size (fun k_ => (P0_ k_ ∨ w.heap.size ≤ k_) ∧ some k_ ≠ (u3 : Value).ownBlock) (.slice A32 y80.length c32) y80) ∧ (Kd.V (Kd.int .u8) 5 w' w.heap.size (fun k_ => (P0_ k_ ∨ w.heap.size ≤ k_) ∧ some k_ ≠ (u3 : Value).ownBlock) (.slice A33 y85.length c33) y85) ∧ (Kd.V (Kd.int .u8) 5 w' w.heap.size (fun k_ => (P0_ k_ ∨ w.heap.size ≤ k_) ∧ some k_ ≠ (u3 : Value).ownBlock) (.slice A34 y86.length c34) y86) ∧ (Kd.V (Kd.int .u8) 5 w' w.heap.size (fun k_ => (P0_ k_ ∨ w.heap.size ≤ k_) ∧ some k_ ≠ (u3 : Value).ownBlock) (.slice (some ad57) x0_1.length co26) x0_1) ∧ (Kd.R k48 48 w' w.heap.size (fun k_ => (w.heap.size ≤ k_)) u3 x3_1) ∧ (Below w.heap.size w w')) ?_ ?_
                       rotate_left
                       ·intro hJ2
                        refine join_ (σ := Nat) 8 #[Y, Y, Z, Y, Y, Z, Y, Y, Z, Y, Y, Y, Y, Y, Y, Y, Y, Y, Y, Y, Y, Z, Y, Y, Z, Y, Y, Z, Z, Y, Z] (fun s_ => [(5, .pointer (some ⟨s_, 0, none⟩))]) (fun s_ w' => (w'.cell? ⟨ad57.block, ad57.off + 4, none⟩ = some (.int .u8 (rd y56 4)) ∧ w'.cell? ⟨ad57.block, ad57.off + 4, none⟩ = some (.int .u8 (rd y56 4))) ∧ (Kd.V (Kd.int .u8) 5 w' w.heap.size (fun k_ => (P0_ k_ ∨ w.heap.size ≤ k_) ∧ some k_ ≠ (u3 : Value).ownBlock ∧ k_ ≠ s_) (.slice (some ad57) y56.length co26) y56) ∧ (Kd.V (Kd.int .u8) 5 w' w.heap.size (fun k_ => (P0_ k_ ∨ w.heap.size ≤ k_) ∧ some k_ ≠ (u3 : Value).ownBlock ∧ k_ ≠ s_) (.slice (some ad57) y87.length co26) y87) ∧ (Kd.V (Kd.int .u8) 5 w' w.heap.size (fun k_ => (P0_ k_ ∨ w.heap.size ≤ k_) ∧ some k_ ≠ (u3 : Value).ownBlock ∧ k_ ≠ s_) (.slice A30 y78.length c30) y78) ∧ (Kd.V (Kd.int .u8) 5 w' w.heap.size (fun k_ => (P0_ k_ ∨ w.heap.size ≤ k_) ∧ some k_ ≠ (u3 : Value).ownBlock ∧ k_ ≠ s_) (.slice A31 y79.length c31) y79) ∧ (Kd.V (Kd.int .u8) 5 w' w.heap.size (fun k_ => (P0_ k_ ∨ w.heap.size ≤ k_) ∧ some k_ ≠ (u3 : Value).ownBlock ∧ k_ ≠ s_) (.slice A32 y80.length c32) y80) ∧ (Kd.V (Kd.int .u8) 5 w' w.heap.size (fun k_ => (P0_ k_ ∨ w.heap.size ≤ k_) ∧ some k_ ≠ (u3 : Value).ownBlock ∧ k_ ≠ s_) (.slice A33 y85.length c33) y85) ∧ (Kd.V (Kd.int .u8) 5 w' w.heap.size (fun k_ => (P0_ k_ ∨ w.heap.size ≤ k_) ∧ some k_ ≠ (u3 : Value).ownBlock ∧ k_ ≠ s_) (.slice A34 y86.length c34) y86) ∧ (Kd.V (Kd.int .u8) 5 w' w.heap.size (fun k_ => (P0_ k_ ∨ w.heap.size ≤ k_) ∧ some k_ ≠ (u3 : Value).ownBlock ∧ k_ ≠ s_) (.slice (some ad57) x0_1.length co26) x0_1) ∧ (Kd.R k48 48 w' w.heap.size (fun k_ => (w.heap.size ≤ k_) ∧ k_ ≠ s_) u3 x3_1) ∧ (w'.heap[s_]? = some (.cells #[.int .i64 0, .int .i64 0, .int .i64 0, .bool false, .int .i64 0, .bool false, .int .i64 0, .int .i64 0] 48 (0, 0))) ∧ (w.heap.size ≤ s_) ∧ (w.heap.size ≤ s_) ∧ (Below w.heap.size w w')) ?_ ?_
                        rotate_left
                        ·intro hJ29
                         refine two_ (i := 2) (j := 29) (Ni := some 16) (Nj := some 5) #[Y, Y, Y, Y, Y, Z, Y, Y, Z, Y, Y, Y, Y, Y, Y, Y, Y, Y, Y, Y, Y, Z, Y, Y, Z, Y, Y, Z, Z, Z, Z] #[Y, Y, Z, Y, Y, Z, Y, Y, Z, Y, Y, Y, Y, Y, Y, Y, Y, Y, Y, Y, Y, Z, Y, Y, Z, Y, Y, Z, Z, Y, Z] rfl rfl rfl rfl (two_of HT_.out (by kernel_rfl)) (by decide) (by decide) (fun K hK => ?_) (fun K hK => ?_)
                         ·skip
                          refine goes_ Try.func81 (by kernel_rfl) rfl #[.slice (some ad57) y87.length co26] (by rfl) rfl rfl zm ?_
                          with_reducible refine (Zitake.calls k1 _ _ y87 t58 _ ?side1 ?side2 A7.out).mono ?_
                          (case side1 => exact zc (Kd.Qak HO66.out).2.2)
                          (case side2 => exact (Kd.Qak HO66.out).2.1)
                          rintro e w' ⟨rfl, ⟨nd, rfl⟩⟩
                          refine ⟨_, rfl, ?_⟩
                          refine hK.out _ _ ⟨hHeld.1, hHeld.2⟩ (fun hHeld => ?_)
                          clear hK K
                          refine norm_ (a' := ?_) ?_ ?_
                          rotate_left
                          ·show Act.put _ (some 16) _ = _
                           simp only [Act.put, List.setIfInBounds_toArray, List.set_cons_zero, List.set_cons_succ, Qar, Qas]
                           rfl
                          exact norm_ zN (hJ2 () _ ⟨hHeld, (zv HO65), (zv HO66), (zv HO67), (zv HO68), (zv HO69), (zv HO71), (zv HO77), (zv HO_0), (zr HO_3), zb⟩)
                         skip
                         refine box_step ?hg (N := 5) ?hd (cs := #[.int .i64 0, .int .i64 0, .int .i64 0, .bool false, .int .i64 0, .bool false, .int .i64 0, .int .i64 0]) (t := 48) ?hr ?_; (case hd => rfl); (case hg => rfl); (case hr => exact ye18)
                         intro gb54 hg w35 hbox hb
                         have HS0_ := (hb.cell (World.block_lt_of_cell? _ _ (hHeld.1))).trans (hHeld.1)
                         have HS1_ := (hb.cell (World.block_lt_of_cell? _ _ (hHeld.2))).trans (hHeld.2)
                         have n0_ := Qz.mk (Kd.Qaf (Kd.Qag (zv HO_0) gb54 (Nat.le_of_eq hg.symm)) hb)
                         have n1_ := Qz.mk (Kd.Qy (Kd.Qap (zr HO_3) gb54 (Nat.le_of_eq hg.symm)) hb)
                         have n2_ := Qz.mk (Kd.Qaf (Kd.Qag (zv HO65) gb54 (Nat.le_of_eq hg.symm)) hb)
                         have n3_ := Qz.mk (Kd.Qaf (Kd.Qag (zv HO66) gb54 (Nat.le_of_eq hg.symm)) hb)
                         have n4_ := Qz.mk (Kd.Qaf (Kd.Qag (zv HO67) gb54 (Nat.le_of_eq hg.symm)) hb)
                         have n5_ := Qz.mk (Kd.Qaf (Kd.Qag (zv HO68) gb54 (Nat.le_of_eq hg.symm)) hb)
                         have n6_ := Qz.mk (Kd.Qaf (Kd.Qag (zv HO69) gb54 (Nat.le_of_eq hg.symm)) hb)
                         have n7_ := Qz.mk (Kd.Qaf (Kd.Qag (zv HO71) gb54 (Nat.le_of_eq hg.symm)) hb)
                         have n8_ := Qz.mk (Kd.Qaf (Kd.Qag (zv HO77) gb54 (Nat.le_of_eq hg.symm)) hb)
                         have n9_ := Qz.mk (Qq zb hb)
                         have n10_ := Qz.mk (hbox)
                         have n11_ := Qz.mk ((zh hg : w.heap.size ≤ gb54))
                         have n12_ := Qz.mk ((zh hg : w.heap.size ≤ gb54))
                         clear HO_0
                         clear HO_3
                         clear HO65
                         clear HO66
                         clear HO67
                         clear HO68
                         clear HO69
                         clear HO71
                         clear HO77
                         clear HB
                         have HO_0 := n0_
                         have HO_3 := n1_
                         have HO65 := n2_
                         have HO66 := n3_
                         have HO67 := n4_
                         have HO68 := n5_
                         have HO69 := n6_
                         have HO71 := n7_
                         have HO77 := n8_
                         have HB := n9_
                         have BK54 := n10_
                         have GW54 := n11_
                         have GE54 := n12_
                         clear n0_ n1_ n2_ n3_ n4_ n5_ n6_ n7_ n8_ n9_ n10_ n11_ n12_
                         clear hb hbox hg
                         refine hK.out _ _ ⟨HS0_, HS1_⟩ (fun hHeld => ?_)
                         clear hK K
                         refine norm_ (a' := ?_) ?_ ?_
                         rotate_left
                         ·show Act.put _ (some 5) _ = _
                          simp only [Act.put, List.setIfInBounds_toArray, List.set_cons_zero, List.set_cons_succ, Qar, Qas]
                          rfl
                         exact norm_ zN (hJ29 (gb54) _ ⟨hHeld, ye10, ye11, ye12, ye13, ye14, ye15, ye16, ye17, (zr HO_3), zk, GW54.out, GE54.out, zb⟩)
                        skip
                        rintro gb54 w36 ⟨hS_, h0_, h1_, h2_, h3_, h4_, h5_, h6_, h7_, h8_, h9_, h10_, h11_, h12_⟩
                        have n0_ : Qz (Kd.V (Kd.int .u8) 5 w36 w.heap.size (fun k_ => (P0_ k_ ∨ w.heap.size ≤ k_) ∧ some k_ ≠ (u3 : Value).ownBlock ∧ k_ ≠ gb54) (.slice (some ad57) y56.length co26) y56) := ⟨h0_⟩
                        have n1_ : Qz (Kd.V (Kd.int .u8) 5 w36 w.heap.size (fun k_ => (P0_ k_ ∨ w.heap.size ≤ k_) ∧ some k_ ≠ (u3 : Value).ownBlock ∧ k_ ≠ gb54) (.slice (some ad57) y87.length co26) y87) := ⟨h1_⟩
                        have n2_ : Qz (Kd.V (Kd.int .u8) 5 w36 w.heap.size (fun k_ => (P0_ k_ ∨ w.heap.size ≤ k_) ∧ some k_ ≠ (u3 : Value).ownBlock ∧ k_ ≠ gb54) (.slice A30 y78.length c30) y78) := ⟨h2_⟩
                        have n3_ : Qz (Kd.V (Kd.int .u8) 5 w36 w.heap.size (fun k_ => (P0_ k_ ∨ w.heap.size ≤ k_) ∧ some k_ ≠ (u3 : Value).ownBlock ∧ k_ ≠ gb54) (.slice A31 y79.length c31) y79) := ⟨h3_⟩
                        have n4_ : Qz (Kd.V (Kd.int .u8) 5 w36 w.heap.size (fun k_ => (P0_ k_ ∨ w.heap.size ≤ k_) ∧ some k_ ≠ (u3 : Value).ownBlock ∧ k_ ≠ gb54) (.slice A32 y80.length c32) y80) := ⟨h4_⟩
                        have n5_ : Qz (Kd.V (Kd.int .u8) 5 w36 w.heap.size (fun k_ => (P0_ k_ ∨ w.heap.size ≤ k_) ∧ some k_ ≠ (u3 : Value).ownBlock ∧ k_ ≠ gb54) (.slice A33 y85.length c33) y85) := ⟨h5_⟩
                        have n6_ : Qz (Kd.V (Kd.int .u8) 5 w36 w.heap.size (fun k_ => (P0_ k_ ∨ w.heap.size ≤ k_) ∧ some k_ ≠ (u3 : Value).ownBlock ∧ k_ ≠ gb54) (.slice A34 y86.length c34) y86) := ⟨h6_⟩
                        have n7_ : Qz (Kd.V (Kd.int .u8) 5 w36 w.heap.size (fun k_ => (P0_ k_ ∨ w.heap.size ≤ k_) ∧ some k_ ≠ (u3 : Value).ownBlock ∧ k_ ≠ gb54) (.slice (some ad57) x0_1.length co26) x0_1) := ⟨h7_⟩
                        have n8_ : Qz (Kd.R k48 48 w36 w.heap.size (fun k_ => (w.heap.size ≤ k_) ∧ k_ ≠ gb54) u3 x3_1) := ⟨h8_⟩
                        have n9_ : Qz (w36.heap[gb54]? = some (.cells #[.int .i64 0, .int .i64 0, .int .i64 0, .bool false, .int .i64 0, .bool false, .int .i64 0, .int .i64 0] 48 (0, 0))) := ⟨h9_⟩
                        have n10_ : Qz (w.heap.size ≤ gb54) := ⟨h10_⟩
                        have n11_ : Qz (w.heap.size ≤ gb54) := ⟨h11_⟩
                        have n12_ : Qz (Below w.heap.size w w36) := ⟨h12_⟩
                        clear HO_0
                        clear HO_3
                        clear HO65
                        clear HB
                        clear h0_ h1_ h2_ h3_ h4_ h5_ h6_ h7_ h8_ h9_ h10_ h11_ h12_
                        have HO65 := n0_
                        have HO66 := n1_
                        have HO67 := n2_
                        have HO68 := n3_
                        have HO69 := n4_
                        have HO71 := n5_
                        have HO77 := n6_
                        have HO_0 := n7_
                        have HO_3 := n8_
                        have BK54 := n9_
                        have GW54 := n10_
                        have GE54 := n11_
                        have HB := n12_
                        clear n0_ n1_ n2_ n3_ n4_ n5_ n6_ n7_ n8_ n9_ n10_ n11_ n12_
                        have hHeld : w36.cell? ⟨ad57.block, ad57.off + 4, none⟩ = some (.int .u8 (rd y56 4)) ∧ w36.cell? ⟨ad57.block, ad57.off + 4, none⟩ = some (.int .u8 (rd y56 4)) := hS_
                        refine norm_ (a' := ?_) ?_ ?_
                        rotate_left
                        ·simp only [putAll, Act.put, List.setIfInBounds_toArray, List.set_cons_zero, List.set_cons_succ]
                         rfl
                        refine one_ (i := 2) (N := some 16) #[Y, Y, Y, Y, Y, Z, Y, Y, Z, Y, Y, Y, Y, Y, Y, Y, Y, Y, Y, Y, Y, Z, Y, Y, Z, Y, Y, Z, Z, Y, Z] rfl rfl (one_of HT_.out (by kernel_rfl)) (by decide) (fun K hK => ?_)
                        refine goes_ Try.func81 (by kernel_rfl) rfl #[.slice (some ad57) y87.length co26] (by rfl) rfl rfl zm ?_
                        with_reducible refine (Zitake.calls k1 _ _ y87 t58 _ ?side1 ?side2 A7.out).mono ?_
                        (case side1 => exact zc (Kd.Qak HO66.out).2.2)
                        (case side2 => exact (Kd.Qak HO66.out).2.1)
                        rintro e w' ⟨rfl, ⟨nd, rfl⟩⟩
                        refine ⟨_, rfl, ?_⟩
                        refine hK.out _ _ ⟨hHeld.1, hHeld.2⟩ (fun hHeld => ?_)
                        clear hK K
                        refine norm_ (a' := ?_) ?_ ?_
                        rotate_left
                        ·show Act.put _ (some 16) _ = _
                         simp only [Act.put, List.setIfInBounds_toArray, List.set_cons_zero, List.set_cons_succ, Qar, Qas]
                         rfl
                        exact norm_ zN (hJ2_29 (gb54) _ ⟨hHeld, (zv HO65), (zv HO66), (zv HO67), (zv HO68), (zv HO69), (zv HO71), (zv HO77), (zv HO_0), (zr HO_3), zk, GW54.out, GE54.out, zb⟩)
                       skip
                       rintro _ w35 ⟨hS_, h0_, h1_, h2_, h3_, h4_, h5_, h6_, h7_, h8_, h9_⟩
                       have n0_ : Qz (Kd.V (Kd.int .u8) 5 w35 w.heap.size (fun k_ => (P0_ k_ ∨ w.heap.size ≤ k_) ∧ some k_ ≠ (u3 : Value).ownBlock) (.slice (some ad57) y56.length co26) y56) := ⟨h0_⟩
                       have n1_ : Qz (Kd.V (Kd.int .u8) 5 w35 w.heap.size (fun k_ => (P0_ k_ ∨ w.heap.size ≤ k_) ∧ some k_ ≠ (u3 : Value).ownBlock) (.slice (some ad57) y87.length co26) y87) := ⟨h1_⟩
                       have n2_ : Qz (Kd.V (Kd.int .u8) 5 w35 w.heap.size (fun k_ => (P0_ k_ ∨ w.heap.size ≤ k_) ∧ some k_ ≠ (u3 : Value).ownBlock) (.slice A30 y78.length c30) y78) := ⟨h2_⟩
                       have n3_ : Qz (Kd.V (Kd.int .u8) 5 w35 w.heap.size (fun k_ => (P0_ k_ ∨ w.heap.size ≤ k_) ∧ some k_ ≠ (u3 : Value).ownBlock) (.slice A31 y79.length c31) y79) := ⟨h3_⟩
                       have n4_ : Qz (Kd.V (Kd.int .u8) 5 w35 w.heap.size (fun k_ => (P0_ k_ ∨ w.heap.size ≤ k_) ∧ some k_ ≠ (u3 : Value).ownBlock) (.slice A32 y80.length c32) y80) := ⟨h4_⟩
                       have n5_ : Qz (Kd.V (Kd.int .u8) 5 w35 w.heap.size (fun k_ => (P0_ k_ ∨ w.heap.size ≤ k_) ∧ some k_ ≠ (u3 : Value).ownBlock) (.slice A33 y85.length c33) y85) := ⟨h5_⟩
                       have n6_ : Qz (Kd.V (Kd.int .u8) 5 w35 w.heap.size (fun k_ => (P0_ k_ ∨ w.heap.size ≤ k_) ∧ some k_ ≠ (u3 : Value).ownBlock) (.slice A34 y86.length c34) y86) := ⟨h6_⟩
                       have n7_ : Qz (Kd.V (Kd.int .u8) 5 w35 w.heap.size (fun k_ => (P0_ k_ ∨ w.heap.size ≤ k_) ∧ some k_ ≠ (u3 : Value).ownBlock) (.slice (some ad57) x0_1.length co26) x0_1) := ⟨h7_⟩
                       have n8_ : Qz (Kd.R k48 48 w35 w.heap.size (fun k_ => (w.heap.size ≤ k_)) u3 x3_1) := ⟨h8_⟩
                       have n9_ : Qz (Below w.heap.size w w35) := ⟨h9_⟩
                       clear HO_0
                       clear HO_3
                       clear HO65
                       clear HB
                       clear h0_ h1_ h2_ h3_ h4_ h5_ h6_ h7_ h8_ h9_
                       have HO65 := n0_
                       have HO66 := n1_
                       have HO67 := n2_
                       have HO68 := n3_
                       have HO69 := n4_
                       have HO71 := n5_
                       have HO77 := n6_
                       have HO_0 := n7_
                       have HO_3 := n8_
                       have HB := n9_
                       clear n0_ n1_ n2_ n3_ n4_ n5_ n6_ n7_ n8_ n9_
                       have hHeld : w35.cell? ⟨ad57.block, ad57.off + 4, none⟩ = some (.int .u8 (rd y56 4)) ∧ w35.cell? ⟨ad57.block, ad57.off + 4, none⟩ = some (.int .u8 (rd y56 4)) := hS_
                       refine norm_ (a' := ?_) ?_ ?_
                       rotate_left
                       ·simp only [putAll, Act.put, List.setIfInBounds_toArray, List.set_cons_zero, List.set_cons_succ]
                        rfl
                       refine two_ (i := 5) (j := 29) (Ni := some 19) (Nj := some 5) #[Y, Y, Y, Y, Y, Y, Y, Y, Z, Y, Y, Y, Y, Y, Y, Y, Y, Y, Y, Y, Y, Z, Y, Y, Z, Y, Y, Z, Z, Z, Z] #[Y, Y, Y, Y, Y, Z, Y, Y, Z, Y, Y, Y, Y, Y, Y, Y, Y, Y, Y, Y, Y, Z, Y, Y, Z, Y, Y, Z, Z, Y, Z] rfl rfl rfl rfl (two_of HT_.out (by kernel_rfl)) (by decide) (by decide) (fun K hK => ?_) (fun K hK => ?_)
                       ·skip
                        refine goes_ Try.func81 (by kernel_rfl) rfl #[.slice A30 y78.length c30] (by rfl) rfl rfl zm ?_
                        with_reducible refine (Zitake.calls k1 _ _ y78 t59 _ ?side1 ?side2 A9.out).mono ?_
                        (case side1 => exact zc (Kd.Qak HO67.out).2.2)
                        (case side2 => exact (Kd.Qak HO67.out).2.1)
                        rintro e w' ⟨rfl, ⟨nd, rfl⟩⟩
                        refine ⟨_, rfl, ?_⟩
                        refine hK.out _ _ ⟨hHeld.1, hHeld.2⟩ (fun hHeld => ?_)
                        clear hK K
                        refine norm_ (a' := ?_) ?_ ?_
                        rotate_left
                        ·show Act.put _ (some 19) _ = _
                         simp only [Act.put, List.setIfInBounds_toArray, List.set_cons_zero, List.set_cons_succ, Qar, Qas]
                         rfl
                        exact norm_ zN (hJ2_5 () _ ⟨hHeld, (zv HO65), (zv HO66), (zv HO67), (zv HO68), (zv HO69), (zv HO71), (zv HO77), (zv HO_0), (zr HO_3), zb⟩)
                       skip
                       refine box_step ?hg (N := 5) ?hd (cs := #[.int .i64 0, .int .i64 0, .int .i64 0, .bool false, .int .i64 0, .bool false, .int .i64 0, .int .i64 0]) (t := 48) ?hr ?_; (case hd => rfl); (case hg => rfl); (case hr => exact ye18)
                       intro gb54 hg w36 hbox hb
                       have HS0_ := (hb.cell (World.block_lt_of_cell? _ _ (hHeld.1))).trans (hHeld.1)
                       have HS1_ := (hb.cell (World.block_lt_of_cell? _ _ (hHeld.2))).trans (hHeld.2)
                       have n0_ := Qz.mk (Kd.Qaf (Kd.Qag (zv HO_0) gb54 (Nat.le_of_eq hg.symm)) hb)
                       have n1_ := Qz.mk (Kd.Qy (Kd.Qap (zr HO_3) gb54 (Nat.le_of_eq hg.symm)) hb)
                       have n2_ := Qz.mk (Kd.Qaf (Kd.Qag (zv HO65) gb54 (Nat.le_of_eq hg.symm)) hb)
                       have n3_ := Qz.mk (Kd.Qaf (Kd.Qag (zv HO66) gb54 (Nat.le_of_eq hg.symm)) hb)
                       have n4_ := Qz.mk (Kd.Qaf (Kd.Qag (zv HO67) gb54 (Nat.le_of_eq hg.symm)) hb)
                       have n5_ := Qz.mk (Kd.Qaf (Kd.Qag (zv HO68) gb54 (Nat.le_of_eq hg.symm)) hb)
                       have n6_ := Qz.mk (Kd.Qaf (Kd.Qag (zv HO69) gb54 (Nat.le_of_eq hg.symm)) hb)
                       have n7_ := Qz.mk (Kd.Qaf (Kd.Qag (zv HO71) gb54 (Nat.le_of_eq hg.symm)) hb)
                       have n8_ := Qz.mk (Kd.Qaf (Kd.Qag (zv HO77) gb54 (Nat.le_of_eq hg.symm)) hb)
                       have n9_ := Qz.mk (Qq zb hb)
                       have n10_ := Qz.mk (hbox)
                       have n11_ := Qz.mk ((zh hg : w.heap.size ≤ gb54))
                       have n12_ := Qz.mk ((zh hg : w.heap.size ≤ gb54))
                       clear HO_0
                       clear HO_3
                       clear HO65
                       clear HO66
                       clear HO67
                       clear HO68
                       clear HO69
                       clear HO71
                       clear HO77
                       clear HB
                       have HO_0 := n0_
                       have HO_3 := n1_
                       have HO65 := n2_
                       have HO66 := n3_
                       have HO67 := n4_
                       have HO68 := n5_
                       have HO69 := n6_
                       have HO71 := n7_
                       have HO77 := n8_
                       have HB := n9_
                       have BK54 := n10_
                       have GW54 := n11_
                       have GE54 := n12_
                       clear n0_ n1_ n2_ n3_ n4_ n5_ n6_ n7_ n8_ n9_ n10_ n11_ n12_
                       clear hb hbox hg
                       refine hK.out _ _ ⟨HS0_, HS1_⟩ (fun hHeld => ?_)
                       clear hK K
                       refine norm_ (a' := ?_) ?_ ?_
                       rotate_left
                       ·show Act.put _ (some 5) _ = _
                        simp only [Act.put, List.setIfInBounds_toArray, List.set_cons_zero, List.set_cons_succ, Qar, Qas]
                        rfl
                       exact norm_ zN (hJ2_29 (gb54) _ ⟨hHeld, ye10, ye11, ye12, ye13, ye14, ye15, ye16, ye17, (zr HO_3), zk, GW54.out, GE54.out, zb⟩)
                      skip
                      rintro gb54 w36 ⟨hS_, h0_, h1_, h2_, h3_, h4_, h5_, h6_, h7_, h8_, h9_, h10_, h11_, h12_⟩
                      have n0_ : Qz (Kd.V (Kd.int .u8) 5 w36 w.heap.size (fun k_ => (P0_ k_ ∨ w.heap.size ≤ k_) ∧ some k_ ≠ (u3 : Value).ownBlock ∧ k_ ≠ gb54) (.slice (some ad57) y56.length co26) y56) := ⟨h0_⟩
                      have n1_ : Qz (Kd.V (Kd.int .u8) 5 w36 w.heap.size (fun k_ => (P0_ k_ ∨ w.heap.size ≤ k_) ∧ some k_ ≠ (u3 : Value).ownBlock ∧ k_ ≠ gb54) (.slice (some ad57) y87.length co26) y87) := ⟨h1_⟩
                      have n2_ : Qz (Kd.V (Kd.int .u8) 5 w36 w.heap.size (fun k_ => (P0_ k_ ∨ w.heap.size ≤ k_) ∧ some k_ ≠ (u3 : Value).ownBlock ∧ k_ ≠ gb54) (.slice A30 y78.length c30) y78) := ⟨h2_⟩
                      have n3_ : Qz (Kd.V (Kd.int .u8) 5 w36 w.heap.size (fun k_ => (P0_ k_ ∨ w.heap.size ≤ k_) ∧ some k_ ≠ (u3 : Value).ownBlock ∧ k_ ≠ gb54) (.slice A31 y79.length c31) y79) := ⟨h3_⟩
                      have n4_ : Qz (Kd.V (Kd.int .u8) 5 w36 w.heap.size (fun k_ => (P0_ k_ ∨ w.heap.size ≤ k_) ∧ some k_ ≠ (u3 : Value).ownBlock ∧ k_ ≠ gb54) (.slice A32 y80.length c32) y80) := ⟨h4_⟩
                      have n5_ : Qz (Kd.V (Kd.int .u8) 5 w36 w.heap.size (fun k_ => (P0_ k_ ∨ w.heap.size ≤ k_) ∧ some k_ ≠ (u3 : Value).ownBlock ∧ k_ ≠ gb54) (.slice A33 y85.length c33) y85) := ⟨h5_⟩
                      have n6_ : Qz (Kd.V (Kd.int .u8) 5 w36 w.heap.size (fun k_ => (P0_ k_ ∨ w.heap.size ≤ k_) ∧ some k_ ≠ (u3 : Value).ownBlock ∧ k_ ≠ gb54) (.slice A34 y86.length c34) y86) := ⟨h6_⟩
                      have n7_ : Qz (Kd.V (Kd.int .u8) 5 w36 w.heap.size (fun k_ => (P0_ k_ ∨ w.heap.size ≤ k_) ∧ some k_ ≠ (u3 : Value).ownBlock ∧ k_ ≠ gb54) (.slice (some ad57) x0_1.length co26) x0_1) := ⟨h7_⟩
                      have n8_ : Qz (Kd.R k48 48 w36 w.heap.size (fun k_ => (w.heap.size ≤ k_) ∧ k_ ≠ gb54) u3 x3_1) := ⟨h8_⟩
                      have n9_ : Qz (w36.heap[gb54]? = some (.cells #[.int .i64 0, .int .i64 0, .int .i64 0, .bool false, .int .i64 0, .bool false, .int .i64 0, .int .i64 0] 48 (0, 0))) := ⟨h9_⟩
                      have n10_ : Qz (w.heap.size ≤ gb54) := ⟨h10_⟩
                      have n11_ : Qz (w.heap.size ≤ gb54) := ⟨h11_⟩
                      have n12_ : Qz (Below w.heap.size w w36) := ⟨h12_⟩
                      clear HO_0
                      clear HO_3
                      clear HO65
                      clear HB
                      clear h0_ h1_ h2_ h3_ h4_ h5_ h6_ h7_ h8_ h9_ h10_ h11_ h12_
                      have HO65 := n0_
                      have HO66 := n1_
                      have HO67 := n2_
                      have HO68 := n3_
                      have HO69 := n4_
                      have HO71 := n5_
                      have HO77 := n6_
                      have HO_0 := n7_
                      have HO_3 := n8_
                      have BK54 := n9_
                      have GW54 := n10_
                      have GE54 := n11_
                      have HB := n12_
                      clear n0_ n1_ n2_ n3_ n4_ n5_ n6_ n7_ n8_ n9_ n10_ n11_ n12_
                      have hHeld : w36.cell? ⟨ad57.block, ad57.off + 4, none⟩ = some (.int .u8 (rd y56 4)) ∧ w36.cell? ⟨ad57.block, ad57.off + 4, none⟩ = some (.int .u8 (rd y56 4)) := hS_
                      refine norm_ (a' := ?_) ?_ ?_
                      rotate_left
                      ·simp only [putAll, Act.put, List.setIfInBounds_toArray, List.set_cons_zero, List.set_cons_succ]
                       rfl
                      refine one_ (i := 5) (N := some 19) #[Y, Y, Y, Y, Y, Y, Y, Y, Z, Y, Y, Y, Y, Y, Y, Y, Y, Y, Y, Y, Y, Z, Y, Y, Z, Y, Y, Z, Z, Y, Z] rfl rfl (one_of HT_.out (by kernel_rfl)) (by decide) (fun K hK => ?_)
                      refine goes_ Try.func81 (by kernel_rfl) rfl #[.slice A30 y78.length c30] (by rfl) rfl rfl zm ?_
                      with_reducible refine (Zitake.calls k1 _ _ y78 t59 _ ?side1 ?side2 A9.out).mono ?_
                      (case side1 => exact zc (Kd.Qak HO67.out).2.2)
                      (case side2 => exact (Kd.Qak HO67.out).2.1)
                      rintro e w' ⟨rfl, ⟨nd, rfl⟩⟩
                      refine ⟨_, rfl, ?_⟩
                      refine hK.out _ _ ⟨hHeld.1, hHeld.2⟩ (fun hHeld => ?_)
                      clear hK K
                      refine norm_ (a' := ?_) ?_ ?_
                      rotate_left
                      ·show Act.put _ (some 19) _ = _
                       simp only [Act.put, List.setIfInBounds_toArray, List.set_cons_zero, List.set_cons_succ, Qar, Qas]
                       rfl
                      exact norm_ zN (hJ2_5_29 (gb54) _ ⟨hHeld, (zv HO65), (zv HO66), (zv HO67), (zv HO68), (zv HO69), (zv HO71), (zv HO77), (zv HO_0), (zr HO_3), zk, GW54.out, GE54.out, zb⟩)
                     skip
                     rintro _ w35 ⟨hS_, h0_, h1_, h2_, h3_, h4_, h5_, h6_, h7_, h8_, h9_⟩
                     have n0_ : Qz (Kd.V (Kd.int .u8) 5 w35 w.heap.size (fun k_ => (P0_ k_ ∨ w.heap.size ≤ k_) ∧ some k_ ≠ (u3 : Value).ownBlock) (.slice (some ad57) y56.length co26) y56) := ⟨h0_⟩
                     have n1_ : Qz (Kd.V (Kd.int .u8) 5 w35 w.heap.size (fun k_ => (P0_ k_ ∨ w.heap.size ≤ k_) ∧ some k_ ≠ (u3 : Value).ownBlock) (.slice (some ad57) y87.length co26) y87) := ⟨h1_⟩
                     have n2_ : Qz (Kd.V (Kd.int .u8) 5 w35 w.heap.size (fun k_ => (P0_ k_ ∨ w.heap.size ≤ k_) ∧ some k_ ≠ (u3 : Value).ownBlock) (.slice A30 y78.length c30) y78) := ⟨h2_⟩
                     have n3_ : Qz (Kd.V (Kd.int .u8) 5 w35 w.heap.size (fun k_ => (P0_ k_ ∨ w.heap.size ≤ k_) ∧ some k_ ≠ (u3 : Value).ownBlock) (.slice A31 y79.length c31) y79) := ⟨h3_⟩
                     have n4_ : Qz (Kd.V (Kd.int .u8) 5 w35 w.heap.size (fun k_ => (P0_ k_ ∨ w.heap.size ≤ k_) ∧ some k_ ≠ (u3 : Value).ownBlock) (.slice A32 y80.length c32) y80) := ⟨h4_⟩
                     have n5_ : Qz (Kd.V (Kd.int .u8) 5 w35 w.heap.size (fun k_ => (P0_ k_ ∨ w.heap.size ≤ k_) ∧ some k_ ≠ (u3 : Value).ownBlock) (.slice A33 y85.length c33) y85) := ⟨h5_⟩
                     have n6_ : Qz (Kd.V (Kd.int .u8) 5 w35 w.heap.size (fun k_ => (P0_ k_ ∨ w.heap.size ≤ k_) ∧ some k_ ≠ (u3 : Value).ownBlock) (.slice A34 y86.length c34) y86) := ⟨h6_⟩
                     have n7_ : Qz (Kd.V (Kd.int .u8) 5 w35 w.heap.size (fun k_ => (P0_ k_ ∨ w.heap.size ≤ k_) ∧ some k_ ≠ (u3 : Value).ownBlock) (.slice (some ad57) x0_1.length co26) x0_1) := ⟨h7_⟩
                     have n8_ : Qz (Kd.R k48 48 w35 w.heap.size (fun k_ => (w.heap.size ≤ k_)) u3 x3_1) := ⟨h8_⟩
                     have n9_ : Qz (Below w.heap.size w w35) := ⟨h9_⟩
                     clear HO_0
                     clear HO_3
                     clear HO65
                     clear HB
                     clear h0_ h1_ h2_ h3_ h4_ h5_ h6_ h7_ h8_ h9_
                     have HO65 := n0_
                     have HO66 := n1_
                     have HO67 := n2_
                     have HO68 := n3_
                     have HO69 := n4_
                     have HO71 := n5_
                     have HO77 := n6_
                     have HO_0 := n7_
                     have HO_3 := n8_
                     have HB := n9_
                     clear n0_ n1_ n2_ n3_ n4_ n5_ n6_ n7_ n8_ n9_
                     have hHeld : w35.cell? ⟨ad57.block, ad57.off + 4, none⟩ = some (.int .u8 (rd y56 4)) ∧ w35.cell? ⟨ad57.block, ad57.off + 4, none⟩ = some (.int .u8 (rd y56 4)) := hS_
                     refine norm_ (a' := ?_) ?_ ?_
                     rotate_left
                     ·simp only [putAll, Act.put, List.setIfInBounds_toArray, List.set_cons_zero, List.set_cons_succ]
                      rfl
                     refine two_ (i := 8) (j := 29) (Ni := some 22) (Nj := some 5) #[Y, Y, Y, Y, Y, Y, Y, Y, Y, Y, Y, Y, Y, Y, Y, Y, Y, Y, Y, Y, Y, Z, Y, Y, Z, Y, Y, Z, Z, Z, Z] #[Y, Y, Y, Y, Y, Y, Y, Y, Z, Y, Y, Y, Y, Y, Y, Y, Y, Y, Y, Y, Y, Z, Y, Y, Z, Y, Y, Z, Z, Y, Z] rfl rfl rfl rfl (two_of HT_.out (by kernel_rfl)) (by decide) (by decide) (fun K hK => ?_) (fun K hK => ?_)
                     ·skip
                      refine goes_ Try.func81 (by kernel_rfl) rfl #[.slice A31 y79.length c31] (by rfl) rfl rfl zm ?_
                      with_reducible refine (Zitake.calls k1 _ _ y79 t60 _ ?side1 ?side2 A11.out).mono ?_
                      (case side1 => exact zc (Kd.Qak HO68.out).2.2)
                      (case side2 => exact (Kd.Qak HO68.out).2.1)
                      rintro e w' ⟨rfl, ⟨nd, rfl⟩⟩
                      refine ⟨_, rfl, ?_⟩
                      refine hK.out _ _ ⟨hHeld.1, hHeld.2⟩ (fun hHeld => ?_)
                      clear hK K
                      refine norm_ (a' := ?_) ?_ ?_
                      rotate_left
                      ·show Act.put _ (some 22) _ = _
                       simp only [Act.put, List.setIfInBounds_toArray, List.set_cons_zero, List.set_cons_succ, Qar, Qas]
                       rfl
                      exact norm_ zN (hJ2_5_8 () _ ⟨hHeld, (zv HO65), (zv HO66), (zv HO67), (zv HO68), (zv HO69), (zv HO71), (zv HO77), (zv HO_0), (zr HO_3), zb⟩)
                     skip
                     refine box_step ?hg (N := 5) ?hd (cs := #[.int .i64 0, .int .i64 0, .int .i64 0, .bool false, .int .i64 0, .bool false, .int .i64 0, .int .i64 0]) (t := 48) ?hr ?_; (case hd => rfl); (case hg => rfl); (case hr => exact ye18)
                     intro gb54 hg w36 hbox hb
                     have HS0_ := (hb.cell (World.block_lt_of_cell? _ _ (hHeld.1))).trans (hHeld.1)
                     have HS1_ := (hb.cell (World.block_lt_of_cell? _ _ (hHeld.2))).trans (hHeld.2)
                     have n0_ := Qz.mk (Kd.Qaf (Kd.Qag (zv HO_0) gb54 (Nat.le_of_eq hg.symm)) hb)
                     have n1_ := Qz.mk (Kd.Qy (Kd.Qap (zr HO_3) gb54 (Nat.le_of_eq hg.symm)) hb)
                     have n2_ := Qz.mk (Kd.Qaf (Kd.Qag (zv HO65) gb54 (Nat.le_of_eq hg.symm)) hb)
                     have n3_ := Qz.mk (Kd.Qaf (Kd.Qag (zv HO66) gb54 (Nat.le_of_eq hg.symm)) hb)
                     have n4_ := Qz.mk (Kd.Qaf (Kd.Qag (zv HO67) gb54 (Nat.le_of_eq hg.symm)) hb)
                     have n5_ := Qz.mk (Kd.Qaf (Kd.Qag (zv HO68) gb54 (Nat.le_of_eq hg.symm)) hb)
                     have n6_ := Qz.mk (Kd.Qaf (Kd.Qag (zv HO69) gb54 (Nat.le_of_eq hg.symm)) hb)
                     have n7_ := Qz.mk (Kd.Qaf (Kd.Qag (zv HO71) gb54 (Nat.le_of_eq hg.symm)) hb)
                     have n8_ := Qz.mk (Kd.Qaf (Kd.Qag (zv HO77) gb54 (Nat.le_of_eq hg.symm)) hb)
                     have n9_ := Qz.mk (Qq zb hb)
                     have n10_ := Qz.mk (hbox)
                     have n11_ := Qz.mk ((zh hg : w.heap.size ≤ gb54))
                     have n12_ := Qz.mk ((zh hg : w.heap.size ≤ gb54))
                     clear HO_0
                     clear HO_3
                     clear HO65
                     clear HO66
                     clear HO67
                     clear HO68
                     clear HO69
                     clear HO71
                     clear HO77
                     clear HB
                     have HO_0 := n0_
                     have HO_3 := n1_
                     have HO65 := n2_
                     have HO66 := n3_
                     have HO67 := n4_
                     have HO68 := n5_
                     have HO69 := n6_
                     have HO71 := n7_
                     have HO77 := n8_
                     have HB := n9_
                     have BK54 := n10_
                     have GW54 := n11_
                     have GE54 := n12_
                     clear n0_ n1_ n2_ n3_ n4_ n5_ n6_ n7_ n8_ n9_ n10_ n11_ n12_
                     clear hb hbox hg
                     refine hK.out _ _ ⟨HS0_, HS1_⟩ (fun hHeld => ?_)
                     clear hK K
                     refine norm_ (a' := ?_) ?_ ?_
                     rotate_left
                     ·show Act.put _ (some 5) _ = _
                      simp only [Act.put, List.setIfInBounds_toArray, List.set_cons_zero, List.set_cons_succ, Qar, Qas]
                      rfl
                     exact norm_ zN (hJ2_5_29 (gb54) _ ⟨hHeld, ye10, ye11, ye12, ye13, ye14, ye15, ye16, ye17, (zr HO_3), zk, GW54.out, GE54.out, zb⟩)
                    skip
                    rintro gb54 w36 ⟨hS_, h0_, h1_, h2_, h3_, h4_, h5_, h6_, h7_, h8_, h9_, h10_, h11_, h12_⟩
                    have n0_ : Qz (Kd.V (Kd.int .u8) 5 w36 w.heap.size (fun k_ => (P0_ k_ ∨ w.heap.size ≤ k_) ∧ some k_ ≠ (u3 : Value).ownBlock ∧ k_ ≠ gb54) (.slice (some ad57) y56.length co26) y56) := ⟨h0_⟩
                    have n1_ : Qz (Kd.V (Kd.int .u8) 5 w36 w.heap.size (fun k_ => (P0_ k_ ∨ w.heap.size ≤ k_) ∧ some k_ ≠ (u3 : Value).ownBlock ∧ k_ ≠ gb54) (.slice (some ad57) y87.length co26) y87) := ⟨h1_⟩
                    have n2_ : Qz (Kd.V (Kd.int .u8) 5 w36 w.heap.size (fun k_ => (P0_ k_ ∨ w.heap.size ≤ k_) ∧ some k_ ≠ (u3 : Value).ownBlock ∧ k_ ≠ gb54) (.slice A30 y78.length c30) y78) := ⟨h2_⟩
                    have n3_ : Qz (Kd.V (Kd.int .u8) 5 w36 w.heap.size (fun k_ => (P0_ k_ ∨ w.heap.size ≤ k_) ∧ some k_ ≠ (u3 : Value).ownBlock ∧ k_ ≠ gb54) (.slice A31 y79.length c31) y79) := ⟨h3_⟩
                    have n4_ : Qz (Kd.V (Kd.int .u8) 5 w36 w.heap.size (fun k_ => (P0_ k_ ∨ w.heap.size ≤ k_) ∧ some k_ ≠ (u3 : Value).ownBlock ∧ k_ ≠ gb54) (.slice A32 y80.length c32) y80) := ⟨h4_⟩
                    have n5_ : Qz (Kd.V (Kd.int .u8) 5 w36 w.heap.size (fun k_ => (P0_ k_ ∨ w.heap.size ≤ k_) ∧ some k_ ≠ (u3 : Value).ownBlock ∧ k_ ≠ gb54) (.slice A33 y85.length c33) y85) := ⟨h5_⟩
                    have n6_ : Qz (Kd.V (Kd.int .u8) 5 w36 w.heap.size (fun k_ => (P0_ k_ ∨ w.heap.size ≤ k_) ∧ some k_ ≠ (u3 : Value).ownBlock ∧ k_ ≠ gb54) (.slice A34 y86.length c34) y86) := ⟨h6_⟩
                    have n7_ : Qz (Kd.V (Kd.int .u8) 5 w36 w.heap.size (fun k_ => (P0_ k_ ∨ w.heap.size ≤ k_) ∧ some k_ ≠ (u3 : Value).ownBlock ∧ k_ ≠ gb54) (.slice (some ad57) x0_1.length co26) x0_1) := ⟨h7_⟩
                    have n8_ : Qz (Kd.R k48 48 w36 w.heap.size (fun k_ => (w.heap.size ≤ k_) ∧ k_ ≠ gb54) u3 x3_1) := ⟨h8_⟩
                    have n9_ : Qz (w36.heap[gb54]? = some (.cells #[.int .i64 0, .int .i64 0, .int .i64 0, .bool false, .int .i64 0, .bool false, .int .i64 0, .int .i64 0] 48 (0, 0))) := ⟨h9_⟩
                    have n10_ : Qz (w.heap.size ≤ gb54) := ⟨h10_⟩
                    have n11_ : Qz (w.heap.size ≤ gb54) := ⟨h11_⟩
                    have n12_ : Qz (Below w.heap.size w w36) := ⟨h12_⟩
                    clear HO_0
                    clear HO_3
                    clear HO65
                    clear HB
                    clear h0_ h1_ h2_ h3_ h4_ h5_ h6_ h7_ h8_ h9_ h10_ h11_ h12_
                    have HO65 := n0_
                    have HO66 := n1_
                    have HO67 := n2_
                    have HO68 := n3_
                    have HO69 := n4_
                    have HO71 := n5_
                    have HO77 := n6_
                    have HO_0 := n7_
                    have HO_3 := n8_
                    have BK54 := n9_
                    have GW54 := n10_
                    have GE54 := n11_
                    have HB := n12_
                    clear n0_ n1_ n2_ n3_ n4_ n5_ n6_ n7_ n8_ n9_ n10_ n11_ n12_
                    have hHeld : w36.cell? ⟨ad57.block, ad57.off + 4, none⟩ = some (.int .u8 (rd y56 4)) ∧ w36.cell? ⟨ad57.block, ad57.off + 4, none⟩ = some (.int .u8 (rd y56 4)) := hS_
                    refine norm_ (a' := ?_) ?_ ?_
                    rotate_left
                    ·simp only [putAll, Act.put, List.setIfInBounds_toArray, List.set_cons_zero, List.set_cons_succ]
                     rfl
                    refine one_ (i := 8) (N := some 22) #[Y, Y, Y, Y, Y, Y, Y, Y, Y, Y, Y, Y, Y, Y, Y, Y, Y, Y, Y, Y, Y, Z, Y, Y, Z, Y, Y, Z, Z, Y, Z] rfl rfl (one_of HT_.out (by kernel_rfl)) (by decide) (fun K hK => ?_)
                    refine goes_ Try.func81 (by kernel_rfl) rfl #[.slice A31 y79.length c31] (by rfl) rfl rfl zm ?_
                    with_reducible refine (Zitake.calls k1 _ _ y79 t60 _ ?side1 ?side2 A11.out).mono ?_
                    (case side1 => exact zc (Kd.Qak HO68.out).2.2)
                    (case side2 => exact (Kd.Qak HO68.out).2.1)
                    rintro e w' ⟨rfl, ⟨nd, rfl⟩⟩
                    refine ⟨_, rfl, ?_⟩
                    refine hK.out _ _ ⟨hHeld.1, hHeld.2⟩ (fun hHeld => ?_)
                    clear hK K
                    refine norm_ (a' := ?_) ?_ ?_
                    rotate_left
                    ·show Act.put _ (some 22) _ = _
                     simp only [Act.put, List.setIfInBounds_toArray, List.set_cons_zero, List.set_cons_succ, Qar, Qas]
                     rfl
                    exact norm_ zN (hJ2_5_8_29 (gb54) _ ⟨hHeld, (zv HO65), (zv HO66), (zv HO67), (zv HO68), (zv HO69), (zv HO71), (zv HO77), (zv HO_0), (zr HO_3), zk, GW54.out, GE54.out, zb⟩)
                   skip
                   rintro _ w35 ⟨hS_, h0_, h1_, h2_, h3_, h4_, h5_, h6_, h7_, h8_, h9_⟩
                   have n0_ : Qz (Kd.V (Kd.int .u8) 5 w35 w.heap.size (fun k_ => (P0_ k_ ∨ w.heap.size ≤ k_) ∧ some k_ ≠ (u3 : Value).ownBlock) (.slice (some ad57) y56.length co26) y56) := ⟨h0_⟩
                   have n1_ : Qz (Kd.V (Kd.int .u8) 5 w35 w.heap.size (fun k_ => (P0_ k_ ∨ w.heap.size ≤ k_) ∧ some k_ ≠ (u3 : Value).ownBlock) (.slice (some ad57) y87.length co26) y87) := ⟨h1_⟩
                   have n2_ : Qz (Kd.V (Kd.int .u8) 5 w35 w.heap.size (fun k_ => (P0_ k_ ∨ w.heap.size ≤ k_) ∧ some k_ ≠ (u3 : Value).ownBlock) (.slice A30 y78.length c30) y78) := ⟨h2_⟩
                   have n3_ : Qz (Kd.V (Kd.int .u8) 5 w35 w.heap.size (fun k_ => (P0_ k_ ∨ w.heap.size ≤ k_) ∧ some k_ ≠ (u3 : Value).ownBlock) (.slice A31 y79.length c31) y79) := ⟨h3_⟩
                   have n4_ : Qz (Kd.V (Kd.int .u8) 5 w35 w.heap.size (fun k_ => (P0_ k_ ∨ w.heap.size ≤ k_) ∧ some k_ ≠ (u3 : Value).ownBlock) (.slice A32 y80.length c32) y80) := ⟨h4_⟩
                   have n5_ : Qz (Kd.V (Kd.int .u8) 5 w35 w.heap.size (fun k_ => (P0_ k_ ∨ w.heap.size ≤ k_) ∧ some k_ ≠ (u3 : Value).ownBlock) (.slice A33 y85.length c33) y85) := ⟨h5_⟩
                   have n6_ : Qz (Kd.V (Kd.int .u8) 5 w35 w.heap.size (fun k_ => (P0_ k_ ∨ w.heap.size ≤ k_) ∧ some k_ ≠ (u3 : Value).ownBlock) (.slice A34 y86.length c34) y86) := ⟨h6_⟩
                   have n7_ : Qz (Kd.V (Kd.int .u8) 5 w35 w.heap.size (fun k_ => (P0_ k_ ∨ w.heap.size ≤ k_) ∧ some k_ ≠ (u3 : Value).ownBlock) (.slice (some ad57) x0_1.length co26) x0_1) := ⟨h7_⟩
                   have n8_ : Qz (Kd.R k48 48 w35 w.heap.size (fun k_ => (w.heap.size ≤ k_)) u3 x3_1) := ⟨h8_⟩
                   have n9_ : Qz (Below w.heap.size w w35) := ⟨h9_⟩
                   clear HO_0
                   clear HO_3
                   clear HO65
                   clear HB
                   clear h0_ h1_ h2_ h3_ h4_ h5_ h6_ h7_ h8_ h9_
                   have HO65 := n0_
                   have HO66 := n1_
                   have HO67 := n2_
                   have HO68 := n3_
                   have HO69 := n4_
                   have HO71 := n5_
                   have HO77 := n6_
                   have HO_0 := n7_
                   have HO_3 := n8_
                   have HB := n9_
                   clear n0_ n1_ n2_ n3_ n4_ n5_ n6_ n7_ n8_ n9_
                   have hHeld : w35.cell? ⟨ad57.block, ad57.off + 4, none⟩ = some (.int .u8 (rd y56 4)) ∧ w35.cell? ⟨ad57.block, ad57.off + 4, none⟩ = some (.int .u8 (rd y56 4)) := hS_
                   refine norm_ (a' := ?_) ?_ ?_
                   rotate_left
                   ·simp only [putAll, Act.put, List.setIfInBounds_toArray, List.set_cons_zero, List.set_cons_succ]
                    rfl
                   refine two_ (i := 21) (j := 29) (Ni := some 35) (Nj := some 5) #[Y, Y, Y, Y, Y, Y, Y, Y, Y, Y, Y, Y, Y, Y, Y, Y, Y, Y, Y, Y, Y, Y, Y, Y, Z, Y, Y, Z, Z, Z, Z] #[Y, Y, Y, Y, Y, Y, Y, Y, Y, Y, Y, Y, Y, Y, Y, Y, Y, Y, Y, Y, Y, Z, Y, Y, Z, Y, Y, Z, Z, Y, Z] rfl rfl rfl rfl (two_of HT_.out (by kernel_rfl)) (by decide) (by decide) (fun K hK => ?_) (fun K hK => ?_)
                   ·skip
                    refine goes_ Try.func81 (by kernel_rfl) rfl #[.slice A32 y80.length c32] (by rfl) rfl rfl zm ?_
                    with_reducible refine (Zitake.calls k1 _ _ y80 t61 _ ?side1 ?side2 A14.out).mono ?_
                    (case side1 => exact zc (Kd.Qak HO69.out).2.2)
                    (case side2 => exact (Kd.Qak HO69.out).2.1)
                    rintro e w' ⟨rfl, ⟨nd, rfl⟩⟩
                    refine ⟨_, rfl, ?_⟩
                    refine hK.out _ _ ⟨hHeld.1, hHeld.2⟩ (fun hHeld => ?_)
                    clear hK K
                    refine norm_ (a' := ?_) ?_ ?_
                    rotate_left
                    ·show Act.put _ (some 35) _ = _
                     simp only [Act.put, List.setIfInBounds_toArray, List.set_cons_zero, List.set_cons_succ, Qar, Qas]
                     rfl
                    exact norm_ zN (hJ2_5_8_21 () _ ⟨hHeld, (zv HO65), (zv HO66), (zv HO67), (zv HO68), (zv HO69), (zv HO71), (zv HO77), (zv HO_0), (zr HO_3), zb⟩)
                   skip
                   refine box_step ?hg (N := 5) ?hd (cs := #[.int .i64 0, .int .i64 0, .int .i64 0, .bool false, .int .i64 0, .bool false, .int .i64 0, .int .i64 0]) (t := 48) ?hr ?_; (case hd => rfl); (case hg => rfl); (case hr => exact ye18)
                   intro gb54 hg w36 hbox hb
                   have HS0_ := (hb.cell (World.block_lt_of_cell? _ _ (hHeld.1))).trans (hHeld.1)
                   have HS1_ := (hb.cell (World.block_lt_of_cell? _ _ (hHeld.2))).trans (hHeld.2)
                   have n0_ := Qz.mk (Kd.Qaf (Kd.Qag (zv HO_0) gb54 (Nat.le_of_eq hg.symm)) hb)
                   have n1_ := Qz.mk (Kd.Qy (Kd.Qap (zr HO_3) gb54 (Nat.le_of_eq hg.symm)) hb)
                   have n2_ := Qz.mk (Kd.Qaf (Kd.Qag (zv HO65) gb54 (Nat.le_of_eq hg.symm)) hb)
                   have n3_ := Qz.mk (Kd.Qaf (Kd.Qag (zv HO66) gb54 (Nat.le_of_eq hg.symm)) hb)
                   have n4_ := Qz.mk (Kd.Qaf (Kd.Qag (zv HO67) gb54 (Nat.le_of_eq hg.symm)) hb)
                   have n5_ := Qz.mk (Kd.Qaf (Kd.Qag (zv HO68) gb54 (Nat.le_of_eq hg.symm)) hb)
                   have n6_ := Qz.mk (Kd.Qaf (Kd.Qag (zv HO69) gb54 (Nat.le_of_eq hg.symm)) hb)
                   have n7_ := Qz.mk (Kd.Qaf (Kd.Qag (zv HO71) gb54 (Nat.le_of_eq hg.symm)) hb)
                   have n8_ := Qz.mk (Kd.Qaf (Kd.Qag (zv HO77) gb54 (Nat.le_of_eq hg.symm)) hb)
                   have n9_ := Qz.mk (Qq zb hb)
                   have n10_ := Qz.mk (hbox)
                   have n11_ := Qz.mk ((zh hg : w.heap.size ≤ gb54))
                   have n12_ := Qz.mk ((zh hg : w.heap.size ≤ gb54))
                   clear HO_0
                   clear HO_3
                   clear HO65
                   clear HO66
                   clear HO67
                   clear HO68
                   clear HO69
                   clear HO71
                   clear HO77
                   clear HB
                   have HO_0 := n0_
                   have HO_3 := n1_
                   have HO65 := n2_
                   have HO66 := n3_
                   have HO67 := n4_
                   have HO68 := n5_
                   have HO69 := n6_
                   have HO71 := n7_
                   have HO77 := n8_
                   have HB := n9_
                   have BK54 := n10_
                   have GW54 := n11_
                   have GE54 := n12_
                   clear n0_ n1_ n2_ n3_ n4_ n5_ n6_ n7_ n8_ n9_ n10_ n11_ n12_
                   clear hb hbox hg
                   refine hK.out _ _ ⟨HS0_, HS1_⟩ (fun hHeld => ?_)
                   clear hK K
                   refine norm_ (a' := ?_) ?_ ?_
                   rotate_left
                   ·show Act.put _ (some 5) _ = _
                    simp only [Act.put, List.setIfInBounds_toArray, List.set_cons_zero, List.set_cons_succ, Qar, Qas]
                    rfl
                   exact norm_ zN (hJ2_5_8_29 (gb54) _ ⟨hHeld, ye10, ye11, ye12, ye13, ye14, ye15, ye16, ye17, (zr HO_3), zk, GW54.out, GE54.out, zb⟩)
                  skip
                  rintro gb54 w36 ⟨hS_, h0_, h1_, h2_, h3_, h4_, h5_, h6_, h7_, h8_, h9_, h10_, h11_, h12_⟩
                  have n0_ : Qz (Kd.V (Kd.int .u8) 5 w36 w.heap.size (fun k_ => (P0_ k_ ∨ w.heap.size ≤ k_) ∧ some k_ ≠ (u3 : Value).ownBlock ∧ k_ ≠ gb54) (.slice (some ad57) y56.length co26) y56) := ⟨h0_⟩
                  have n1_ : Qz (Kd.V (Kd.int .u8) 5 w36 w.heap.size (fun k_ => (P0_ k_ ∨ w.heap.size ≤ k_) ∧ some k_ ≠ (u3 : Value).ownBlock ∧ k_ ≠ gb54) (.slice (some ad57) y87.length co26) y87) := ⟨h1_⟩
                  have n2_ : Qz (Kd.V (Kd.int .u8) 5 w36 w.heap.size (fun k_ => (P0_ k_ ∨ w.heap.size ≤ k_) ∧ some k_ ≠ (u3 : Value).ownBlock ∧ k_ ≠ gb54) (.slice A30 y78.length c30) y78) := ⟨h2_⟩
                  have n3_ : Qz (Kd.V (Kd.int .u8) 5 w36 w.heap.size (fun k_ => (P0_ k_ ∨ w.heap.size ≤ k_) ∧ some k_ ≠ (u3 : Value).ownBlock ∧ k_ ≠ gb54) (.slice A31 y79.length c31) y79) := ⟨h3_⟩
                  have n4_ : Qz (Kd.V (Kd.int .u8) 5 w36 w.heap.size (fun k_ => (P0_ k_ ∨ w.heap.size ≤ k_) ∧ some k_ ≠ (u3 : Value).ownBlock ∧ k_ ≠ gb54) (.slice A32 y80.length c32) y80) := ⟨h4_⟩
                  have n5_ : Qz (Kd.V (Kd.int .u8) 5 w36 w.heap.size (fun k_ => (P0_ k_ ∨ w.heap.size ≤ k_) ∧ some k_ ≠ (u3 : Value).ownBlock ∧ k_ ≠ gb54) (.slice A33 y85.length c33) y85) := ⟨h5_⟩
                  have n6_ : Qz (Kd.V (Kd.int .u8) 5 w36 w.heap.size (fun k_ => (P0_ k_ ∨ w.heap.size ≤ k_) ∧ some k_ ≠ (u3 : Value).ownBlock ∧ k_ ≠ gb54) (.slice A34 y86.length c34) y86) := ⟨h6_⟩
                  have n7_ : Qz (Kd.V (Kd.int .u8) 5 w36 w.heap.size (fun k_ => (P0_ k_ ∨ w.heap.size ≤ k_) ∧ some k_ ≠ (u3 : Value).ownBlock ∧ k_ ≠ gb54) (.slice (some ad57) x0_1.length co26) x0_1) := ⟨h7_⟩
                  have n8_ : Qz (Kd.R k48 48 w36 w.heap.size (fun k_ => (w.heap.size ≤ k_) ∧ k_ ≠ gb54) u3 x3_1) := ⟨h8_⟩
                  have n9_ : Qz (w36.heap[gb54]? = some (.cells #[.int .i64 0, .int .i64 0, .int .i64 0, .bool false, .int .i64 0, .bool false, .int .i64 0, .int .i64 0] 48 (0, 0))) := ⟨h9_⟩
                  have n10_ : Qz (w.heap.size ≤ gb54) := ⟨h10_⟩
                  have n11_ : Qz (w.heap.size ≤ gb54) := ⟨h11_⟩
                  have n12_ : Qz (Below w.heap.size w w36) := ⟨h12_⟩
                  clear HO_0
                  clear HO_3
                  clear HO65
                  clear HB
                  clear h0_ h1_ h2_ h3_ h4_ h5_ h6_ h7_ h8_ h9_ h10_ h11_ h12_
                  have HO65 := n0_
                  have HO66 := n1_
                  have HO67 := n2_
                  have HO68 := n3_
                  have HO69 := n4_
                  have HO71 := n5_
                  have HO77 := n6_
                  have HO_0 := n7_
                  have HO_3 := n8_
                  have BK54 := n9_
                  have GW54 := n10_
                  have GE54 := n11_
                  have HB := n12_
                  clear n0_ n1_ n2_ n3_ n4_ n5_ n6_ n7_ n8_ n9_ n10_ n11_ n12_
                  have hHeld : w36.cell? ⟨ad57.block, ad57.off + 4, none⟩ = some (.int .u8 (rd y56 4)) ∧ w36.cell? ⟨ad57.block, ad57.off + 4, none⟩ = some (.int .u8 (rd y56 4)) := hS_
                  refine norm_ (a' := ?_) ?_ ?_
                  rotate_left
                  ·simp only [putAll, Act.put, List.setIfInBounds_toArray, List.set_cons_zero, List.set_cons_succ]
                   rfl
                  refine one_ (i := 21) (N := some 35) #[Y, Y, Y, Y, Y, Y, Y, Y, Y, Y, Y, Y, Y, Y, Y, Y, Y, Y, Y, Y, Y, Y, Y, Y, Z, Y, Y, Z, Z, Y, Z] rfl rfl (one_of HT_.out (by kernel_rfl)) (by decide) (fun K hK => ?_)
                  refine goes_ Try.func81 (by kernel_rfl) rfl #[.slice A32 y80.length c32] (by rfl) rfl rfl zm ?_
                  with_reducible refine (Zitake.calls k1 _ _ y80 t61 _ ?side1 ?side2 A14.out).mono ?_
                  (case side1 => exact zc (Kd.Qak HO69.out).2.2)
                  (case side2 => exact (Kd.Qak HO69.out).2.1)
                  rintro e w' ⟨rfl, ⟨nd, rfl⟩⟩
                  refine ⟨_, rfl, ?_⟩
                  refine hK.out _ _ ⟨hHeld.1, hHeld.2⟩ (fun hHeld => ?_)
                  clear hK K
                  refine norm_ (a' := ?_) ?_ ?_
                  rotate_left
                  ·show Act.put _ (some 35) _ = _
                   simp only [Act.put, List.setIfInBounds_toArray, List.set_cons_zero, List.set_cons_succ, Qar, Qas]
                   rfl
                  exact norm_ zN (hJ2_5_8_21_29 (gb54) _ ⟨hHeld, (zv HO65), (zv HO66), (zv HO67), (zv HO68), (zv HO69), (zv HO71), (zv HO77), (zv HO_0), (zr HO_3), zk, GW54.out, GE54.out, zb⟩)
                 skip
                 rintro _ w35 ⟨hS_, h0_, h1_, h2_, h3_, h4_, h5_, h6_, h7_, h8_, h9_⟩
                 have n0_ : Qz (Kd.V (Kd.int .u8) 5 w35 w.heap.size (fun k_ => (P0_ k_ ∨ w.heap.size ≤ k_) ∧ some k_ ≠ (u3 : Value).ownBlock) (.slice (some ad57) y56.length co26) y56) := ⟨h0_⟩
                 have n1_ : Qz (Kd.V (Kd.int .u8) 5 w35 w.heap.size (fun k_ => (P0_ k_ ∨ w.heap.size ≤ k_) ∧ some k_ ≠ (u3 : Value).ownBlock) (.slice (some ad57) y87.length co26) y87) := ⟨h1_⟩
                 have n2_ : Qz (Kd.V (Kd.int .u8) 5 w35 w.heap.size (fun k_ => (P0_ k_ ∨ w.heap.size ≤ k_) ∧ some k_ ≠ (u3 : Value).ownBlock) (.slice A30 y78.length c30) y78) := ⟨h2_⟩
                 have n3_ : Qz (Kd.V (Kd.int .u8) 5 w35 w.heap.size (fun k_ => (P0_ k_ ∨ w.heap.size ≤ k_) ∧ some k_ ≠ (u3 : Value).ownBlock) (.slice A31 y79.length c31) y79) := ⟨h3_⟩
                 have n4_ : Qz (Kd.V (Kd.int .u8) 5 w35 w.heap.size (fun k_ => (P0_ k_ ∨ w.heap.size ≤ k_) ∧ some k_ ≠ (u3 : Value).ownBlock) (.slice A32 y80.length c32) y80) := ⟨h4_⟩
                 have n5_ : Qz (Kd.V (Kd.int .u8) 5 w35 w.heap.size (fun k_ => (P0_ k_ ∨ w.heap.size ≤ k_) ∧ some k_ ≠ (u3 : Value).ownBlock) (.slice A33 y85.length c33) y85) := ⟨h5_⟩
                 have n6_ : Qz (Kd.V (Kd.int .u8) 5 w35 w.heap.size (fun k_ => (P0_ k_ ∨ w.heap.size ≤ k_) ∧ some k_ ≠ (u3 : Value).ownBlock) (.slice A34 y86.length c34) y86) := ⟨h6_⟩
                 have n7_ : Qz (Kd.V (Kd.int .u8) 5 w35 w.heap.size (fun k_ => (P0_ k_ ∨ w.heap.size ≤ k_) ∧ some k_ ≠ (u3 : Value).ownBlock) (.slice (some ad57) x0_1.length co26) x0_1) := ⟨h7_⟩
                 have n8_ : Qz (Kd.R k48 48 w35 w.heap.size (fun k_ => (w.heap.size ≤ k_)) u3 x3_1) := ⟨h8_⟩
                 have n9_ : Qz (Below w.heap.size w w35) := ⟨h9_⟩
                 clear HO_0
                 clear HO_3
                 clear HO65
                 clear HB
                 clear h0_ h1_ h2_ h3_ h4_ h5_ h6_ h7_ h8_ h9_
                 have HO65 := n0_
                 have HO66 := n1_
                 have HO67 := n2_
                 have HO68 := n3_
                 have HO69 := n4_
                 have HO71 := n5_
                 have HO77 := n6_
                 have HO_0 := n7_
                 have HO_3 := n8_
                 have HB := n9_
                 clear n0_ n1_ n2_ n3_ n4_ n5_ n6_ n7_ n8_ n9_
                 have hHeld : w35.cell? ⟨ad57.block, ad57.off + 4, none⟩ = some (.int .u8 (rd y56 4)) ∧ w35.cell? ⟨ad57.block, ad57.off + 4, none⟩ = some (.int .u8 (rd y56 4)) := hS_
                 refine norm_ (a' := ?_) ?_ ?_
                 rotate_left
                 ·simp only [putAll, Act.put, List.setIfInBounds_toArray, List.set_cons_zero, List.set_cons_succ]
                  rfl
                 refine two_ (i := 24) (j := 29) (Ni := some 38) (Nj := some 5) #[Y, Y, Y, Y, Y, Y, Y, Y, Y, Y, Y, Y, Y, Y, Y, Y, Y, Y, Y, Y, Y, Y, Y, Y, Y, Y, Y, Z, Z, Z, Z] #[Y, Y, Y, Y, Y, Y, Y, Y, Y, Y, Y, Y, Y, Y, Y, Y, Y, Y, Y, Y, Y, Y, Y, Y, Z, Y, Y, Z, Z, Y, Z] rfl rfl rfl rfl (two_of HT_.out (by kernel_rfl)) (by decide) (by decide) (fun K hK => ?_) (fun K hK => ?_)
                 ·skip
                  refine goes_ Try.func81 (by kernel_rfl) rfl #[.slice A33 y85.length c33] (by rfl) rfl rfl zm ?_
                  with_reducible refine (Zitake.calls k1 _ _ y85 t62 _ ?side1 ?side2 A16.out).mono ?_
                  (case side1 => exact zc (Kd.Qak HO71.out).2.2)
                  (case side2 => exact (Kd.Qak HO71.out).2.1)
                  rintro e w' ⟨rfl, ⟨nd, rfl⟩⟩
                  refine ⟨_, rfl, ?_⟩
                  refine hK.out _ _ ⟨hHeld.1, hHeld.2⟩ (fun hHeld => ?_)
                  clear hK K
                  refine norm_ (a' := ?_) ?_ ?_
                  rotate_left
                  ·show Act.put _ (some 38) _ = _
                   simp only [Act.put, List.setIfInBounds_toArray, List.set_cons_zero, List.set_cons_succ, Qar, Qas]
                   rfl
                  exact norm_ zN (hJ2_5_8_21_24 () _ ⟨hHeld, (zv HO65), (zv HO66), (zv HO67), (zv HO68), (zv HO69), (zv HO71), (zv HO77), (zv HO_0), (zr HO_3), zb⟩)
                 skip
                 refine box_step ?hg (N := 5) ?hd (cs := #[.int .i64 0, .int .i64 0, .int .i64 0, .bool false, .int .i64 0, .bool false, .int .i64 0, .int .i64 0]) (t := 48) ?hr ?_; (case hd => rfl); (case hg => rfl); (case hr => exact ye18)
                 intro gb54 hg w36 hbox hb
                 have HS0_ := (hb.cell (World.block_lt_of_cell? _ _ (hHeld.1))).trans (hHeld.1)
                 have HS1_ := (hb.cell (World.block_lt_of_cell? _ _ (hHeld.2))).trans (hHeld.2)
                 have n0_ := Qz.mk (Kd.Qaf (Kd.Qag (zv HO_0) gb54 (Nat.le_of_eq hg.symm)) hb)
                 have n1_ := Qz.mk (Kd.Qy (Kd.Qap (zr HO_3) gb54 (Nat.le_of_eq hg.symm)) hb)
                 have n2_ := Qz.mk (Kd.Qaf (Kd.Qag (zv HO65) gb54 (Nat.le_of_eq hg.symm)) hb)
                 have n3_ := Qz.mk (Kd.Qaf (Kd.Qag (zv HO66) gb54 (Nat.le_of_eq hg.symm)) hb)
                 have n4_ := Qz.mk (Kd.Qaf (Kd.Qag (zv HO67) gb54 (Nat.le_of_eq hg.symm)) hb)
                 have n5_ := Qz.mk (Kd.Qaf (Kd.Qag (zv HO68) gb54 (Nat.le_of_eq hg.symm)) hb)
                 have n6_ := Qz.mk (Kd.Qaf (Kd.Qag (zv HO69) gb54 (Nat.le_of_eq hg.symm)) hb)
                 have n7_ := Qz.mk (Kd.Qaf (Kd.Qag (zv HO71) gb54 (Nat.le_of_eq hg.symm)) hb)
                 have n8_ := Qz.mk (Kd.Qaf (Kd.Qag (zv HO77) gb54 (Nat.le_of_eq hg.symm)) hb)
                 have n9_ := Qz.mk (Qq zb hb)
                 have n10_ := Qz.mk (hbox)
                 have n11_ := Qz.mk ((zh hg : w.heap.size ≤ gb54))
                 have n12_ := Qz.mk ((zh hg : w.heap.size ≤ gb54))
                 clear HO_0
                 clear HO_3
                 clear HO65
                 clear HO66
                 clear HO67
                 clear HO68
                 clear HO69
                 clear HO71
                 clear HO77
                 clear HB
                 have HO_0 := n0_
                 have HO_3 := n1_
                 have HO65 := n2_
                 have HO66 := n3_
                 have HO67 := n4_
                 have HO68 := n5_
                 have HO69 := n6_
                 have HO71 := n7_
                 have HO77 := n8_
                 have HB := n9_
                 have BK54 := n10_
                 have GW54 := n11_
                 have GE54 := n12_
                 clear n0_ n1_ n2_ n3_ n4_ n5_ n6_ n7_ n8_ n9_ n10_ n11_ n12_
                 clear hb hbox hg
                 refine hK.out _ _ ⟨HS0_, HS1_⟩ (fun hHeld => ?_)
                 clear hK K
                 refine norm_ (a' := ?_) ?_ ?_
                 rotate_left
                 ·show Act.put _ (some 5) _ = _
                  simp only [Act.put, List.setIfInBounds_toArray, List.set_cons_zero, List.set_cons_succ, Qar, Qas]
                  rfl
                 exact norm_ zN (hJ2_5_8_21_29 (gb54) _ ⟨hHeld, ye10, ye11, ye12, ye13, ye14, ye15, ye16, ye17, (zr HO_3), zk, GW54.out, GE54.out, zb⟩)
                skip
                rintro gb54 w36 ⟨hS_, h0_, h1_, h2_, h3_, h4_, h5_, h6_, h7_, h8_, h9_, h10_, h11_, h12_⟩
                have n0_ : Qz (Kd.V (Kd.int .u8) 5 w36 w.heap.size (fun k_ => (P0_ k_ ∨ w.heap.size ≤ k_) ∧ some k_ ≠ (u3 : Value).ownBlock ∧ k_ ≠ gb54) (.slice (some ad57) y56.length co26) y56) := ⟨h0_⟩
                have n1_ : Qz (Kd.V (Kd.int .u8) 5 w36 w.heap.size (fun k_ => (P0_ k_ ∨ w.heap.size ≤ k_) ∧ some k_ ≠ (u3 : Value).ownBlock ∧ k_ ≠ gb54) (.slice (some ad57) y87.length co26) y87) := ⟨h1_⟩
                have n2_ : Qz (Kd.V (Kd.int .u8) 5 w36 w.heap.size (fun k_ => (P0_ k_ ∨ w.heap.size ≤ k_) ∧ some k_ ≠ (u3 : Value).ownBlock ∧ k_ ≠ gb54) (.slice A30 y78.length c30) y78) := ⟨h2_⟩
                have n3_ : Qz (Kd.V (Kd.int .u8) 5 w36 w.heap.size (fun k_ => (P0_ k_ ∨ w.heap.size ≤ k_) ∧ some k_ ≠ (u3 : Value).ownBlock ∧ k_ ≠ gb54) (.slice A31 y79.length c31) y79) := ⟨h3_⟩
                have n4_ : Qz (Kd.V (Kd.int .u8) 5 w36 w.heap.size (fun k_ => (P0_ k_ ∨ w.heap.size ≤ k_) ∧ some k_ ≠ (u3 : Value).ownBlock ∧ k_ ≠ gb54) (.slice A32 y80.length c32) y80) := ⟨h4_⟩
                have n5_ : Qz (Kd.V (Kd.int .u8) 5 w36 w.heap.size (fun k_ => (P0_ k_ ∨ w.heap.size ≤ k_) ∧ some k_ ≠ (u3 : Value).ownBlock ∧ k_ ≠ gb54) (.slice A33 y85.length c33) y85) := ⟨h5_⟩
                have n6_ : Qz (Kd.V (Kd.int .u8) 5 w36 w.heap.size (fun k_ => (P0_ k_ ∨ w.heap.size ≤ k_) ∧ some k_ ≠ (u3 : Value).ownBlock ∧ k_ ≠ gb54) (.slice A34 y86.length c34) y86) := ⟨h6_⟩
                have n7_ : Qz (Kd.V (Kd.int .u8) 5 w36 w.heap.size (fun k_ => (P0_ k_ ∨ w.heap.size ≤ k_) ∧ some k_ ≠ (u3 : Value).ownBlock ∧ k_ ≠ gb54) (.slice (some ad57) x0_1.length co26) x0_1) := ⟨h7_⟩
                have n8_ : Qz (Kd.R k48 48 w36 w.heap.size (fun k_ => (w.heap.size ≤ k_) ∧ k_ ≠ gb54) u3 x3_1) := ⟨h8_⟩
                have n9_ : Qz (w36.heap[gb54]? = some (.cells #[.int .i64 0, .int .i64 0, .int .i64 0, .bool false, .int .i64 0, .bool false, .int .i64 0, .int .i64 0] 48 (0, 0))) := ⟨h9_⟩
                have n10_ : Qz (w.heap.size ≤ gb54) := ⟨h10_⟩
                have n11_ : Qz (w.heap.size ≤ gb54) := ⟨h11_⟩
                have n12_ : Qz (Below w.heap.size w w36) := ⟨h12_⟩
                clear HO_0
                clear HO_3
                clear HO65
                clear HB
                clear h0_ h1_ h2_ h3_ h4_ h5_ h6_ h7_ h8_ h9_ h10_ h11_ h12_
                have HO65 := n0_
                have HO66 := n1_
                have HO67 := n2_
                have HO68 := n3_
                have HO69 := n4_
                have HO71 := n5_
                have HO77 := n6_
                have HO_0 := n7_
                have HO_3 := n8_
                have BK54 := n9_
                have GW54 := n10_
                have GE54 := n11_
                have HB := n12_
                clear n0_ n1_ n2_ n3_ n4_ n5_ n6_ n7_ n8_ n9_ n10_ n11_ n12_
                have hHeld : w36.cell? ⟨ad57.block, ad57.off + 4, none⟩ = some (.int .u8 (rd y56 4)) ∧ w36.cell? ⟨ad57.block, ad57.off + 4, none⟩ = some (.int .u8 (rd y56 4)) := hS_
                refine norm_ (a' := ?_) ?_ ?_
                rotate_left
                ·simp only [putAll, Act.put, List.setIfInBounds_toArray, List.set_cons_zero, List.set_cons_succ]
                 rfl
                refine one_ (i := 24) (N := some 38) #[Y, Y, Y, Y, Y, Y, Y, Y, Y, Y, Y, Y, Y, Y, Y, Y, Y, Y, Y, Y, Y, Y, Y, Y, Y, Y, Y, Z, Z, Y, Z] rfl rfl (one_of HT_.out (by kernel_rfl)) (by decide) (fun K hK => ?_)
                refine goes_ Try.func81 (by kernel_rfl) rfl #[.slice A33 y85.length c33] (by rfl) rfl rfl zm ?_
                with_reducible refine (Zitake.calls k1 _ _ y85 t62 _ ?side1 ?side2 A16.out).mono ?_
                (case side1 => exact zc (Kd.Qak HO71.out).2.2)
                (case side2 => exact (Kd.Qak HO71.out).2.1)
                rintro e w' ⟨rfl, ⟨nd, rfl⟩⟩
                refine ⟨_, rfl, ?_⟩
                refine hK.out _ _ ⟨hHeld.1, hHeld.2⟩ (fun hHeld => ?_)
                clear hK K
                refine norm_ (a' := ?_) ?_ ?_
                rotate_left
                ·show Act.put _ (some 38) _ = _
                 simp only [Act.put, List.setIfInBounds_toArray, List.set_cons_zero, List.set_cons_succ, Qar, Qas]
                 rfl
                exact norm_ zN (hJ2_5_8_21_24_29 (gb54) _ ⟨hHeld, (zv HO65), (zv HO66), (zv HO67), (zv HO68), (zv HO69), (zv HO71), (zv HO77), (zv HO_0), (zr HO_3), zk, GW54.out, GE54.out, zb⟩)
               skip
               rintro _ w35 ⟨hS_, h0_, h1_, h2_, h3_, h4_, h5_, h6_, h7_, h8_, h9_⟩
               have n0_ : Qz (Kd.V (Kd.int .u8) 5 w35 w.heap.size (fun k_ => (P0_ k_ ∨ w.heap.size ≤ k_) ∧ some k_ ≠ (u3 : Value).ownBlock) (.slice (some ad57) y56.length co26) y56) := ⟨h0_⟩
               have n1_ : Qz (Kd.V (Kd.int .u8) 5 w35 w.heap.size (fun k_ => (P0_ k_ ∨ w.heap.size ≤ k_) ∧ some k_ ≠ (u3 : Value).ownBlock) (.slice (some ad57) y87.length co26) y87) := ⟨h1_⟩
               have n2_ : Qz (Kd.V (Kd.int .u8) 5 w35 w.heap.size (fun k_ => (P0_ k_ ∨ w.heap.size ≤ k_) ∧ some k_ ≠ (u3 : Value).ownBlock) (.slice A30 y78.length c30) y78) := ⟨h2_⟩
               have n3_ : Qz (Kd.V (Kd.int .u8) 5 w35 w.heap.size (fun k_ => (P0_ k_ ∨ w.heap.size ≤ k_) ∧ some k_ ≠ (u3 : Value).ownBlock) (.slice A31 y79.length c31) y79) := ⟨h3_⟩
               have n4_ : Qz (Kd.V (Kd.int .u8) 5 w35 w.heap.size (fun k_ => (P0_ k_ ∨ w.heap.size ≤ k_) ∧ some k_ ≠ (u3 : Value).ownBlock) (.slice A32 y80.length c32) y80) := ⟨h4_⟩
               have n5_ : Qz (Kd.V (Kd.int .u8) 5 w35 w.heap.size (fun k_ => (P0_ k_ ∨ w.heap.size ≤ k_) ∧ some k_ ≠ (u3 : Value).ownBlock) (.slice A33 y85.length c33) y85) := ⟨h5_⟩
               have n6_ : Qz (Kd.V (Kd.int .u8) 5 w35 w.heap.size (fun k_ => (P0_ k_ ∨ w.heap.size ≤ k_) ∧ some k_ ≠ (u3 : Value).ownBlock) (.slice A34 y86.length c34) y86) := ⟨h6_⟩
               have n7_ : Qz (Kd.V (Kd.int .u8) 5 w35 w.heap.size (fun k_ => (P0_ k_ ∨ w.heap.size ≤ k_) ∧ some k_ ≠ (u3 : Value).ownBlock) (.slice (some ad57) x0_1.length co26) x0_1) := ⟨h7_⟩
               have n8_ : Qz (Kd.R k48 48 w35 w.heap.size (fun k_ => (w.heap.size ≤ k_)) u3 x3_1) := ⟨h8_⟩
               have n9_ : Qz (Below w.heap.size w w35) := ⟨h9_⟩
               clear HO_0
               clear HO_3
               clear HO65
               clear HB
               clear h0_ h1_ h2_ h3_ h4_ h5_ h6_ h7_ h8_ h9_
               have HO65 := n0_
               have HO66 := n1_
               have HO67 := n2_
               have HO68 := n3_
               have HO69 := n4_
               have HO71 := n5_
               have HO77 := n6_
               have HO_0 := n7_
               have HO_3 := n8_
               have HB := n9_
               clear n0_ n1_ n2_ n3_ n4_ n5_ n6_ n7_ n8_ n9_
               have hHeld : w35.cell? ⟨ad57.block, ad57.off + 4, none⟩ = some (.int .u8 (rd y56 4)) ∧ w35.cell? ⟨ad57.block, ad57.off + 4, none⟩ = some (.int .u8 (rd y56 4)) := hS_
               refine norm_ (a' := ?_) ?_ ?_
               rotate_left
               ·simp only [putAll, Act.put, List.setIfInBounds_toArray, List.set_cons_zero, List.set_cons_succ]
                rfl
               refine two_ (i := 27) (j := 29) (Ni := some 41) (Nj := some 5) #[Y, Y, Y, Y, Y, Y, Y, Y, Y, Y, Y, Y, Y, Y, Y, Y, Y, Y, Y, Y, Y, Y, Y, Y, Y, Y, Y, Y, Z, Z, Z] #[Y, Y, Y, Y, Y, Y, Y, Y, Y, Y, Y, Y, Y, Y, Y, Y, Y, Y, Y, Y, Y, Y, Y, Y, Y, Y, Y, Z, Z, Y, Z] rfl rfl rfl rfl (two_of HT_.out (by kernel_rfl)) (by decide) (by decide) (fun K hK => ?_) (fun K hK => ?_)
               ·skip
                refine goes_ Try.func81 (by kernel_rfl) rfl #[.slice A34 y86.length c34] (by rfl) rfl rfl zm ?_
                with_reducible refine (Zitake.calls k1 _ _ y86 t63 _ ?side1 ?side2 A18.out).mono ?_
                (case side1 => exact zc (Kd.Qak HO77.out).2.2)
                (case side2 => exact (Kd.Qak HO77.out).2.1)
                rintro e w' ⟨rfl, ⟨nd, rfl⟩⟩
                refine ⟨_, rfl, ?_⟩
                refine hK.out _ _ ⟨hHeld.1, hHeld.2⟩ (fun hHeld => ?_)
                clear hK K
                refine norm_ (a' := ?_) ?_ ?_
                rotate_left
                ·show Act.put _ (some 41) _ = _
                 simp only [Act.put, List.setIfInBounds_toArray, List.set_cons_zero, List.set_cons_succ, Qar, Qas]
                 rfl
                refine zp 28 42 ?_
                exact norm_ zN (hJ2_5_8_21_24_27 () _ ⟨hHeld, (zv HO65), (zv HO66), (zv HO67), (zv HO68), (zv HO69), (zv HO71), (zv HO77), (zv HO_0), (zr HO_3), zb⟩)
               skip
               refine box_step ?hg (N := 5) ?hd (cs := #[.int .i64 0, .int .i64 0, .int .i64 0, .bool false, .int .i64 0, .bool false, .int .i64 0, .int .i64 0]) (t := 48) ?hr ?_; (case hd => rfl); (case hg => rfl); (case hr => exact ye18)
               intro gb54 hg w36 hbox hb
               have HS0_ := (hb.cell (World.block_lt_of_cell? _ _ (hHeld.1))).trans (hHeld.1)
               have HS1_ := (hb.cell (World.block_lt_of_cell? _ _ (hHeld.2))).trans (hHeld.2)
               have n0_ := Qz.mk (Kd.Qaf (Kd.Qag (zv HO_0) gb54 (Nat.le_of_eq hg.symm)) hb)
               have n1_ := Qz.mk (Kd.Qy (Kd.Qap (zr HO_3) gb54 (Nat.le_of_eq hg.symm)) hb)
               have n2_ := Qz.mk (Kd.Qaf (Kd.Qag (zv HO65) gb54 (Nat.le_of_eq hg.symm)) hb)
               have n3_ := Qz.mk (Kd.Qaf (Kd.Qag (zv HO66) gb54 (Nat.le_of_eq hg.symm)) hb)
               have n4_ := Qz.mk (Kd.Qaf (Kd.Qag (zv HO67) gb54 (Nat.le_of_eq hg.symm)) hb)
               have n5_ := Qz.mk (Kd.Qaf (Kd.Qag (zv HO68) gb54 (Nat.le_of_eq hg.symm)) hb)
               have n6_ := Qz.mk (Kd.Qaf (Kd.Qag (zv HO69) gb54 (Nat.le_of_eq hg.symm)) hb)
               have n7_ := Qz.mk (Kd.Qaf (Kd.Qag (zv HO71) gb54 (Nat.le_of_eq hg.symm)) hb)
               have n8_ := Qz.mk (Kd.Qaf (Kd.Qag (zv HO77) gb54 (Nat.le_of_eq hg.symm)) hb)
               have n9_ := Qz.mk (Qq zb hb)
               have n10_ := Qz.mk (hbox)
               have n11_ := Qz.mk ((zh hg : w.heap.size ≤ gb54))
               have n12_ := Qz.mk ((zh hg : w.heap.size ≤ gb54))
               clear HO_0
               clear HO_3
               clear HO65
               clear HO66
               clear HO67
               clear HO68
               clear HO69
               clear HO71
               clear HO77
               clear HB
               have HO_0 := n0_
               have HO_3 := n1_
               have HO65 := n2_
               have HO66 := n3_
               have HO67 := n4_
               have HO68 := n5_
               have HO69 := n6_
               have HO71 := n7_
               have HO77 := n8_
               have HB := n9_
               have BK54 := n10_
               have GW54 := n11_
               have GE54 := n12_
               clear n0_ n1_ n2_ n3_ n4_ n5_ n6_ n7_ n8_ n9_ n10_ n11_ n12_
               clear hb hbox hg
               refine hK.out _ _ ⟨HS0_, HS1_⟩ (fun hHeld => ?_)
               clear hK K
               refine norm_ (a' := ?_) ?_ ?_
               rotate_left
               ·show Act.put _ (some 5) _ = _
                simp only [Act.put, List.setIfInBounds_toArray, List.set_cons_zero, List.set_cons_succ, Qar, Qas]
                rfl
               exact norm_ zN (hJ2_5_8_21_24_29 (gb54) _ ⟨hHeld, ye10, ye11, ye12, ye13, ye14, ye15, ye16, ye17, (zr HO_3), zk, GW54.out, GE54.out, zb⟩)
              skip
              rintro gb54 w36 ⟨hS_, h0_, h1_, h2_, h3_, h4_, h5_, h6_, h7_, h8_, h9_, h10_, h11_, h12_⟩
              have n0_ : Qz (Kd.V (Kd.int .u8) 5 w36 w.heap.size (fun k_ => (P0_ k_ ∨ w.heap.size ≤ k_) ∧ some k_ ≠ (u3 : Value).ownBlock ∧ k_ ≠ gb54) (.slice (some ad57) y56.length co26) y56) := ⟨h0_⟩
              have n1_ : Qz (Kd.V (Kd.int .u8) 5 w36 w.heap.size (fun k_ => (P0_ k_ ∨ w.heap.size ≤ k_) ∧ some k_ ≠ (u3 : Value).ownBlock ∧ k_ ≠ gb54) (.slice (some ad57) y87.length co26) y87) := ⟨h1_⟩
              have n2_ : Qz (Kd.V (Kd.int .u8) 5 w36 w.heap.size (fun k_ => (P0_ k_ ∨ w.heap.size ≤ k_) ∧ some k_ ≠ (u3 : Value).ownBlock ∧ k_ ≠ gb54) (.slice A30 y78.length c30) y78) := ⟨h2_⟩
              have n3_ : Qz (Kd.V (Kd.int .u8) 5 w36 w.heap.size (fun k_ => (P0_ k_ ∨ w.heap.size ≤ k_) ∧ some k_ ≠ (u3 : Value).ownBlock ∧ k_ ≠ gb54) (.slice A31 y79.length c31) y79) := ⟨h3_⟩
              have n4_ : Qz (Kd.V (Kd.int .u8) 5 w36 w.heap.size (fun k_ => (P0_ k_ ∨ w.heap.size ≤ k_) ∧ some k_ ≠ (u3 : Value).ownBlock ∧ k_ ≠ gb54) (.slice A32 y80.length c32) y80) := ⟨h4_⟩
              have n5_ : Qz (Kd.V (Kd.int .u8) 5 w36 w.heap.size (fun k_ => (P0_ k_ ∨ w.heap.size ≤ k_) ∧ some k_ ≠ (u3 : Value).ownBlock ∧ k_ ≠ gb54) (.slice A33 y85.length c33) y85) := ⟨h5_⟩
              have n6_ : Qz (Kd.V (Kd.int .u8) 5 w36 w.heap.size (fun k_ => (P0_ k_ ∨ w.heap.size ≤ k_) ∧ some k_ ≠ (u3 : Value).ownBlock ∧ k_ ≠ gb54) (.slice A34 y86.length c34) y86) := ⟨h6_⟩
              have n7_ : Qz (Kd.V (Kd.int .u8) 5 w36 w.heap.size (fun k_ => (P0_ k_ ∨ w.heap.size ≤ k_) ∧ some k_ ≠ (u3 : Value).ownBlock ∧ k_ ≠ gb54) (.slice (some ad57) x0_1.length co26) x0_1) := ⟨h7_⟩
              have n8_ : Qz (Kd.R k48 48 w36 w.heap.size (fun k_ => (w.heap.size ≤ k_) ∧ k_ ≠ gb54) u3 x3_1) := ⟨h8_⟩
              have n9_ : Qz (w36.heap[gb54]? = some (.cells #[.int .i64 0, .int .i64 0, .int .i64 0, .bool false, .int .i64 0, .bool false, .int .i64 0, .int .i64 0] 48 (0, 0))) := ⟨h9_⟩
              have n10_ : Qz (w.heap.size ≤ gb54) := ⟨h10_⟩
              have n11_ : Qz (w.heap.size ≤ gb54) := ⟨h11_⟩
              have n12_ : Qz (Below w.heap.size w w36) := ⟨h12_⟩
              clear HO_0
              clear HO_3
              clear HO65
              clear HB
              clear h0_ h1_ h2_ h3_ h4_ h5_ h6_ h7_ h8_ h9_ h10_ h11_ h12_
              have HO65 := n0_
              have HO66 := n1_
              have HO67 := n2_
              have HO68 := n3_
              have HO69 := n4_
              have HO71 := n5_
              have HO77 := n6_
              have HO_0 := n7_
              have HO_3 := n8_
              have BK54 := n9_
              have GW54 := n10_
              have GE54 := n11_
              have HB := n12_
              clear n0_ n1_ n2_ n3_ n4_ n5_ n6_ n7_ n8_ n9_ n10_ n11_ n12_
              have hHeld : w36.cell? ⟨ad57.block, ad57.off + 4, none⟩ = some (.int .u8 (rd y56 4)) ∧ w36.cell? ⟨ad57.block, ad57.off + 4, none⟩ = some (.int .u8 (rd y56 4)) := hS_
              refine norm_ (a' := ?_) ?_ ?_
              rotate_left
              ·simp only [putAll, Act.put, List.setIfInBounds_toArray, List.set_cons_zero, List.set_cons_succ]
               rfl
              refine one_ (i := 27) (N := some 41) #[Y, Y, Y, Y, Y, Y, Y, Y, Y, Y, Y, Y, Y, Y, Y, Y, Y, Y, Y, Y, Y, Y, Y, Y, Y, Y, Y, Y, Z, Y, Z] rfl rfl (one_of HT_.out (by kernel_rfl)) (by decide) (fun K hK => ?_)
              refine goes_ Try.func81 (by kernel_rfl) rfl #[.slice A34 y86.length c34] (by rfl) rfl rfl zm ?_
              with_reducible refine (Zitake.calls k1 _ _ y86 t63 _ ?side1 ?side2 A18.out).mono ?_
              (case side1 => exact zc (Kd.Qak HO77.out).2.2)
              (case side2 => exact (Kd.Qak HO77.out).2.1)
              rintro e w' ⟨rfl, ⟨nd, rfl⟩⟩
              refine ⟨_, rfl, ?_⟩
              refine hK.out _ _ ⟨hHeld.1, hHeld.2⟩ (fun hHeld => ?_)
              clear hK K
              refine norm_ (a' := ?_) ?_ ?_
              rotate_left
              ·show Act.put _ (some 41) _ = _
               simp only [Act.put, List.setIfInBounds_toArray, List.set_cons_zero, List.set_cons_succ, Qar, Qas]
               rfl
              refine zp 28 42 ?_
              exact norm_ zN (hJ2_5_8_21_24_27_29 (gb54) _ ⟨hHeld, (zv HO65), (zv HO66), (zv HO67), (zv HO68), (zv HO69), (zv HO71), (zv HO77), (zv HO_0), (zr HO_3), zk, GW54.out, GE54.out, zb⟩)
             skip
             rintro _ w35 ⟨hS_, h0_, h1_, h2_, h3_, h4_, h5_, h6_, h7_, h8_, h9_⟩
             have n0_ : Qz (Kd.V (Kd.int .u8) 5 w35 w.heap.size (fun k_ => (P0_ k_ ∨ w.heap.size ≤ k_) ∧ some k_ ≠ (u3 : Value).ownBlock) (.slice (some ad57) y56.length co26) y56) := ⟨h0_⟩
             have n1_ : Qz (Kd.V (Kd.int .u8) 5 w35 w.heap.size (fun k_ => (P0_ k_ ∨ w.heap.size ≤ k_) ∧ some k_ ≠ (u3 : Value).ownBlock) (.slice (some ad57) y87.length co26) y87) := ⟨h1_⟩
             have n2_ : Qz (Kd.V (Kd.int .u8) 5 w35 w.heap.size (fun k_ => (P0_ k_ ∨ w.heap.size ≤ k_) ∧ some k_ ≠ (u3 : Value).ownBlock) (.slice A30 y78.length c30) y78) := ⟨h2_⟩
             have n3_ : Qz (Kd.V (Kd.int .u8) 5 w35 w.heap.size (fun k_ => (P0_ k_ ∨ w.heap.size ≤ k_) ∧ some k_ ≠ (u3 : Value).ownBlock) (.slice A31 y79.length c31) y79) := ⟨h3_⟩
             have n4_ : Qz (Kd.V (Kd.int .u8) 5 w35 w.heap.size (fun k_ => (P0_ k_ ∨ w.heap.size ≤ k_) ∧ some k_ ≠ (u3 : Value).ownBlock) (.slice A32 y80.length c32) y80) := ⟨h4_⟩
             have n5_ : Qz (Kd.V (Kd.int .u8) 5 w35 w.heap.size (fun k_ => (P0_ k_ ∨ w.heap.size ≤ k_) ∧ some k_ ≠ (u3 : Value).ownBlock) (.slice A33 y85.length c33) y85) := ⟨h5_⟩
             have n6_ : Qz (Kd.V (Kd.int .u8) 5 w35 w.heap.size (fun k_ => (P0_ k_ ∨ w.heap.size ≤ k_) ∧ some k_ ≠ (u3 : Value).ownBlock) (.slice A34 y86.length c34) y86) := ⟨h6_⟩
             have n7_ : Qz (Kd.V (Kd.int .u8) 5 w35 w.heap.size (fun k_ => (P0_ k_ ∨ w.heap.size ≤ k_) ∧ some k_ ≠ (u3 : Value).ownBlock) (.slice (some ad57) x0_1.length co26) x0_1) := ⟨h7_⟩
             have n8_ : Qz (Kd.R k48 48 w35 w.heap.size (fun k_ => (w.heap.size ≤ k_)) u3 x3_1) := ⟨h8_⟩
             have n9_ : Qz (Below w.heap.size w w35) := ⟨h9_⟩
             clear HO_0
             clear HO_3
             clear HO65
             clear HB
             clear h0_ h1_ h2_ h3_ h4_ h5_ h6_ h7_ h8_ h9_
             have HO65 := n0_
             have HO66 := n1_
             have HO67 := n2_
             have HO68 := n3_
             have HO69 := n4_
             have HO71 := n5_
             have HO77 := n6_
             have HO_0 := n7_
             have HO_3 := n8_
             have HB := n9_
             clear n0_ n1_ n2_ n3_ n4_ n5_ n6_ n7_ n8_ n9_
             have hHeld : w35.cell? ⟨ad57.block, ad57.off + 4, none⟩ = some (.int .u8 (rd y56 4)) ∧ w35.cell? ⟨ad57.block, ad57.off + 4, none⟩ = some (.int .u8 (rd y56 4)) := hS_
             refine norm_ (a' := ?_) ?_ ?_
             rotate_left
             ·simp only [putAll, Act.put, List.setIfInBounds_toArray, List.set_cons_zero, List.set_cons_succ]
              rfl
             refine one_ (i := 29) (N := some 5) #[Y, Y, Y, Y, Y, Y, Y, Y, Y, Y, Y, Y, Y, Y, Y, Y, Y, Y, Y, Y, Y, Y, Y, Y, Y, Y, Y, Y, Y, Y, Z] rfl rfl (one_of HT_.out (by kernel_rfl)) (by decide) (fun K hK => ?_)
             refine box_step ?hg (N := 5) ?hd (cs := #[.int .i64 0, .int .i64 0, .int .i64 0, .bool false, .int .i64 0, .bool false, .int .i64 0, .int .i64 0]) (t := 48) ?hr ?_; (case hd => rfl); (case hg => rfl); (case hr => exact ye18)
             intro gb54 hg w36 hbox hb
             have HS0_ := (hb.cell (World.block_lt_of_cell? _ _ (hHeld.1))).trans (hHeld.1)
             have HS1_ := (hb.cell (World.block_lt_of_cell? _ _ (hHeld.2))).trans (hHeld.2)
             have n0_ := Qz.mk (Kd.Qaf (Kd.Qag (zv HO_0) gb54 (Nat.le_of_eq hg.symm)) hb)
             have n1_ := Qz.mk (Kd.Qy (Kd.Qap (zr HO_3) gb54 (Nat.le_of_eq hg.symm)) hb)
             have n2_ := Qz.mk (Kd.Qaf (Kd.Qag (zv HO65) gb54 (Nat.le_of_eq hg.symm)) hb)
             have n3_ := Qz.mk (Kd.Qaf (Kd.Qag (zv HO66) gb54 (Nat.le_of_eq hg.symm)) hb)
             have n4_ := Qz.mk (Kd.Qaf (Kd.Qag (zv HO67) gb54 (Nat.le_of_eq hg.symm)) hb)
             have n5_ := Qz.mk (Kd.Qaf (Kd.Qag (zv HO68) gb54 (Nat.le_of_eq hg.symm)) hb)
             have n6_ := Qz.mk (Kd.Qaf (Kd.Qag (zv HO69) gb54 (Nat.le_of_eq hg.symm)) hb)
             have n7_ := Qz.mk (Kd.Qaf (Kd.Qag (zv HO71) gb54 (Nat.le_of_eq hg.symm)) hb)
             have n8_ := Qz.mk (Kd.Qaf (Kd.Qag (zv HO77) gb54 (Nat.le_of_eq hg.symm)) hb)
             have n9_ := Qz.mk (Qq zb hb)
             have n10_ := Qz.mk (hbox)
             have n11_ := Qz.mk ((zh hg : w.heap.size ≤ gb54))
             have n12_ := Qz.mk ((zh hg : w.heap.size ≤ gb54))
             clear HO_0
             clear HO_3
             clear HO65
             clear HO66
             clear HO67
             clear HO68
             clear HO69
             clear HO71
             clear HO77
             clear HB
             have HO_0 := n0_
             have HO_3 := n1_
             have HO65 := n2_
             have HO66 := n3_
             have HO67 := n4_
             have HO68 := n5_
             have HO69 := n6_
             have HO71 := n7_
             have HO77 := n8_
             have HB := n9_
             have BK54 := n10_
             have GW54 := n11_
             have GE54 := n12_
             clear n0_ n1_ n2_ n3_ n4_ n5_ n6_ n7_ n8_ n9_ n10_ n11_ n12_
             clear hb hbox hg
             refine hK.out _ _ ⟨HS0_, HS1_⟩ (fun hHeld => ?_)
             clear hK K
             refine norm_ (a' := ?_) ?_ ?_
             rotate_left
             ·show Act.put _ (some 5) _ = _
              simp only [Act.put, List.setIfInBounds_toArray, List.set_cons_zero, List.set_cons_succ, Qar, Qas]
              rfl
             exact norm_ zN (hJ2_5_8_21_24_27_29 (gb54) _ ⟨hHeld, ye10, ye11, ye12, ye13, ye14, ye15, ye16, ye17, (zr HO_3), zk, GW54.out, GE54.out, zb⟩)
            rintro gb54 w36 ⟨hS_, h0_, h1_, h2_, h3_, h4_, h5_, h6_, h7_, h8_, h9_, h10_, h11_, h12_⟩
            have n0_ : Qz (Kd.V (Kd.int .u8) 5 w36 w.heap.size (fun k_ => (P0_ k_ ∨ w.heap.size ≤ k_) ∧ some k_ ≠ (u3 : Value).ownBlock ∧ k_ ≠ gb54) (.slice (some ad57) y56.length co26) y56) := ⟨h0_⟩
            have n1_ : Qz (Kd.V (Kd.int .u8) 5 w36 w.heap.size (fun k_ => (P0_ k_ ∨ w.heap.size ≤ k_) ∧ some k_ ≠ (u3 : Value).ownBlock ∧ k_ ≠ gb54) (.slice (some ad57) y87.length co26) y87) := ⟨h1_⟩
            have n2_ : Qz (Kd.V (Kd.int .u8) 5 w36 w.heap.size (fun k_ => (P0_ k_ ∨ w.heap.size ≤ k_) ∧ some k_ ≠ (u3 : Value).ownBlock ∧ k_ ≠ gb54) (.slice A30 y78.length c30) y78) := ⟨h2_⟩
            have n3_ : Qz (Kd.V (Kd.int .u8) 5 w36 w.heap.size (fun k_ => (P0_ k_ ∨ w.heap.size ≤ k_) ∧ some k_ ≠ (u3 : Value).ownBlock ∧ k_ ≠ gb54) (.slice A31 y79.length c31) y79) := ⟨h3_⟩
            have n4_ : Qz (Kd.V (Kd.int .u8) 5 w36 w.heap.size (fun k_ => (P0_ k_ ∨ w.heap.size ≤ k_) ∧ some k_ ≠ (u3 : Value).ownBlock ∧ k_ ≠ gb54) (.slice A32 y80.length c32) y80) := ⟨h4_⟩
            have n5_ : Qz (Kd.V (Kd.int .u8) 5 w36 w.heap.size (fun k_ => (P0_ k_ ∨ w.heap.size ≤ k_) ∧ some k_ ≠ (u3 : Value).ownBlock ∧ k_ ≠ gb54) (.slice A33 y85.length c33) y85) := ⟨h5_⟩
            have n6_ : Qz (Kd.V (Kd.int .u8) 5 w36 w.heap.size (fun k_ => (P0_ k_ ∨ w.heap.size ≤ k_) ∧ some k_ ≠ (u3 : Value).ownBlock ∧ k_ ≠ gb54) (.slice A34 y86.length c34) y86) := ⟨h6_⟩
            have n7_ : Qz (Kd.V (Kd.int .u8) 5 w36 w.heap.size (fun k_ => (P0_ k_ ∨ w.heap.size ≤ k_) ∧ some k_ ≠ (u3 : Value).ownBlock ∧ k_ ≠ gb54) (.slice (some ad57) x0_1.length co26) x0_1) := ⟨h7_⟩
            have n8_ : Qz (Kd.R k48 48 w36 w.heap.size (fun k_ => (w.heap.size ≤ k_) ∧ k_ ≠ gb54) u3 x3_1) := ⟨h8_⟩
            have n9_ : Qz (w36.heap[gb54]? = some (.cells #[.int .i64 0, .int .i64 0, .int .i64 0, .bool false, .int .i64 0, .bool false, .int .i64 0, .int .i64 0] 48 (0, 0))) := ⟨h9_⟩
            have n10_ : Qz (w.heap.size ≤ gb54) := ⟨h10_⟩
            have n11_ : Qz (w.heap.size ≤ gb54) := ⟨h11_⟩
            have n12_ : Qz (Below w.heap.size w w36) := ⟨h12_⟩
            clear HO_0
            clear HO_3
            clear HO65
            clear HB
            clear h0_ h1_ h2_ h3_ h4_ h5_ h6_ h7_ h8_ h9_ h10_ h11_ h12_
            have HO65 := n0_
            have HO66 := n1_
            have HO67 := n2_
            have HO68 := n3_
            have HO69 := n4_
            have HO71 := n5_
            have HO77 := n6_
            have HO_0 := n7_
            have HO_3 := n8_
            have BK54 := n9_
            have GW54 := n10_
            have GE54 := n11_
            have HB := n12_
            clear n0_ n1_ n2_ n3_ n4_ n5_ n6_ n7_ n8_ n9_ n10_ n11_ n12_
            have hHeld : w36.cell? ⟨ad57.block, ad57.off + 4, none⟩ = some (.int .u8 (rd y56 4)) ∧ w36.cell? ⟨ad57.block, ad57.off + 4, none⟩ = some (.int .u8 (rd y56 4)) := hS_
            refine norm_ (a' := ?_) ?_ ?_
            rotate_left
            ·simp only [putAll, Act.put, List.setIfInBounds_toArray, List.set_cons_zero, List.set_cons_succ]
             rfl
            refine one_ (i := 30) (N := none) #[Y, Y, Y, Y, Y, Y, Y, Y, Y, Y, Y, Y, Y, Y, Y, Y, Y, Y, Y, Y, Y, Y, Y, Y, Y, Y, Y, Y, Y, Y, Y] rfl rfl (one_of HT_.out (by kernel_rfl)) (by decide) (fun K hK => ?_)
            have hs37 : w36.cell? ⟨gb54, 0, none⟩ = some (.int .i64 0) := (Qh BK54.out 0).trans rfl
            have hfs37 := Qj BK54.out 0
            have hs38 : w36.cell? ⟨gb54, 1, none⟩ = some (.int .i64 0) := (Qh BK54.out 1).trans rfl
            have hfs38 := Qj BK54.out 1
            have hs39 : w36.cell? ⟨gb54, 2, none⟩ = some (.int .i64 0) := (Qh BK54.out 2).trans rfl
            have hfs39 := Qj BK54.out 2
            have hs40 : w36.cell? ⟨gb54, 3, none⟩ = some (.bool false) := (Qh BK54.out 3).trans rfl
            have hfs40 := Qj BK54.out 3
            have hs41 : w36.cell? ⟨gb54, 4, none⟩ = some (.int .i64 0) := (Qh BK54.out 4).trans rfl
            have hfs41 := Qj BK54.out 4
            have hs42 : w36.cell? ⟨gb54, 5, none⟩ = some (.bool false) := (Qh BK54.out 5).trans rfl
            have hfs42 := Qj BK54.out 5
            have hs43 : w36.cell? ⟨gb54, 6, none⟩ = some (.int .i64 0) := (Qh BK54.out 6).trans rfl
            have hfs43 := Qj BK54.out 6
            have hs44 : w36.cell? ⟨gb54, 7, none⟩ = some (.int .i64 0) := (Qh BK54.out 7).trans rfl
            have hfs44 := Qj BK54.out 7
            refine skip_ (w1 := ?_) (by rfl) rfl ?_ ?_
            rotate_left
            ·go_simp
             rfl
            have NV_HO288 := Lv.V_away HO65.out (fun _ hk => hk.2.2) (by have := KY27.out; omega)
            refine hK.out _ _ ⟨((Qaq (p := ⟨gb54, _, none⟩) (by exact NV_HO288) _).trans (((Qaq (p := ⟨gb54, _, none⟩) (by exact NV_HO288) _).trans (((Qaq (p := ⟨gb54, _, none⟩) (by exact NV_HO288) _).trans (((Qaq (p := ⟨gb54, _, none⟩) (by exact NV_HO288) _).trans (((Qaq (p := ⟨gb54, _, none⟩) (by exact NV_HO288) _).trans (((Qaq (p := ⟨gb54, _, none⟩) (by exact NV_HO288) _).trans (((Qaq (p := ⟨gb54, _, none⟩) (by exact NV_HO288) _).trans (((Qaq (p := ⟨gb54, _, none⟩) (by exact NV_HO288) _).trans (hHeld.1)))))))))))))))), ((Qaq (p := ⟨gb54, _, none⟩) (by exact NV_HO288) _).trans (((Qaq (p := ⟨gb54, _, none⟩) (by exact NV_HO288) _).trans (((Qaq (p := ⟨gb54, _, none⟩) (by exact NV_HO288) _).trans (((Qaq (p := ⟨gb54, _, none⟩) (by exact NV_HO288) _).trans (((Qaq (p := ⟨gb54, _, none⟩) (by exact NV_HO288) _).trans (((Qaq (p := ⟨gb54, _, none⟩) (by exact NV_HO288) _).trans (((Qaq (p := ⟨gb54, _, none⟩) (by exact NV_HO288) _).trans (((Qaq (p := ⟨gb54, _, none⟩) (by exact NV_HO288) _).trans (hHeld.2))))))))))))))))⟩ (fun hHeld => ?_)
            try clear NV_HO288
            clear hK K
            refine done_ (done_of HT_.out (by kernel_rfl)) ?_
            have H := HX_.out
            clear HX_
            by_cases c20 : t89 = 0
            ·rw [if_pos c20] at H
             have c20b0 : (t89 == 0) = true := beq_iff_eq.mpr c20
             have c20b1 : (t89 != 0) = false := bne_eq_false_iff_eq.mpr c20
             clear c20
             replace H := Option.bind_eq_some_iff.mp H
             obtain ⟨t88, A210, H⟩ := H
             replace H : ((ZcEqual_byte.f k1 t88 y56).bind fun t91 => (if t91 = true then (if x3_1.length < 2199023255552 then (Ziunpack.l0 k1 (x0_1.drop 13) (x3_1 ++ [(⟨t58, t59, t60, ((Go.bits .and .u8 (rd y56 4) 1) == 1), t61, ((Go.bits .and .u8 (rd y56 4) 2) == 2), t62, t63⟩ : S48)])) else (none)) else (some x3_1))) = some r := H
             have A21 := Qz.mk A210
             clear A210
             replace H := Option.bind_eq_some_iff.mp H
             obtain ⟨t91, A220, H⟩ := H
             replace H : (if t91 = true then (if x3_1.length < 2199023255552 then (Ziunpack.l0 k1 (x0_1.drop 13) (x3_1 ++ [(⟨t58, t59, t60, ((Go.bits .and .u8 (rd y56 4) 1) == 1), t61, ((Go.bits .and .u8 (rd y56 4) 2) == 2), t62, t63⟩ : S48)])) else (none)) else (some x3_1)) = some r := H
             have A22 := Qz.mk A220
             clear A220
             by_cases c23 : t91 = true
             ·subst c23
              have H1 : (if x3_1.length < 2199023255552 then (Ziunpack.l0 k1 (x0_1.drop 13) (x3_1 ++ [(⟨t58, t59, t60, ((Go.bits .and .u8 (rd y56 4) 1) == 1), t61, ((Go.bits .and .u8 (rd y56 4) 2) == 2), t62, t63⟩ : S48)])) else (none)) = some r := by rw [if_pos rfl] at H; exact H
              clear H
              have H := H1
              clear H1
              by_cases c24 : x3_1.length < 2199023255552
              ·rw [if_pos c24] at H
               have LMc24 := Qz.mk c24
               clear c24
               obtain ⟨y94, hy94⟩ : ∃ y_ : List (S48), y_ = (x3_1 ++ [(⟨t58, t59, t60, ((Go.bits .and .u8 (rd y56 4) 1) == 1), t61, ((Go.bits .and .u8 (rd y56 4) 2) == 2), t62, t63⟩ : S48)]) := ⟨_, rfl⟩
               replace H : (Ziunpack.l0 k1 (x0_1.drop 13) y94) = some r := by first | (rw [hy94]; with_reducible exact H) | (have H2_ := (Option.bind_some _ _).symm.trans H; rw [hy94]; with_reducible exact H2_) | (have H2_ := (Option.bind_some _ _).symm.trans H; with_reducible exact H2_) | with_reducible exact H | (rw [hy94]; exact H) | exact H
               have Ny94 := Qz.mk hy94
               clear hy94
               have c25b0 := eq_true (of_decide_eq_true za : 13 ≤ (x0_1.length : Int))
               obtain ⟨y92, hy92⟩ : ∃ y_ : List Int, y_ = (x0_1.drop 13) := ⟨_, rfl⟩
               replace H : (Ziunpack.l0 k1 y92 y94) = some r := by first | (rw [hy92]; with_reducible exact H) | (have H2_ := (Option.bind_some _ _).symm.trans H; rw [hy92]; with_reducible exact H2_) | (have H2_ := (Option.bind_some _ _).symm.trans H; with_reducible exact H2_) | with_reducible exact H | (rw [hy92]; exact H) | exact H
               have Ny92 := Qz.mk hy92
               clear hy92
               have H' := Qz.mk H
               clear H
               obtain ⟨z45_0, z45_1, z45_2, z45_3, z45_4, z45_5, z45_6, z45_7, j45_0, j45_1, j45_2, j45_3, j45_4, j45_5, j45_6, j45_7⟩ := Lv.blks8 BK54.out
               try go_wp2_with (first | ((with_reducible refine gate_callee (f := 82) rfl ?_); refine Qat (some 44) rfl rfl Try.func82 (by kernel_rfl) rfl #[.agg #[.int .i64 t58, .int .i64 t59, .int .i64 t60, .bool ((Go.bits .and .u8 (rd y56 4) 1) == 1), .int .i64 t61, .bool ((Go.bits .and .u8 (rd y56 4) 2) == 2), .int .i64 t62, .int .i64 t63]] rfl zm ?_; (with_reducible refine (ZiRecFault.calls k1 t58 t59 t60 ((Go.bits .and .u8 (rd y56 4) 1) == 1) t61 ((Go.bits .and .u8 (rd y56 4) 2) == 2) t62 t63 t89 _ A19.out).mono ?_); rintro e w46 ⟨rfl, hb⟩; refine ⟨_, rfl, ?_⟩; have n0_ := Qz.mk (Kd.Qaf ye1 hb); have n1_ := Qz.mk (Kd.Qy ye9 hb); have n2_ := Qz.mk (Kd.Qaf ye2 hb); have n3_ := Qz.mk (Kd.Qaf ye3 hb); have n4_ := Qz.mk (Kd.Qaf ye4 hb); have n5_ := Qz.mk (Kd.Qaf ye5 hb); have n6_ := Qz.mk (Kd.Qaf ye6 hb); have n7_ := Qz.mk (Kd.Qaf ye7 hb); have n8_ := Qz.mk (Kd.Qaf ye8 hb); have n9_ := Qz.mk (Qi (g := gb54) (o := .cells #[.int .i64 t58, .int .i64 t59, .int .i64 t60, .bool ((Go.bits .and .u8 (rd y56 4) 1) == 1), .int .i64 t61, .bool ((Go.bits .and .u8 (rd y56 4) 2) == 2), .int .i64 t62, .int .i64 t63] 48 (0, 0)) ye0 hb); have n10_ := Qz.mk (Qq zb hb); clear HO_0; clear HO_3; clear HO65; clear HO66; clear HO67; clear HO68; clear HO69; clear HO71; clear HO77; clear BK54; clear HB; have HO_0 := n0_; have HO_3 := n1_; have HO65 := n2_; have HO66 := n3_; have HO67 := n4_; have HO68 := n5_; have HO69 := n6_; have HO71 := n7_; have HO77 := n8_; have BK54 := n9_; have HB := n10_; clear n0_ n1_ n2_ n3_ n4_ n5_ n6_ n7_ n8_ n9_ n10_; (try clear hb); (try clear hb2); (try clear hk); (try clear hi); obtain ⟨z47_0, z47_1, z47_2, z47_3, z47_4, z47_5, z47_6, z47_7, j47_0, j47_1, j47_2, j47_3, j47_4, j47_5, j47_6, j47_7⟩ := Lv.blks8 BK54.out) | (go_at_call 84; (with_reducible refine (ZiRec_pack.calls k1 t58 t59 t60 ((Go.bits .and .u8 (rd y56 4) 1) == 1) t61 ((Go.bits .and .u8 (rd y56 4) 2) == 2) t62 t63 t88 _ A21.out).mono ?_); rintro e w48 ⟨v330, rfl, ho0, hb⟩; have n0_ := Qz.mk (Kd.V_elder' (zv HO_0) (Kd.Qah ho0) hb); have n1_ := Qz.mk (Kd.Qy (zr HO_3) hb); have n2_ := Qz.mk (Kd.V_elder' (zv HO65) (Kd.Qah ho0) hb); have n3_ := Qz.mk (Kd.V_elder' (zv HO66) (Kd.Qah ho0) hb); have n4_ := Qz.mk (Kd.V_elder' (zv HO67) (Kd.Qah ho0) hb); have n5_ := Qz.mk (Kd.V_elder' (zv HO68) (Kd.Qah ho0) hb); have n6_ := Qz.mk (Kd.V_elder' (zv HO69) (Kd.Qah ho0) hb); have n7_ := Qz.mk (Kd.V_elder' (zv HO71) (Kd.Qah ho0) hb); have n8_ := Qz.mk (Kd.V_elder' (zv HO77) (Kd.Qah ho0) hb); have n9_ := Qz.mk (Kd.Qan (Kd.R_newM (M := fun k_ => (w.heap.size ≤ k_)) ho0 (Qp zb) (fun k_ h_ => h_)) (Qp zb)); have n10_ := Qz.mk (Qi (g := gb54) (o := .cells #[.int .i64 t58, .int .i64 t59, .int .i64 t60, .bool ((Go.bits .and .u8 (rd y56 4) 1) == 1), .int .i64 t61, .bool ((Go.bits .and .u8 (rd y56 4) 2) == 2), .int .i64 t62, .int .i64 t63] 48 (0, 0)) zk hb); have n11_ := Qz.mk (Qq zb hb); clear HO_0; clear HO_3; clear HO65; clear HO66; clear HO67; clear HO68; clear HO69; clear HO71; clear HO77; clear BK54; clear HB; have HO_0 := n0_; have HO_3 := n1_; have HO65 := n2_; have HO66 := n3_; have HO67 := n4_; have HO68 := n5_; have HO69 := n6_; have HO71 := n7_; have HO77 := n8_; have HO99 := n9_; have BK54 := n10_; have HB := n11_; clear n0_ n1_ n2_ n3_ n4_ n5_ n6_ n7_ n8_ n9_ n10_ n11_; (try clear hb); (try clear hb2); (try clear hk); (try clear hi); (try clear ho0); obtain ⟨Ao49, co49, eo49⟩ := Kd.R_slice HO99.out; subst eo49) | (go_at_call 83; (with_reducible refine (ZcEqual_byte.calls k1 _ _ t88 _ _ y56 true _ ?side1 ?side2 ?side3 ?side4 A22.out).mono ?_); (case side1 => exact zc (Kd.Qaj HO99.out).2.2); (case side2 => exact (Kd.Qaj HO99.out).2.1); (case side3 => exact zc (Kd.Qak HO65.out).2.2); (case side4 => exact (Kd.Qak HO65.out).2.1); rintro e w' ⟨rfl, ⟨nd, rfl⟩⟩; obtain ⟨z50_0, z50_1, z50_2, z50_3, z50_4, z50_5, z50_6, z50_7, j50_0, j50_1, j50_2, j50_3, j50_4, j50_5, j50_6, j50_7⟩ := Lv.blks8 BK54.out) | ((with_reducible refine gate_builtin (b := .append) (xs := #[.tmp 53, .tmp 55]) rfl ?_); at_builtin; refine Kd.R_append k48 (w0 := w) w.heap.size rfl (.tmp 53) (.tmp 55) 37 48 (.agg #[(.int .i64 0), (.int .i64 0), (.int .i64 0), (.bool false), (.int .i64 0), (.bool false), (.int .i64 0), (.int .i64 0)]) 64 rfl Try.underlying37 info48 rfl (by decide) (by omega) u3 x3_1 (⟨t58, t59, t60, ((Go.bits .and .u8 (rd y56 4) 1) == 1), t61, ((Go.bits .and .u8 (rd y56 4) 2) == 2), t62, t63⟩ : S48) [.int .i64 t58, .int .i64 t59, .int .i64 t60, .bool ((Go.bits .and .u8 (rd y56 4) 1) == 1), .int .i64 t61, .bool ((Go.bits .and .u8 (rd y56 4) 2) == 2), .int .i64 t62, .int .i64 t63] (fun k_ => (w.heap.size ≤ k_) ∧ k_ ≠ gb54) (fun _ => False) rfl rfl ?aP (fun _ hk => hk.elim) ?aF ?aO ?aB ?aS ?aL ?_; (case aP => exact k48_mkM _ _ _ (⟨t58, t59, t60, ((Go.bits .and .u8 (rd y56 4) 1) == 1), t61, ((Go.bits .and .u8 (rd y56 4) 2) == 2), t62, t63⟩ : S48)); (case aB => exact zb); (case aF => exact (fun k_ hk => ⟨(Nat.le_trans (Qp zb) hk), Kd.freshB (g := gb54) (o := .cells #[.int .i64 t58, .int .i64 t59, .int .i64 t60, .bool ((Go.bits .and .u8 (rd y56 4) 1) == 1), .int .i64 t61, .bool ((Go.bits .and .u8 (rd y56 4) 2) == 2), .int .i64 t62, .int .i64 t63] 48 (0, 0)) zk k_ hk⟩)); (case aO => exact (zr HO_3)); (case aS => exact (Qp zb)); (case aL => have := LMc24.out; omega); intro v334 w51 ho hb hg hat; rw [← Ny94.out] at ho; have n0_ := Qz.mk (Kd.V_afterv (ok := (fun k_ => (P0_ k_ ∨ w.heap.size ≤ k_) ∧ some k_ ≠ (.slice Ao49 t88.length co49 : Value).ownBlock ∧ k_ ≠ gb54)) (by refine zV ?_; exact Kd.Qae HO_0.out (fun _ hk => ⟨⟨hk.1.1, ⟨hk.2, hk.1.2.2⟩⟩, hk.1.2.1⟩)) hg hat); have n1_ := Qz.mk (Kd.V_afterv (ok := (fun k_ => (P0_ k_ ∨ w.heap.size ≤ k_) ∧ some k_ ≠ (.slice Ao49 t88.length co49 : Value).ownBlock ∧ k_ ≠ gb54)) (by refine zV ?_; exact Kd.Qae HO65.out (fun _ hk => ⟨⟨hk.1.1, ⟨hk.2, hk.1.2.2⟩⟩, hk.1.2.1⟩)) hg hat); have n2_ := Qz.mk (Kd.V_afterv (ok := (fun k_ => (P0_ k_ ∨ w.heap.size ≤ k_) ∧ some k_ ≠ (.slice Ao49 t88.length co49 : Value).ownBlock ∧ k_ ≠ gb54)) (by refine zV ?_; exact Kd.Qae HO66.out (fun _ hk => ⟨⟨hk.1.1, ⟨hk.2, hk.1.2.2⟩⟩, hk.1.2.1⟩)) hg hat); have n3_ := Qz.mk (Kd.V_afterv (ok := (fun k_ => (P0_ k_ ∨ w.heap.size ≤ k_) ∧ some k_ ≠ (.slice Ao49 t88.length co49 : Value).ownBlock ∧ k_ ≠ gb54)) (by refine zV ?_; exact Kd.Qae HO67.out (fun _ hk => ⟨⟨hk.1.1, ⟨hk.2, hk.1.2.2⟩⟩, hk.1.2.1⟩)) hg hat); have n4_ := Qz.mk (Kd.V_afterv (ok := (fun k_ => (P0_ k_ ∨ w.heap.size ≤ k_) ∧ some k_ ≠ (.slice Ao49 t88.length co49 : Value).ownBlock ∧ k_ ≠ gb54)) (by refine zV ?_; exact Kd.Qae HO68.out (fun _ hk => ⟨⟨hk.1.1, ⟨hk.2, hk.1.2.2⟩⟩, hk.1.2.1⟩)) hg hat); have n5_ := Qz.mk (Kd.V_afterv (ok := (fun k_ => (P0_ k_ ∨ w.heap.size ≤ k_) ∧ some k_ ≠ (.slice Ao49 t88.length co49 : Value).ownBlock ∧ k_ ≠ gb54)) (by refine zV ?_; exact Kd.Qae HO69.out (fun _ hk => ⟨⟨hk.1.1, ⟨hk.2, hk.1.2.2⟩⟩, hk.1.2.1⟩)) hg hat); have n6_ := Qz.mk (Kd.V_afterv (ok := (fun k_ => (P0_ k_ ∨ w.heap.size ≤ k_) ∧ some k_ ≠ (.slice Ao49 t88.length co49 : Value).ownBlock ∧ k_ ≠ gb54)) (by refine zV ?_; exact Kd.Qae HO71.out (fun _ hk => ⟨⟨hk.1.1, ⟨hk.2, hk.1.2.2⟩⟩, hk.1.2.1⟩)) hg hat); have n7_ := Qz.mk (Kd.V_afterv (ok := (fun k_ => (P0_ k_ ∨ w.heap.size ≤ k_) ∧ some k_ ≠ (.slice Ao49 t88.length co49 : Value).ownBlock ∧ k_ ≠ gb54)) (by refine zV ?_; exact Kd.Qae HO77.out (fun _ hk => ⟨⟨hk.1.1, ⟨hk.2, hk.1.2.2⟩⟩, hk.1.2.1⟩)) hg hat); have n8_ := Qz.mk (blk_grown (g := gb54) (o := .cells #[.int .i64 t58, .int .i64 t59, .int .i64 t60, .bool ((Go.bits .and .u8 (rd y56 4) 1) == 1), .int .i64 t61, .bool ((Go.bits .and .u8 (rd y56 4) 2) == 2), .int .i64 t62, .int .i64 t63] 48 (0, 0)) zk hg (Kd.R_away HO_3.out (fun _ hk => hk.2))); have n9_ := Qz.mk (Kd.R_over' (zr HO99) (Kd.R_typed (zr HO_3)) (by decide) hg); have n10_ := Qz.mk (hb); have n11_ := Qz.mk (ho); clear HO_0; clear HO65; clear HO66; clear HO67; clear HO68; clear HO69; clear HO71; clear HO77; clear BK54; clear HO99; clear HB; clear HO_3; have HO_0 := n0_; have HO65 := n1_; have HO66 := n2_; have HO67 := n3_; have HO68 := n4_; have HO69 := n5_; have HO71 := n6_; have HO77 := n7_; have BK54 := n8_; have HO99 := n9_; have HB := n10_; have HO335 := n11_; clear n0_ n1_ n2_ n3_ n4_ n5_ n6_ n7_ n8_ n9_ n10_ n11_; clear ho hb hg hat; have q52 : (13 : Int) ≤ ((x0_1.length : Int) : Int) := of_decide_eq_true za; obtain ⟨i052, hi052, _, hsz52, _⟩ := info_parts info5; have hroom52 : x0_1.length ≤ co26 := (Kd.Qak HO_0.out).2.1; have hC52 : Kd.F (Kd.int .u8) _ _ (some ad57) x0_1.length x0_1 := (Kd.V_at (base := w.heap.size) HO_0.out).2.2; have hcut52 := cut_from (P := Try.prog) 22 5 .i64 Try.underlying22 hi052 1 hsz52 (some ad57) x0_1.length co26 13 (by omega) q52; have hr52 := Kd.F_cut (m := (13 : Int).toNat) (c := co26) hC52 (by omega) hroom52; obtain ⟨A52, hA52⟩ : ∃ A1, A1 = (if co26 = (13 : Int).toNat then (some ad57) else ((some ad57) : Option Addr).map (·.add ((13 : Int).toNat * 1))) := ⟨_, rfl⟩; obtain ⟨c52, hc52⟩ : ∃ c1, c1 = co26 - (13 : Int).toNat := ⟨_, rfl⟩; have hy52 : y92.length = x0_1.length - (13 : Int).toNat := (by rw [Ny92.out, List.length_drop] <;> omega); rw [show (x0_1).drop (13 : Int).toNat = y92 from Ny92.out.symm] at hr52; replace hr52 : Kd.F (Kd.int .u8) _ _ A52 y92.length y92 := (by rw [hA52]; exact hr52); rw [← hy52, ← hA52, ← hc52] at hcut52; have HO340 := Qz.mk (show Kd.V (Kd.int .u8) 5 _ w.heap.size _ (.slice A52 y92.length c52) y92 from Kd.V_mk (by rw [hy52, hc52]; exact Nat.sub_le_sub_right hroom52 _) hr52); have HC340 := Qz.mk (show y92.length ≤ c52 from by rw [hy52, hc52]; exact Nat.sub_le_sub_right hroom52 _); clear hr52 hC52 hroom52 hi052 hsz52 hc52; have KY52 := Qz.mk hy52; have KA52 := Qz.mk hA52; clear hy52 hA52; replace q52 := eq_true q52))
               go_roundg k1
               case measure => have := HK1.out; omega
               case rel => exact ⟨(y92), (y94), H', ⟨by have := HK1.out; omega⟩, ⟨by refine zV ?_; exact Kd.Qae HO340.out (fun _ hk => ⟨hk.1.1, hk.2⟩)⟩, ⟨by refine zR ?_; exact Kd.Qw HO335.out (fun _ hk => hk.1)⟩, ⟨zb⟩⟩
              rw [if_neg c24] at H
              exact absurd H (by simp)
             replace c23 := Bool.eq_false_iff.mpr c23
             subst c23
             have H1 : (some x3_1) = some r := by rw [if_neg (show ¬ (false = true) by decide)] at H; exact H
             clear H
             have H := H1
             clear H1
             obtain rfl := Option.some.inj H
             obtain ⟨z72_0, z72_1, z72_2, z72_3, z72_4, z72_5, z72_6, z72_7, j72_0, j72_1, j72_2, j72_3, j72_4, j72_5, j72_6, j72_7⟩ := Lv.blks8 BK54.out
             try go_wp2_with (first | ((with_reducible refine gate_callee (f := 82) rfl ?_); refine Qat (some 44) rfl rfl Try.func82 (by kernel_rfl) rfl #[.agg #[.int .i64 t58, .int .i64 t59, .int .i64 t60, .bool ((Go.bits .and .u8 (rd y56 4) 1) == 1), .int .i64 t61, .bool ((Go.bits .and .u8 (rd y56 4) 2) == 2), .int .i64 t62, .int .i64 t63]] rfl zm ?_; (with_reducible refine (ZiRecFault.calls k1 t58 t59 t60 ((Go.bits .and .u8 (rd y56 4) 1) == 1) t61 ((Go.bits .and .u8 (rd y56 4) 2) == 2) t62 t63 t89 _ A19.out).mono ?_); rintro e w73 ⟨rfl, hb⟩; refine ⟨_, rfl, ?_⟩; have n0_ := Qz.mk (Kd.Qaf ye1 hb); have n1_ := Qz.mk (Kd.Qy ye9 hb); have n2_ := Qz.mk (Kd.Qaf ye2 hb); have n3_ := Qz.mk (Kd.Qaf ye3 hb); have n4_ := Qz.mk (Kd.Qaf ye4 hb); have n5_ := Qz.mk (Kd.Qaf ye5 hb); have n6_ := Qz.mk (Kd.Qaf ye6 hb); have n7_ := Qz.mk (Kd.Qaf ye7 hb); have n8_ := Qz.mk (Kd.Qaf ye8 hb); have n9_ := Qz.mk (Qi (g := gb54) (o := .cells #[.int .i64 t58, .int .i64 t59, .int .i64 t60, .bool ((Go.bits .and .u8 (rd y56 4) 1) == 1), .int .i64 t61, .bool ((Go.bits .and .u8 (rd y56 4) 2) == 2), .int .i64 t62, .int .i64 t63] 48 (0, 0)) ye0 hb); have n10_ := Qz.mk (Qq zb hb); clear HO_0; clear HO_3; clear HO65; clear HO66; clear HO67; clear HO68; clear HO69; clear HO71; clear HO77; clear BK54; clear HB; have HO_0 := n0_; have HO_3 := n1_; have HO65 := n2_; have HO66 := n3_; have HO67 := n4_; have HO68 := n5_; have HO69 := n6_; have HO71 := n7_; have HO77 := n8_; have BK54 := n9_; have HB := n10_; clear n0_ n1_ n2_ n3_ n4_ n5_ n6_ n7_ n8_ n9_ n10_; (try clear hb); (try clear hb2); (try clear hk); (try clear hi); obtain ⟨z74_0, z74_1, z74_2, z74_3, z74_4, z74_5, z74_6, z74_7, j74_0, j74_1, j74_2, j74_3, j74_4, j74_5, j74_6, j74_7⟩ := Lv.blks8 BK54.out) | (go_at_call 84; (with_reducible refine (ZiRec_pack.calls k1 t58 t59 t60 ((Go.bits .and .u8 (rd y56 4) 1) == 1) t61 ((Go.bits .and .u8 (rd y56 4) 2) == 2) t62 t63 t88 _ A21.out).mono ?_); rintro e w75 ⟨v330, rfl, ho0, hb⟩; have n0_ := Qz.mk (Kd.V_elder' (zv HO_0) (Kd.Qah ho0) hb); have n1_ := Qz.mk (Kd.Qy (zr HO_3) hb); have n2_ := Qz.mk (Kd.V_elder' (zv HO65) (Kd.Qah ho0) hb); have n3_ := Qz.mk (Kd.V_elder' (zv HO66) (Kd.Qah ho0) hb); have n4_ := Qz.mk (Kd.V_elder' (zv HO67) (Kd.Qah ho0) hb); have n5_ := Qz.mk (Kd.V_elder' (zv HO68) (Kd.Qah ho0) hb); have n6_ := Qz.mk (Kd.V_elder' (zv HO69) (Kd.Qah ho0) hb); have n7_ := Qz.mk (Kd.V_elder' (zv HO71) (Kd.Qah ho0) hb); have n8_ := Qz.mk (Kd.V_elder' (zv HO77) (Kd.Qah ho0) hb); have n9_ := Qz.mk (Kd.Qan (Kd.R_newM (M := fun k_ => (w.heap.size ≤ k_)) ho0 (Qp zb) (fun k_ h_ => h_)) (Qp zb)); have n10_ := Qz.mk (Qi (g := gb54) (o := .cells #[.int .i64 t58, .int .i64 t59, .int .i64 t60, .bool ((Go.bits .and .u8 (rd y56 4) 1) == 1), .int .i64 t61, .bool ((Go.bits .and .u8 (rd y56 4) 2) == 2), .int .i64 t62, .int .i64 t63] 48 (0, 0)) zk hb); have n11_ := Qz.mk (Qq zb hb); clear HO_0; clear HO_3; clear HO65; clear HO66; clear HO67; clear HO68; clear HO69; clear HO71; clear HO77; clear BK54; clear HB; have HO_0 := n0_; have HO_3 := n1_; have HO65 := n2_; have HO66 := n3_; have HO67 := n4_; have HO68 := n5_; have HO69 := n6_; have HO71 := n7_; have HO77 := n8_; have HO99 := n9_; have BK54 := n10_; have HB := n11_; clear n0_ n1_ n2_ n3_ n4_ n5_ n6_ n7_ n8_ n9_ n10_ n11_; (try clear hb); (try clear hb2); (try clear hk); (try clear hi); (try clear ho0); obtain ⟨Ao76, co76, eo76⟩ := Kd.R_slice HO99.out; subst eo76) | (go_at_call 83; (with_reducible refine (ZcEqual_byte.calls k1 _ _ t88 _ _ y56 false _ ?side1 ?side2 ?side3 ?side4 A22.out).mono ?_); (case side1 => exact zc (Kd.Qaj HO99.out).2.2); (case side2 => exact (Kd.Qaj HO99.out).2.1); (case side3 => exact zc (Kd.Qak HO65.out).2.2); (case side4 => exact (Kd.Qak HO65.out).2.1); rintro e w' ⟨rfl, ⟨nd, rfl⟩⟩))
             go_ret
             exact ⟨_, ze, by refine zR ?_; exact Kd.Qw HO_3.out (fun _ hk => hk.1), zb⟩
            ·rw [if_neg c20] at H
             have c20b0 : (t89 == 0) = false := beq_eq_false_iff_ne.mpr c20
             have c20b1 : (t89 != 0) = true := bne_iff_ne.mpr c20
             obtain rfl := Option.some.inj H
             obtain ⟨z96_0, z96_1, z96_2, z96_3, z96_4, z96_5, z96_6, z96_7, j96_0, j96_1, j96_2, j96_3, j96_4, j96_5, j96_6, j96_7⟩ := Lv.blks8 BK54.out
             try go_wp2_with (first | ((with_reducible refine gate_callee (f := 82) rfl ?_); refine Qat (some 44) rfl rfl Try.func82 (by kernel_rfl) rfl #[.agg #[.int .i64 t58, .int .i64 t59, .int .i64 t60, .bool ((Go.bits .and .u8 (rd y56 4) 1) == 1), .int .i64 t61, .bool ((Go.bits .and .u8 (rd y56 4) 2) == 2), .int .i64 t62, .int .i64 t63]] rfl zm ?_; (with_reducible refine (ZiRecFault.calls k1 t58 t59 t60 ((Go.bits .and .u8 (rd y56 4) 1) == 1) t61 ((Go.bits .and .u8 (rd y56 4) 2) == 2) t62 t63 t89 _ A19.out).mono ?_); rintro e w97 ⟨rfl, hb⟩; refine ⟨_, rfl, ?_⟩; have n0_ := Qz.mk (Kd.Qaf ye1 hb); have n1_ := Qz.mk (Kd.Qy ye9 hb); have n2_ := Qz.mk (Kd.Qaf ye2 hb); have n3_ := Qz.mk (Kd.Qaf ye3 hb); have n4_ := Qz.mk (Kd.Qaf ye4 hb); have n5_ := Qz.mk (Kd.Qaf ye5 hb); have n6_ := Qz.mk (Kd.Qaf ye6 hb); have n7_ := Qz.mk (Kd.Qaf ye7 hb); have n8_ := Qz.mk (Kd.Qaf ye8 hb); have n9_ := Qz.mk (Qi (g := gb54) (o := .cells #[.int .i64 t58, .int .i64 t59, .int .i64 t60, .bool ((Go.bits .and .u8 (rd y56 4) 1) == 1), .int .i64 t61, .bool ((Go.bits .and .u8 (rd y56 4) 2) == 2), .int .i64 t62, .int .i64 t63] 48 (0, 0)) ye0 hb); have n10_ := Qz.mk (Qq zb hb); clear HO_0; clear HO_3; clear HO65; clear HO66; clear HO67; clear HO68; clear HO69; clear HO71; clear HO77; clear BK54; clear HB; have HO_0 := n0_; have HO_3 := n1_; have HO65 := n2_; have HO66 := n3_; have HO67 := n4_; have HO68 := n5_; have HO69 := n6_; have HO71 := n7_; have HO77 := n8_; have BK54 := n9_; have HB := n10_; clear n0_ n1_ n2_ n3_ n4_ n5_ n6_ n7_ n8_ n9_ n10_; (try clear hb); (try clear hb2); (try clear hk); (try clear hi)))
             go_ret
             exact ⟨_, ze, by refine zR ?_; exact Kd.Qw HO_3.out (fun _ hk => hk.1), zb⟩
           rw [if_neg c17] at H
           exact absurd H (by simp)
          rw [if_neg c15] at H
          exact absurd H (by simp)
         rw [if_neg c13] at H
         exact absurd H (by simp)
        rw [if_neg c12] at H
        exact absurd H (by simp)
       rw [if_neg c10] at H
       exact absurd H (by simp)
      rw [if_neg c8] at H
      exact absurd H (by simp)
     rw [if_neg c6] at H
     exact absurd H (by simp)
    rw [if_neg c5] at H
    exact absurd H (by simp)
   rw [if_neg c4] at H
   have c4b0 : decide (13 ≤ (x0_1.length : Int)) = false := decide_eq_false c4
   have c4b1 : decide (13 ≤ x0_1.length) = false := decide_eq_false (by omega)
   clear c4
   obtain rfl := Option.some.inj H
   obtain ⟨Ao98, co98, eo98⟩ := Kd.V_slice HO_0.out
   subst eo98
   go_wp2
   go_ret
   exact ⟨_, ze, by refine zR ?_; exact HO_3.out, zb⟩
end Go.Proofs.Ythagppmaofcllaa.P
