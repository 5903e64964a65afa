import Derived.Test.YtldlnafakfigeaaDoorZz
import Derived.Test.YtldlnafakfigeaaDoorP0
import Derived.Test.YtldlnafakfigeaaDoorPCall2
import Derived.Test.YtldlnafakfigeaaDoorPCall5
import Derived.Test.YtldlnafakfigeaaDoorPCall6
import Derived.Test.YtldlnafakfigeaaDoorPCall7
import Derived.Test.YtldlnafakfigeaaDoorPDall0
import Derived.Test.YtldlnafakfigeaaDoorWRepsOne
import Derived.Test.YtldlnafakfigeaaDoorLb
import Derived.Test.YtldlnafakfigeaaDoorLv
import Derived.IntWalk
import Derived.Shelf.Abstract
namespace Go.Proofs.YtldlnafakfigeaaDoor.P
open Go.RowKit Go.Proofs.YtldlnafakfigeaaDoorW.PrintWords Go.Proofs.YtldlnafakfigeaaDoorW.PrintLast Go.Proofs.YtldlnafakfigeaaDoorW.PrintMore
attribute [local go_sem] max2_int min2_int max_two min_two max_three min_three max_four min_four   -- for this text's walks alone
set_option linter.unusedVariables false
set_option linter.unusedSimpArgs false
-- PROOF --
set_option maxHeartbeats 4000000 in
set_option maxRecDepth 100000 in
theorem later.calls (x : S51) (ck : Int) (B : Nat) (W : World) (hB : B < W.heap.size) (q1 : W.cell? ⟨B, 1, none⟩ = some (.int .i64 ck)) :
 Calls Tryd.prog 37 #[.agg #[.int .i64 x.f0, .int .i64 x.f1, .bool x.f2, .int .i64 x.f3], .pointer (some ⟨B, 0, none⟩)] W fun e w' => e = .returned (.bool (decide (ck < x.f1))) ∧ Below W.heap.size W w' := by
 have hu51 := Tryd.underlying51
 have hu33 := Tryd.underlying33
 rcases x with ⟨a, b, c, d⟩
 have HB := Aside0.mk (Below.refl W.heap.size W)
 have hne : B ≠ W.heap.size := by omega
 obtain ⟨t, ht⟩ : ∃ t, decide (ck < b) = t := ⟨_, rfl⟩
 show Calls Tryd.prog 37 _ W fun e w' => e = .returned (.bool (decide (ck < b))) ∧ Below W.heap.size W w'
 rw [ht]
 go_enter Tryd.func37, Tryd.ntmps37
 go_wp2
 go_ret
 exact ⟨rfl, HB.out.alloc (Nat.le_refl _) _⟩
set_option maxHeartbeats 4000000 in
set_option maxRecDepth 100000 in
theorem undoKey.calls (x : S81) (key : Int) (B : Nat) (W : World) (hB : B < W.heap.size) (q1 : W.cell? ⟨B, 0, none⟩ = some (.int .i64 key)) :
 Calls Tryd.prog 62 #[.agg #[.int .i64 x.f0, .bool x.f1, .bool x.f2, .int .i64 x.f3], .pointer (some ⟨B, 0, none⟩)] W fun e w' => e = .returned (.bool (x.f0 == key)) ∧ Below W.heap.size W w' := by
 have hu81 := Tryd.underlying81
 rcases x with ⟨a, b, c, d⟩
 have HB := Aside0.mk (Below.refl W.heap.size W)
 have hne : B ≠ W.heap.size := by omega
 obtain ⟨t, ht⟩ : ∃ t, (a == key) = t := ⟨_, rfl⟩
 show Calls Tryd.prog 62 _ W fun e w' => e = .returned (.bool (a == key)) ∧ Below W.heap.size W w'
 rw [ht]
 go_enter Tryd.func62, Tryd.ntmps62
 go_wp2
 go_ret
 exact ⟨rfl, HB.out.alloc (Nat.le_refl _) _⟩
set_option maxHeartbeats 4000000 in
set_option maxRecDepth 100000 in
theorem undoKey2.calls (x : S81) (key : Int) (B : Nat) (W : World) (hB : B < W.heap.size) (q1 : W.cell? ⟨B, 0, none⟩ = some (.int .i64 key)) :
 Calls Tryd.prog 42 #[.agg #[.int .i64 x.f0, .bool x.f1, .bool x.f2, .int .i64 x.f3], .pointer (some ⟨B, 0, none⟩)] W fun e w' => e = .returned (.bool (x.f0 == key)) ∧ Below W.heap.size W w' := by
 have hu81 := Tryd.underlying81
 rcases x with ⟨a, b, c, d⟩
 have HB := Aside0.mk (Below.refl W.heap.size W)
 have hne : B ≠ W.heap.size := by omega
 obtain ⟨t, ht⟩ : ∃ t, (a == key) = t := ⟨_, rfl⟩
 show Calls Tryd.prog 42 _ W fun e w' => e = .returned (.bool (a == key)) ∧ Below W.heap.size W w'
 rw [ht]
 go_enter Tryd.func42, Tryd.ntmps42
 go_wp2
 go_ret
 exact ⟨rfl, HB.out.alloc (Nat.le_refl _) _⟩
set_option maxHeartbeats 4000000 in
set_option maxRecDepth 100000 in
theorem undoes.calls (t : S45) (key : Int) (A4 : Option Addr) (c4 : Nat) (W : World) (hr : Kd.C k81 W A4 t.f4.length t.f4) :
 Calls Tryd.prog 40 #[.agg #[.int .i64 t.f0, .int .i64 t.f1, .int .i64 t.f2, .int .i64 t.f3, .slice A4 t.f4.length c4], .int .i64 key] W fun e w' => e = .returned (.bool (undoesF t key)) ∧ Below W.heap.size W w' := by
 have hu45 := Tryd.underlying45
 rcases t with ⟨a, b, c, d, l⟩
 have HR := Aside0.mk (show Kd.C k81 W A4 l.length l from hr)
 clear hr
 have HB := Aside0.mk (Below.refl W.heap.size W)
 unfold undoesF
 rcases hb_ (c == 1) with h1 | h1
 ·show Calls Tryd.prog 40 _ W fun e w' => e = .returned (.bool ((c == 1) && l.any fun u => u.f0 == key)) ∧ Below W.heap.size W w'
  rw [h1]
  generalize hR : (l.any fun u : S81 => u.f0 == key) = r
  have HQ := Aside0.mk hR
  clear hR
  go_enter Tryd.func40, Tryd.ntmps40
  go_wp2_with (go_at_call 41; refine (slices_ContainsFunc_impl_Undo.calls 62 #[.pointer (some ⟨W.heap.size + 1, 0, none⟩)] (fun u => u.f0 == key) A4 c4 l _ (Kd.C_alloc (Kd.C_alloc HR.out _) _) (fun W2 x _ hb => undoKey.calls x key (W.heap.size + 1) W2 (Nat.lt_of_lt_of_le (by simp) hb.size) ((hb.cell (p := ⟨W.heap.size + 1, 0, none⟩) (by simp)).trans (by simp [World.cell?_alloc_new]))) (enters_of Tryd.func62 (by kernel_rfl) rfl)).mono ?_; rintro e w' ⟨rfl, hb⟩; rw [HQ.out]; have HB2 := Aside0.mk (below_step (below_alloc (below_alloc HB.out _) _) hb); clear hb)
  go_ret
  exact ⟨by first | rfl | simp, HB2.out⟩
 show Calls Tryd.prog 40 _ W fun e w' => e = .returned (.bool ((c == 1) && l.any fun u => u.f0 == key)) ∧ Below W.heap.size W w'
 rw [h1]
 go_enter Tryd.func40, Tryd.ntmps40
 go_wp2
 go_ret
 exact ⟨by first | rfl | simp, (HB.out.alloc (Nat.le_refl _) _).alloc (by simp) _⟩
set_option maxHeartbeats 1000000 in
theorem rowC.calls (x : S49) (A1 : Option Addr) (c1 : Nat) (key : Int) (W : World) :
 Calls Tryd.prog 76 #[.agg #[.int .i64 x.f0, .slice A1 x.f1.length c1], .int .i64 key] W fun e w' => e = .returned (.int .i64 (rowC key x)) ∧ Below W.heap.size W w' := by
 have hu49 := Tryd.underlying49
 rcases x with ⟨a, l⟩
 simp only [rowC]
 have HB := Aside0.mk (Below.refl W.heap.size W)
 go_enter Tryd.func76, Tryd.ntmps76
 go_wp2
 go_ret
 first | exact ⟨rfl, HB.out⟩ | exact ⟨rfl, HB.out.alloc (Nat.le_refl _) _⟩
set_option maxHeartbeats 8000000 in
set_option maxRecDepth 100000 in
theorem impl_Engine_row.at (a0_0 a0_1 : Int) (A2 : Option Addr) (c2 : Nat) (l2 : List S45) (A3 : Option Addr) (c3 : Nat) (l3 : List S49) (key : Int) (w : World) (hr3 : Kd.C k49 w A3 l3.length l3) :
 Calls Tryd.prog 64 #[.agg #[.int .i64 a0_0, .int .i64 a0_1, .slice A2 l2.length c2, .slice A3 l3.length c3], .int .i64 key] w fun e w' => e = .returned (.tuple #[.int .i64 (Lb.bs (rowC key) z49 l3), .bool (Lb.bsHit (rowC key) z49 l3)]) ∧ Below w.heap.size w w' := by
 have hu33 := Tryd.underlying33
 have hcon := fun (W : World) (hr : Kd.C k49 W A3 l3.length l3) =>
  slices_BinarySearchFunc_impl_Row.calls 76 #[] (rowC key) (.int .i64 key) A3 c3 l3 W hr (fun W2 x A1 c1 _ _ _ _ => rowC.calls x A1 c1 key W2) (enters_of Tryd.func76 (by kernel_rfl) rfl)
 have HR := Aside0.mk hr3
 clear hr3
 have HB := Aside0.mk (Below.refl w.heap.size w)
 generalize Lb.bs (rowC key) z49 l3 = r1 at hcon ⊢
 generalize Lb.bsHit (rowC key) z49 l3 = r2 at hcon ⊢
 have HC := Aside0.mk hcon
 clear hcon
 go_enter Tryd.func64, Tryd.ntmps64
 go_wp2_with (go_at_call 75; refine (HC.out _ (Kd.C_alloc HR.out _)).mono ?_; rintro e w' ⟨rfl, hb⟩; have HB1 := Aside0.mk (below_step (below_alloc HB.out _) hb); clear hb)
 go_ret2
 exact ⟨rfl, HB1.out⟩
set_option maxHeartbeats 8000000 in
set_option maxRecDepth 100000 in
theorem impl_Engine_chain.at (a0_0 a0_1 : Int) (A2 : Option Addr) (c2 : Nat) (l2 : List S45) (A3 : Option Addr) (c3 : Nat) (l3 : List S49) (key : Int) (w : World) (hr3 : Kd.C k49 w A3 l3.length l3) :
 Calls Tryd.prog 44 #[.agg #[.int .i64 a0_0, .int .i64 a0_1, .slice A2 l2.length c2, .slice A3 l3.length c3], .int .i64 key] w fun e w' => ∃ A c, e = .returned (.slice A (chainF l3 key).length c) ∧ (chainF l3 key).length ≤ c ∧ Kd.C k51 w' A (chainF l3 key).length (chainF l3 key) ∧ Below w.heap.size w w' := by
 have hu33 := Tryd.underlying33
 have hu49 := Tryd.underlying49
 have HR := Aside0.mk hr3
 have HB := Aside0.mk (Below.refl w.heap.size w)
 have hcon := fun (W : World) (hr : Kd.C k49 W A3 l3.length l3) => impl_Engine_row.at a0_0 a0_1 A2 c2 l2 A3 c3 l3 key W hr
 unfold chainF
 have hbd : Lb.bsHit (rowC key) z49 l3 = true → 0 ≤ Lb.bs (rowC key) z49 l3 ∧ Lb.bs (rowC key) z49 l3 < (l3.length : Int) := by
  intro h
  unfold Lb.bsHit at h
  simp only [Bool.and_eq_true, decide_eq_true_eq] at h
  exact ⟨Lb.bs_ge, h.1⟩
 generalize Lb.bs (rowC key) z49 l3 = r1 at hcon hbd ⊢
 generalize Lb.bsHit (rowC key) z49 l3 = r2 at hcon hbd ⊢
 have HC := Aside0.mk hcon
 clear hcon
 cases r2 with
 | true =>
  obtain ⟨g0, g1⟩ := hbd rfl
  obtain ⟨ad, A1, c1, ea, _, hx1, hl1, hr1⟩ := at_T49 HR.out r1 g0 g1
  cases ea
  obtain ⟨X, hX⟩ : ∃ x, x = l3.getD r1.toNat z49 := ⟨_, rfl⟩
  rw [show rd_T49 l3 r1 = X from hX.symm] at hx1 hl1 hr1
  rw [if_pos rfl, ← hX]
  clear hX
  have HR1 := Aside0.mk hr1
  have HL1 := Aside0.mk hl1
  clear hr1 hl1 hr3
  have hq := World.block_lt_of_cell? w _ hx1
  go_enter Tryd.func44, Tryd.ntmps44
  go_wp2_with (go_at_call 64; refine (HC.out _ (Kd.C_alloc HR.out _)).mono ?_; rintro e w' ⟨rfl, hb⟩; have HB1 := Aside0.mk (below_step (below_alloc HB.out _) hb); have hx2 := (HB1.out.cell hq).trans hx1; have hbk := (hb.block w.heap.size (by simp)).trans (blk_new w _); have hz := (blk_cell hbk 3).trans rfl; clear hb)
  go_ret
  exact ⟨_, _, rfl, HL1.out, Kd.C_below HR1.out HB1.out, HB1.out⟩
 | false =>
  rw [if_neg (by decide)]
  clear hr3
  go_enter Tryd.func44, Tryd.ntmps44
  go_wp2_with (go_at_call 64; refine (HC.out _ (Kd.C_alloc HR.out _)).mono ?_; rintro e w' ⟨rfl, hb⟩; have HB1 := Aside0.mk (below_step (below_alloc HB.out _) hb); clear hb)
  go_ret
  exact ⟨none, 0, rfl, Nat.le_refl _, Kd.C_nil k51 _, HB1.out⟩
set_option maxHeartbeats 4000000 in
set_option maxRecDepth 100000 in
theorem fault2.calls (t : S45) (A4 : Option Addr) (c4 : Nat) (B C : Nat) (fx key : Int) (W : World) (hB : B < W.heap.size) (hC : C < W.heap.size) (q0 : W.cell? ⟨B, 0, none⟩ = some (.int .i64 fx)) (q1 : W.cell? ⟨C, 0, none⟩ = some (.int .i64 key)) (hr : Kd.C k81 W A4 t.f4.length t.f4) :
 Calls Tryd.prog 39 #[.agg #[.int .i64 t.f0, .int .i64 t.f1, .int .i64 t.f2, .int .i64 t.f3, .slice A4 t.f4.length c4], .pointer (some ⟨B, 0, none⟩), .pointer (some ⟨C, 0, none⟩)] W fun e w' => e = .returned (.bool ((t.f0 == fx) && undoesF t key)) ∧ Below W.heap.size W w' := by
 have hu45 := Tryd.underlying45
 have hu49 := Tryd.underlying49
 have hu51 := Tryd.underlying51
 have HU := fun (W2 : World) (h : Kd.C k81 W2 A4 t.f4.length t.f4) => undoes.calls t key A4 c4 W2 h
 obtain ⟨u, hu⟩ : ∃ u, undoesF t key = u := ⟨_, rfl⟩
 rw [hu] at HU ⊢
 clear hu
 have HB := Aside0.mk (Below.refl W.heap.size W)
 have hne : B ≠ W.heap.size := by omega
 have hne2 : C ≠ W.heap.size := by omega
 have HR := Aside0.mk hr
 clear hr
 rcases t with ⟨a, b, c, d, l⟩
 simp only at HU HR ⊢
 have HC := Aside0.mk HU
 clear HU
 rcases hb_ (a == fx) with h1 | h1
 ·rw [h1]
  go_enter Tryd.func39, Tryd.ntmps39
  go_wp2_with (go_at_call 40; refine (HC.out _ (Kd.C_alloc HR.out _)).mono ?_; rintro e w' ⟨rfl, hb⟩; have HB2 := Aside0.mk (below_step (below_alloc HB.out _) hb); clear hb)
  go_ret
  exact ⟨by first | rfl | simp, HB2.out⟩
 rw [h1]
 go_enter Tryd.func39, Tryd.ntmps39
 go_wp2
 go_ret
 exact ⟨by first | rfl | simp, HB.out.alloc (Nat.le_refl _) _⟩
theorem implW_f (a lo hi : Int) : impl_within.f a lo hi = some (inB a lo hi) := by
 unfold impl_within.f inB
 by_cases h : lo ≤ a <;> simp [h]
theorem isOp_f (l : List S51) (a : Int) : impl_isOpenOf.f l a = some (isOpF l a) := by
 unfold impl_isOpenOf.f isOpF
 have e : rd_T51 l 0 = l.getD 0 z51 := rfl
 by_cases h : 0 < l.length
 ·have h1 : ((l.length : Nat) : Int) > 0 := by omega
  have h2 : (0 : Int) < ((l.length : Nat) : Int) := by omega
  rw [if_pos h1, if_pos h2, e, decide_eq_true h]
  generalize l.getD 0 z51 = v
  by_cases h3 : v.f1 = 0
  ·rw [if_pos h3]; simp [h3]
  rw [if_neg h3]; simp [h3]
 have h1 : ¬ ((l.length : Nat) : Int) > 0 := by omega
 rw [if_neg h1]; simp [h]
theorem cWi (a lo hi : Int) (w : World) : Calls Tryd.prog 32 #[.int .i64 a, .int .i64 lo, .int .i64 hi] w fun e w' => e = .returned (.bool (inB a lo hi)) ∧ ∃ n, w' = w.drewN n := (impl_within.calls a lo hi _ w (implW_f a lo hi)).mono fun _ _ h => ⟨h.1, h.2.out⟩
theorem cTx (a : Int) (w : World) : Calls Tryd.prog 30 #[.int .i64 a] w fun e w' => e = .returned (.bool (inB a 1 999)) ∧ ∃ n, w' = w.drewN n := (impl_isTxn.calls a _ w (by unfold impl_isTxn.f; rw [implW_f]; rfl)).mono fun _ _ h => ⟨h.1, h.2.out⟩
theorem cLs (a : Int) (w : World) : Calls Tryd.prog 31 #[.int .i64 a] w fun e w' => e = .returned (.bool (inB a 0 1000000)) ∧ ∃ n, w' = w.drewN n := (impl_isLsn.calls a _ w (by unfold impl_isLsn.f; rw [implW_f]; rfl)).mono fun _ _ h => ⟨h.1, h.2.out⟩
theorem cKy (a : Int) (w : World) : Calls Tryd.prog 34 #[.int .i64 a] w fun e w' => e = .returned (.bool (inB a 0 31)) ∧ ∃ n, w' = w.drewN n := (impl_isKey.calls a _ w (by unfold impl_isKey.f; rw [implW_f]; rfl)).mono fun _ _ h => ⟨h.1, h.2.out⟩
theorem cOp (A : Option Addr) (c : Nat) (l : List S51) (a : Int) (w : World) (v : Bool) (hv : v = isOpF l a) (hr : Kd.C k51 w A l.length l) (hc : l.length ≤ c) : Calls Tryd.prog 43 #[.slice A l.length c, .int .i64 a] w fun e w' => e = .returned (.bool v) ∧ ∃ n, w' = w.drewN n := by
 rw [hv]
 exact (impl_isOpenOf.calls A c l a _ w hr hc (isOp_f l a)).mono fun _ _ h => ⟨h.1, h.2.out⟩
theorem addb (a : Addr) (n : Nat) : (a.add n).block = a.block := by unfold Addr.add; split <;> rfl
theorem keepB {w w' : World} {n : Nat} {o : Obj} (hb : Below w.heap.size w w') (h : w.heap[n]? = some o) : w'.heap[n]? = some o := (hb.block n (blk_lt h)).trans h
theorem cAnyV (ck : Int) (B : Nat) (A : Option Addr) (c : Nat) (l : List S51) (w : World) (v : Bool) (hv : v = l.any (fun x => decide (ck < x.f1))) (hr : Kd.C k51 w A l.length l) (hB : B < w.heap.size) (q1 : w.cell? ⟨B, 1, none⟩ = some (.int .i64 ck)) :
 Calls Tryd.prog 36 #[.slice A l.length c, .func (.func 37) #[] #[.pointer (some ⟨B, 0, none⟩)]] w fun e w' => e = .returned (.bool v) ∧ Below w.heap.size w w' := by
 rw [hv]
 exact slices_ContainsFunc_impl_Version.calls 37 #[.pointer (some ⟨B, 0, none⟩)] (fun x => decide (ck < x.f1)) A c l w hr (fun W2 x _ hb => later.calls x ck B W2 (Nat.lt_of_lt_of_le hB hb.size) ((hb.cell (p := ⟨B, 1, none⟩) hB).trans q1)) (enters_of Tryd.func37 (by kernel_rfl) rfl)
theorem cAnyT (fx key : Int) (B C : Nat) (A : Option Addr) (c : Nat) (l : List S45) (w : World) (v : Bool) (hv : v = l.any (fun t => (t.f0 == fx) && undoesF t key)) (hr : Kd.C k45 w A l.length l) (hB : B < w.heap.size) (hC : C < w.heap.size) (q0 : w.cell? ⟨B, 0, none⟩ = some (.int .i64 fx)) (q1 : w.cell? ⟨C, 0, none⟩ = some (.int .i64 key)) :
 Calls Tryd.prog 38 #[.slice A l.length c, .func (.func 39) #[] #[.pointer (some ⟨B, 0, none⟩), .pointer (some ⟨C, 0, none⟩)]] w fun e w' => e = .returned (.bool v) ∧ Below w.heap.size w w' := by
 rw [hv]
 exact slices_ContainsFunc_impl_Txn.calls 39 #[.pointer (some ⟨B, 0, none⟩), .pointer (some ⟨C, 0, none⟩)] (fun t => (t.f0 == fx) && undoesF t key) A c l w hr (fun W2 x A4 c4 _ hb _ h4 => fault2.calls x A4 c4 B C fx key W2 (Nat.lt_of_lt_of_le hB hb.size) (Nat.lt_of_lt_of_le hC hb.size) ((hb.cell (p := ⟨B, 0, none⟩) hB).trans q0) ((hb.cell (p := ⟨C, 0, none⟩) hC).trans q1) h4) (enters_of Tryd.func39 (by kernel_rfl) rfl)
theorem cAnyU (key : Int) (B : Nat) (A : Option Addr) (c : Nat) (l : List S81) (w : World) (v : Bool) (hv : v = l.any (fun x => x.f0 == key)) (hr : Kd.C k81 w A l.length l) (hB : B < w.heap.size) (q1 : w.cell? ⟨B, 0, none⟩ = some (.int .i64 key)) :
 Calls Tryd.prog 41 #[.slice A l.length c, .func (.func 42) #[] #[.pointer (some ⟨B, 0, none⟩)]] w fun e w' => e = .returned (.bool v) ∧ Below w.heap.size w w' := by
 rw [hv]
 exact slices_ContainsFunc_impl_Undo.calls 42 #[.pointer (some ⟨B, 0, none⟩)] (fun x => x.f0 == key) A c l w hr (fun W2 x _ hb => undoKey2.calls x key B W2 (Nat.lt_of_lt_of_le hB hb.size) ((hb.cell (p := ⟨B, 0, none⟩) hB).trans q1)) (enters_of Tryd.func42 (by kernel_rfl) rfl)
theorem cAnyUn (key : Int) (B : Nat) (A : Option Addr) (c : Nat) (l : List S81) (n : Nat) (w : World) (v : Bool) (hv : v = l.any (fun x => x.f0 == key)) (hn : l.length = n) (hr : Kd.C k81 w A l.length l) (hB : B < w.heap.size) (q1 : w.cell? ⟨B, 0, none⟩ = some (.int .i64 key)) :
 Calls Tryd.prog 41 #[.slice A n c, .func (.func 42) #[] #[.pointer (some ⟨B, 0, none⟩)]] w fun e w' => e = .returned (.bool v) ∧ Below w.heap.size w w' := by
 subst hn
 exact cAnyU key B A c l w v hv hr hB q1
set_option maxHeartbeats 40000000 in
set_option maxRecDepth 100000 in
theorem impl_EngineFault.at (K : Nat) (uf : List S81 → Int) (cf : List S51 → Int) (nx ck : Int) (A2 : Option Addr) (c2 : Nat) (txns : List S45) (A3 : Option Addr) (c3 : Nat) (rows : List S49) (w : World) (hr2 : Kd.C k45 w A2 txns.length txns) (hr3 : Kd.C k49 w A3 rows.length rows)
 (huf : ∀ t ∈ txns, impl_undosFault.f K t.f4 = some (uf t.f4)) (hcf : ∀ t ∈ rows, impl_ChainFault.f K t.f1 = some (cf t.f1)) :
 Calls Tryd.prog 17 #[.agg #[.int .i64 nx, .int .i64 ck, .slice A2 txns.length c2, .slice A3 rows.length c3]] w fun e w' => e = .returned (.int .i64 (enF uf cf nx ck txns rows)) ∧ Below w.heap.size w w' := by
 have hu33 := Tryd.underlying33
 have hu45 := Tryd.underlying45
 have hu49 := Tryd.underlying49
 have hu51 := Tryd.underlying51
 have hu81 := Tryd.underlying81
 have HB := Aside0.mk (Below.refl w.heap.size w)
 have HR2 := Aside0.mk hr2
 have HR3 := Aside0.mk hr3
 have HUF := Aside0.mk huf
 have HCF := Aside0.mk hcf
 have hn := hr2.2.1
 have hn3 := hr3.2.1
 clear hr2 hr3 huf hcf
 obtain ⟨r, hr⟩ : ∃ r, enF uf cf nx ck txns rows = r := ⟨_, rfl⟩
 rw [hr]
 have HF := Aside0.mk hr
 clear hr
 rcases hb_ (inB nx 1 999) with h1 | h1
 ·rcases hb_ (inB ck 0 1000000) with h2 | h2
  ·by_cases h3 : 20 < txns.length
   ·have HE := Aside0.mk (show r = 2 from by rw [← HF.out]; unfold enF; rw [if_pos h1, if_pos h2, if_pos (.inl h3)])
    have t1 : decide ((20 : Int) < (txns.length : Int)) = true := decide_eq_true (by omega)
    have t2 : decide (20 < txns.length) = true := decide_eq_true h3
    clear h3
    go_enter Tryd.func17, Tryd.ntmps17
    go_wp2_with (first | (go_at_call 30; refine (cTx _ _).mono ?_; rintro e w' ⟨rfl, n, rfl⟩) | (go_at_call 31; refine (cLs _ _).mono ?_; rintro e w' ⟨rfl, n, rfl⟩))
    go_ret
    exact ⟨by rw [HE.out]; rfl, zb⟩
   have t1 : decide ((20 : Int) < (txns.length : Int)) = false := decide_eq_false (by omega)
   have t2 : decide (20 < txns.length) = false := decide_eq_false h3
   by_cases h4 : 32 < rows.length
   ·have HE := Aside0.mk (show r = 2 from by rw [← HF.out]; unfold enF; rw [if_pos h1, if_pos h2, if_pos (.inr h4)])
    have t3 : decide ((32 : Int) < (rows.length : Int)) = true := decide_eq_true (by omega)
    have t4 : decide (32 < rows.length) = true := decide_eq_true h4
    clear h3 h4
    go_enter Tryd.func17, Tryd.ntmps17
    go_wp2_with (first | (go_at_call 30; refine (cTx _ _).mono ?_; rintro e w' ⟨rfl, n, rfl⟩) | (go_at_call 31; refine (cLs _ _).mono ?_; rintro e w' ⟨rfl, n, rfl⟩))
    go_ret
    exact ⟨by rw [HE.out]; rfl, zb⟩
   have t3 : decide ((32 : Int) < (rows.length : Int)) = false := decide_eq_false (by omega)
   have t4 : decide (32 < rows.length) = false := decide_eq_false h4
   have HF2 := Aside0.mk (show r = (if txnsG uf nx ck txns = 0 then (if rowsG cf ck txns rows = 0 then ownsG txns rows else rowsG cf ck txns rows) else txnsG uf nx ck txns) from by rw [← HF.out]; unfold enF; rw [if_pos h1, if_pos h2, if_neg (by omega)])
   clear h3 h4
   obtain ⟨a, ha⟩ : ∃ a, txnsG uf nx ck txns = a := ⟨_, rfl⟩
   obtain ⟨b, hb⟩ : ∃ b, rowsG cf ck txns rows = b := ⟨_, rfl⟩
   obtain ⟨c, hc⟩ : ∃ c, ownsG txns rows = c := ⟨_, rfl⟩
   rw [ha, hb, hc] at HF2
   have HI := Aside0.mk ha
   have HI2 := Aside0.mk hb
   have HI3 := Aside0.mk hc
   clear ha hb hc
   have hnx : 1 ≤ nx ∧ nx ≤ 999 := by unfold inB at h1; simpa using h1
   obtain ⟨hnx1, hnx2⟩ := hnx
   go_enter Tryd.func17, Tryd.ntmps17
   go_wp2_with (first | (go_at_call 30; refine (cTx _ _).mono ?_; rintro e w' ⟨rfl, n, rfl⟩) | (go_at_call 31; refine (cLs _ _).mono ?_; rintro e w' ⟨rfl, n, rfl⟩))
   go_loopg [40] (txns.length + 1) (fun gg v40 wr => ∃ k : Nat, k ≤ txns.length ∧ v40 = .int .i64 (k : Int) ∧ Aside0 (txns.length - k < gg) ∧ Aside0 (scanI (fun i => txnG uf nx ck txns i (txns.getD i z45) (txns.getD (i - 1) z45)) (txns.length - k) k = a) ∧ Aside0 (Below w.heap.size w wr) ∧ Aside0 (wr.heap[w.heap.size]? = some (.cells #[.int .i64 nx, .int .i64 ck, .slice A2 txns.length c2, .slice A3 rows.length c3] 33 (0, 0))))
   case atStart => exact ⟨0, by omega, rfl, ⟨by omega⟩, HI, ⟨zb⟩, ⟨blk_new w _⟩⟩
   case round =>
    clear HB
    obtain ⟨k, hk, rfl, HG, HA, HB, BK⟩ := hrel
    have hbg := blk_lt BK.out
    have ne0 : w.heap.size ≠ wr.heap.size := Nat.ne_of_lt hbg
    have z0 : wr.cell? ⟨w.heap.size, 0, none⟩ = some (.int .i64 nx) := (blk_cell BK.out 0).trans rfl
    have z1 : wr.cell? ⟨w.heap.size, 1, none⟩ = some (.int .i64 ck) := (blk_cell BK.out 1).trans rfl
    have z2 : wr.cell? ⟨w.heap.size, 2, none⟩ = some (.slice A2 txns.length c2) := (blk_cell BK.out 2).trans rfl
    have z3 : wr.cell? ⟨w.heap.size, 3, none⟩ = some (.slice A3 rows.length c3) := (blk_cell BK.out 3).trans rfl
    by_cases hlt : k < txns.length
    ·have g0 : (0 : Int) ≤ (k : Int) := by omega
     have g1 : (k : Int) < (txns.length : Int) := by omega
     obtain ⟨ad, A4, c4, ea, hx0, hx1, hx2, hx3, hx4, hl4, hr4⟩ := at_T45 (Kd.C_below HR2.out HB.out) (k : Int) g0 g1
     cases ea
     obtain ⟨X, hX⟩ : ∃ x, x = txns.getD k z45 := ⟨_, rfl⟩
     obtain ⟨Y, hY⟩ : ∃ x, x = txns.getD (k - 1) z45 := ⟨_, rfl⟩
     rw [show rd_T45 txns (k : Int) = X from hX.symm, show (k : Int).toNat = k from Int.toNat_natCast k] at hx0  hx1  hx2  hx3  hx4
     rw [show rd_T45 txns (k : Int) = X from hX.symm] at   hl4  hr4
     have HUX := Aside0.mk (show impl_undosFault.f K X.f4 = some (uf X.f4) from by rw [hX, Lb.getD_at hlt]; exact HUF.out _ (List.getElem_mem hlt))
     have HX := Aside0.mk hX
     have HR4 := Aside0.mk hr4
     have HL4 := Aside0.mk hl4
     clear hX hr4 hl4
     by_cases kp : 0 < k
     ·have hk0 : decide (0 < k) = true := decide_eq_true kp
      have hk1 : decide ((0 : Int) < (k : Int)) = true := decide_eq_true (by omega)
      have g2 : (0 : Int) ≤ (k : Int) - 1 := by omega
      have g3 : (k : Int) - 1 < (txns.length : Int) := by omega
      have g4 : (1 : Int) ≤ (k : Int) := by omega
      have gw : IntKind.i64.wrap ((k : Int) - 1) = (k : Int) - 1 := IntWalk.i64_in _ (by omega)
      obtain ⟨ad2, B4, e4, ea, hy0, -, -, -, -, -, -⟩ := at_T45 (Kd.C_below HR2.out HB.out) ((k : Int) - 1) g2 g3
      cases ea
      rw [show rd_T45 txns ((k : Int) - 1) = Y from by rw [hY]; show txns.getD ((k : Int) - 1).toNat z45 = _; congr 1; omega, show ((k : Int) - 1).toNat = k - 1 from by omega] at hy0
      have HY := Aside0.mk hY
      have hyb := (World.cell?_alloc_lt wr (Obj.cells #[.int .i64 X.f0, .int .i64 X.f1, .int .i64 X.f2, .int .i64 X.f3, .slice A4 X.f4.length c4] 45) _ (World.block_lt_of_cell? wr _ hy0)).trans hy0
      clear hY kp hy0
      rcases hb_ (inB X.f0 1 (nx - 1)) with hin1 | hin1
      ·skip
       rcases hb_ (inB X.f1 0 ck) with hin2 | hin2
       ·skip
        rcases hb_ (inB X.f2 1 3) with hin3 | hin3
        ·skip
         rcases hb_ (inB X.f3 0 ck) with hin4 | hin4
         ·skip
          rcases hb_ (decide (X.f0 ≤ Y.f0)) with hle | hle
          ·skip
           have hf := Aside0.mk (show txnG uf nx ck txns k X Y = 1 from by simp [txnG, txnBad, hin1, hin2, hin3, hin4, hle, hk0])
           have HE := Aside0.mk (show r = 1 from by have q := HF2.out; rw [show a = 1 from scan_ret (v := 1) HA.out hlt (by show txnG uf nx ck txns k (txns.getD k z45) (txns.getD (k - 1) z45) = _; rw [← HX.out, ← HY.out]; exact hf.out) (by decide), if_neg (by decide)] at q; exact q)
           go_wp2_with (first | (go_at_call 32; refine (cWi _ _ _ _).mono ?_; rintro e w' ⟨rfl, n, rfl⟩) | (go_at_call 33; refine (impl_undosFault.calls K A4 c4 X.f4 (uf X.f4) _ (by first | exact Kd.C_drewN (Kd.C_alloc HR4.out _) _ | exact Kd.C_alloc HR4.out _) HL4.out HUX.out).mono ?_; rintro e w5 ⟨rfl, hb⟩; have hbw := Aside0.mk (show Below wr.heap.size wr w5 from below_step zf hb); clear hb))
           go_quiet (fail)
           go_wp2_with (first | (go_at_call 32; refine (cWi _ _ _ _).mono ?_; rintro e w' ⟨rfl, n, rfl⟩) | (go_at_call 33; refine (impl_undosFault.calls K A4 c4 X.f4 (uf X.f4) _ (by first | exact Kd.C_drewN (Kd.C_alloc HR4.out _) _ | exact Kd.C_alloc HR4.out _) HL4.out HUX.out).mono ?_; rintro e w5 ⟨rfl, hb⟩; have hbw := Aside0.mk (show Below wr.heap.size wr w5 from below_step zf hb); clear hb))
           go_ret
           exact ⟨by rw [HE.out]; rfl, zb⟩
          skip
          rcases hb_ ((X.f3 == 0)) with hd0 | hd0
          ·have gd0 : (X.f3 != 0) = false := by simp [bne, hd0]
           rcases hb_ (decide ((0 : Int) < (X.f4.length : Int))) with hu0 | hu0
           ·have gu0 : decide (0 < X.f4.length) = true := by rw [← hu0]; apply decide_eq_decide.2; omega
            rcases hb_ ((X.f2 == 1)) with hs1 | hs1
            ·have gs1 : (X.f2 != 1) = false := by simp [bne, hs1]
             rcases hb_ ((uf X.f4 == 0)) with hc0 | hc0
             ·have gc0 : (uf X.f4 != 0) = false := by simp [bne, hc0]
              have hf := Aside0.mk (show txnG uf nx ck txns k X Y = uf X.f4 from by simp [txnG, txnBad, hin1, hin2, hin3, hin4, hle, hd0, hu0, hs1, gu0, hk0])
              have HS := Aside0.mk (scan_next HA.out hlt (by show txnG uf nx ck txns k (txns.getD k z45) (txns.getD (k - 1) z45) = _; rw [← HX.out, ← HY.out]; rw [hf.out]; simpa using hc0))
              go_wp2_with (first | (go_at_call 32; refine (cWi _ _ _ _).mono ?_; rintro e w' ⟨rfl, n, rfl⟩) | (go_at_call 33; refine (impl_undosFault.calls K A4 c4 X.f4 (uf X.f4) _ (by first | exact Kd.C_drewN (Kd.C_alloc HR4.out _) _ | exact Kd.C_alloc HR4.out _) HL4.out HUX.out).mono ?_; rintro e w5 ⟨rfl, hb⟩; have hbw := Aside0.mk (show Below wr.heap.size wr w5 from below_step zf hb); clear hb))
              go_quiet (fail)
              go_wp2_with (first | (go_at_call 32; refine (cWi _ _ _ _).mono ?_; rintro e w' ⟨rfl, n, rfl⟩) | (go_at_call 33; refine (impl_undosFault.calls K A4 c4 X.f4 (uf X.f4) _ (by first | exact Kd.C_drewN (Kd.C_alloc HR4.out _) _ | exact Kd.C_alloc HR4.out _) HL4.out HUX.out).mono ?_; rintro e w5 ⟨rfl, hb⟩; have hbw := Aside0.mk (show Below wr.heap.size wr w5 from below_step zf hb); clear hb))
              go_roundg (txns.length - k)
              case measure => have := HG.out; omega
              case rel => exact ⟨k + 1, by omega, by first | rfl | go_num, ⟨by omega⟩, HS, ⟨(HB.out.trans (hbw.out.mono HB.out.size))⟩, ⟨keepB hbw.out BK.out⟩⟩
             have gc0 : (uf X.f4 != 0) = true := by simp [bne, hc0]
             have hf := Aside0.mk (show txnG uf nx ck txns k X Y = uf X.f4 from by simp [txnG, txnBad, hin1, hin2, hin3, hin4, hle, hd0, hu0, hs1, gu0, hk0])
             have HE := Aside0.mk (show r = uf X.f4 from by have q := HF2.out; rw [show a = uf X.f4 from scan_ret (v := uf X.f4) HA.out hlt (by show txnG uf nx ck txns k (txns.getD k z45) (txns.getD (k - 1) z45) = _; rw [← HX.out, ← HY.out]; exact hf.out) (by simpa using hc0), if_neg (by simpa using hc0)] at q; exact q)
             go_wp2_with (first | (go_at_call 32; refine (cWi _ _ _ _).mono ?_; rintro e w' ⟨rfl, n, rfl⟩) | (go_at_call 33; refine (impl_undosFault.calls K A4 c4 X.f4 (uf X.f4) _ (by first | exact Kd.C_drewN (Kd.C_alloc HR4.out _) _ | exact Kd.C_alloc HR4.out _) HL4.out HUX.out).mono ?_; rintro e w5 ⟨rfl, hb⟩; have hbw := Aside0.mk (show Below wr.heap.size wr w5 from below_step zf hb); clear hb))
             go_quiet (fail)
             go_wp2_with (first | (go_at_call 32; refine (cWi _ _ _ _).mono ?_; rintro e w' ⟨rfl, n, rfl⟩) | (go_at_call 33; refine (impl_undosFault.calls K A4 c4 X.f4 (uf X.f4) _ (by first | exact Kd.C_drewN (Kd.C_alloc HR4.out _) _ | exact Kd.C_alloc HR4.out _) HL4.out HUX.out).mono ?_; rintro e w5 ⟨rfl, hb⟩; have hbw := Aside0.mk (show Below wr.heap.size wr w5 from below_step zf hb); clear hb))
             go_ret
             exact ⟨by rw [HE.out]; rfl, (HB.out.trans (hbw.out.mono HB.out.size))⟩
            have gs1 : (X.f2 != 1) = true := by simp [bne, hs1]
            have hf := Aside0.mk (show txnG uf nx ck txns k X Y = 1 from by simp [txnG, txnBad, hin1, hin2, hin3, hin4, hle, hd0, hu0, hs1, gu0, hk0])
            have HE := Aside0.mk (show r = 1 from by have q := HF2.out; rw [show a = 1 from scan_ret (v := 1) HA.out hlt (by show txnG uf nx ck txns k (txns.getD k z45) (txns.getD (k - 1) z45) = _; rw [← HX.out, ← HY.out]; exact hf.out) (by decide), if_neg (by decide)] at q; exact q)
            go_wp2_with (first | (go_at_call 32; refine (cWi _ _ _ _).mono ?_; rintro e w' ⟨rfl, n, rfl⟩) | (go_at_call 33; refine (impl_undosFault.calls K A4 c4 X.f4 (uf X.f4) _ (by first | exact Kd.C_drewN (Kd.C_alloc HR4.out _) _ | exact Kd.C_alloc HR4.out _) HL4.out HUX.out).mono ?_; rintro e w5 ⟨rfl, hb⟩; have hbw := Aside0.mk (show Below wr.heap.size wr w5 from below_step zf hb); clear hb))
            go_quiet (fail)
            go_wp2_with (first | (go_at_call 32; refine (cWi _ _ _ _).mono ?_; rintro e w' ⟨rfl, n, rfl⟩) | (go_at_call 33; refine (impl_undosFault.calls K A4 c4 X.f4 (uf X.f4) _ (by first | exact Kd.C_drewN (Kd.C_alloc HR4.out _) _ | exact Kd.C_alloc HR4.out _) HL4.out HUX.out).mono ?_; rintro e w5 ⟨rfl, hb⟩; have hbw := Aside0.mk (show Below wr.heap.size wr w5 from below_step zf hb); clear hb))
            go_ret
            exact ⟨by rw [HE.out]; rfl, zb⟩
           have gu0 : decide (0 < X.f4.length) = false := by rw [← hu0]; apply decide_eq_decide.2; omega
           rcases hb_ ((uf X.f4 == 0)) with hc0 | hc0
           ·have gc0 : (uf X.f4 != 0) = false := by simp [bne, hc0]
            have hf := Aside0.mk (show txnG uf nx ck txns k X Y = uf X.f4 from by simp [txnG, txnBad, hin1, hin2, hin3, hin4, hle, hd0, hu0, gu0, hk0])
            have HS := Aside0.mk (scan_next HA.out hlt (by show txnG uf nx ck txns k (txns.getD k z45) (txns.getD (k - 1) z45) = _; rw [← HX.out, ← HY.out]; rw [hf.out]; simpa using hc0))
            go_wp2_with (first | (go_at_call 32; refine (cWi _ _ _ _).mono ?_; rintro e w' ⟨rfl, n, rfl⟩) | (go_at_call 33; refine (impl_undosFault.calls K A4 c4 X.f4 (uf X.f4) _ (by first | exact Kd.C_drewN (Kd.C_alloc HR4.out _) _ | exact Kd.C_alloc HR4.out _) HL4.out HUX.out).mono ?_; rintro e w5 ⟨rfl, hb⟩; have hbw := Aside0.mk (show Below wr.heap.size wr w5 from below_step zf hb); clear hb))
            go_quiet (fail)
            go_wp2_with (first | (go_at_call 32; refine (cWi _ _ _ _).mono ?_; rintro e w' ⟨rfl, n, rfl⟩) | (go_at_call 33; refine (impl_undosFault.calls K A4 c4 X.f4 (uf X.f4) _ (by first | exact Kd.C_drewN (Kd.C_alloc HR4.out _) _ | exact Kd.C_alloc HR4.out _) HL4.out HUX.out).mono ?_; rintro e w5 ⟨rfl, hb⟩; have hbw := Aside0.mk (show Below wr.heap.size wr w5 from below_step zf hb); clear hb))
            go_roundg (txns.length - k)
            case measure => have := HG.out; omega
            case rel => exact ⟨k + 1, by omega, by first | rfl | go_num, ⟨by omega⟩, HS, ⟨(HB.out.trans (hbw.out.mono HB.out.size))⟩, ⟨keepB hbw.out BK.out⟩⟩
           have gc0 : (uf X.f4 != 0) = true := by simp [bne, hc0]
           have hf := Aside0.mk (show txnG uf nx ck txns k X Y = uf X.f4 from by simp [txnG, txnBad, hin1, hin2, hin3, hin4, hle, hd0, hu0, gu0, hk0])
           have HE := Aside0.mk (show r = uf X.f4 from by have q := HF2.out; rw [show a = uf X.f4 from scan_ret (v := uf X.f4) HA.out hlt (by show txnG uf nx ck txns k (txns.getD k z45) (txns.getD (k - 1) z45) = _; rw [← HX.out, ← HY.out]; exact hf.out) (by simpa using hc0), if_neg (by simpa using hc0)] at q; exact q)
           go_wp2_with (first | (go_at_call 32; refine (cWi _ _ _ _).mono ?_; rintro e w' ⟨rfl, n, rfl⟩) | (go_at_call 33; refine (impl_undosFault.calls K A4 c4 X.f4 (uf X.f4) _ (by first | exact Kd.C_drewN (Kd.C_alloc HR4.out _) _ | exact Kd.C_alloc HR4.out _) HL4.out HUX.out).mono ?_; rintro e w5 ⟨rfl, hb⟩; have hbw := Aside0.mk (show Below wr.heap.size wr w5 from below_step zf hb); clear hb))
           go_quiet (fail)
           go_wp2_with (first | (go_at_call 32; refine (cWi _ _ _ _).mono ?_; rintro e w' ⟨rfl, n, rfl⟩) | (go_at_call 33; refine (impl_undosFault.calls K A4 c4 X.f4 (uf X.f4) _ (by first | exact Kd.C_drewN (Kd.C_alloc HR4.out _) _ | exact Kd.C_alloc HR4.out _) HL4.out HUX.out).mono ?_; rintro e w5 ⟨rfl, hb⟩; have hbw := Aside0.mk (show Below wr.heap.size wr w5 from below_step zf hb); clear hb))
           go_ret
           exact ⟨by rw [HE.out]; rfl, (HB.out.trans (hbw.out.mono HB.out.size))⟩
          have gd0 : (X.f3 != 0) = true := by simp [bne, hd0]
          rcases hb_ ((X.f2 == 2)) with hs2 | hs2
          ·have gs2 : (X.f2 != 2) = false := by simp [bne, hs2]
           rcases hb_ (decide (X.f3 ≤ X.f1)) with hdle | hdle
           ·skip
            have hf := Aside0.mk (show txnG uf nx ck txns k X Y = 1 from by simp [txnG, txnBad, hin1, hin2, hin3, hin4, hle, hd0, hs2, hdle, hk0])
            have HE := Aside0.mk (show r = 1 from by have q := HF2.out; rw [show a = 1 from scan_ret (v := 1) HA.out hlt (by show txnG uf nx ck txns k (txns.getD k z45) (txns.getD (k - 1) z45) = _; rw [← HX.out, ← HY.out]; exact hf.out) (by decide), if_neg (by decide)] at q; exact q)
            go_wp2_with (first | (go_at_call 32; refine (cWi _ _ _ _).mono ?_; rintro e w' ⟨rfl, n, rfl⟩) | (go_at_call 33; refine (impl_undosFault.calls K A4 c4 X.f4 (uf X.f4) _ (by first | exact Kd.C_drewN (Kd.C_alloc HR4.out _) _ | exact Kd.C_alloc HR4.out _) HL4.out HUX.out).mono ?_; rintro e w5 ⟨rfl, hb⟩; have hbw := Aside0.mk (show Below wr.heap.size wr w5 from below_step zf hb); clear hb))
            go_quiet (fail)
            go_wp2_with (first | (go_at_call 32; refine (cWi _ _ _ _).mono ?_; rintro e w' ⟨rfl, n, rfl⟩) | (go_at_call 33; refine (impl_undosFault.calls K A4 c4 X.f4 (uf X.f4) _ (by first | exact Kd.C_drewN (Kd.C_alloc HR4.out _) _ | exact Kd.C_alloc HR4.out _) HL4.out HUX.out).mono ?_; rintro e w5 ⟨rfl, hb⟩; have hbw := Aside0.mk (show Below wr.heap.size wr w5 from below_step zf hb); clear hb))
            go_ret
            exact ⟨by rw [HE.out]; rfl, zb⟩
           skip
           rcases hb_ (decide ((0 : Int) < (X.f4.length : Int))) with hu0 | hu0
           ·have gu0 : decide (0 < X.f4.length) = true := by rw [← hu0]; apply decide_eq_decide.2; omega
            rcases hb_ ((X.f2 == 1)) with hs1 | hs1
            ·have gs1 : (X.f2 != 1) = false := by simp [bne, hs1]
             rcases hb_ ((uf X.f4 == 0)) with hc0 | hc0
             ·have gc0 : (uf X.f4 != 0) = false := by simp [bne, hc0]
              have hf := Aside0.mk (show txnG uf nx ck txns k X Y = uf X.f4 from by simp [txnG, txnBad, hin1, hin2, hin3, hin4, hle, hd0, hs2, hdle, hu0, hs1, gu0, hk0])
              have HS := Aside0.mk (scan_next HA.out hlt (by show txnG uf nx ck txns k (txns.getD k z45) (txns.getD (k - 1) z45) = _; rw [← HX.out, ← HY.out]; rw [hf.out]; simpa using hc0))
              go_wp2_with (first | (go_at_call 32; refine (cWi _ _ _ _).mono ?_; rintro e w' ⟨rfl, n, rfl⟩) | (go_at_call 33; refine (impl_undosFault.calls K A4 c4 X.f4 (uf X.f4) _ (by first | exact Kd.C_drewN (Kd.C_alloc HR4.out _) _ | exact Kd.C_alloc HR4.out _) HL4.out HUX.out).mono ?_; rintro e w5 ⟨rfl, hb⟩; have hbw := Aside0.mk (show Below wr.heap.size wr w5 from below_step zf hb); clear hb))
              go_quiet (fail)
              go_wp2_with (first | (go_at_call 32; refine (cWi _ _ _ _).mono ?_; rintro e w' ⟨rfl, n, rfl⟩) | (go_at_call 33; refine (impl_undosFault.calls K A4 c4 X.f4 (uf X.f4) _ (by first | exact Kd.C_drewN (Kd.C_alloc HR4.out _) _ | exact Kd.C_alloc HR4.out _) HL4.out HUX.out).mono ?_; rintro e w5 ⟨rfl, hb⟩; have hbw := Aside0.mk (show Below wr.heap.size wr w5 from below_step zf hb); clear hb))
              go_roundg (txns.length - k)
              case measure => have := HG.out; omega
              case rel => exact ⟨k + 1, by omega, by first | rfl | go_num, ⟨by omega⟩, HS, ⟨(HB.out.trans (hbw.out.mono HB.out.size))⟩, ⟨keepB hbw.out BK.out⟩⟩
             have gc0 : (uf X.f4 != 0) = true := by simp [bne, hc0]
             have hf := Aside0.mk (show txnG uf nx ck txns k X Y = uf X.f4 from by simp [txnG, txnBad, hin1, hin2, hin3, hin4, hle, hd0, hs2, hdle, hu0, hs1, gu0, hk0])
             have HE := Aside0.mk (show r = uf X.f4 from by have q := HF2.out; rw [show a = uf X.f4 from scan_ret (v := uf X.f4) HA.out hlt (by show txnG uf nx ck txns k (txns.getD k z45) (txns.getD (k - 1) z45) = _; rw [← HX.out, ← HY.out]; exact hf.out) (by simpa using hc0), if_neg (by simpa using hc0)] at q; exact q)
             go_wp2_with (first | (go_at_call 32; refine (cWi _ _ _ _).mono ?_; rintro e w' ⟨rfl, n, rfl⟩) | (go_at_call 33; refine (impl_undosFault.calls K A4 c4 X.f4 (uf X.f4) _ (by first | exact Kd.C_drewN (Kd.C_alloc HR4.out _) _ | exact Kd.C_alloc HR4.out _) HL4.out HUX.out).mono ?_; rintro e w5 ⟨rfl, hb⟩; have hbw := Aside0.mk (show Below wr.heap.size wr w5 from below_step zf hb); clear hb))
             go_quiet (fail)
             go_wp2_with (first | (go_at_call 32; refine (cWi _ _ _ _).mono ?_; rintro e w' ⟨rfl, n, rfl⟩) | (go_at_call 33; refine (impl_undosFault.calls K A4 c4 X.f4 (uf X.f4) _ (by first | exact Kd.C_drewN (Kd.C_alloc HR4.out _) _ | exact Kd.C_alloc HR4.out _) HL4.out HUX.out).mono ?_; rintro e w5 ⟨rfl, hb⟩; have hbw := Aside0.mk (show Below wr.heap.size wr w5 from below_step zf hb); clear hb))
             go_ret
             exact ⟨by rw [HE.out]; rfl, (HB.out.trans (hbw.out.mono HB.out.size))⟩
            have gs1 : (X.f2 != 1) = true := by simp [bne, hs1]
            have hf := Aside0.mk (show txnG uf nx ck txns k X Y = 1 from by simp [txnG, txnBad, hin1, hin2, hin3, hin4, hle, hd0, hs2, hdle, hu0, hs1, gu0, hk0])
            have HE := Aside0.mk (show r = 1 from by have q := HF2.out; rw [show a = 1 from scan_ret (v := 1) HA.out hlt (by show txnG uf nx ck txns k (txns.getD k z45) (txns.getD (k - 1) z45) = _; rw [← HX.out, ← HY.out]; exact hf.out) (by decide), if_neg (by decide)] at q; exact q)
            go_wp2_with (first | (go_at_call 32; refine (cWi _ _ _ _).mono ?_; rintro e w' ⟨rfl, n, rfl⟩) | (go_at_call 33; refine (impl_undosFault.calls K A4 c4 X.f4 (uf X.f4) _ (by first | exact Kd.C_drewN (Kd.C_alloc HR4.out _) _ | exact Kd.C_alloc HR4.out _) HL4.out HUX.out).mono ?_; rintro e w5 ⟨rfl, hb⟩; have hbw := Aside0.mk (show Below wr.heap.size wr w5 from below_step zf hb); clear hb))
            go_quiet (fail)
            go_wp2_with (first | (go_at_call 32; refine (cWi _ _ _ _).mono ?_; rintro e w' ⟨rfl, n, rfl⟩) | (go_at_call 33; refine (impl_undosFault.calls K A4 c4 X.f4 (uf X.f4) _ (by first | exact Kd.C_drewN (Kd.C_alloc HR4.out _) _ | exact Kd.C_alloc HR4.out _) HL4.out HUX.out).mono ?_; rintro e w5 ⟨rfl, hb⟩; have hbw := Aside0.mk (show Below wr.heap.size wr w5 from below_step zf hb); clear hb))
            go_ret
            exact ⟨by rw [HE.out]; rfl, zb⟩
           have gu0 : decide (0 < X.f4.length) = false := by rw [← hu0]; apply decide_eq_decide.2; omega
           rcases hb_ ((uf X.f4 == 0)) with hc0 | hc0
           ·have gc0 : (uf X.f4 != 0) = false := by simp [bne, hc0]
            have hf := Aside0.mk (show txnG uf nx ck txns k X Y = uf X.f4 from by simp [txnG, txnBad, hin1, hin2, hin3, hin4, hle, hd0, hs2, hdle, hu0, gu0, hk0])
            have HS := Aside0.mk (scan_next HA.out hlt (by show txnG uf nx ck txns k (txns.getD k z45) (txns.getD (k - 1) z45) = _; rw [← HX.out, ← HY.out]; rw [hf.out]; simpa using hc0))
            go_wp2_with (first | (go_at_call 32; refine (cWi _ _ _ _).mono ?_; rintro e w' ⟨rfl, n, rfl⟩) | (go_at_call 33; refine (impl_undosFault.calls K A4 c4 X.f4 (uf X.f4) _ (by first | exact Kd.C_drewN (Kd.C_alloc HR4.out _) _ | exact Kd.C_alloc HR4.out _) HL4.out HUX.out).mono ?_; rintro e w5 ⟨rfl, hb⟩; have hbw := Aside0.mk (show Below wr.heap.size wr w5 from below_step zf hb); clear hb))
            go_quiet (fail)
            go_wp2_with (first | (go_at_call 32; refine (cWi _ _ _ _).mono ?_; rintro e w' ⟨rfl, n, rfl⟩) | (go_at_call 33; refine (impl_undosFault.calls K A4 c4 X.f4 (uf X.f4) _ (by first | exact Kd.C_drewN (Kd.C_alloc HR4.out _) _ | exact Kd.C_alloc HR4.out _) HL4.out HUX.out).mono ?_; rintro e w5 ⟨rfl, hb⟩; have hbw := Aside0.mk (show Below wr.heap.size wr w5 from below_step zf hb); clear hb))
            go_roundg (txns.length - k)
            case measure => have := HG.out; omega
            case rel => exact ⟨k + 1, by omega, by first | rfl | go_num, ⟨by omega⟩, HS, ⟨(HB.out.trans (hbw.out.mono HB.out.size))⟩, ⟨keepB hbw.out BK.out⟩⟩
           have gc0 : (uf X.f4 != 0) = true := by simp [bne, hc0]
           have hf := Aside0.mk (show txnG uf nx ck txns k X Y = uf X.f4 from by simp [txnG, txnBad, hin1, hin2, hin3, hin4, hle, hd0, hs2, hdle, hu0, gu0, hk0])
           have HE := Aside0.mk (show r = uf X.f4 from by have q := HF2.out; rw [show a = uf X.f4 from scan_ret (v := uf X.f4) HA.out hlt (by show txnG uf nx ck txns k (txns.getD k z45) (txns.getD (k - 1) z45) = _; rw [← HX.out, ← HY.out]; exact hf.out) (by simpa using hc0), if_neg (by simpa using hc0)] at q; exact q)
           go_wp2_with (first | (go_at_call 32; refine (cWi _ _ _ _).mono ?_; rintro e w' ⟨rfl, n, rfl⟩) | (go_at_call 33; refine (impl_undosFault.calls K A4 c4 X.f4 (uf X.f4) _ (by first | exact Kd.C_drewN (Kd.C_alloc HR4.out _) _ | exact Kd.C_alloc HR4.out _) HL4.out HUX.out).mono ?_; rintro e w5 ⟨rfl, hb⟩; have hbw := Aside0.mk (show Below wr.heap.size wr w5 from below_step zf hb); clear hb))
           go_quiet (fail)
           go_wp2_with (first | (go_at_call 32; refine (cWi _ _ _ _).mono ?_; rintro e w' ⟨rfl, n, rfl⟩) | (go_at_call 33; refine (impl_undosFault.calls K A4 c4 X.f4 (uf X.f4) _ (by first | exact Kd.C_drewN (Kd.C_alloc HR4.out _) _ | exact Kd.C_alloc HR4.out _) HL4.out HUX.out).mono ?_; rintro e w5 ⟨rfl, hb⟩; have hbw := Aside0.mk (show Below wr.heap.size wr w5 from below_step zf hb); clear hb))
           go_ret
           exact ⟨by rw [HE.out]; rfl, (HB.out.trans (hbw.out.mono HB.out.size))⟩
          have gs2 : (X.f2 != 2) = true := by simp [bne, hs2]
          have hf := Aside0.mk (show txnG uf nx ck txns k X Y = 1 from by simp [txnG, txnBad, hin1, hin2, hin3, hin4, hle, hd0, hs2, hk0])
          have HE := Aside0.mk (show r = 1 from by have q := HF2.out; rw [show a = 1 from scan_ret (v := 1) HA.out hlt (by show txnG uf nx ck txns k (txns.getD k z45) (txns.getD (k - 1) z45) = _; rw [← HX.out, ← HY.out]; exact hf.out) (by decide), if_neg (by decide)] at q; exact q)
          go_wp2_with (first | (go_at_call 32; refine (cWi _ _ _ _).mono ?_; rintro e w' ⟨rfl, n, rfl⟩) | (go_at_call 33; refine (impl_undosFault.calls K A4 c4 X.f4 (uf X.f4) _ (by first | exact Kd.C_drewN (Kd.C_alloc HR4.out _) _ | exact Kd.C_alloc HR4.out _) HL4.out HUX.out).mono ?_; rintro e w5 ⟨rfl, hb⟩; have hbw := Aside0.mk (show Below wr.heap.size wr w5 from below_step zf hb); clear hb))
          go_quiet (fail)
          go_wp2_with (first | (go_at_call 32; refine (cWi _ _ _ _).mono ?_; rintro e w' ⟨rfl, n, rfl⟩) | (go_at_call 33; refine (impl_undosFault.calls K A4 c4 X.f4 (uf X.f4) _ (by first | exact Kd.C_drewN (Kd.C_alloc HR4.out _) _ | exact Kd.C_alloc HR4.out _) HL4.out HUX.out).mono ?_; rintro e w5 ⟨rfl, hb⟩; have hbw := Aside0.mk (show Below wr.heap.size wr w5 from below_step zf hb); clear hb))
          go_ret
          exact ⟨by rw [HE.out]; rfl, zb⟩
         skip
         have hf := Aside0.mk (show txnG uf nx ck txns k X Y = 3 from by simp [txnG, txnBad, hin1, hin2, hin3, hin4, hk0])
         have HE := Aside0.mk (show r = 3 from by have q := HF2.out; rw [show a = 3 from scan_ret (v := 3) HA.out hlt (by show txnG uf nx ck txns k (txns.getD k z45) (txns.getD (k - 1) z45) = _; rw [← HX.out, ← HY.out]; exact hf.out) (by decide), if_neg (by decide)] at q; exact q)
         go_wp2_with (first | (go_at_call 32; refine (cWi _ _ _ _).mono ?_; rintro e w' ⟨rfl, n, rfl⟩) | (go_at_call 33; refine (impl_undosFault.calls K A4 c4 X.f4 (uf X.f4) _ (by first | exact Kd.C_drewN (Kd.C_alloc HR4.out _) _ | exact Kd.C_alloc HR4.out _) HL4.out HUX.out).mono ?_; rintro e w5 ⟨rfl, hb⟩; have hbw := Aside0.mk (show Below wr.heap.size wr w5 from below_step zf hb); clear hb))
         go_ret
         exact ⟨by rw [HE.out]; rfl, zb⟩
        skip
        have hf := Aside0.mk (show txnG uf nx ck txns k X Y = 3 from by simp [txnG, txnBad, hin1, hin2, hin3, hk0])
        have HE := Aside0.mk (show r = 3 from by have q := HF2.out; rw [show a = 3 from scan_ret (v := 3) HA.out hlt (by show txnG uf nx ck txns k (txns.getD k z45) (txns.getD (k - 1) z45) = _; rw [← HX.out, ← HY.out]; exact hf.out) (by decide), if_neg (by decide)] at q; exact q)
        go_wp2_with (first | (go_at_call 32; refine (cWi _ _ _ _).mono ?_; rintro e w' ⟨rfl, n, rfl⟩) | (go_at_call 33; refine (impl_undosFault.calls K A4 c4 X.f4 (uf X.f4) _ (by first | exact Kd.C_drewN (Kd.C_alloc HR4.out _) _ | exact Kd.C_alloc HR4.out _) HL4.out HUX.out).mono ?_; rintro e w5 ⟨rfl, hb⟩; have hbw := Aside0.mk (show Below wr.heap.size wr w5 from below_step zf hb); clear hb))
        go_ret
        exact ⟨by rw [HE.out]; rfl, zb⟩
       skip
       have hf := Aside0.mk (show txnG uf nx ck txns k X Y = 3 from by simp [txnG, txnBad, hin1, hin2, hk0])
       have HE := Aside0.mk (show r = 3 from by have q := HF2.out; rw [show a = 3 from scan_ret (v := 3) HA.out hlt (by show txnG uf nx ck txns k (txns.getD k z45) (txns.getD (k - 1) z45) = _; rw [← HX.out, ← HY.out]; exact hf.out) (by decide), if_neg (by decide)] at q; exact q)
       go_wp2_with (first | (go_at_call 32; refine (cWi _ _ _ _).mono ?_; rintro e w' ⟨rfl, n, rfl⟩) | (go_at_call 33; refine (impl_undosFault.calls K A4 c4 X.f4 (uf X.f4) _ (by first | exact Kd.C_drewN (Kd.C_alloc HR4.out _) _ | exact Kd.C_alloc HR4.out _) HL4.out HUX.out).mono ?_; rintro e w5 ⟨rfl, hb⟩; have hbw := Aside0.mk (show Below wr.heap.size wr w5 from below_step zf hb); clear hb))
       go_ret
       exact ⟨by rw [HE.out]; rfl, zb⟩
      ·skip
       have hf := Aside0.mk (show txnG uf nx ck txns k X Y = 3 from by simp [txnG, txnBad, hin1, hk0])
       have HE := Aside0.mk (show r = 3 from by have q := HF2.out; rw [show a = 3 from scan_ret (v := 3) HA.out hlt (by show txnG uf nx ck txns k (txns.getD k z45) (txns.getD (k - 1) z45) = _; rw [← HX.out, ← HY.out]; exact hf.out) (by decide), if_neg (by decide)] at q; exact q)
       go_wp2_with (first | (go_at_call 32; refine (cWi _ _ _ _).mono ?_; rintro e w' ⟨rfl, n, rfl⟩) | (go_at_call 33; refine (impl_undosFault.calls K A4 c4 X.f4 (uf X.f4) _ (by first | exact Kd.C_drewN (Kd.C_alloc HR4.out _) _ | exact Kd.C_alloc HR4.out _) HL4.out HUX.out).mono ?_; rintro e w5 ⟨rfl, hb⟩; have hbw := Aside0.mk (show Below wr.heap.size wr w5 from below_step zf hb); clear hb))
       go_ret
       exact ⟨by rw [HE.out]; rfl, zb⟩
     ·have hk0 : decide (0 < k) = false := decide_eq_false kp
      have hk1 : decide ((0 : Int) < (k : Int)) = false := decide_eq_false (by omega)
      have HY := Aside0.mk hY
      clear hY kp
      rcases hb_ (inB X.f0 1 (nx - 1)) with hin1 | hin1
      ·skip
       rcases hb_ (inB X.f1 0 ck) with hin2 | hin2
       ·skip
        rcases hb_ (inB X.f2 1 3) with hin3 | hin3
        ·skip
         rcases hb_ (inB X.f3 0 ck) with hin4 | hin4
         ·skip
          rcases hb_ ((X.f3 == 0)) with hd0 | hd0
          ·have gd0 : (X.f3 != 0) = false := by simp [bne, hd0]
           rcases hb_ (decide ((0 : Int) < (X.f4.length : Int))) with hu0 | hu0
           ·have gu0 : decide (0 < X.f4.length) = true := by rw [← hu0]; apply decide_eq_decide.2; omega
            rcases hb_ ((X.f2 == 1)) with hs1 | hs1
            ·have gs1 : (X.f2 != 1) = false := by simp [bne, hs1]
             rcases hb_ ((uf X.f4 == 0)) with hc0 | hc0
             ·have gc0 : (uf X.f4 != 0) = false := by simp [bne, hc0]
              have hf := Aside0.mk (show txnG uf nx ck txns k X Y = uf X.f4 from by simp [txnG, txnBad, hin1, hin2, hin3, hin4, hd0, hu0, hs1, gu0, hk0])
              have HS := Aside0.mk (scan_next HA.out hlt (by show txnG uf nx ck txns k (txns.getD k z45) (txns.getD (k - 1) z45) = _; rw [← HX.out, ← HY.out]; rw [hf.out]; simpa using hc0))
              go_wp2_with (first | (go_at_call 32; refine (cWi _ _ _ _).mono ?_; rintro e w' ⟨rfl, n, rfl⟩) | (go_at_call 33; refine (impl_undosFault.calls K A4 c4 X.f4 (uf X.f4) _ (by first | exact Kd.C_drewN (Kd.C_alloc HR4.out _) _ | exact Kd.C_alloc HR4.out _) HL4.out HUX.out).mono ?_; rintro e w5 ⟨rfl, hb⟩; have hbw := Aside0.mk (show Below wr.heap.size wr w5 from below_step zf hb); clear hb))
              go_quiet (fail)
              go_wp2_with (first | (go_at_call 32; refine (cWi _ _ _ _).mono ?_; rintro e w' ⟨rfl, n, rfl⟩) | (go_at_call 33; refine (impl_undosFault.calls K A4 c4 X.f4 (uf X.f4) _ (by first | exact Kd.C_drewN (Kd.C_alloc HR4.out _) _ | exact Kd.C_alloc HR4.out _) HL4.out HUX.out).mono ?_; rintro e w5 ⟨rfl, hb⟩; have hbw := Aside0.mk (show Below wr.heap.size wr w5 from below_step zf hb); clear hb))
              go_roundg (txns.length - k)
              case measure => have := HG.out; omega
              case rel => exact ⟨k + 1, by omega, by first | rfl | go_num, ⟨by omega⟩, HS, ⟨(HB.out.trans (hbw.out.mono HB.out.size))⟩, ⟨keepB hbw.out BK.out⟩⟩
             have gc0 : (uf X.f4 != 0) = true := by simp [bne, hc0]
             have hf := Aside0.mk (show txnG uf nx ck txns k X Y = uf X.f4 from by simp [txnG, txnBad, hin1, hin2, hin3, hin4, hd0, hu0, hs1, gu0, hk0])
             have HE := Aside0.mk (show r = uf X.f4 from by have q := HF2.out; rw [show a = uf X.f4 from scan_ret (v := uf X.f4) HA.out hlt (by show txnG uf nx ck txns k (txns.getD k z45) (txns.getD (k - 1) z45) = _; rw [← HX.out, ← HY.out]; exact hf.out) (by simpa using hc0), if_neg (by simpa using hc0)] at q; exact q)
             go_wp2_with (first | (go_at_call 32; refine (cWi _ _ _ _).mono ?_; rintro e w' ⟨rfl, n, rfl⟩) | (go_at_call 33; refine (impl_undosFault.calls K A4 c4 X.f4 (uf X.f4) _ (by first | exact Kd.C_drewN (Kd.C_alloc HR4.out _) _ | exact Kd.C_alloc HR4.out _) HL4.out HUX.out).mono ?_; rintro e w5 ⟨rfl, hb⟩; have hbw := Aside0.mk (show Below wr.heap.size wr w5 from below_step zf hb); clear hb))
             go_quiet (fail)
             go_wp2_with (first | (go_at_call 32; refine (cWi _ _ _ _).mono ?_; rintro e w' ⟨rfl, n, rfl⟩) | (go_at_call 33; refine (impl_undosFault.calls K A4 c4 X.f4 (uf X.f4) _ (by first | exact Kd.C_drewN (Kd.C_alloc HR4.out _) _ | exact Kd.C_alloc HR4.out _) HL4.out HUX.out).mono ?_; rintro e w5 ⟨rfl, hb⟩; have hbw := Aside0.mk (show Below wr.heap.size wr w5 from below_step zf hb); clear hb))
             go_ret
             exact ⟨by rw [HE.out]; rfl, (HB.out.trans (hbw.out.mono HB.out.size))⟩
            have gs1 : (X.f2 != 1) = true := by simp [bne, hs1]
            have hf := Aside0.mk (show txnG uf nx ck txns k X Y = 1 from by simp [txnG, txnBad, hin1, hin2, hin3, hin4, hd0, hu0, hs1, gu0, hk0])
            have HE := Aside0.mk (show r = 1 from by have q := HF2.out; rw [show a = 1 from scan_ret (v := 1) HA.out hlt (by show txnG uf nx ck txns k (txns.getD k z45) (txns.getD (k - 1) z45) = _; rw [← HX.out, ← HY.out]; exact hf.out) (by decide), if_neg (by decide)] at q; exact q)
            go_wp2_with (first | (go_at_call 32; refine (cWi _ _ _ _).mono ?_; rintro e w' ⟨rfl, n, rfl⟩) | (go_at_call 33; refine (impl_undosFault.calls K A4 c4 X.f4 (uf X.f4) _ (by first | exact Kd.C_drewN (Kd.C_alloc HR4.out _) _ | exact Kd.C_alloc HR4.out _) HL4.out HUX.out).mono ?_; rintro e w5 ⟨rfl, hb⟩; have hbw := Aside0.mk (show Below wr.heap.size wr w5 from below_step zf hb); clear hb))
            go_quiet (fail)
            go_wp2_with (first | (go_at_call 32; refine (cWi _ _ _ _).mono ?_; rintro e w' ⟨rfl, n, rfl⟩) | (go_at_call 33; refine (impl_undosFault.calls K A4 c4 X.f4 (uf X.f4) _ (by first | exact Kd.C_drewN (Kd.C_alloc HR4.out _) _ | exact Kd.C_alloc HR4.out _) HL4.out HUX.out).mono ?_; rintro e w5 ⟨rfl, hb⟩; have hbw := Aside0.mk (show Below wr.heap.size wr w5 from below_step zf hb); clear hb))
            go_ret
            exact ⟨by rw [HE.out]; rfl, zb⟩
           have gu0 : decide (0 < X.f4.length) = false := by rw [← hu0]; apply decide_eq_decide.2; omega
           rcases hb_ ((uf X.f4 == 0)) with hc0 | hc0
           ·have gc0 : (uf X.f4 != 0) = false := by simp [bne, hc0]
            have hf := Aside0.mk (show txnG uf nx ck txns k X Y = uf X.f4 from by simp [txnG, txnBad, hin1, hin2, hin3, hin4, hd0, hu0, gu0, hk0])
            have HS := Aside0.mk (scan_next HA.out hlt (by show txnG uf nx ck txns k (txns.getD k z45) (txns.getD (k - 1) z45) = _; rw [← HX.out, ← HY.out]; rw [hf.out]; simpa using hc0))
            go_wp2_with (first | (go_at_call 32; refine (cWi _ _ _ _).mono ?_; rintro e w' ⟨rfl, n, rfl⟩) | (go_at_call 33; refine (impl_undosFault.calls K A4 c4 X.f4 (uf X.f4) _ (by first | exact Kd.C_drewN (Kd.C_alloc HR4.out _) _ | exact Kd.C_alloc HR4.out _) HL4.out HUX.out).mono ?_; rintro e w5 ⟨rfl, hb⟩; have hbw := Aside0.mk (show Below wr.heap.size wr w5 from below_step zf hb); clear hb))
            go_quiet (fail)
            go_wp2_with (first | (go_at_call 32; refine (cWi _ _ _ _).mono ?_; rintro e w' ⟨rfl, n, rfl⟩) | (go_at_call 33; refine (impl_undosFault.calls K A4 c4 X.f4 (uf X.f4) _ (by first | exact Kd.C_drewN (Kd.C_alloc HR4.out _) _ | exact Kd.C_alloc HR4.out _) HL4.out HUX.out).mono ?_; rintro e w5 ⟨rfl, hb⟩; have hbw := Aside0.mk (show Below wr.heap.size wr w5 from below_step zf hb); clear hb))
            go_roundg (txns.length - k)
            case measure => have := HG.out; omega
            case rel => exact ⟨k + 1, by omega, by first | rfl | go_num, ⟨by omega⟩, HS, ⟨(HB.out.trans (hbw.out.mono HB.out.size))⟩, ⟨keepB hbw.out BK.out⟩⟩
           have gc0 : (uf X.f4 != 0) = true := by simp [bne, hc0]
           have hf := Aside0.mk (show txnG uf nx ck txns k X Y = uf X.f4 from by simp [txnG, txnBad, hin1, hin2, hin3, hin4, hd0, hu0, gu0, hk0])
           have HE := Aside0.mk (show r = uf X.f4 from by have q := HF2.out; rw [show a = uf X.f4 from scan_ret (v := uf X.f4) HA.out hlt (by show txnG uf nx ck txns k (txns.getD k z45) (txns.getD (k - 1) z45) = _; rw [← HX.out, ← HY.out]; exact hf.out) (by simpa using hc0), if_neg (by simpa using hc0)] at q; exact q)
           go_wp2_with (first | (go_at_call 32; refine (cWi _ _ _ _).mono ?_; rintro e w' ⟨rfl, n, rfl⟩) | (go_at_call 33; refine (impl_undosFault.calls K A4 c4 X.f4 (uf X.f4) _ (by first | exact Kd.C_drewN (Kd.C_alloc HR4.out _) _ | exact Kd.C_alloc HR4.out _) HL4.out HUX.out).mono ?_; rintro e w5 ⟨rfl, hb⟩; have hbw := Aside0.mk (show Below wr.heap.size wr w5 from below_step zf hb); clear hb))
           go_quiet (fail)
           go_wp2_with (first | (go_at_call 32; refine (cWi _ _ _ _).mono ?_; rintro e w' ⟨rfl, n, rfl⟩) | (go_at_call 33; refine (impl_undosFault.calls K A4 c4 X.f4 (uf X.f4) _ (by first | exact Kd.C_drewN (Kd.C_alloc HR4.out _) _ | exact Kd.C_alloc HR4.out _) HL4.out HUX.out).mono ?_; rintro e w5 ⟨rfl, hb⟩; have hbw := Aside0.mk (show Below wr.heap.size wr w5 from below_step zf hb); clear hb))
           go_ret
           exact ⟨by rw [HE.out]; rfl, (HB.out.trans (hbw.out.mono HB.out.size))⟩
          have gd0 : (X.f3 != 0) = true := by simp [bne, hd0]
          rcases hb_ ((X.f2 == 2)) with hs2 | hs2
          ·have gs2 : (X.f2 != 2) = false := by simp [bne, hs2]
           rcases hb_ (decide (X.f3 ≤ X.f1)) with hdle | hdle
           ·skip
            have hf := Aside0.mk (show txnG uf nx ck txns k X Y = 1 from by simp [txnG, txnBad, hin1, hin2, hin3, hin4, hd0, hs2, hdle, hk0])
            have HE := Aside0.mk (show r = 1 from by have q := HF2.out; rw [show a = 1 from scan_ret (v := 1) HA.out hlt (by show txnG uf nx ck txns k (txns.getD k z45) (txns.getD (k - 1) z45) = _; rw [← HX.out, ← HY.out]; exact hf.out) (by decide), if_neg (by decide)] at q; exact q)
            go_wp2_with (first | (go_at_call 32; refine (cWi _ _ _ _).mono ?_; rintro e w' ⟨rfl, n, rfl⟩) | (go_at_call 33; refine (impl_undosFault.calls K A4 c4 X.f4 (uf X.f4) _ (by first | exact Kd.C_drewN (Kd.C_alloc HR4.out _) _ | exact Kd.C_alloc HR4.out _) HL4.out HUX.out).mono ?_; rintro e w5 ⟨rfl, hb⟩; have hbw := Aside0.mk (show Below wr.heap.size wr w5 from below_step zf hb); clear hb))
            go_quiet (fail)
            go_wp2_with (first | (go_at_call 32; refine (cWi _ _ _ _).mono ?_; rintro e w' ⟨rfl, n, rfl⟩) | (go_at_call 33; refine (impl_undosFault.calls K A4 c4 X.f4 (uf X.f4) _ (by first | exact Kd.C_drewN (Kd.C_alloc HR4.out _) _ | exact Kd.C_alloc HR4.out _) HL4.out HUX.out).mono ?_; rintro e w5 ⟨rfl, hb⟩; have hbw := Aside0.mk (show Below wr.heap.size wr w5 from below_step zf hb); clear hb))
            go_ret
            exact ⟨by rw [HE.out]; rfl, zb⟩
           skip
           rcases hb_ (decide ((0 : Int) < (X.f4.length : Int))) with hu0 | hu0
           ·have gu0 : decide (0 < X.f4.length) = true := by rw [← hu0]; apply decide_eq_decide.2; omega
            rcases hb_ ((X.f2 == 1)) with hs1 | hs1
            ·have gs1 : (X.f2 != 1) = false := by simp [bne, hs1]
             rcases hb_ ((uf X.f4 == 0)) with hc0 | hc0
             ·have gc0 : (uf X.f4 != 0) = false := by simp [bne, hc0]
              have hf := Aside0.mk (show txnG uf nx ck txns k X Y = uf X.f4 from by simp [txnG, txnBad, hin1, hin2, hin3, hin4, hd0, hs2, hdle, hu0, hs1, gu0, hk0])
              have HS := Aside0.mk (scan_next HA.out hlt (by show txnG uf nx ck txns k (txns.getD k z45) (txns.getD (k - 1) z45) = _; rw [← HX.out, ← HY.out]; rw [hf.out]; simpa using hc0))
              go_wp2_with (first | (go_at_call 32; refine (cWi _ _ _ _).mono ?_; rintro e w' ⟨rfl, n, rfl⟩) | (go_at_call 33; refine (impl_undosFault.calls K A4 c4 X.f4 (uf X.f4) _ (by first | exact Kd.C_drewN (Kd.C_alloc HR4.out _) _ | exact Kd.C_alloc HR4.out _) HL4.out HUX.out).mono ?_; rintro e w5 ⟨rfl, hb⟩; have hbw := Aside0.mk (show Below wr.heap.size wr w5 from below_step zf hb); clear hb))
              go_quiet (fail)
              go_wp2_with (first | (go_at_call 32; refine (cWi _ _ _ _).mono ?_; rintro e w' ⟨rfl, n, rfl⟩) | (go_at_call 33; refine (impl_undosFault.calls K A4 c4 X.f4 (uf X.f4) _ (by first | exact Kd.C_drewN (Kd.C_alloc HR4.out _) _ | exact Kd.C_alloc HR4.out _) HL4.out HUX.out).mono ?_; rintro e w5 ⟨rfl, hb⟩; have hbw := Aside0.mk (show Below wr.heap.size wr w5 from below_step zf hb); clear hb))
              go_roundg (txns.length - k)
              case measure => have := HG.out; omega
              case rel => exact ⟨k + 1, by omega, by first | rfl | go_num, ⟨by omega⟩, HS, ⟨(HB.out.trans (hbw.out.mono HB.out.size))⟩, ⟨keepB hbw.out BK.out⟩⟩
             have gc0 : (uf X.f4 != 0) = true := by simp [bne, hc0]
             have hf := Aside0.mk (show txnG uf nx ck txns k X Y = uf X.f4 from by simp [txnG, txnBad, hin1, hin2, hin3, hin4, hd0, hs2, hdle, hu0, hs1, gu0, hk0])
             have HE := Aside0.mk (show r = uf X.f4 from by have q := HF2.out; rw [show a = uf X.f4 from scan_ret (v := uf X.f4) HA.out hlt (by show txnG uf nx ck txns k (txns.getD k z45) (txns.getD (k - 1) z45) = _; rw [← HX.out, ← HY.out]; exact hf.out) (by simpa using hc0), if_neg (by simpa using hc0)] at q; exact q)
             go_wp2_with (first | (go_at_call 32; refine (cWi _ _ _ _).mono ?_; rintro e w' ⟨rfl, n, rfl⟩) | (go_at_call 33; refine (impl_undosFault.calls K A4 c4 X.f4 (uf X.f4) _ (by first | exact Kd.C_drewN (Kd.C_alloc HR4.out _) _ | exact Kd.C_alloc HR4.out _) HL4.out HUX.out).mono ?_; rintro e w5 ⟨rfl, hb⟩; have hbw := Aside0.mk (show Below wr.heap.size wr w5 from below_step zf hb); clear hb))
             go_quiet (fail)
             go_wp2_with (first | (go_at_call 32; refine (cWi _ _ _ _).mono ?_; rintro e w' ⟨rfl, n, rfl⟩) | (go_at_call 33; refine (impl_undosFault.calls K A4 c4 X.f4 (uf X.f4) _ (by first | exact Kd.C_drewN (Kd.C_alloc HR4.out _) _ | exact Kd.C_alloc HR4.out _) HL4.out HUX.out).mono ?_; rintro e w5 ⟨rfl, hb⟩; have hbw := Aside0.mk (show Below wr.heap.size wr w5 from below_step zf hb); clear hb))
             go_ret
             exact ⟨by rw [HE.out]; rfl, (HB.out.trans (hbw.out.mono HB.out.size))⟩
            have gs1 : (X.f2 != 1) = true := by simp [bne, hs1]
            have hf := Aside0.mk (show txnG uf nx ck txns k X Y = 1 from by simp [txnG, txnBad, hin1, hin2, hin3, hin4, hd0, hs2, hdle, hu0, hs1, gu0, hk0])
            have HE := Aside0.mk (show r = 1 from by have q := HF2.out; rw [show a = 1 from scan_ret (v := 1) HA.out hlt (by show txnG uf nx ck txns k (txns.getD k z45) (txns.getD (k - 1) z45) = _; rw [← HX.out, ← HY.out]; exact hf.out) (by decide), if_neg (by decide)] at q; exact q)
            go_wp2_with (first | (go_at_call 32; refine (cWi _ _ _ _).mono ?_; rintro e w' ⟨rfl, n, rfl⟩) | (go_at_call 33; refine (impl_undosFault.calls K A4 c4 X.f4 (uf X.f4) _ (by first | exact Kd.C_drewN (Kd.C_alloc HR4.out _) _ | exact Kd.C_alloc HR4.out _) HL4.out HUX.out).mono ?_; rintro e w5 ⟨rfl, hb⟩; have hbw := Aside0.mk (show Below wr.heap.size wr w5 from below_step zf hb); clear hb))
            go_quiet (fail)
            go_wp2_with (first | (go_at_call 32; refine (cWi _ _ _ _).mono ?_; rintro e w' ⟨rfl, n, rfl⟩) | (go_at_call 33; refine (impl_undosFault.calls K A4 c4 X.f4 (uf X.f4) _ (by first | exact Kd.C_drewN (Kd.C_alloc HR4.out _) _ | exact Kd.C_alloc HR4.out _) HL4.out HUX.out).mono ?_; rintro e w5 ⟨rfl, hb⟩; have hbw := Aside0.mk (show Below wr.heap.size wr w5 from below_step zf hb); clear hb))
            go_ret
            exact ⟨by rw [HE.out]; rfl, zb⟩
           have gu0 : decide (0 < X.f4.length) = false := by rw [← hu0]; apply decide_eq_decide.2; omega
           rcases hb_ ((uf X.f4 == 0)) with hc0 | hc0
           ·have gc0 : (uf X.f4 != 0) = false := by simp [bne, hc0]
            have hf := Aside0.mk (show txnG uf nx ck txns k X Y = uf X.f4 from by simp [txnG, txnBad, hin1, hin2, hin3, hin4, hd0, hs2, hdle, hu0, gu0, hk0])
            have HS := Aside0.mk (scan_next HA.out hlt (by show txnG uf nx ck txns k (txns.getD k z45) (txns.getD (k - 1) z45) = _; rw [← HX.out, ← HY.out]; rw [hf.out]; simpa using hc0))
            go_wp2_with (first | (go_at_call 32; refine (cWi _ _ _ _).mono ?_; rintro e w' ⟨rfl, n, rfl⟩) | (go_at_call 33; refine (impl_undosFault.calls K A4 c4 X.f4 (uf X.f4) _ (by first | exact Kd.C_drewN (Kd.C_alloc HR4.out _) _ | exact Kd.C_alloc HR4.out _) HL4.out HUX.out).mono ?_; rintro e w5 ⟨rfl, hb⟩; have hbw := Aside0.mk (show Below wr.heap.size wr w5 from below_step zf hb); clear hb))
            go_quiet (fail)
            go_wp2_with (first | (go_at_call 32; refine (cWi _ _ _ _).mono ?_; rintro e w' ⟨rfl, n, rfl⟩) | (go_at_call 33; refine (impl_undosFault.calls K A4 c4 X.f4 (uf X.f4) _ (by first | exact Kd.C_drewN (Kd.C_alloc HR4.out _) _ | exact Kd.C_alloc HR4.out _) HL4.out HUX.out).mono ?_; rintro e w5 ⟨rfl, hb⟩; have hbw := Aside0.mk (show Below wr.heap.size wr w5 from below_step zf hb); clear hb))
            go_roundg (txns.length - k)
            case measure => have := HG.out; omega
            case rel => exact ⟨k + 1, by omega, by first | rfl | go_num, ⟨by omega⟩, HS, ⟨(HB.out.trans (hbw.out.mono HB.out.size))⟩, ⟨keepB hbw.out BK.out⟩⟩
           have gc0 : (uf X.f4 != 0) = true := by simp [bne, hc0]
           have hf := Aside0.mk (show txnG uf nx ck txns k X Y = uf X.f4 from by simp [txnG, txnBad, hin1, hin2, hin3, hin4, hd0, hs2, hdle, hu0, gu0, hk0])
           have HE := Aside0.mk (show r = uf X.f4 from by have q := HF2.out; rw [show a = uf X.f4 from scan_ret (v := uf X.f4) HA.out hlt (by show txnG uf nx ck txns k (txns.getD k z45) (txns.getD (k - 1) z45) = _; rw [← HX.out, ← HY.out]; exact hf.out) (by simpa using hc0), if_neg (by simpa using hc0)] at q; exact q)
           go_wp2_with (first | (go_at_call 32; refine (cWi _ _ _ _).mono ?_; rintro e w' ⟨rfl, n, rfl⟩) | (go_at_call 33; refine (impl_undosFault.calls K A4 c4 X.f4 (uf X.f4) _ (by first | exact Kd.C_drewN (Kd.C_alloc HR4.out _) _ | exact Kd.C_alloc HR4.out _) HL4.out HUX.out).mono ?_; rintro e w5 ⟨rfl, hb⟩; have hbw := Aside0.mk (show Below wr.heap.size wr w5 from below_step zf hb); clear hb))
           go_quiet (fail)
           go_wp2_with (first | (go_at_call 32; refine (cWi _ _ _ _).mono ?_; rintro e w' ⟨rfl, n, rfl⟩) | (go_at_call 33; refine (impl_undosFault.calls K A4 c4 X.f4 (uf X.f4) _ (by first | exact Kd.C_drewN (Kd.C_alloc HR4.out _) _ | exact Kd.C_alloc HR4.out _) HL4.out HUX.out).mono ?_; rintro e w5 ⟨rfl, hb⟩; have hbw := Aside0.mk (show Below wr.heap.size wr w5 from below_step zf hb); clear hb))
           go_ret
           exact ⟨by rw [HE.out]; rfl, (HB.out.trans (hbw.out.mono HB.out.size))⟩
          have gs2 : (X.f2 != 2) = true := by simp [bne, hs2]
          have hf := Aside0.mk (show txnG uf nx ck txns k X Y = 1 from by simp [txnG, txnBad, hin1, hin2, hin3, hin4, hd0, hs2, hk0])
          have HE := Aside0.mk (show r = 1 from by have q := HF2.out; rw [show a = 1 from scan_ret (v := 1) HA.out hlt (by show txnG uf nx ck txns k (txns.getD k z45) (txns.getD (k - 1) z45) = _; rw [← HX.out, ← HY.out]; exact hf.out) (by decide), if_neg (by decide)] at q; exact q)
          go_wp2_with (first | (go_at_call 32; refine (cWi _ _ _ _).mono ?_; rintro e w' ⟨rfl, n, rfl⟩) | (go_at_call 33; refine (impl_undosFault.calls K A4 c4 X.f4 (uf X.f4) _ (by first | exact Kd.C_drewN (Kd.C_alloc HR4.out _) _ | exact Kd.C_alloc HR4.out _) HL4.out HUX.out).mono ?_; rintro e w5 ⟨rfl, hb⟩; have hbw := Aside0.mk (show Below wr.heap.size wr w5 from below_step zf hb); clear hb))
          go_quiet (fail)
          go_wp2_with (first | (go_at_call 32; refine (cWi _ _ _ _).mono ?_; rintro e w' ⟨rfl, n, rfl⟩) | (go_at_call 33; refine (impl_undosFault.calls K A4 c4 X.f4 (uf X.f4) _ (by first | exact Kd.C_drewN (Kd.C_alloc HR4.out _) _ | exact Kd.C_alloc HR4.out _) HL4.out HUX.out).mono ?_; rintro e w5 ⟨rfl, hb⟩; have hbw := Aside0.mk (show Below wr.heap.size wr w5 from below_step zf hb); clear hb))
          go_ret
          exact ⟨by rw [HE.out]; rfl, zb⟩
         skip
         have hf := Aside0.mk (show txnG uf nx ck txns k X Y = 3 from by simp [txnG, txnBad, hin1, hin2, hin3, hin4, hk0])
         have HE := Aside0.mk (show r = 3 from by have q := HF2.out; rw [show a = 3 from scan_ret (v := 3) HA.out hlt (by show txnG uf nx ck txns k (txns.getD k z45) (txns.getD (k - 1) z45) = _; rw [← HX.out, ← HY.out]; exact hf.out) (by decide), if_neg (by decide)] at q; exact q)
         go_wp2_with (first | (go_at_call 32; refine (cWi _ _ _ _).mono ?_; rintro e w' ⟨rfl, n, rfl⟩) | (go_at_call 33; refine (impl_undosFault.calls K A4 c4 X.f4 (uf X.f4) _ (by first | exact Kd.C_drewN (Kd.C_alloc HR4.out _) _ | exact Kd.C_alloc HR4.out _) HL4.out HUX.out).mono ?_; rintro e w5 ⟨rfl, hb⟩; have hbw := Aside0.mk (show Below wr.heap.size wr w5 from below_step zf hb); clear hb))
         go_ret
         exact ⟨by rw [HE.out]; rfl, zb⟩
        skip
        have hf := Aside0.mk (show txnG uf nx ck txns k X Y = 3 from by simp [txnG, txnBad, hin1, hin2, hin3, hk0])
        have HE := Aside0.mk (show r = 3 from by have q := HF2.out; rw [show a = 3 from scan_ret (v := 3) HA.out hlt (by show txnG uf nx ck txns k (txns.getD k z45) (txns.getD (k - 1) z45) = _; rw [← HX.out, ← HY.out]; exact hf.out) (by decide), if_neg (by decide)] at q; exact q)
        go_wp2_with (first | (go_at_call 32; refine (cWi _ _ _ _).mono ?_; rintro e w' ⟨rfl, n, rfl⟩) | (go_at_call 33; refine (impl_undosFault.calls K A4 c4 X.f4 (uf X.f4) _ (by first | exact Kd.C_drewN (Kd.C_alloc HR4.out _) _ | exact Kd.C_alloc HR4.out _) HL4.out HUX.out).mono ?_; rintro e w5 ⟨rfl, hb⟩; have hbw := Aside0.mk (show Below wr.heap.size wr w5 from below_step zf hb); clear hb))
        go_ret
        exact ⟨by rw [HE.out]; rfl, zb⟩
       skip
       have hf := Aside0.mk (show txnG uf nx ck txns k X Y = 3 from by simp [txnG, txnBad, hin1, hin2, hk0])
       have HE := Aside0.mk (show r = 3 from by have q := HF2.out; rw [show a = 3 from scan_ret (v := 3) HA.out hlt (by show txnG uf nx ck txns k (txns.getD k z45) (txns.getD (k - 1) z45) = _; rw [← HX.out, ← HY.out]; exact hf.out) (by decide), if_neg (by decide)] at q; exact q)
       go_wp2_with (first | (go_at_call 32; refine (cWi _ _ _ _).mono ?_; rintro e w' ⟨rfl, n, rfl⟩) | (go_at_call 33; refine (impl_undosFault.calls K A4 c4 X.f4 (uf X.f4) _ (by first | exact Kd.C_drewN (Kd.C_alloc HR4.out _) _ | exact Kd.C_alloc HR4.out _) HL4.out HUX.out).mono ?_; rintro e w5 ⟨rfl, hb⟩; have hbw := Aside0.mk (show Below wr.heap.size wr w5 from below_step zf hb); clear hb))
       go_ret
       exact ⟨by rw [HE.out]; rfl, zb⟩
      skip
      have hf := Aside0.mk (show txnG uf nx ck txns k X Y = 3 from by simp [txnG, txnBad, hin1, hk0])
      have HE := Aside0.mk (show r = 3 from by have q := HF2.out; rw [show a = 3 from scan_ret (v := 3) HA.out hlt (by show txnG uf nx ck txns k (txns.getD k z45) (txns.getD (k - 1) z45) = _; rw [← HX.out, ← HY.out]; exact hf.out) (by decide), if_neg (by decide)] at q; exact q)
      go_wp2_with (first | (go_at_call 32; refine (cWi _ _ _ _).mono ?_; rintro e w' ⟨rfl, n, rfl⟩) | (go_at_call 33; refine (impl_undosFault.calls K A4 c4 X.f4 (uf X.f4) _ (by first | exact Kd.C_drewN (Kd.C_alloc HR4.out _) _ | exact Kd.C_alloc HR4.out _) HL4.out HUX.out).mono ?_; rintro e w5 ⟨rfl, hb⟩; have hbw := Aside0.mk (show Below wr.heap.size wr w5 from below_step zf hb); clear hb))
      go_ret
      exact ⟨by rw [HE.out]; rfl, zb⟩
    have hkn : k = txns.length := by omega
    have HF3 := Aside0.mk (show r = (if b = 0 then c else b) from by have q := HF2.out; rw [show a = 0 from scan_end HA.out hkn, if_pos rfl] at q; exact q)
    have c3 : decide (k < txns.length) = false := decide_eq_false hlt
    have c4 : decide ((k : Int) < (txns.length : Int)) = false := decide_eq_false (by omega)
    clear hkn HA HG HI
    go_wp2
    clear z0 z1 z2 z3 ne0 hbg c3 c4 hlt hk
    obtain ⟨wo, rfl⟩ : ∃ wo : World, wo = wr := ⟨_, rfl⟩
    go_loopg [124] (rows.length + 1) (fun gg v15 wr => ∃ k : Nat, k ≤ rows.length ∧ v15 = .int .i64 (k : Int) ∧ Aside0 (rows.length - k < gg) ∧ Aside0 (scanI (fun i => rowG cf ck txns i (rows.getD i z49) (rows.getD (i - 1) z49)) (rows.length - k) k = b) ∧ Aside0 (Below w.heap.size w wr) ∧ Aside0 (wr.heap[w.heap.size]? = some (.cells #[.int .i64 nx, .int .i64 ck, .slice A2 txns.length c2, .slice A3 rows.length c3] 33 (0, 0))))
    case atStart => exact ⟨0, by omega, rfl, ⟨by omega⟩, HI2, ⟨zb⟩, BK⟩
    case round =>
     clear HB BK
     obtain ⟨k, hk, rfl, HG, HA, HB, BK⟩ := hrel
     have hbg := blk_lt BK.out
     have ne0 : w.heap.size ≠ wr.heap.size := Nat.ne_of_lt hbg
     have z0 : wr.cell? ⟨w.heap.size, 0, none⟩ = some (.int .i64 nx) := (blk_cell BK.out 0).trans rfl
     have z1 : wr.cell? ⟨w.heap.size, 1, none⟩ = some (.int .i64 ck) := (blk_cell BK.out 1).trans rfl
     have z2 : wr.cell? ⟨w.heap.size, 2, none⟩ = some (.slice A2 txns.length c2) := (blk_cell BK.out 2).trans rfl
     have z3 : wr.cell? ⟨w.heap.size, 3, none⟩ = some (.slice A3 rows.length c3) := (blk_cell BK.out 3).trans rfl
     by_cases hlt : k < rows.length
     ·have g0 : (0 : Int) ≤ (k : Int) := by omega
      have g1 : (k : Int) < (rows.length : Int) := by omega
      obtain ⟨ad, A1, c1, ea, hx0, hx1, hl1, hr1⟩ := at_T49 (Kd.C_below HR3.out HB.out) (k : Int) g0 g1
      cases ea
      obtain ⟨X, hX⟩ : ∃ x, x = rows.getD k z49 := ⟨_, rfl⟩
      obtain ⟨Y, hY⟩ : ∃ x, x = rows.getD (k - 1) z49 := ⟨_, rfl⟩
      rw [show rd_T49 rows (k : Int) = X from hX.symm, show (k : Int).toNat = k from Int.toNat_natCast k] at hx0  hx1
      rw [show rd_T49 rows (k : Int) = X from hX.symm] at   hl1  hr1
      obtain ⟨cx, hcx⟩ : ∃ x, x = cf X.f1 := ⟨_, rfl⟩
      have HCX0 := Aside0.mk hcx
      have HCX := Aside0.mk (show impl_ChainFault.f K X.f1 = some cx from by rw [hcx, hX, Lb.getD_at hlt]; exact HCF.out _ (List.getElem_mem hlt))
      have HX := Aside0.mk hX
      have HR1 := Aside0.mk hr1
      have HL1 := Aside0.mk hl1
      clear hX hr1 hl1 hcx
      by_cases kp : 0 < k
      ·have hk0 : decide (0 < k) = true := decide_eq_true kp
       have hk1 : decide ((0 : Int) < (k : Int)) = true := decide_eq_true (by omega)
       have g2 : (0 : Int) ≤ (k : Int) - 1 := by omega
       have g3 : (k : Int) - 1 < (rows.length : Int) := by omega
       have g4 : (1 : Int) ≤ (k : Int) := by omega
       have gw : IntKind.i64.wrap ((k : Int) - 1) = (k : Int) - 1 := IntWalk.i64_in _ (by omega)
       obtain ⟨ad2, B1, e1, ea, hy0, -, -, -⟩ := at_T49 (Kd.C_below HR3.out HB.out) ((k : Int) - 1) g2 g3
       cases ea
       rw [show rd_T49 rows ((k : Int) - 1) = Y from by rw [hY]; show rows.getD ((k : Int) - 1).toNat z49 = _; congr 1; omega, show ((k : Int) - 1).toNat = k - 1 from by omega] at hy0
       have HY := Aside0.mk hY
       have hyb := (World.cell?_alloc_lt wr (Obj.cells #[.int .i64 X.f0, .slice A1 X.f1.length c1] 49) _ (World.block_lt_of_cell? wr _ hy0)).trans hy0
       clear hY kp hy0
       rcases hb_ (inB X.f0 0 31) with hkey | hkey
       ·skip
        rcases hb_ (decide (X.f0 ≤ Y.f0)) with hle | hle
        ·skip
         have hf := Aside0.mk (show rowG cf ck txns k X Y = 1 from by unfold rowG; simp [rowBad, hkey, hle, hk0])
         have HE := Aside0.mk (show r = 1 from by have q := HF3.out; rw [show b = 1 from scan_ret (v := 1) HA.out hlt (by show rowG cf ck txns k (rows.getD k z49) (rows.getD (k - 1) z49) = _; rw [← HX.out, ← HY.out]; exact hf.out) (by decide), if_neg (by decide)] at q; exact q)
         go_wp2_with (go_at_call 34; refine (cKy _ _).mono ?_; rintro e w' ⟨rfl, n, rfl⟩)
         go_quiet (fail)
         go_wp2
         go_ret
         exact ⟨by rw [HE.out]; rfl, zb⟩
        skip
        rcases hb_ (((X.f1.length : Int) == 0)) with hemp | hemp
        ·have gemp : (X.f1.length == 0) = true := by simpa using hemp
         have hf := Aside0.mk (show rowG cf ck txns k X Y = 1 from by unfold rowG; simp [rowBad, hkey, hle, hemp, hk0])
         have HE := Aside0.mk (show r = 1 from by have q := HF3.out; rw [show b = 1 from scan_ret (v := 1) HA.out hlt (by show rowG cf ck txns k (rows.getD k z49) (rows.getD (k - 1) z49) = _; rw [← HX.out, ← HY.out]; exact hf.out) (by decide), if_neg (by decide)] at q; exact q)
         go_wp2_with (go_at_call 34; refine (cKy _ _).mono ?_; rintro e w' ⟨rfl, n, rfl⟩)
         go_quiet (fail)
         go_wp2
         go_ret
         exact ⟨by rw [HE.out]; rfl, zb⟩
        have gemp : (X.f1.length == 0) = false := by simpa using hemp
        have gl0 : 0 < X.f1.length := by have := hemp; simp at this; exact List.length_pos_iff.2 this
        have gl1 : decide (0 < X.f1.length) = true := decide_eq_true gl0
        have gl2 : decide ((0 : Int) < (X.f1.length : Int)) = true := decide_eq_true (by omega)
        obtain ⟨V0, hV0⟩ : ∃ x, x = X.f1.getD 0 z51 := ⟨_, rfl⟩
        have HV0 := Aside0.mk hV0
        obtain ⟨q1, hq1⟩ : ∃ q, q = X.f1.any (fun x => decide (ck < x.f1)) := ⟨_, rfl⟩
        have HQ1 := Aside0.mk hq1
        obtain ⟨q2, hq2⟩ : ∃ q, q = txns.any (fun t => (t.f0 == V0.f0) && undoesF t X.f0) := ⟨_, rfl⟩
        have HQ2 := Aside0.mk hq2
        clear hV0 hq1 hq2
        rcases hb_ ((cx == 0)) with hcx | hcx
        ·have gcx : (cx != 0) = false := by simp [bne, hcx]
         rcases hb_ (q1) with hq1 | hq1
         ·skip
          have hf := Aside0.mk (show rowG cf ck txns k X Y = 1 from by have hz : cx = 0 := (by simpa using hcx); unfold rowG fstBad; rw [← HV0.out, ← HQ1.out, ← HQ2.out, ← HCX0.out]; simp [rowBad, hkey, hle, hemp, hk0, hz, hq1])
          have HE := Aside0.mk (show r = 1 from by have q := HF3.out; rw [show b = 1 from scan_ret (v := 1) HA.out hlt (by show rowG cf ck txns k (rows.getD k z49) (rows.getD (k - 1) z49) = _; rw [← HX.out, ← HY.out]; exact hf.out) (by decide), if_neg (by decide)] at q; exact q)
          go_wp2_with (go_at_call 34; refine (cKy _ _).mono ?_; rintro e w' ⟨rfl, n, rfl⟩)
          go_quiet (fail)
          go_wp2_with (first | (go_at_call 35; refine (impl_ChainFault.calls K A1 c1 X.f1 cx _ (by first | exact Kd.C_drewN (Kd.C_alloc HR1.out _) _ | exact Kd.C_alloc HR1.out _) HL1.out HCX.out).mono ?_; rintro e w5 ⟨rfl, hb⟩; have HB5 := Aside0.mk (show Below wr.heap.size wr w5 from below_step zf hb); have RB5 := Aside0.mk (show w5.heap[wr.heap.size]? = some (Obj.cells #[.int .i64 X.f0, .slice A1 X.f1.length c1] 49) from keepB hb (blk_new wr _)); clear hb; have BK5 := Aside0.mk (keepB HB5.out BK.out); obtain ⟨y0, y1, -, -⟩ := Lv.blks2 RB5.out; obtain ⟨e0, e1, e2, e3, -, -, -, -⟩ := Lv.blks4 BK5.out; obtain ⟨ad3, ea, v0, v1, v2, v3⟩ := at_T51 (Kd.C_below HR1.out HB5.out) 0 (by decide) (by have := gl0; omega); cases ea; rw [show rd_T51 X.f1 0 = V0 from HV0.out.symm] at v0 v1 v2 v3; have u0 : w5.cell? ad3 = some (.int .i64 V0.f0) := v0; have u1 : w5.cell? ⟨ad3.block, ad3.off + 1, none⟩ = some (.int .i64 V0.f1) := v1; have u2 : w5.cell? ⟨ad3.block, ad3.off + 2, none⟩ = some (.bool V0.f2) := v2; have u3 : w5.cell? ⟨ad3.block, ad3.off + 3, none⟩ = some (.int .i64 V0.f3) := v3; clear v0 v1 v2 v3; have m0 : w.heap.size ≠ w5.heap.size := Nat.ne_of_lt (blk_lt BK5.out); have m1 : wr.heap.size ≠ w5.heap.size := Nat.ne_of_lt (blk_lt RB5.out); have m2 : wr.heap.size < w5.heap.size := blk_lt RB5.out; have m3 : w.heap.size < w5.heap.size := blk_lt BK5.out) | (go_at_call 36; refine (cAnyV ck w.heap.size _ c1 X.f1 _ q1 HQ1.out (Kd.C_alloc (Kd.C_below HR1.out HB5.out) _) (by simp; omega) ((World.cell?_alloc_lt w5 _ ⟨w.heap.size, 1, none⟩ m3).trans e1)).mono ?_; rintro e w6 ⟨rfl, hb⟩; have HB6 := Aside0.mk (show Below wr.heap.size wr w6 from below_step (below_alloc HB5.out _) hb); have BK6 := Aside0.mk (keepB hb (blk_alloc BK5.out _)); have RB6 := Aside0.mk (keepB hb (blk_alloc RB5.out _)); have VB6 := Aside0.mk (show w6.heap[w5.heap.size]? = some (Obj.cells #[.int .i64 V0.f0, .int .i64 V0.f1, .bool V0.f2, .int .i64 V0.f3] 51) from keepB hb (blk_new w5 _)); clear hb; obtain ⟨f0, f1, f2, f3, -, -, -, -⟩ := Lv.blks4 BK6.out; obtain ⟨g10, g11, g12, g13, -, -, -, -⟩ := Lv.blks4 VB6.out))
          go_ret
          exact ⟨by rw [HE.out]; rfl, HB.out.trans (HB6.out.mono HB.out.size)⟩
         skip
         rcases hb_ ((V0.f1 == 0)) with hv0 | hv0
         ·have gv0 : (V0.f1 != 0) = false := by simp [bne, hv0]
          rcases hb_ (q2) with hq2 | hq2
          ·skip
           have hf := Aside0.mk (show rowG cf ck txns k X Y = 0 from by have hz : cx = 0 := (by simpa using hcx); unfold rowG fstBad; rw [← HV0.out, ← HQ1.out, ← HQ2.out, ← HCX0.out]; simp [rowBad, hkey, hle, hemp, hk0, hz, hq1, hv0, hq2])
           have HS := Aside0.mk (scan_next HA.out hlt (by show rowG cf ck txns k (rows.getD k z49) (rows.getD (k - 1) z49) = _; rw [← HX.out, ← HY.out]; exact hf.out))
           go_wp2_with (go_at_call 34; refine (cKy _ _).mono ?_; rintro e w' ⟨rfl, n, rfl⟩)
           go_quiet (fail)
           go_wp2_with (first | (go_at_call 35; refine (impl_ChainFault.calls K A1 c1 X.f1 cx _ (by first | exact Kd.C_drewN (Kd.C_alloc HR1.out _) _ | exact Kd.C_alloc HR1.out _) HL1.out HCX.out).mono ?_; rintro e w5 ⟨rfl, hb⟩; have HB5 := Aside0.mk (show Below wr.heap.size wr w5 from below_step zf hb); have RB5 := Aside0.mk (show w5.heap[wr.heap.size]? = some (Obj.cells #[.int .i64 X.f0, .slice A1 X.f1.length c1] 49) from keepB hb (blk_new wr _)); clear hb; have BK5 := Aside0.mk (keepB HB5.out BK.out); obtain ⟨y0, y1, -, -⟩ := Lv.blks2 RB5.out; obtain ⟨e0, e1, e2, e3, -, -, -, -⟩ := Lv.blks4 BK5.out; obtain ⟨ad3, ea, v0, v1, v2, v3⟩ := at_T51 (Kd.C_below HR1.out HB5.out) 0 (by decide) (by have := gl0; omega); cases ea; rw [show rd_T51 X.f1 0 = V0 from HV0.out.symm] at v0 v1 v2 v3; have u0 : w5.cell? ad3 = some (.int .i64 V0.f0) := v0; have u1 : w5.cell? ⟨ad3.block, ad3.off + 1, none⟩ = some (.int .i64 V0.f1) := v1; have u2 : w5.cell? ⟨ad3.block, ad3.off + 2, none⟩ = some (.bool V0.f2) := v2; have u3 : w5.cell? ⟨ad3.block, ad3.off + 3, none⟩ = some (.int .i64 V0.f3) := v3; clear v0 v1 v2 v3; have m0 : w.heap.size ≠ w5.heap.size := Nat.ne_of_lt (blk_lt BK5.out); have m1 : wr.heap.size ≠ w5.heap.size := Nat.ne_of_lt (blk_lt RB5.out); have m2 : wr.heap.size < w5.heap.size := blk_lt RB5.out; have m3 : w.heap.size < w5.heap.size := blk_lt BK5.out) | (go_at_call 36; refine (cAnyV ck w.heap.size _ c1 X.f1 _ q1 HQ1.out (Kd.C_alloc (Kd.C_below HR1.out HB5.out) _) (by simp; omega) ((World.cell?_alloc_lt w5 _ ⟨w.heap.size, 1, none⟩ m3).trans e1)).mono ?_; rintro e w6 ⟨rfl, hb⟩; have HB6 := Aside0.mk (show Below wr.heap.size wr w6 from below_step (below_alloc HB5.out _) hb); have BK6 := Aside0.mk (keepB hb (blk_alloc BK5.out _)); have RB6 := Aside0.mk (keepB hb (blk_alloc RB5.out _)); have VB6 := Aside0.mk (show w6.heap[w5.heap.size]? = some (Obj.cells #[.int .i64 V0.f0, .int .i64 V0.f1, .bool V0.f2, .int .i64 V0.f3] 51) from keepB hb (blk_new w5 _)); clear hb; obtain ⟨f0, f1, f2, f3, -, -, -, -⟩ := Lv.blks4 BK6.out; obtain ⟨g10, g11, g12, g13, -, -, -, -⟩ := Lv.blks4 VB6.out) | (go_at_call 38; refine (cAnyT V0.f0 X.f0 w5.heap.size wr.heap.size A2 c2 txns _ q2 HQ2.out (Kd.C_below HR2.out (HB.out.trans (HB6.out.mono HB.out.size))) (blk_lt VB6.out) (blk_lt RB6.out) g10 ((blk_cell RB6.out 0).trans rfl)).mono ?_; rintro e w7 ⟨rfl, hb⟩; have HB7 := Aside0.mk (show Below wr.heap.size wr w7 from below_step HB6.out hb); have BK7 := Aside0.mk (keepB hb BK6.out); clear hb))
           go_roundg (rows.length - k)
           case measure => have := HG.out; omega
           case rel => exact ⟨k + 1, by omega, by first | rfl | go_num, ⟨by omega⟩, HS, ⟨HB.out.trans (HB7.out.mono HB.out.size)⟩, BK7⟩
          skip
          have hf := Aside0.mk (show rowG cf ck txns k X Y = 1 from by have hz : cx = 0 := (by simpa using hcx); unfold rowG fstBad; rw [← HV0.out, ← HQ1.out, ← HQ2.out, ← HCX0.out]; simp [rowBad, hkey, hle, hemp, hk0, hz, hq1, hv0, hq2])
          have HE := Aside0.mk (show r = 1 from by have q := HF3.out; rw [show b = 1 from scan_ret (v := 1) HA.out hlt (by show rowG cf ck txns k (rows.getD k z49) (rows.getD (k - 1) z49) = _; rw [← HX.out, ← HY.out]; exact hf.out) (by decide), if_neg (by decide)] at q; exact q)
          go_wp2_with (go_at_call 34; refine (cKy _ _).mono ?_; rintro e w' ⟨rfl, n, rfl⟩)
          go_quiet (fail)
          go_wp2_with (first | (go_at_call 35; refine (impl_ChainFault.calls K A1 c1 X.f1 cx _ (by first | exact Kd.C_drewN (Kd.C_alloc HR1.out _) _ | exact Kd.C_alloc HR1.out _) HL1.out HCX.out).mono ?_; rintro e w5 ⟨rfl, hb⟩; have HB5 := Aside0.mk (show Below wr.heap.size wr w5 from below_step zf hb); have RB5 := Aside0.mk (show w5.heap[wr.heap.size]? = some (Obj.cells #[.int .i64 X.f0, .slice A1 X.f1.length c1] 49) from keepB hb (blk_new wr _)); clear hb; have BK5 := Aside0.mk (keepB HB5.out BK.out); obtain ⟨y0, y1, -, -⟩ := Lv.blks2 RB5.out; obtain ⟨e0, e1, e2, e3, -, -, -, -⟩ := Lv.blks4 BK5.out; obtain ⟨ad3, ea, v0, v1, v2, v3⟩ := at_T51 (Kd.C_below HR1.out HB5.out) 0 (by decide) (by have := gl0; omega); cases ea; rw [show rd_T51 X.f1 0 = V0 from HV0.out.symm] at v0 v1 v2 v3; have u0 : w5.cell? ad3 = some (.int .i64 V0.f0) := v0; have u1 : w5.cell? ⟨ad3.block, ad3.off + 1, none⟩ = some (.int .i64 V0.f1) := v1; have u2 : w5.cell? ⟨ad3.block, ad3.off + 2, none⟩ = some (.bool V0.f2) := v2; have u3 : w5.cell? ⟨ad3.block, ad3.off + 3, none⟩ = some (.int .i64 V0.f3) := v3; clear v0 v1 v2 v3; have m0 : w.heap.size ≠ w5.heap.size := Nat.ne_of_lt (blk_lt BK5.out); have m1 : wr.heap.size ≠ w5.heap.size := Nat.ne_of_lt (blk_lt RB5.out); have m2 : wr.heap.size < w5.heap.size := blk_lt RB5.out; have m3 : w.heap.size < w5.heap.size := blk_lt BK5.out) | (go_at_call 36; refine (cAnyV ck w.heap.size _ c1 X.f1 _ q1 HQ1.out (Kd.C_alloc (Kd.C_below HR1.out HB5.out) _) (by simp; omega) ((World.cell?_alloc_lt w5 _ ⟨w.heap.size, 1, none⟩ m3).trans e1)).mono ?_; rintro e w6 ⟨rfl, hb⟩; have HB6 := Aside0.mk (show Below wr.heap.size wr w6 from below_step (below_alloc HB5.out _) hb); have BK6 := Aside0.mk (keepB hb (blk_alloc BK5.out _)); have RB6 := Aside0.mk (keepB hb (blk_alloc RB5.out _)); have VB6 := Aside0.mk (show w6.heap[w5.heap.size]? = some (Obj.cells #[.int .i64 V0.f0, .int .i64 V0.f1, .bool V0.f2, .int .i64 V0.f3] 51) from keepB hb (blk_new w5 _)); clear hb; obtain ⟨f0, f1, f2, f3, -, -, -, -⟩ := Lv.blks4 BK6.out; obtain ⟨g10, g11, g12, g13, -, -, -, -⟩ := Lv.blks4 VB6.out) | (go_at_call 38; refine (cAnyT V0.f0 X.f0 w5.heap.size wr.heap.size A2 c2 txns _ q2 HQ2.out (Kd.C_below HR2.out (HB.out.trans (HB6.out.mono HB.out.size))) (blk_lt VB6.out) (blk_lt RB6.out) g10 ((blk_cell RB6.out 0).trans rfl)).mono ?_; rintro e w7 ⟨rfl, hb⟩; have HB7 := Aside0.mk (show Below wr.heap.size wr w7 from below_step HB6.out hb); have BK7 := Aside0.mk (keepB hb BK6.out); clear hb))
          go_ret
          exact ⟨by rw [HE.out]; rfl, HB.out.trans (HB7.out.mono HB.out.size)⟩
         have gv0 : (V0.f1 != 0) = true := by simp [bne, hv0]
         have hf := Aside0.mk (show rowG cf ck txns k X Y = 0 from by have hz : cx = 0 := (by simpa using hcx); unfold rowG fstBad; rw [← HV0.out, ← HQ1.out, ← HQ2.out, ← HCX0.out]; simp [rowBad, hkey, hle, hemp, hk0, hz, hq1, hv0])
         have HS := Aside0.mk (scan_next HA.out hlt (by show rowG cf ck txns k (rows.getD k z49) (rows.getD (k - 1) z49) = _; rw [← HX.out, ← HY.out]; exact hf.out))
         go_wp2_with (go_at_call 34; refine (cKy _ _).mono ?_; rintro e w' ⟨rfl, n, rfl⟩)
         go_quiet (fail)
         go_wp2_with (first | (go_at_call 35; refine (impl_ChainFault.calls K A1 c1 X.f1 cx _ (by first | exact Kd.C_drewN (Kd.C_alloc HR1.out _) _ | exact Kd.C_alloc HR1.out _) HL1.out HCX.out).mono ?_; rintro e w5 ⟨rfl, hb⟩; have HB5 := Aside0.mk (show Below wr.heap.size wr w5 from below_step zf hb); have RB5 := Aside0.mk (show w5.heap[wr.heap.size]? = some (Obj.cells #[.int .i64 X.f0, .slice A1 X.f1.length c1] 49) from keepB hb (blk_new wr _)); clear hb; have BK5 := Aside0.mk (keepB HB5.out BK.out); obtain ⟨y0, y1, -, -⟩ := Lv.blks2 RB5.out; obtain ⟨e0, e1, e2, e3, -, -, -, -⟩ := Lv.blks4 BK5.out; obtain ⟨ad3, ea, v0, v1, v2, v3⟩ := at_T51 (Kd.C_below HR1.out HB5.out) 0 (by decide) (by have := gl0; omega); cases ea; rw [show rd_T51 X.f1 0 = V0 from HV0.out.symm] at v0 v1 v2 v3; have u0 : w5.cell? ad3 = some (.int .i64 V0.f0) := v0; have u1 : w5.cell? ⟨ad3.block, ad3.off + 1, none⟩ = some (.int .i64 V0.f1) := v1; have u2 : w5.cell? ⟨ad3.block, ad3.off + 2, none⟩ = some (.bool V0.f2) := v2; have u3 : w5.cell? ⟨ad3.block, ad3.off + 3, none⟩ = some (.int .i64 V0.f3) := v3; clear v0 v1 v2 v3; have m0 : w.heap.size ≠ w5.heap.size := Nat.ne_of_lt (blk_lt BK5.out); have m1 : wr.heap.size ≠ w5.heap.size := Nat.ne_of_lt (blk_lt RB5.out); have m2 : wr.heap.size < w5.heap.size := blk_lt RB5.out; have m3 : w.heap.size < w5.heap.size := blk_lt BK5.out) | (go_at_call 36; refine (cAnyV ck w.heap.size _ c1 X.f1 _ q1 HQ1.out (Kd.C_alloc (Kd.C_below HR1.out HB5.out) _) (by simp; omega) ((World.cell?_alloc_lt w5 _ ⟨w.heap.size, 1, none⟩ m3).trans e1)).mono ?_; rintro e w6 ⟨rfl, hb⟩; have HB6 := Aside0.mk (show Below wr.heap.size wr w6 from below_step (below_alloc HB5.out _) hb); have BK6 := Aside0.mk (keepB hb (blk_alloc BK5.out _)); have RB6 := Aside0.mk (keepB hb (blk_alloc RB5.out _)); have VB6 := Aside0.mk (show w6.heap[w5.heap.size]? = some (Obj.cells #[.int .i64 V0.f0, .int .i64 V0.f1, .bool V0.f2, .int .i64 V0.f3] 51) from keepB hb (blk_new w5 _)); clear hb; obtain ⟨f0, f1, f2, f3, -, -, -, -⟩ := Lv.blks4 BK6.out; obtain ⟨g10, g11, g12, g13, -, -, -, -⟩ := Lv.blks4 VB6.out))
         go_roundg (rows.length - k)
         case measure => have := HG.out; omega
         case rel => exact ⟨k + 1, by omega, by first | rfl | go_num, ⟨by omega⟩, HS, ⟨HB.out.trans (HB6.out.mono HB.out.size)⟩, BK6⟩
        have gcx : (cx != 0) = true := by simp [bne, hcx]
        have hf := Aside0.mk (show rowG cf ck txns k X Y = cx from by unfold rowG; rw [← HCX0.out]; have hz : ¬ cx = 0 := (by simpa using hcx); simp [rowBad, hkey, hle, hemp, hk0, hz])
        have HE := Aside0.mk (show r = cx from by have q := HF3.out; rw [show b = cx from scan_ret (v := cx) HA.out hlt (by show rowG cf ck txns k (rows.getD k z49) (rows.getD (k - 1) z49) = _; rw [← HX.out, ← HY.out]; exact hf.out) (by simpa using hcx), if_neg (by simpa using hcx)] at q; exact q)
        go_wp2_with (go_at_call 34; refine (cKy _ _).mono ?_; rintro e w' ⟨rfl, n, rfl⟩)
        go_quiet (fail)
        go_wp2_with (go_at_call 35; refine (impl_ChainFault.calls K A1 c1 X.f1 cx _ (by first | exact Kd.C_drewN (Kd.C_alloc HR1.out _) _ | exact Kd.C_alloc HR1.out _) HL1.out HCX.out).mono ?_; rintro e w5 ⟨rfl, hb⟩; have HB5 := Aside0.mk (show Below wr.heap.size wr w5 from below_step zf hb); have RB5 := Aside0.mk (show w5.heap[wr.heap.size]? = some (Obj.cells #[.int .i64 X.f0, .slice A1 X.f1.length c1] 49) from keepB hb (blk_new wr _)); clear hb)
        go_ret
        exact ⟨by rw [HE.out]; rfl, HB.out.trans (HB5.out.mono HB.out.size)⟩
       ·skip
        have hf := Aside0.mk (show rowG cf ck txns k X Y = 3 from by unfold rowG; simp [rowBad, hkey, hk0])
        have HE := Aside0.mk (show r = 3 from by have q := HF3.out; rw [show b = 3 from scan_ret (v := 3) HA.out hlt (by show rowG cf ck txns k (rows.getD k z49) (rows.getD (k - 1) z49) = _; rw [← HX.out, ← HY.out]; exact hf.out) (by decide), if_neg (by decide)] at q; exact q)
        go_wp2_with (go_at_call 34; refine (cKy _ _).mono ?_; rintro e w' ⟨rfl, n, rfl⟩)
        go_ret
        exact ⟨by rw [HE.out]; rfl, zb⟩
      ·have hk0 : decide (0 < k) = false := decide_eq_false kp
       have hk1 : decide ((0 : Int) < (k : Int)) = false := decide_eq_false (by omega)
       have HY := Aside0.mk hY
       clear hY kp
       rcases hb_ (inB X.f0 0 31) with hkey | hkey
       ·skip
        rcases hb_ (((X.f1.length : Int) == 0)) with hemp | hemp
        ·have gemp : (X.f1.length == 0) = true := by simpa using hemp
         have hf := Aside0.mk (show rowG cf ck txns k X Y = 1 from by unfold rowG; simp [rowBad, hkey, hemp, hk0])
         have HE := Aside0.mk (show r = 1 from by have q := HF3.out; rw [show b = 1 from scan_ret (v := 1) HA.out hlt (by show rowG cf ck txns k (rows.getD k z49) (rows.getD (k - 1) z49) = _; rw [← HX.out, ← HY.out]; exact hf.out) (by decide), if_neg (by decide)] at q; exact q)
         go_wp2_with (go_at_call 34; refine (cKy _ _).mono ?_; rintro e w' ⟨rfl, n, rfl⟩)
         go_quiet (fail)
         go_wp2
         go_ret
         exact ⟨by rw [HE.out]; rfl, zb⟩
        have gemp : (X.f1.length == 0) = false := by simpa using hemp
        have gl0 : 0 < X.f1.length := by have := hemp; simp at this; exact List.length_pos_iff.2 this
        have gl1 : decide (0 < X.f1.length) = true := decide_eq_true gl0
        have gl2 : decide ((0 : Int) < (X.f1.length : Int)) = true := decide_eq_true (by omega)
        obtain ⟨V0, hV0⟩ : ∃ x, x = X.f1.getD 0 z51 := ⟨_, rfl⟩
        have HV0 := Aside0.mk hV0
        obtain ⟨q1, hq1⟩ : ∃ q, q = X.f1.any (fun x => decide (ck < x.f1)) := ⟨_, rfl⟩
        have HQ1 := Aside0.mk hq1
        obtain ⟨q2, hq2⟩ : ∃ q, q = txns.any (fun t => (t.f0 == V0.f0) && undoesF t X.f0) := ⟨_, rfl⟩
        have HQ2 := Aside0.mk hq2
        clear hV0 hq1 hq2
        rcases hb_ ((cx == 0)) with hcx | hcx
        ·have gcx : (cx != 0) = false := by simp [bne, hcx]
         rcases hb_ (q1) with hq1 | hq1
         ·skip
          have hf := Aside0.mk (show rowG cf ck txns k X Y = 1 from by have hz : cx = 0 := (by simpa using hcx); unfold rowG fstBad; rw [← HV0.out, ← HQ1.out, ← HQ2.out, ← HCX0.out]; simp [rowBad, hkey, hemp, hk0, hz, hq1])
          have HE := Aside0.mk (show r = 1 from by have q := HF3.out; rw [show b = 1 from scan_ret (v := 1) HA.out hlt (by show rowG cf ck txns k (rows.getD k z49) (rows.getD (k - 1) z49) = _; rw [← HX.out, ← HY.out]; exact hf.out) (by decide), if_neg (by decide)] at q; exact q)
          go_wp2_with (go_at_call 34; refine (cKy _ _).mono ?_; rintro e w' ⟨rfl, n, rfl⟩)
          go_quiet (fail)
          go_wp2_with (first | (go_at_call 35; refine (impl_ChainFault.calls K A1 c1 X.f1 cx _ (by first | exact Kd.C_drewN (Kd.C_alloc HR1.out _) _ | exact Kd.C_alloc HR1.out _) HL1.out HCX.out).mono ?_; rintro e w5 ⟨rfl, hb⟩; have HB5 := Aside0.mk (show Below wr.heap.size wr w5 from below_step zf hb); have RB5 := Aside0.mk (show w5.heap[wr.heap.size]? = some (Obj.cells #[.int .i64 X.f0, .slice A1 X.f1.length c1] 49) from keepB hb (blk_new wr _)); clear hb; have BK5 := Aside0.mk (keepB HB5.out BK.out); obtain ⟨y0, y1, -, -⟩ := Lv.blks2 RB5.out; obtain ⟨e0, e1, e2, e3, -, -, -, -⟩ := Lv.blks4 BK5.out; obtain ⟨ad3, ea, v0, v1, v2, v3⟩ := at_T51 (Kd.C_below HR1.out HB5.out) 0 (by decide) (by have := gl0; omega); cases ea; rw [show rd_T51 X.f1 0 = V0 from HV0.out.symm] at v0 v1 v2 v3; have u0 : w5.cell? ad3 = some (.int .i64 V0.f0) := v0; have u1 : w5.cell? ⟨ad3.block, ad3.off + 1, none⟩ = some (.int .i64 V0.f1) := v1; have u2 : w5.cell? ⟨ad3.block, ad3.off + 2, none⟩ = some (.bool V0.f2) := v2; have u3 : w5.cell? ⟨ad3.block, ad3.off + 3, none⟩ = some (.int .i64 V0.f3) := v3; clear v0 v1 v2 v3; have m0 : w.heap.size ≠ w5.heap.size := Nat.ne_of_lt (blk_lt BK5.out); have m1 : wr.heap.size ≠ w5.heap.size := Nat.ne_of_lt (blk_lt RB5.out); have m2 : wr.heap.size < w5.heap.size := blk_lt RB5.out; have m3 : w.heap.size < w5.heap.size := blk_lt BK5.out) | (go_at_call 36; refine (cAnyV ck w.heap.size _ c1 X.f1 _ q1 HQ1.out (Kd.C_alloc (Kd.C_below HR1.out HB5.out) _) (by simp; omega) ((World.cell?_alloc_lt w5 _ ⟨w.heap.size, 1, none⟩ m3).trans e1)).mono ?_; rintro e w6 ⟨rfl, hb⟩; have HB6 := Aside0.mk (show Below wr.heap.size wr w6 from below_step (below_alloc HB5.out _) hb); have BK6 := Aside0.mk (keepB hb (blk_alloc BK5.out _)); have RB6 := Aside0.mk (keepB hb (blk_alloc RB5.out _)); have VB6 := Aside0.mk (show w6.heap[w5.heap.size]? = some (Obj.cells #[.int .i64 V0.f0, .int .i64 V0.f1, .bool V0.f2, .int .i64 V0.f3] 51) from keepB hb (blk_new w5 _)); clear hb; obtain ⟨f0, f1, f2, f3, -, -, -, -⟩ := Lv.blks4 BK6.out; obtain ⟨g10, g11, g12, g13, -, -, -, -⟩ := Lv.blks4 VB6.out))
          go_ret
          exact ⟨by rw [HE.out]; rfl, HB.out.trans (HB6.out.mono HB.out.size)⟩
         skip
         rcases hb_ ((V0.f1 == 0)) with hv0 | hv0
         ·have gv0 : (V0.f1 != 0) = false := by simp [bne, hv0]
          rcases hb_ (q2) with hq2 | hq2
          ·skip
           have hf := Aside0.mk (show rowG cf ck txns k X Y = 0 from by have hz : cx = 0 := (by simpa using hcx); unfold rowG fstBad; rw [← HV0.out, ← HQ1.out, ← HQ2.out, ← HCX0.out]; simp [rowBad, hkey, hemp, hk0, hz, hq1, hv0, hq2])
           have HS := Aside0.mk (scan_next HA.out hlt (by show rowG cf ck txns k (rows.getD k z49) (rows.getD (k - 1) z49) = _; rw [← HX.out, ← HY.out]; exact hf.out))
           go_wp2_with (go_at_call 34; refine (cKy _ _).mono ?_; rintro e w' ⟨rfl, n, rfl⟩)
           go_quiet (fail)
           go_wp2_with (first | (go_at_call 35; refine (impl_ChainFault.calls K A1 c1 X.f1 cx _ (by first | exact Kd.C_drewN (Kd.C_alloc HR1.out _) _ | exact Kd.C_alloc HR1.out _) HL1.out HCX.out).mono ?_; rintro e w5 ⟨rfl, hb⟩; have HB5 := Aside0.mk (show Below wr.heap.size wr w5 from below_step zf hb); have RB5 := Aside0.mk (show w5.heap[wr.heap.size]? = some (Obj.cells #[.int .i64 X.f0, .slice A1 X.f1.length c1] 49) from keepB hb (blk_new wr _)); clear hb; have BK5 := Aside0.mk (keepB HB5.out BK.out); obtain ⟨y0, y1, -, -⟩ := Lv.blks2 RB5.out; obtain ⟨e0, e1, e2, e3, -, -, -, -⟩ := Lv.blks4 BK5.out; obtain ⟨ad3, ea, v0, v1, v2, v3⟩ := at_T51 (Kd.C_below HR1.out HB5.out) 0 (by decide) (by have := gl0; omega); cases ea; rw [show rd_T51 X.f1 0 = V0 from HV0.out.symm] at v0 v1 v2 v3; have u0 : w5.cell? ad3 = some (.int .i64 V0.f0) := v0; have u1 : w5.cell? ⟨ad3.block, ad3.off + 1, none⟩ = some (.int .i64 V0.f1) := v1; have u2 : w5.cell? ⟨ad3.block, ad3.off + 2, none⟩ = some (.bool V0.f2) := v2; have u3 : w5.cell? ⟨ad3.block, ad3.off + 3, none⟩ = some (.int .i64 V0.f3) := v3; clear v0 v1 v2 v3; have m0 : w.heap.size ≠ w5.heap.size := Nat.ne_of_lt (blk_lt BK5.out); have m1 : wr.heap.size ≠ w5.heap.size := Nat.ne_of_lt (blk_lt RB5.out); have m2 : wr.heap.size < w5.heap.size := blk_lt RB5.out; have m3 : w.heap.size < w5.heap.size := blk_lt BK5.out) | (go_at_call 36; refine (cAnyV ck w.heap.size _ c1 X.f1 _ q1 HQ1.out (Kd.C_alloc (Kd.C_below HR1.out HB5.out) _) (by simp; omega) ((World.cell?_alloc_lt w5 _ ⟨w.heap.size, 1, none⟩ m3).trans e1)).mono ?_; rintro e w6 ⟨rfl, hb⟩; have HB6 := Aside0.mk (show Below wr.heap.size wr w6 from below_step (below_alloc HB5.out _) hb); have BK6 := Aside0.mk (keepB hb (blk_alloc BK5.out _)); have RB6 := Aside0.mk (keepB hb (blk_alloc RB5.out _)); have VB6 := Aside0.mk (show w6.heap[w5.heap.size]? = some (Obj.cells #[.int .i64 V0.f0, .int .i64 V0.f1, .bool V0.f2, .int .i64 V0.f3] 51) from keepB hb (blk_new w5 _)); clear hb; obtain ⟨f0, f1, f2, f3, -, -, -, -⟩ := Lv.blks4 BK6.out; obtain ⟨g10, g11, g12, g13, -, -, -, -⟩ := Lv.blks4 VB6.out) | (go_at_call 38; refine (cAnyT V0.f0 X.f0 w5.heap.size wr.heap.size A2 c2 txns _ q2 HQ2.out (Kd.C_below HR2.out (HB.out.trans (HB6.out.mono HB.out.size))) (blk_lt VB6.out) (blk_lt RB6.out) g10 ((blk_cell RB6.out 0).trans rfl)).mono ?_; rintro e w7 ⟨rfl, hb⟩; have HB7 := Aside0.mk (show Below wr.heap.size wr w7 from below_step HB6.out hb); have BK7 := Aside0.mk (keepB hb BK6.out); clear hb))
           go_roundg (rows.length - k)
           case measure => have := HG.out; omega
           case rel => exact ⟨k + 1, by omega, by first | rfl | go_num, ⟨by omega⟩, HS, ⟨HB.out.trans (HB7.out.mono HB.out.size)⟩, BK7⟩
          skip
          have hf := Aside0.mk (show rowG cf ck txns k X Y = 1 from by have hz : cx = 0 := (by simpa using hcx); unfold rowG fstBad; rw [← HV0.out, ← HQ1.out, ← HQ2.out, ← HCX0.out]; simp [rowBad, hkey, hemp, hk0, hz, hq1, hv0, hq2])
          have HE := Aside0.mk (show r = 1 from by have q := HF3.out; rw [show b = 1 from scan_ret (v := 1) HA.out hlt (by show rowG cf ck txns k (rows.getD k z49) (rows.getD (k - 1) z49) = _; rw [← HX.out, ← HY.out]; exact hf.out) (by decide), if_neg (by decide)] at q; exact q)
          go_wp2_with (go_at_call 34; refine (cKy _ _).mono ?_; rintro e w' ⟨rfl, n, rfl⟩)
          go_quiet (fail)
          go_wp2_with (first | (go_at_call 35; refine (impl_ChainFault.calls K A1 c1 X.f1 cx _ (by first | exact Kd.C_drewN (Kd.C_alloc HR1.out _) _ | exact Kd.C_alloc HR1.out _) HL1.out HCX.out).mono ?_; rintro e w5 ⟨rfl, hb⟩; have HB5 := Aside0.mk (show Below wr.heap.size wr w5 from below_step zf hb); have RB5 := Aside0.mk (show w5.heap[wr.heap.size]? = some (Obj.cells #[.int .i64 X.f0, .slice A1 X.f1.length c1] 49) from keepB hb (blk_new wr _)); clear hb; have BK5 := Aside0.mk (keepB HB5.out BK.out); obtain ⟨y0, y1, -, -⟩ := Lv.blks2 RB5.out; obtain ⟨e0, e1, e2, e3, -, -, -, -⟩ := Lv.blks4 BK5.out; obtain ⟨ad3, ea, v0, v1, v2, v3⟩ := at_T51 (Kd.C_below HR1.out HB5.out) 0 (by decide) (by have := gl0; omega); cases ea; rw [show rd_T51 X.f1 0 = V0 from HV0.out.symm] at v0 v1 v2 v3; have u0 : w5.cell? ad3 = some (.int .i64 V0.f0) := v0; have u1 : w5.cell? ⟨ad3.block, ad3.off + 1, none⟩ = some (.int .i64 V0.f1) := v1; have u2 : w5.cell? ⟨ad3.block, ad3.off + 2, none⟩ = some (.bool V0.f2) := v2; have u3 : w5.cell? ⟨ad3.block, ad3.off + 3, none⟩ = some (.int .i64 V0.f3) := v3; clear v0 v1 v2 v3; have m0 : w.heap.size ≠ w5.heap.size := Nat.ne_of_lt (blk_lt BK5.out); have m1 : wr.heap.size ≠ w5.heap.size := Nat.ne_of_lt (blk_lt RB5.out); have m2 : wr.heap.size < w5.heap.size := blk_lt RB5.out; have m3 : w.heap.size < w5.heap.size := blk_lt BK5.out) | (go_at_call 36; refine (cAnyV ck w.heap.size _ c1 X.f1 _ q1 HQ1.out (Kd.C_alloc (Kd.C_below HR1.out HB5.out) _) (by simp; omega) ((World.cell?_alloc_lt w5 _ ⟨w.heap.size, 1, none⟩ m3).trans e1)).mono ?_; rintro e w6 ⟨rfl, hb⟩; have HB6 := Aside0.mk (show Below wr.heap.size wr w6 from below_step (below_alloc HB5.out _) hb); have BK6 := Aside0.mk (keepB hb (blk_alloc BK5.out _)); have RB6 := Aside0.mk (keepB hb (blk_alloc RB5.out _)); have VB6 := Aside0.mk (show w6.heap[w5.heap.size]? = some (Obj.cells #[.int .i64 V0.f0, .int .i64 V0.f1, .bool V0.f2, .int .i64 V0.f3] 51) from keepB hb (blk_new w5 _)); clear hb; obtain ⟨f0, f1, f2, f3, -, -, -, -⟩ := Lv.blks4 BK6.out; obtain ⟨g10, g11, g12, g13, -, -, -, -⟩ := Lv.blks4 VB6.out) | (go_at_call 38; refine (cAnyT V0.f0 X.f0 w5.heap.size wr.heap.size A2 c2 txns _ q2 HQ2.out (Kd.C_below HR2.out (HB.out.trans (HB6.out.mono HB.out.size))) (blk_lt VB6.out) (blk_lt RB6.out) g10 ((blk_cell RB6.out 0).trans rfl)).mono ?_; rintro e w7 ⟨rfl, hb⟩; have HB7 := Aside0.mk (show Below wr.heap.size wr w7 from below_step HB6.out hb); have BK7 := Aside0.mk (keepB hb BK6.out); clear hb))
          go_ret
          exact ⟨by rw [HE.out]; rfl, HB.out.trans (HB7.out.mono HB.out.size)⟩
         have gv0 : (V0.f1 != 0) = true := by simp [bne, hv0]
         have hf := Aside0.mk (show rowG cf ck txns k X Y = 0 from by have hz : cx = 0 := (by simpa using hcx); unfold rowG fstBad; rw [← HV0.out, ← HQ1.out, ← HQ2.out, ← HCX0.out]; simp [rowBad, hkey, hemp, hk0, hz, hq1, hv0])
         have HS := Aside0.mk (scan_next HA.out hlt (by show rowG cf ck txns k (rows.getD k z49) (rows.getD (k - 1) z49) = _; rw [← HX.out, ← HY.out]; exact hf.out))
         go_wp2_with (go_at_call 34; refine (cKy _ _).mono ?_; rintro e w' ⟨rfl, n, rfl⟩)
         go_quiet (fail)
         go_wp2_with (first | (go_at_call 35; refine (impl_ChainFault.calls K A1 c1 X.f1 cx _ (by first | exact Kd.C_drewN (Kd.C_alloc HR1.out _) _ | exact Kd.C_alloc HR1.out _) HL1.out HCX.out).mono ?_; rintro e w5 ⟨rfl, hb⟩; have HB5 := Aside0.mk (show Below wr.heap.size wr w5 from below_step zf hb); have RB5 := Aside0.mk (show w5.heap[wr.heap.size]? = some (Obj.cells #[.int .i64 X.f0, .slice A1 X.f1.length c1] 49) from keepB hb (blk_new wr _)); clear hb; have BK5 := Aside0.mk (keepB HB5.out BK.out); obtain ⟨y0, y1, -, -⟩ := Lv.blks2 RB5.out; obtain ⟨e0, e1, e2, e3, -, -, -, -⟩ := Lv.blks4 BK5.out; obtain ⟨ad3, ea, v0, v1, v2, v3⟩ := at_T51 (Kd.C_below HR1.out HB5.out) 0 (by decide) (by have := gl0; omega); cases ea; rw [show rd_T51 X.f1 0 = V0 from HV0.out.symm] at v0 v1 v2 v3; have u0 : w5.cell? ad3 = some (.int .i64 V0.f0) := v0; have u1 : w5.cell? ⟨ad3.block, ad3.off + 1, none⟩ = some (.int .i64 V0.f1) := v1; have u2 : w5.cell? ⟨ad3.block, ad3.off + 2, none⟩ = some (.bool V0.f2) := v2; have u3 : w5.cell? ⟨ad3.block, ad3.off + 3, none⟩ = some (.int .i64 V0.f3) := v3; clear v0 v1 v2 v3; have m0 : w.heap.size ≠ w5.heap.size := Nat.ne_of_lt (blk_lt BK5.out); have m1 : wr.heap.size ≠ w5.heap.size := Nat.ne_of_lt (blk_lt RB5.out); have m2 : wr.heap.size < w5.heap.size := blk_lt RB5.out; have m3 : w.heap.size < w5.heap.size := blk_lt BK5.out) | (go_at_call 36; refine (cAnyV ck w.heap.size _ c1 X.f1 _ q1 HQ1.out (Kd.C_alloc (Kd.C_below HR1.out HB5.out) _) (by simp; omega) ((World.cell?_alloc_lt w5 _ ⟨w.heap.size, 1, none⟩ m3).trans e1)).mono ?_; rintro e w6 ⟨rfl, hb⟩; have HB6 := Aside0.mk (show Below wr.heap.size wr w6 from below_step (below_alloc HB5.out _) hb); have BK6 := Aside0.mk (keepB hb (blk_alloc BK5.out _)); have RB6 := Aside0.mk (keepB hb (blk_alloc RB5.out _)); have VB6 := Aside0.mk (show w6.heap[w5.heap.size]? = some (Obj.cells #[.int .i64 V0.f0, .int .i64 V0.f1, .bool V0.f2, .int .i64 V0.f3] 51) from keepB hb (blk_new w5 _)); clear hb; obtain ⟨f0, f1, f2, f3, -, -, -, -⟩ := Lv.blks4 BK6.out; obtain ⟨g10, g11, g12, g13, -, -, -, -⟩ := Lv.blks4 VB6.out))
         go_roundg (rows.length - k)
         case measure => have := HG.out; omega
         case rel => exact ⟨k + 1, by omega, by first | rfl | go_num, ⟨by omega⟩, HS, ⟨HB.out.trans (HB6.out.mono HB.out.size)⟩, BK6⟩
        have gcx : (cx != 0) = true := by simp [bne, hcx]
        have hf := Aside0.mk (show rowG cf ck txns k X Y = cx from by unfold rowG; rw [← HCX0.out]; have hz : ¬ cx = 0 := (by simpa using hcx); simp [rowBad, hkey, hemp, hk0, hz])
        have HE := Aside0.mk (show r = cx from by have q := HF3.out; rw [show b = cx from scan_ret (v := cx) HA.out hlt (by show rowG cf ck txns k (rows.getD k z49) (rows.getD (k - 1) z49) = _; rw [← HX.out, ← HY.out]; exact hf.out) (by simpa using hcx), if_neg (by simpa using hcx)] at q; exact q)
        go_wp2_with (go_at_call 34; refine (cKy _ _).mono ?_; rintro e w' ⟨rfl, n, rfl⟩)
        go_quiet (fail)
        go_wp2_with (go_at_call 35; refine (impl_ChainFault.calls K A1 c1 X.f1 cx _ (by first | exact Kd.C_drewN (Kd.C_alloc HR1.out _) _ | exact Kd.C_alloc HR1.out _) HL1.out HCX.out).mono ?_; rintro e w5 ⟨rfl, hb⟩; have HB5 := Aside0.mk (show Below wr.heap.size wr w5 from below_step zf hb); have RB5 := Aside0.mk (show w5.heap[wr.heap.size]? = some (Obj.cells #[.int .i64 X.f0, .slice A1 X.f1.length c1] 49) from keepB hb (blk_new wr _)); clear hb)
        go_ret
        exact ⟨by rw [HE.out]; rfl, HB.out.trans (HB5.out.mono HB.out.size)⟩
       skip
       have hf := Aside0.mk (show rowG cf ck txns k X Y = 3 from by unfold rowG; simp [rowBad, hkey, hk0])
       have HE := Aside0.mk (show r = 3 from by have q := HF3.out; rw [show b = 3 from scan_ret (v := 3) HA.out hlt (by show rowG cf ck txns k (rows.getD k z49) (rows.getD (k - 1) z49) = _; rw [← HX.out, ← HY.out]; exact hf.out) (by decide), if_neg (by decide)] at q; exact q)
       go_wp2_with (go_at_call 34; refine (cKy _ _).mono ?_; rintro e w' ⟨rfl, n, rfl⟩)
       go_ret
       exact ⟨by rw [HE.out]; rfl, zb⟩
     have hkn : k = rows.length := by omega
     have HF4 := Aside0.mk (show r = c from by have q := HF3.out; rw [show b = 0 from scan_end HA.out hkn, if_pos rfl] at q; exact q)
     have c3 : decide (k < rows.length) = false := decide_eq_false hlt
     have c4 : decide ((k : Int) < (rows.length : Int)) = false := decide_eq_false (by omega)
     clear hkn HA HG HI2
     go_wp2
     clear z0 z1 z2 z3 ne0 hbg c3 c4 hlt hk
     obtain ⟨wp, rfl⟩ : ∃ wp : World, wp = wr := ⟨_, rfl⟩
     go_loopg [185] (txns.length + 1) (fun gg v16 wr => ∃ k : Nat, k ≤ txns.length ∧ v16 = .int .i64 (k : Int) ∧ Aside0 (txns.length - k < gg) ∧ Aside0 (scanI (fun i => ownT rows (txns.getD i z45)) (txns.length - k) k = c) ∧ Aside0 (Below w.heap.size w wr) ∧ Aside0 (wr.heap[w.heap.size]? = some (.cells #[.int .i64 nx, .int .i64 ck, .slice A2 txns.length c2, .slice A3 rows.length c3] 33 (0, 0))))
     case atStart => exact ⟨0, by omega, rfl, ⟨by omega⟩, HI3, ⟨zb⟩, BK⟩
     case round =>
      clear HB BK
      obtain ⟨k, hk, rfl, HG, HA, HB, BK⟩ := hrel
      have hbg := blk_lt BK.out
      have ne0 : w.heap.size ≠ wr.heap.size := Nat.ne_of_lt hbg
      have z0 : wr.cell? ⟨w.heap.size, 0, none⟩ = some (.int .i64 nx) := (blk_cell BK.out 0).trans rfl
      have z1 : wr.cell? ⟨w.heap.size, 1, none⟩ = some (.int .i64 ck) := (blk_cell BK.out 1).trans rfl
      have z2 : wr.cell? ⟨w.heap.size, 2, none⟩ = some (.slice A2 txns.length c2) := (blk_cell BK.out 2).trans rfl
      have z3 : wr.cell? ⟨w.heap.size, 3, none⟩ = some (.slice A3 rows.length c3) := (blk_cell BK.out 3).trans rfl
      by_cases hlt : k < txns.length
      ·have g0 : (0 : Int) ≤ (k : Int) := by omega
       have g1 : (k : Int) < (txns.length : Int) := by omega
       obtain ⟨ad, A4, c4, ea, hx0, hx1, hx2, hx3, hx4, hl4, hr4⟩ := at_T45 (Kd.C_below HR2.out HB.out) (k : Int) g0 g1
       cases ea
       obtain ⟨X, hX⟩ : ∃ x, x = txns.getD k z45 := ⟨_, rfl⟩
       rw [show rd_T45 txns (k : Int) = X from hX.symm, show (k : Int).toNat = k from Int.toNat_natCast k] at hx0 hx1 hx2 hx3 hx4
       rw [show rd_T45 txns (k : Int) = X from hX.symm] at hl4 hr4
       have HX := Aside0.mk hX
       have hn4 := hr4.2.1
       have HR4 := Aside0.mk hr4
       have HL4 := Aside0.mk hl4
       clear hX hr4 hl4
       obtain ⟨t, ht⟩ : ∃ t, ownT rows X = t := ⟨_, rfl⟩
       have HT := Aside0.mk ht
       clear ht
       go_wp2
       obtain ⟨wq, rfl⟩ : ∃ wq : World, wq = wr := ⟨_, rfl⟩
       have HBX := Aside0.mk (show Below wq.heap.size wq (wq.alloc (Obj.cells #[.int .i64 X.f0, .int .i64 X.f1, .int .i64 X.f2, .int .i64 X.f3, .slice A4 X.f4.length c4] 45)) from below_alloc (Below.refl _ _) _)
       have BKX := Aside0.mk (keepB HBX.out BK.out)
       have BXX := Aside0.mk (blk_new wq (Obj.cells #[.int .i64 X.f0, .int .i64 X.f1, .int .i64 X.f2, .int .i64 X.f3, .slice A4 X.f4.length c4] 45))
       generalize wq.alloc (Obj.cells #[.int .i64 X.f0, .int .i64 X.f1, .int .i64 X.f2, .int .i64 X.f3, .slice A4 X.f4.length c4] 45) = wb at HBX BKX BXX ⊢
       go_loopg [192] (X.f4.length + 1) (fun gi v18 wr => ∃ j : Nat, j ≤ X.f4.length ∧ v18 = .int .i64 (j : Int) ∧ Aside0 (X.f4.length - j < gi) ∧ Aside0 (scanI (fun i => ownG rows X.f0 X.f4 i (X.f4.getD i z81)) (X.f4.length - j) j = t) ∧ Aside0 (Below wq.heap.size wq wr) ∧ Aside0 (wr.heap[w.heap.size]? = some (.cells #[.int .i64 nx, .int .i64 ck, .slice (some ad) txns.length c2, .slice A3 rows.length c3] 33 (0, 0))) ∧ Aside0 (wr.heap[wq.heap.size]? = some (Obj.cells #[.int .i64 X.f0, .int .i64 X.f1, .int .i64 X.f2, .int .i64 X.f3, .slice A4 X.f4.length c4] 45)))
       case atStart => exact ⟨0, by omega, rfl, ⟨by omega⟩, HT, HBX, BKX, BXX⟩
       case round =>
        clear HBX BKX BXX
        obtain ⟨j, hj, rfl, HGi, HAi, HBi, BKi, BXi⟩ := hrel
        clear z0 z1 z2 z3 ne0 hbg hx0 hx1 hx2 hx3 hx4
        have hbg := blk_lt BKi.out
        have ne0 : w.heap.size ≠ wr.heap.size := Nat.ne_of_lt hbg
        have z0 : wr.cell? ⟨w.heap.size, 0, none⟩ = some (.int .i64 nx) := (blk_cell BKi.out 0).trans rfl
        have z1 : wr.cell? ⟨w.heap.size, 1, none⟩ = some (.int .i64 ck) := (blk_cell BKi.out 1).trans rfl
        have z2 : wr.cell? ⟨w.heap.size, 2, none⟩ = some (.slice (some ad) txns.length c2) := (blk_cell BKi.out 2).trans rfl
        have z3 : wr.cell? ⟨w.heap.size, 3, none⟩ = some (.slice A3 rows.length c3) := (blk_cell BKi.out 3).trans rfl
        have ne1 : wq.heap.size ≠ wr.heap.size := Nat.ne_of_lt (blk_lt BXi.out)
        have lt1 : wq.heap.size < wr.heap.size := blk_lt BXi.out
        obtain ⟨x0, x1, x2, x3, x4, -, -, -, -, -⟩ := Lv.blks5 BXi.out
        by_cases hlj : j < X.f4.length
        ·have j0 : (0 : Int) ≤ (j : Int) := by omega
         have j1 : (j : Int) < (X.f4.length : Int) := by omega
         obtain ⟨ad5, ea, hu0, hu1, hu2, hu3⟩ := at_T81 (Kd.C_below HR4.out HBi.out) (j : Int) j0 j1
         cases ea
         obtain ⟨U, hU⟩ : ∃ x, x = X.f4.getD j z81 := ⟨_, rfl⟩
         rw [show rd_T81 X.f4 (j : Int) = U from hU.symm, show (j : Int).toNat = j from Int.toNat_natCast j] at hu0 hu1 hu2 hu3
         have HU := Aside0.mk hU
         clear hU
         obtain ⟨q, hq⟩ : ∃ q, q = (X.f4.take j).any (fun x => x.f0 == U.f0) := ⟨_, rfl⟩
         have HQ := Aside0.mk hq
         clear hq
         obtain ⟨p, hp⟩ : ∃ p, p = isOpF (chainF rows U.f0) X.f0 := ⟨_, rfl⟩
         have HP := Aside0.mk hp
         clear hp
         have hjc : j ≤ c4 := by have := HL4.out; omega
         have hjc2 : (j : Int) ≤ (c4 : Int) := by omega
         rcases hb_ p with rfl | rfl
         ·rcases hb_ ((!q) == U.f1) with hv | hv
          ·have hf := Aside0.mk (show ownG rows X.f0 X.f4 j U = 1 from by unfold ownG; rw [← HP.out, ← HQ.out]; simp [hv])
           have HE := Aside0.mk (show r = 1 from by rw [HF4.out]; exact scan_ret (v := 1) HA.out hlt (by show ownT rows (txns.getD k z45) = 1; rw [← HX.out, HT.out]; exact scan_ret (v := 1) HAi.out hlj (by show ownG rows X.f0 X.f4 j (X.f4.getD j z81) = _; rw [← HU.out]; exact hf.out) (by decide)) (by decide))
           go_wp2_with (go_at_call 41; refine (cAnyUn U.f0 wr.heap.size _ c4 (X.f4.take j) j _ q HQ.out (by rw [List.length_take]; omega) (Kd.C_take (Kd.C_alloc (Kd.C_below HR4.out HBi.out) _) (by omega)) (by simp) ((blk_cell (blk_new wr (Obj.cells #[.int .i64 U.f0, .bool U.f1, .bool U.f2, .int .i64 U.f3] 81)) 0).trans rfl)).mono ?_; rintro e w6 ⟨rfl, hb⟩; have HB6 := Aside0.mk (show Below wq.heap.size wq w6 from below_step (below_alloc HBi.out _) hb); have BK6 := Aside0.mk (keepB hb (blk_alloc BKi.out _)); have BX6 := Aside0.mk (keepB hb (blk_alloc BXi.out _)); have BU6 := Aside0.mk (show w6.heap[wr.heap.size]? = some (Obj.cells #[.int .i64 U.f0, .bool U.f1, .bool U.f2, .int .i64 U.f3] 81) from keepB hb (blk_new wr _)); clear hb; obtain ⟨e0, e1, e2, e3, -, -, -, -⟩ := Lv.blks4 BK6.out; obtain ⟨i0, i1, i2, i3, i4, -, -, -, -, -⟩ := Lv.blks5 BX6.out; obtain ⟨k0, k1, k2, k3, -, -, -, -⟩ := Lv.blks4 BU6.out)
           refine start_ (n := 14) (S := fun W => W.cell? ⟨w.heap.size, 0, none⟩ = some (.int .i64 nx) ∧ W.cell? ⟨w.heap.size, 1, none⟩ = some (.int .i64 ck) ∧ W.cell? ⟨w.heap.size, 2, none⟩ = some (.slice (some ad) txns.length c2) ∧ W.cell? ⟨w.heap.size, 3, none⟩ = some (.slice A3 rows.length c3) ∧ W.cell? ⟨wq.heap.size, 0, none⟩ = some (.int .i64 X.f0) ∧ W.cell? ⟨wr.heap.size, 0, none⟩ = some (.int .i64 U.f0) ∧ W.cell? ⟨wr.heap.size, 1, none⟩ = some (.bool U.f1)) (ds := []) #[false, false, false, false, false, false, false, false, false, false, false, false, false, false] (by kernel_rfl) rfl rfl ⟨e0, e1, e2, e3, i0, k0, k1⟩ (fun hHeld => ?_)
           refine zp 1 205 ?_; refine zp 4 208 ?_; refine zt 0 204 ?_; refine zt 2 206 ?_; refine zt 5 209 ?_
           refine one_ (i := 3) (N := some 207) #[true, true, true, true, true, true, false, false, false, false, false, false, false, false] rfl rfl (by kernel_rfl) (by decide) (fun K hK => ?_)
           refine goes_ Tryd.func44 (by kernel_rfl) rfl #[.agg #[.int .i64 nx, .int .i64 ck, .slice (some ad) txns.length c2, .slice A3 rows.length c3], .int .i64 U.f0] (by rfl) rfl rfl zm ?_
           with_reducible refine (impl_Engine_chain.at _ _ _ _ _ A3 c3 rows U.f0 _ (Kd.C_drew (Kd.C_below HR3.out (HB.out.trans (HB6.out.mono HB.out.size))))).mono ?_
           rintro e w7 ⟨AC, cC, rfl, hcl, hcr, hb⟩
           refine ⟨_, rfl, ?_⟩
           have HB7 := Aside0.mk (show Below wq.heap.size wq w7 from below_step (below_drew1 HB6.out) hb)
           have BK7 := Aside0.mk (keepB hb BK6.out)
           have BX7 := Aside0.mk (keepB hb BX6.out)
           refine hK.out _ _ ⟨(hb.cell (p := ⟨w.heap.size, 0, none⟩) (blk_lt BK6.out)).trans e0, (hb.cell (p := ⟨w.heap.size, 1, none⟩) (blk_lt BK6.out)).trans e1, (hb.cell (p := ⟨w.heap.size, 2, none⟩) (blk_lt BK6.out)).trans e2, (hb.cell (p := ⟨w.heap.size, 3, none⟩) (blk_lt BK6.out)).trans e3, (hb.cell (p := ⟨wq.heap.size, 0, none⟩) (blk_lt BX6.out)).trans i0, (hb.cell (p := ⟨wr.heap.size, 0, none⟩) (blk_lt BU6.out)).trans k0, (hb.cell (p := ⟨wr.heap.size, 1, none⟩) (blk_lt BU6.out)).trans k1⟩ (fun hHeld => ?_)
           clear hK K
           refine norm_ (a' := ?_) ?_ ?_
           rotate_left
           ·show Act.put _ (some 207) _ = _
            simp only [Act.put, List.setIfInBounds_toArray, List.set_cons_zero, List.set_cons_succ, i64_w, i32_w]
            rfl
           refine one_ (i := 6) (N := some 210) #[true, true, true, true, true, true, true, false, false, false, false, false, false, false] rfl rfl (by kernel_rfl) (by decide) (fun K hK => ?_)
           refine goes_ Tryd.func43 (by kernel_rfl) rfl #[.slice AC (chainF rows U.f0).length cC, .int .i64 X.f0] (by rfl) rfl rfl zm ?_
           with_reducible refine (cOp _ _ _ X.f0 _ _ HP.out hcr hcl).mono ?_
           rintro e w' ⟨rfl, n, rfl⟩
           refine ⟨_, rfl, ?_⟩
           refine hK.out _ _ hHeld (fun hHeld => ?_)
           clear hK K
           refine norm_ (a' := ?_) ?_ ?_
           rotate_left
           ·show Act.put _ (some 210) _ = _
            simp only [Act.put, List.setIfInBounds_toArray, List.set_cons_zero, List.set_cons_succ, i64_w, i32_w]
            rfl
           refine zp 7 211 ?_; refine zp 8 212 ?_; refine zp 9 213 ?_; refine zp 10 214 ?_; refine zt 11 215 ?_; refine zp 12 216 ?_; refine zp 13 217 ?_
           refine done_ (by kernel_rfl) ?_
           have HB8 := Aside0.mk (HB.out.trans (HB7.out.mono HB.out.size))
           go_wp2
           go_ret
           exact ⟨by rw [HE.out]; rfl, (by repeat (first | (with_reducible first | exact HB8.out | apply pw_below_drewN) | exact HB8.out))⟩
          have hf := Aside0.mk (show ownG rows X.f0 X.f4 j U = 0 from by unfold ownG; rw [← HP.out, ← HQ.out]; simp [hv])
          have HS := Aside0.mk (scan_next HAi.out hlj (by show ownG rows X.f0 X.f4 j (X.f4.getD j z81) = _; rw [← HU.out]; exact hf.out))
          go_wp2_with (go_at_call 41; refine (cAnyUn U.f0 wr.heap.size _ c4 (X.f4.take j) j _ q HQ.out (by rw [List.length_take]; omega) (Kd.C_take (Kd.C_alloc (Kd.C_below HR4.out HBi.out) _) (by omega)) (by simp) ((blk_cell (blk_new wr (Obj.cells #[.int .i64 U.f0, .bool U.f1, .bool U.f2, .int .i64 U.f3] 81)) 0).trans rfl)).mono ?_; rintro e w6 ⟨rfl, hb⟩; have HB6 := Aside0.mk (show Below wq.heap.size wq w6 from below_step (below_alloc HBi.out _) hb); have BK6 := Aside0.mk (keepB hb (blk_alloc BKi.out _)); have BX6 := Aside0.mk (keepB hb (blk_alloc BXi.out _)); have BU6 := Aside0.mk (show w6.heap[wr.heap.size]? = some (Obj.cells #[.int .i64 U.f0, .bool U.f1, .bool U.f2, .int .i64 U.f3] 81) from keepB hb (blk_new wr _)); clear hb; obtain ⟨e0, e1, e2, e3, -, -, -, -⟩ := Lv.blks4 BK6.out; obtain ⟨i0, i1, i2, i3, i4, -, -, -, -, -⟩ := Lv.blks5 BX6.out; obtain ⟨k0, k1, k2, k3, -, -, -, -⟩ := Lv.blks4 BU6.out)
          refine start_ (n := 14) (S := fun W => W.cell? ⟨w.heap.size, 0, none⟩ = some (.int .i64 nx) ∧ W.cell? ⟨w.heap.size, 1, none⟩ = some (.int .i64 ck) ∧ W.cell? ⟨w.heap.size, 2, none⟩ = some (.slice (some ad) txns.length c2) ∧ W.cell? ⟨w.heap.size, 3, none⟩ = some (.slice A3 rows.length c3) ∧ W.cell? ⟨wq.heap.size, 0, none⟩ = some (.int .i64 X.f0) ∧ W.cell? ⟨wr.heap.size, 0, none⟩ = some (.int .i64 U.f0) ∧ W.cell? ⟨wr.heap.size, 1, none⟩ = some (.bool U.f1)) (ds := []) #[false, false, false, false, false, false, false, false, false, false, false, false, false, false] (by kernel_rfl) rfl rfl ⟨e0, e1, e2, e3, i0, k0, k1⟩ (fun hHeld => ?_)
          refine zp 1 205 ?_; refine zp 4 208 ?_; refine zt 0 204 ?_; refine zt 2 206 ?_; refine zt 5 209 ?_
          refine one_ (i := 3) (N := some 207) #[true, true, true, true, true, true, false, false, false, false, false, false, false, false] rfl rfl (by kernel_rfl) (by decide) (fun K hK => ?_)
          refine goes_ Tryd.func44 (by kernel_rfl) rfl #[.agg #[.int .i64 nx, .int .i64 ck, .slice (some ad) txns.length c2, .slice A3 rows.length c3], .int .i64 U.f0] (by rfl) rfl rfl zm ?_
          with_reducible refine (impl_Engine_chain.at _ _ _ _ _ A3 c3 rows U.f0 _ (Kd.C_drew (Kd.C_below HR3.out (HB.out.trans (HB6.out.mono HB.out.size))))).mono ?_
          rintro e w7 ⟨AC, cC, rfl, hcl, hcr, hb⟩
          refine ⟨_, rfl, ?_⟩
          have HB7 := Aside0.mk (show Below wq.heap.size wq w7 from below_step (below_drew1 HB6.out) hb)
          have BK7 := Aside0.mk (keepB hb BK6.out)
          have BX7 := Aside0.mk (keepB hb BX6.out)
          refine hK.out _ _ ⟨(hb.cell (p := ⟨w.heap.size, 0, none⟩) (blk_lt BK6.out)).trans e0, (hb.cell (p := ⟨w.heap.size, 1, none⟩) (blk_lt BK6.out)).trans e1, (hb.cell (p := ⟨w.heap.size, 2, none⟩) (blk_lt BK6.out)).trans e2, (hb.cell (p := ⟨w.heap.size, 3, none⟩) (blk_lt BK6.out)).trans e3, (hb.cell (p := ⟨wq.heap.size, 0, none⟩) (blk_lt BX6.out)).trans i0, (hb.cell (p := ⟨wr.heap.size, 0, none⟩) (blk_lt BU6.out)).trans k0, (hb.cell (p := ⟨wr.heap.size, 1, none⟩) (blk_lt BU6.out)).trans k1⟩ (fun hHeld => ?_)
          clear hK K
          refine norm_ (a' := ?_) ?_ ?_
          rotate_left
          ·show Act.put _ (some 207) _ = _
           simp only [Act.put, List.setIfInBounds_toArray, List.set_cons_zero, List.set_cons_succ, i64_w, i32_w]
           rfl
          refine one_ (i := 6) (N := some 210) #[true, true, true, true, true, true, true, false, false, false, false, false, false, false] rfl rfl (by kernel_rfl) (by decide) (fun K hK => ?_)
          refine goes_ Tryd.func43 (by kernel_rfl) rfl #[.slice AC (chainF rows U.f0).length cC, .int .i64 X.f0] (by rfl) rfl rfl zm ?_
          with_reducible refine (cOp _ _ _ X.f0 _ _ HP.out hcr hcl).mono ?_
          rintro e w' ⟨rfl, n, rfl⟩
          refine ⟨_, rfl, ?_⟩
          refine hK.out _ _ hHeld (fun hHeld => ?_)
          clear hK K
          refine norm_ (a' := ?_) ?_ ?_
          rotate_left
          ·show Act.put _ (some 210) _ = _
           simp only [Act.put, List.setIfInBounds_toArray, List.set_cons_zero, List.set_cons_succ, i64_w, i32_w]
           rfl
          refine zp 7 211 ?_; refine zp 8 212 ?_; refine zp 9 213 ?_; refine zp 10 214 ?_; refine zt 11 215 ?_; refine zp 12 216 ?_; refine zp 13 217 ?_
          refine done_ (by kernel_rfl) ?_
          have HB8 := Aside0.mk (HB.out.trans (HB7.out.mono HB.out.size))
          go_wp2
          go_roundg (X.f4.length - j)
          case measure => have := HGi.out; omega
          case rel => exact ⟨j + 1, by omega, by first | rfl | go_num, ⟨by omega⟩, HS, ⟨by repeat (first | (with_reducible first | exact HB7.out | apply pw_below_drewN) | exact HB7.out)⟩, ⟨BK7.out⟩, ⟨BX7.out⟩⟩
         ·have hf := Aside0.mk (show ownG rows X.f0 X.f4 j U = 1 from by unfold ownG; rw [← HP.out, ← HQ.out]; simp [])
          have HE := Aside0.mk (show r = 1 from by rw [HF4.out]; exact scan_ret (v := 1) HA.out hlt (by show ownT rows (txns.getD k z45) = 1; rw [← HX.out, HT.out]; exact scan_ret (v := 1) HAi.out hlj (by show ownG rows X.f0 X.f4 j (X.f4.getD j z81) = _; rw [← HU.out]; exact hf.out) (by decide)) (by decide))
          go_wp2_with (go_at_call 41; refine (cAnyUn U.f0 wr.heap.size _ c4 (X.f4.take j) j _ q HQ.out (by rw [List.length_take]; omega) (Kd.C_take (Kd.C_alloc (Kd.C_below HR4.out HBi.out) _) (by omega)) (by simp) ((blk_cell (blk_new wr (Obj.cells #[.int .i64 U.f0, .bool U.f1, .bool U.f2, .int .i64 U.f3] 81)) 0).trans rfl)).mono ?_; rintro e w6 ⟨rfl, hb⟩; have HB6 := Aside0.mk (show Below wq.heap.size wq w6 from below_step (below_alloc HBi.out _) hb); have BK6 := Aside0.mk (keepB hb (blk_alloc BKi.out _)); have BX6 := Aside0.mk (keepB hb (blk_alloc BXi.out _)); have BU6 := Aside0.mk (show w6.heap[wr.heap.size]? = some (Obj.cells #[.int .i64 U.f0, .bool U.f1, .bool U.f2, .int .i64 U.f3] 81) from keepB hb (blk_new wr _)); clear hb; obtain ⟨e0, e1, e2, e3, -, -, -, -⟩ := Lv.blks4 BK6.out; obtain ⟨i0, i1, i2, i3, i4, -, -, -, -, -⟩ := Lv.blks5 BX6.out; obtain ⟨k0, k1, k2, k3, -, -, -, -⟩ := Lv.blks4 BU6.out)
          refine start_ (n := 14) (S := fun W => W.cell? ⟨w.heap.size, 0, none⟩ = some (.int .i64 nx) ∧ W.cell? ⟨w.heap.size, 1, none⟩ = some (.int .i64 ck) ∧ W.cell? ⟨w.heap.size, 2, none⟩ = some (.slice (some ad) txns.length c2) ∧ W.cell? ⟨w.heap.size, 3, none⟩ = some (.slice A3 rows.length c3) ∧ W.cell? ⟨wq.heap.size, 0, none⟩ = some (.int .i64 X.f0) ∧ W.cell? ⟨wr.heap.size, 0, none⟩ = some (.int .i64 U.f0) ∧ W.cell? ⟨wr.heap.size, 1, none⟩ = some (.bool U.f1)) (ds := []) #[false, false, false, false, false, false, false, false, false, false, false, false, false, false] (by kernel_rfl) rfl rfl ⟨e0, e1, e2, e3, i0, k0, k1⟩ (fun hHeld => ?_)
          refine zp 1 205 ?_; refine zp 4 208 ?_; refine zt 0 204 ?_; refine zt 2 206 ?_; refine zt 5 209 ?_
          refine one_ (i := 3) (N := some 207) #[true, true, true, true, true, true, false, false, false, false, false, false, false, false] rfl rfl (by kernel_rfl) (by decide) (fun K hK => ?_)
          refine goes_ Tryd.func44 (by kernel_rfl) rfl #[.agg #[.int .i64 nx, .int .i64 ck, .slice (some ad) txns.length c2, .slice A3 rows.length c3], .int .i64 U.f0] (by rfl) rfl rfl zm ?_
          with_reducible refine (impl_Engine_chain.at _ _ _ _ _ A3 c3 rows U.f0 _ (Kd.C_drew (Kd.C_below HR3.out (HB.out.trans (HB6.out.mono HB.out.size))))).mono ?_
          rintro e w7 ⟨AC, cC, rfl, hcl, hcr, hb⟩
          refine ⟨_, rfl, ?_⟩
          have HB7 := Aside0.mk (show Below wq.heap.size wq w7 from below_step (below_drew1 HB6.out) hb)
          have BK7 := Aside0.mk (keepB hb BK6.out)
          have BX7 := Aside0.mk (keepB hb BX6.out)
          refine hK.out _ _ ⟨(hb.cell (p := ⟨w.heap.size, 0, none⟩) (blk_lt BK6.out)).trans e0, (hb.cell (p := ⟨w.heap.size, 1, none⟩) (blk_lt BK6.out)).trans e1, (hb.cell (p := ⟨w.heap.size, 2, none⟩) (blk_lt BK6.out)).trans e2, (hb.cell (p := ⟨w.heap.size, 3, none⟩) (blk_lt BK6.out)).trans e3, (hb.cell (p := ⟨wq.heap.size, 0, none⟩) (blk_lt BX6.out)).trans i0, (hb.cell (p := ⟨wr.heap.size, 0, none⟩) (blk_lt BU6.out)).trans k0, (hb.cell (p := ⟨wr.heap.size, 1, none⟩) (blk_lt BU6.out)).trans k1⟩ (fun hHeld => ?_)
          clear hK K
          refine norm_ (a' := ?_) ?_ ?_
          rotate_left
          ·show Act.put _ (some 207) _ = _
           simp only [Act.put, List.setIfInBounds_toArray, List.set_cons_zero, List.set_cons_succ, i64_w, i32_w]
           rfl
          refine one_ (i := 6) (N := some 210) #[true, true, true, true, true, true, true, false, false, false, false, false, false, false] rfl rfl (by kernel_rfl) (by decide) (fun K hK => ?_)
          refine goes_ Tryd.func43 (by kernel_rfl) rfl #[.slice AC (chainF rows U.f0).length cC, .int .i64 X.f0] (by rfl) rfl rfl zm ?_
          with_reducible refine (cOp _ _ _ X.f0 _ _ HP.out hcr hcl).mono ?_
          rintro e w' ⟨rfl, n, rfl⟩
          refine ⟨_, rfl, ?_⟩
          refine hK.out _ _ hHeld (fun hHeld => ?_)
          clear hK K
          refine norm_ (a' := ?_) ?_ ?_
          rotate_left
          ·show Act.put _ (some 210) _ = _
           simp only [Act.put, List.setIfInBounds_toArray, List.set_cons_zero, List.set_cons_succ, i64_w, i32_w]
           rfl
          refine zp 7 211 ?_; refine zp 8 212 ?_
          refine pure_ (i := 9) (N := some 213) (v := undef) (a' := ?_) #[true, true, true, true, true, true, true, true, true, true, false, false, false, false] rfl rfl (by kernel_rfl) (fun _ _ _ h => h) (Or.inr ⟨by rfl, rfl⟩) ?_ ?_
          rotate_left
          ·simp only [Act.put, List.setIfInBounds_toArray, List.set_cons_zero, List.set_cons_succ, i64_w, i32_w]
           rfl
          refine pure_ (i := 10) (N := some 214) (v := undef) (a' := ?_) #[true, true, true, true, true, true, true, true, true, true, true, false, false, false] rfl rfl (by kernel_rfl) (fun _ _ _ h => h) (Or.inr ⟨by rfl, rfl⟩) ?_ ?_
          rotate_left
          ·simp only [Act.put, List.setIfInBounds_toArray, List.set_cons_zero, List.set_cons_succ, i64_w, i32_w]
           rfl
          refine pure_ (i := 11) (N := some 215) (v := undef) (a' := ?_) #[true, true, true, true, true, true, true, true, true, true, true, true, false, false] rfl rfl (by kernel_rfl) (fun _ _ _ h => h) (Or.inr ⟨by rfl, rfl⟩) ?_ ?_
          rotate_left
          ·simp only [Act.put, List.setIfInBounds_toArray, List.set_cons_zero, List.set_cons_succ, i64_w, i32_w]
           rfl
          refine pure_ (i := 12) (N := some 216) (v := undef) (a' := ?_) #[true, true, true, true, true, true, true, true, true, true, true, true, true, false] rfl rfl (by kernel_rfl) (fun _ _ _ h => h) (Or.inr ⟨by rfl, rfl⟩) ?_ ?_
          rotate_left
          ·simp only [Act.put, List.setIfInBounds_toArray, List.set_cons_zero, List.set_cons_succ, i64_w, i32_w]
           rfl
          refine zp 13 217 ?_
          refine done_ (by kernel_rfl) ?_
          have HB8 := Aside0.mk (HB.out.trans (HB7.out.mono HB.out.size))
          go_wp2
          go_ret
          exact ⟨by rw [HE.out]; rfl, (by repeat (first | (with_reducible first | exact HB8.out | apply pw_below_drewN) | exact HB8.out))⟩
        have hjn : j = X.f4.length := by omega
        have HS := Aside0.mk (scan_next HA.out hlt (by show ownT rows (txns.getD k z45) = 0; rw [← HX.out, HT.out]; exact scan_end HAi.out hjn))
        have c3 : decide (j < X.f4.length) = false := decide_eq_false hlj
        have c5 : decide ((j : Int) < (X.f4.length : Int)) = false := decide_eq_false (by omega)
        clear hjn
        go_wp2
        go_roundg (txns.length - k)
        case measure => have := HG.out; omega
        case rel => exact ⟨k + 1, by omega, by first | rfl | go_num, ⟨by omega⟩, HS, ⟨HB.out.trans (HBi.out.mono HB.out.size)⟩, BKi⟩
      have hkn : k = txns.length := by omega
      have HE := Aside0.mk (show r = 0 from by rw [HF4.out]; exact scan_end HA.out hkn)
      have c3 : decide (k < txns.length) = false := decide_eq_false hlt
      have c4 : decide ((k : Int) < (txns.length : Int)) = false := decide_eq_false (by omega)
      clear hkn
      go_wp2
      go_ret
      exact ⟨by rw [HE.out]; rfl, HB.out⟩
  have HE := Aside0.mk (show r = 3 from by rw [← HF.out]; unfold enF; rw [if_pos h1, if_neg (by rw [h2]; decide)])
  go_enter Tryd.func17, Tryd.ntmps17
  go_wp2_with (first | (go_at_call 30; refine (cTx _ _).mono ?_; rintro e w' ⟨rfl, n, rfl⟩) | (go_at_call 31; refine (cLs _ _).mono ?_; rintro e w' ⟨rfl, n, rfl⟩))
  go_ret
  exact ⟨by rw [HE.out]; rfl, zb⟩
 have HE := Aside0.mk (show r = 3 from by rw [← HF.out]; unfold enF; rw [if_neg (by rw [h1]; decide)])
 go_enter Tryd.func17, Tryd.ntmps17
 go_wp2_with (first | (go_at_call 30; refine (cTx _ _).mono ?_; rintro e w' ⟨rfl, n, rfl⟩) | (go_at_call 31; refine (cLs _ _).mono ?_; rintro e w' ⟨rfl, n, rfl⟩))
 go_ret
 exact ⟨by rw [HE.out]; rfl, zb⟩
theorem impl_EngineFault.calls (k : Nat) (a0_0 : Int) (a0_1 : Int) (A0_2 : Option Addr) (c0_2 : Nat) (l0_2 : List (S45)) (A0_3 : Option Addr) (c0_3 : Nat) (l0_3 : List (S49)) (r : Int) (w : World) (hr0_2 : Kd.C k45 w A0_2 l0_2.length l0_2) (hc0_2 : l0_2.length ≤ c0_2) (hr0_3 : Kd.C k49 w A0_3 l0_3.length l0_3) (hc0_3 : l0_3.length ≤ c0_3) (h : impl_EngineFault.f k a0_0 a0_1 l0_2 l0_3 = some r) :
 Calls Tryd.prog 17 #[.agg #[.int .i64 a0_0, .int .i64 a0_1, .slice A0_2 l0_2.length c0_2, .slice A0_3 l0_3.length c0_3]] w fun e w' => e = .returned (.int .i64 r) ∧ Below w.heap.size w w' := by
 unfold impl_EngineFault.f at h
 by_cases h1 : (l0_2.all fun t => (impl_undosFault.f k t.f4).isSome) = true
 ·rw [if_pos h1] at h
  by_cases h2 : (l0_3.all fun r => (impl_ChainFault.f k r.f1).isSome) = true
  ·rw [if_pos h2] at h
   obtain rfl := Option.some.inj h
   refine impl_EngineFault.at k _ _ a0_0 a0_1 A0_2 c0_2 l0_2 A0_3 c0_3 l0_3 w hr0_2 hr0_3 ?_ ?_
   ·intro t ht
    obtain ⟨v, hv⟩ := Option.isSome_iff_exists.1 (List.all_eq_true.1 h1 t ht)
    unfold impl_EngineFault.uf
    rw [hv]; rfl
   intro t ht
   obtain ⟨v, hv⟩ := Option.isSome_iff_exists.1 (List.all_eq_true.1 h2 t ht)
   unfold impl_EngineFault.cf
   rw [hv]; rfl
  rw [if_neg h2] at h
  cases h
 rw [if_neg h1] at h
 cases h
end Go.Proofs.YtldlnafakfigeaaDoor.P
