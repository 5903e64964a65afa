import Derived.Test.YtldlnafakfigeaaDoorZz
import Derived.Test.YtldlnafakfigeaaDoorP0
import Derived.Test.YtldlnafakfigeaaDoorPCall0
import Derived.Test.YtldlnafakfigeaaDoorPCall1
import Derived.Test.YtldlnafakfigeaaDoorPDall0
import Derived.Test.YtldlnafakfigeaaDoorWRepsOne
import Derived.Test.YtldlnafakfigeaaDoorLb
import Derived.IntWalk
import Derived.Shelf.Abstract
namespace Go.Proofs.YtldlnafakfigeaaDoor.P
open Go.RowKit Go.Proofs.YtldlnafakfigeaaDoorW.PrintWords Go.Proofs.YtldlnafakfigeaaDoorW.PrintLast Go.Proofs.YtldlnafakfigeaaDoorW.PrintMore
attribute [local go_sem] max2_int min2_int max_two min_two max_three min_three max_four min_four   -- for this text's walks alone
set_option linter.unusedVariables false
set_option linter.unusedSimpArgs false
-- PROOF --
set_option maxHeartbeats 4000000 in
set_option maxRecDepth 100000 in
theorem spec_l6Wrote.at (p : Addr) (A : Option Addr) (c : Nat) (l : List S81) (key : Int) (w : World) (q4 : w.cell? ⟨p.block, p.off + 4, none⟩ = some (.slice A l.length c)) (hr : Kd.C k81 w A l.length l) :
 Calls Tryd.prog 72 #[.pointer (some p), .int .i64 key] w fun e w' => e = .returned (.bool (l.any fun u => u.f0 == key)) ∧ w = w' := by
 have hu45 := Tryd.underlying45
 have hu81 := Tryd.underlying81
 rw [← Lb.idx_any (fun u : S81 => u.f0 == key) l]
 generalize hR : Lb.idx (fun u : S81 => u.f0 == key) l = r
 have hn := hr.2.1
 have HR := Aside0.mk hr
 have HI := Aside0.mk hR
 clear hr hR
 go_enter Tryd.func72, Tryd.ntmps72
 go_wp2
 go_loopg [5] (l.length + 1) (fun gg v5 wr => ∃ k : Nat, k ≤ l.length ∧ v5 = .int .i64 (k : Int) ∧ w = wr ∧ Aside0 (l.length - k < gg) ∧ Aside0 (∀ j, j < k → ((l.getD j z81).f0 == key) = false))
 case atStart => exact ⟨0, by omega, rfl, rfl, ⟨by omega⟩, ⟨fun j h => absurd h (by omega)⟩⟩
 case round =>
  obtain ⟨k, hk, rfl, rfl, HG, HA⟩ := hrel
  by_cases hlt : k < l.length
  ·have g0 : (0 : Int) ≤ (k : Int) := by omega
   have g1 : (k : Int) < (l.length : Int) := by omega
   obtain ⟨ad, ea, hx0, hx1, hx2, hx3⟩ := at_T81 HR.out (k : Int) g0 g1
   cases ea
   clear hx1 hx2 hx3
   obtain ⟨X, hX⟩ : ∃ x, x = l.getD k z81 := ⟨_, rfl⟩
   rw [show rd_T81 l (k : Int) = X from hX.symm, show (k : Int).toNat = k from Int.toNat_natCast k] at hx0
   have HX := Aside0.mk hX
   clear hX
   cases hb : (X.f0 == key) with
   | false =>
    go_wp2
    go_roundg (l.length - k)
    case measure => have := HG.out; omega
    case rel => exact ⟨k + 1, by omega, by first | rfl | go_num, rfl, ⟨by omega⟩, ⟨fun j hj => by
     by_cases e : j = k
     ·subst e; rw [← HX.out]; exact hb
     exact HA.out j (by omega)⟩⟩
   | true =>
    have HH := Aside0.mk ((Lb.idx_hit (fun u : S81 => u.f0 == key) z81 l k 0 hlt HA.out (by rw [← HX.out]; exact hb)))
    have HE := Aside0.mk (show decide (0 ≤ r) = true from by rw [← HI.out]; unfold Lb.idx; rw [HH.out]; simp)
    go_wp2
    go_ret
    exact ⟨by rw [HE.out]; rfl, rfl⟩
  have HE := Aside0.mk (show decide (0 ≤ r) = false from by rw [← HI.out]; unfold Lb.idx; rw [Lb.idx_miss (fun u : S81 => u.f0 == key) z81 l 0 (fun j hj => HA.out j (by omega))]; simp)
  have c1 : decide (k < l.length) = false := decide_eq_false hlt
  go_wp2
  go_ret
  exact ⟨by rw [HE.out]; rfl, rfl⟩
set_option maxHeartbeats 4000000 in
set_option maxRecDepth 100000 in
theorem spec_l6Txn.at (p : Addr) (A : Option Addr) (c : Nat) (l : List S45) (key : Int) (w : World) (q4 : w.cell? ⟨p.block, p.off + 2, none⟩ = some (.slice A l.length c)) (hr : Kd.C k45 w A l.length l) :
 Calls Tryd.prog 71 #[.pointer (some p), .int .i64 key] w fun e w' => e = .returned (.int .i64 (Lb.idx (fun u : S45 => u.f0 == key) l)) ∧ w = w' := by
 have hu33 := Tryd.underlying33
 have hu45 := Tryd.underlying45
 generalize hR : Lb.idx (fun u : S45 => u.f0 == key) l = r
 have hn := hr.2.1
 have HR := Aside0.mk hr
 have HI := Aside0.mk hR
 clear hr hR
 go_enter Tryd.func71, Tryd.ntmps71
 go_wp2
 go_loopg [5] (l.length + 1) (fun gg v5 wr => ∃ k : Nat, k ≤ l.length ∧ v5 = .int .i64 (k : Int) ∧ w = wr ∧ Aside0 (l.length - k < gg) ∧ Aside0 (∀ j, j < k → ((l.getD j z45).f0 == key) = false))
 case atStart => exact ⟨0, by omega, rfl, rfl, ⟨by omega⟩, ⟨fun j h => absurd h (by omega)⟩⟩
 case round =>
  obtain ⟨k, hk, rfl, rfl, HG, HA⟩ := hrel
  by_cases hlt : k < l.length
  ·have g0 : (0 : Int) ≤ (k : Int) := by omega
   have g1 : (k : Int) < (l.length : Int) := by omega
   obtain ⟨ad, A4, c4, ea, hx0, hx1, hx2, hx3, hx4, hl4, hr4⟩ := at_T45 HR.out (k : Int) g0 g1
   cases ea
   clear hx1 hx2 hx3 hx4 hl4 hr4
   obtain ⟨X, hX⟩ : ∃ x, x = l.getD k z45 := ⟨_, rfl⟩
   rw [show rd_T45 l (k : Int) = X from hX.symm, show (k : Int).toNat = k from Int.toNat_natCast k] at hx0
   have HX := Aside0.mk hX
   clear hX
   cases hb : (X.f0 == key) with
   | false =>
    go_wp2
    go_roundg (l.length - k)
    case measure => have := HG.out; omega
    case rel => exact ⟨k + 1, by omega, by first | rfl | go_num, rfl, ⟨by omega⟩, ⟨fun j hj => by
     by_cases e : j = k
     ·subst e; rw [← HX.out]; exact hb
     exact HA.out j (by omega)⟩⟩
   | true =>
    have HH := Aside0.mk ((Lb.idx_hit (fun u : S45 => u.f0 == key) z45 l k 0 hlt HA.out (by rw [← HX.out]; exact hb)))
    have HE := Aside0.mk (show r = (k : Int) from by rw [← HI.out]; unfold Lb.idx; rw [HH.out]; simp)
    go_wp2
    go_ret
    exact ⟨by rw [HE.out]; rfl, rfl⟩
  have HE := Aside0.mk (show r = -1 from by rw [← HI.out]; unfold Lb.idx; rw [Lb.idx_miss (fun u : S45 => u.f0 == key) z45 l 0 (fun j hj => HA.out j (by omega))])
  have c1 : decide (k < l.length) = false := decide_eq_false hlt
  go_wp2
  go_ret
  exact ⟨by rw [HE.out]; rfl, rfl⟩
set_option maxHeartbeats 4000000 in
set_option maxRecDepth 100000 in
theorem spec_l6Row.at (p : Addr) (A : Option Addr) (c : Nat) (l : List S49) (key : Int) (w : World) (q4 : w.cell? ⟨p.block, p.off + 3, none⟩ = some (.slice A l.length c)) (hr : Kd.C k49 w A l.length l) :
 Calls Tryd.prog 55 #[.pointer (some p), .int .i64 key] w fun e w' => e = .returned (.int .i64 (Lb.idx (fun u : S49 => u.f0 == key) l)) ∧ w = w' := by
 have hu33 := Tryd.underlying33
 have hu49 := Tryd.underlying49
 generalize hR : Lb.idx (fun u : S49 => u.f0 == key) l = r
 have hn := hr.2.1
 have HR := Aside0.mk hr
 have HI := Aside0.mk hR
 clear hr hR
 go_enter Tryd.func55, Tryd.ntmps55
 go_wp2
 go_loopg [5] (l.length + 1) (fun gg v5 wr => ∃ k : Nat, k ≤ l.length ∧ v5 = .int .i64 (k : Int) ∧ w = wr ∧ Aside0 (l.length - k < gg) ∧ Aside0 (∀ j, j < k → ((l.getD j z49).f0 == key) = false))
 case atStart => exact ⟨0, by omega, rfl, rfl, ⟨by omega⟩, ⟨fun j h => absurd h (by omega)⟩⟩
 case round =>
  obtain ⟨k, hk, rfl, rfl, HG, HA⟩ := hrel
  by_cases hlt : k < l.length
  ·have g0 : (0 : Int) ≤ (k : Int) := by omega
   have g1 : (k : Int) < (l.length : Int) := by omega
   obtain ⟨ad, A1, c1, ea, hx0, hx1, hl1, hr1⟩ := at_T49 HR.out (k : Int) g0 g1
   cases ea
   clear hx1 hl1 hr1
   obtain ⟨X, hX⟩ : ∃ x, x = l.getD k z49 := ⟨_, rfl⟩
   rw [show rd_T49 l (k : Int) = X from hX.symm, show (k : Int).toNat = k from Int.toNat_natCast k] at hx0
   have HX := Aside0.mk hX
   clear hX
   cases hb : (X.f0 == key) with
   | false =>
    go_wp2
    go_roundg (l.length - k)
    case measure => have := HG.out; omega
    case rel => exact ⟨k + 1, by omega, by first | rfl | go_num, rfl, ⟨by omega⟩, ⟨fun j hj => by
     by_cases e : j = k
     ·subst e; rw [← HX.out]; exact hb
     exact HA.out j (by omega)⟩⟩
   | true =>
    have HH := Aside0.mk ((Lb.idx_hit (fun u : S49 => u.f0 == key) z49 l k 0 hlt HA.out (by rw [← HX.out]; exact hb)))
    have HE := Aside0.mk (show r = (k : Int) from by rw [← HI.out]; unfold Lb.idx; rw [HH.out]; simp)
    go_wp2
    go_ret
    exact ⟨by rw [HE.out]; rfl, rfl⟩
  have HE := Aside0.mk (show r = -1 from by rw [← HI.out]; unfold Lb.idx; rw [Lb.idx_miss (fun u : S49 => u.f0 == key) z49 l 0 (fun j hj => HA.out j (by omega))])
  have c1 : decide (k < l.length) = false := decide_eq_false hlt
  go_wp2
  go_ret
  exact ⟨by rw [HE.out]; rfl, rfl⟩
theorem l1In_f (a lo hi : Int) : spec_l1In.f a lo hi = some (inB a lo hi) := by
 unfold spec_l1In.f inB
 by_cases h : a ≥ lo
 ·rw [if_pos h]; simp [h]
 rw [if_neg h]; simp [h]
theorem l1Key_f (a : Int) : spec_l1Key.f a = some (inB a 0 31) := by unfold spec_l1Key.f; rw [l1In_f]; rfl
theorem l1Value_f (a : Int) : spec_l1Value.f a = some (inB a 0 9999) := by unfold spec_l1Value.f; rw [l1In_f]; rfl
theorem scanI_step {f : Nat → Int} {m i : Nat} (h : f i = 0) : scanI f (m + 1) i = scanI f m (i + 1) := by simp [scanI, h]
theorem scanI_stop {f : Nat → Int} {m i : Nat} (h : f i ≠ 0) : scanI f (m + 1) i = f i := by simp [scanI, h]
theorem scan_ret {f : Nat → Int} {n k : Nat} {r v : Int} (h : scanI f (n - k) k = r) (hk : k < n) (hf : f k = v) (hv : v ≠ 0) : r = v := by
 rw [show n - k = (n - (k + 1)) + 1 by omega, scanI_stop (by rw [hf]; exact hv), hf] at h
 exact h.symm
theorem scan_next {f : Nat → Int} {n k : Nat} {r : Int} (h : scanI f (n - k) k = r) (hk : k < n) (hf : f k = 0) : scanI f (n - (k + 1)) (k + 1) = r := by
 rw [show n - k = (n - (k + 1)) + 1 by omega, scanI_step hf] at h
 exact h
theorem scan_end {f : Nat → Int} {n k : Nat} {r : Int} (h : scanI f (n - k) k = r) (hk : k = n) : r = 0 := by
 rw [hk, Nat.sub_self] at h
 exact h.symm
set_option maxHeartbeats 8000000 in
set_option maxRecDepth 100000 in
theorem spec_l6Undos.at (p : Addr) (A : Option Addr) (c : Nat) (l : List S81) (w : World) (q4 : w.cell? ⟨p.block, p.off + 4, none⟩ = some (.slice A l.length c)) (hr : Kd.C k81 w A l.length l) :
 Calls Tryd.prog 51 #[.pointer (some p)] w fun e w' => e = .returned (.int .i64 (undosF l)) ∧ Below w.heap.size w w' := by
 have hu45 := Tryd.underlying45
 have hu81 := Tryd.underlying81
 have hn := hr.2.1
 have HR := Aside0.mk hr
 clear hr
 unfold undosF
 by_cases hl : l.length > 60
 ·have c1 : decide ((60 : Int) < (l.length : Int)) = true := decide_eq_true (by omega)
  have c2 : decide (60 < l.length) = true := decide_eq_true hl
  rw [if_pos hl]
  clear hl
  have HB := Aside0.mk (Below.refl w.heap.size w)
  go_enter Tryd.func51, Tryd.ntmps51
  go_wp2
  go_ret
  exact ⟨rfl, HB.out⟩
 have c1 : decide ((60 : Int) < (l.length : Int)) = false := decide_eq_false (by omega)
 have c2 : decide (60 < l.length) = false := decide_eq_false hl
 rw [if_neg hl]
 have HL := Aside0.mk hl
 clear hl
 generalize hR : scanI (fun i => undoF (l.getD i z81)) l.length 0 = r
 have HI := Aside0.mk hR
 clear hR
 go_enter Tryd.func51, Tryd.ntmps51
 go_wp2
 go_loopg [3] (l.length + 1) (fun gg v3 wr => ∃ k : Nat, k ≤ l.length ∧ v3 = .int .i64 (k : Int) ∧ Aside0 (l.length - k < gg) ∧ Aside0 (scanI (fun i => undoF (l.getD i z81)) (l.length - k) k = r) ∧ Aside0 (Below w.heap.size w wr))
 case atStart => exact ⟨0, by omega, rfl, ⟨by omega⟩, HI, ⟨Below.refl _ _⟩⟩
 case round =>
  obtain ⟨k, hk, rfl, HG, HA, HB⟩ := hrel
  replace q4 := zx HB q4
  by_cases hlt : k < l.length
  ·have g0 : (0 : Int) ≤ (k : Int) := by omega
   have g1 : (k : Int) < (l.length : Int) := by omega
   obtain ⟨ad, ea, hx0, hx1, hx2, hx3⟩ := at_T81 HR.out (k : Int) g0 g1
   cases ea
   obtain ⟨X, hX⟩ : ∃ x, x = l.getD k z81 := ⟨_, rfl⟩
   rw [show rd_T81 l (k : Int) = X from hX.symm, show (k : Int).toNat = k from Int.toNat_natCast k] at hx0 hx1 hx2 hx3
   have HX := Aside0.mk hX
   clear hX
   replace hx0 := zx HB hx0
   replace hx1 := zx HB hx1
   replace hx2 := zx HB hx2
   replace hx3 := zx HB hx3
   cases hb1 : inB X.f0 0 31 with
   | false =>
    have hf := Aside0.mk (show undoF X = 3 from by simp [undoF, undoBad, hb1])
    have HE := Aside0.mk (scan_ret (v := 3) HA.out hlt (by show undoF (l.getD k z81) = _; rw [← HX.out]; exact hf.out) (by decide))
    go_wp2_with (first | (go_at_call 52; refine (spec_l1Key.calls _ _ _ (l1Key_f _)).mono ?_; rintro e w' ⟨rfl, hd⟩; obtain ⟨n, rfl⟩ := hd.out; rw [hb1]) | (go_at_call 69; refine (spec_l1Value.calls _ _ _ (l1Value_f _)).mono ?_; rintro e w' ⟨rfl, hd⟩; obtain ⟨n, rfl⟩ := hd.out; rw [hb2]))
    go_ret
    exact ⟨by rw [HE.out]; rfl, (by repeat (first | (with_reducible first | exact HB.out | apply below_alloc | apply pw_below_drewN | apply below_drew1 | refine below_set ?_ HB.out.size) | exact HB.out))⟩
   | true =>
    cases hb2 : inB X.f3 0 9999 with
    | false =>
     have hf := Aside0.mk (show undoF X = 3 from by simp [undoF, undoBad, hb1, hb2])
     have HE := Aside0.mk (scan_ret (v := 3) HA.out hlt (by show undoF (l.getD k z81) = _; rw [← HX.out]; exact hf.out) (by decide))
     go_wp2_with (first | (go_at_call 52; refine (spec_l1Key.calls _ _ _ (l1Key_f _)).mono ?_; rintro e w' ⟨rfl, hd⟩; obtain ⟨n, rfl⟩ := hd.out; rw [hb1]) | (go_at_call 69; refine (spec_l1Value.calls _ _ _ (l1Value_f _)).mono ?_; rintro e w' ⟨rfl, hd⟩; obtain ⟨n, rfl⟩ := hd.out; rw [hb2]))
     go_ret
     exact ⟨by rw [HE.out]; rfl, (by repeat (first | (with_reducible first | exact HB.out | apply below_alloc | apply pw_below_drewN | apply below_drew1 | refine below_set ?_ HB.out.size) | exact HB.out))⟩
    | true =>
     have hv0 : ∀ b, (X.f3 != 0) = b → (X.f3 == 0) = !b := by intro b h; rw [← h]; simp [bne]
     cases h1 : X.f1 with
     | false =>
      cases h2 : X.f2 with
      | false =>
       cases h3 : (X.f3 != 0) with
       | false =>
        clear hv0
        have hf := Aside0.mk (show undoF X = 0 from by simp [undoF, undoBad, hb1, hb2, h1, h2, h3])
        have HS := Aside0.mk (scan_next HA.out hlt (by show undoF (l.getD k z81) = _; rw [← HX.out]; exact hf.out))
        go_wp2_with (first | (go_at_call 52; refine (spec_l1Key.calls _ _ _ (l1Key_f _)).mono ?_; rintro e w' ⟨rfl, hd⟩; obtain ⟨n, rfl⟩ := hd.out; rw [hb1]) | (go_at_call 69; refine (spec_l1Value.calls _ _ _ (l1Value_f _)).mono ?_; rintro e w' ⟨rfl, hd⟩; obtain ⟨n, rfl⟩ := hd.out; rw [hb2]))
        go_roundg (l.length - k)
        case measure => have := HG.out; omega
        case rel => exact ⟨k + 1, by omega, by first | rfl | go_num, ⟨by omega⟩, HS, ⟨(by repeat (first | (with_reducible first | exact HB.out | apply below_alloc | apply pw_below_drewN | apply below_drew1 | refine below_set ?_ HB.out.size) | exact HB.out))⟩⟩
       | true =>
        clear hv0
        have hf := Aside0.mk (show undoF X = 1 from by simp [undoF, undoBad, hb1, hb2, h1, h2, h3])
        have HE := Aside0.mk (scan_ret (v := 1) HA.out hlt (by show undoF (l.getD k z81) = _; rw [← HX.out]; exact hf.out) (by decide))
        go_wp2_with (first | (go_at_call 52; refine (spec_l1Key.calls _ _ _ (l1Key_f _)).mono ?_; rintro e w' ⟨rfl, hd⟩; obtain ⟨n, rfl⟩ := hd.out; rw [hb1]) | (go_at_call 69; refine (spec_l1Value.calls _ _ _ (l1Value_f _)).mono ?_; rintro e w' ⟨rfl, hd⟩; obtain ⟨n, rfl⟩ := hd.out; rw [hb2]))
        go_ret
        exact ⟨by rw [HE.out]; rfl, (by repeat (first | (with_reducible first | exact HB.out | apply below_alloc | apply pw_below_drewN | apply below_drew1 | refine below_set ?_ HB.out.size) | exact HB.out))⟩
      | true =>
       cases h3 : (X.f3 != 0) with
       | false =>
        clear hv0
        have hf := Aside0.mk (show undoF X = 1 from by simp [undoF, undoBad, hb1, hb2, h1, h2, h3])
        have HE := Aside0.mk (scan_ret (v := 1) HA.out hlt (by show undoF (l.getD k z81) = _; rw [← HX.out]; exact hf.out) (by decide))
        go_wp2_with (first | (go_at_call 52; refine (spec_l1Key.calls _ _ _ (l1Key_f _)).mono ?_; rintro e w' ⟨rfl, hd⟩; obtain ⟨n, rfl⟩ := hd.out; rw [hb1]) | (go_at_call 69; refine (spec_l1Value.calls _ _ _ (l1Value_f _)).mono ?_; rintro e w' ⟨rfl, hd⟩; obtain ⟨n, rfl⟩ := hd.out; rw [hb2]))
        go_ret
        exact ⟨by rw [HE.out]; rfl, (by repeat (first | (with_reducible first | exact HB.out | apply below_alloc | apply pw_below_drewN | apply below_drew1 | refine below_set ?_ HB.out.size) | exact HB.out))⟩
       | true =>
        clear hv0
        have hf := Aside0.mk (show undoF X = 1 from by simp [undoF, undoBad, hb1, hb2, h1, h2, h3])
        have HE := Aside0.mk (scan_ret (v := 1) HA.out hlt (by show undoF (l.getD k z81) = _; rw [← HX.out]; exact hf.out) (by decide))
        go_wp2_with (first | (go_at_call 52; refine (spec_l1Key.calls _ _ _ (l1Key_f _)).mono ?_; rintro e w' ⟨rfl, hd⟩; obtain ⟨n, rfl⟩ := hd.out; rw [hb1]) | (go_at_call 69; refine (spec_l1Value.calls _ _ _ (l1Value_f _)).mono ?_; rintro e w' ⟨rfl, hd⟩; obtain ⟨n, rfl⟩ := hd.out; rw [hb2]))
        go_ret
        exact ⟨by rw [HE.out]; rfl, (by repeat (first | (with_reducible first | exact HB.out | apply below_alloc | apply pw_below_drewN | apply below_drew1 | refine below_set ?_ HB.out.size) | exact HB.out))⟩
     | true =>
      cases h2 : X.f2 with
      | false =>
       cases h3 : (X.f3 != 0) with
       | false =>
        clear hv0
        have hf := Aside0.mk (show undoF X = 0 from by simp [undoF, undoBad, hb1, hb2, h1, h2, h3])
        have HS := Aside0.mk (scan_next HA.out hlt (by show undoF (l.getD k z81) = _; rw [← HX.out]; exact hf.out))
        go_wp2_with (first | (go_at_call 52; refine (spec_l1Key.calls _ _ _ (l1Key_f _)).mono ?_; rintro e w' ⟨rfl, hd⟩; obtain ⟨n, rfl⟩ := hd.out; rw [hb1]) | (go_at_call 69; refine (spec_l1Value.calls _ _ _ (l1Value_f _)).mono ?_; rintro e w' ⟨rfl, hd⟩; obtain ⟨n, rfl⟩ := hd.out; rw [hb2]))
        go_roundg (l.length - k)
        case measure => have := HG.out; omega
        case rel => exact ⟨k + 1, by omega, by first | rfl | go_num, ⟨by omega⟩, HS, ⟨(by repeat (first | (with_reducible first | exact HB.out | apply below_alloc | apply pw_below_drewN | apply below_drew1 | refine below_set ?_ HB.out.size) | exact HB.out))⟩⟩
       | true =>
        clear hv0
        have hf := Aside0.mk (show undoF X = 0 from by simp [undoF, undoBad, hb1, hb2, h1, h2, h3])
        have HS := Aside0.mk (scan_next HA.out hlt (by show undoF (l.getD k z81) = _; rw [← HX.out]; exact hf.out))
        go_wp2_with (first | (go_at_call 52; refine (spec_l1Key.calls _ _ _ (l1Key_f _)).mono ?_; rintro e w' ⟨rfl, hd⟩; obtain ⟨n, rfl⟩ := hd.out; rw [hb1]) | (go_at_call 69; refine (spec_l1Value.calls _ _ _ (l1Value_f _)).mono ?_; rintro e w' ⟨rfl, hd⟩; obtain ⟨n, rfl⟩ := hd.out; rw [hb2]))
        go_roundg (l.length - k)
        case measure => have := HG.out; omega
        case rel => exact ⟨k + 1, by omega, by first | rfl | go_num, ⟨by omega⟩, HS, ⟨(by repeat (first | (with_reducible first | exact HB.out | apply below_alloc | apply pw_below_drewN | apply below_drew1 | refine below_set ?_ HB.out.size) | exact HB.out))⟩⟩
      | true =>
       cases h3 : (X.f3 != 0) with
       | false =>
        clear hv0
        have hf := Aside0.mk (show undoF X = 0 from by simp [undoF, undoBad, hb1, hb2, h1, h2, h3])
        have HS := Aside0.mk (scan_next HA.out hlt (by show undoF (l.getD k z81) = _; rw [← HX.out]; exact hf.out))
        go_wp2_with (first | (go_at_call 52; refine (spec_l1Key.calls _ _ _ (l1Key_f _)).mono ?_; rintro e w' ⟨rfl, hd⟩; obtain ⟨n, rfl⟩ := hd.out; rw [hb1]) | (go_at_call 69; refine (spec_l1Value.calls _ _ _ (l1Value_f _)).mono ?_; rintro e w' ⟨rfl, hd⟩; obtain ⟨n, rfl⟩ := hd.out; rw [hb2]))
        go_roundg (l.length - k)
        case measure => have := HG.out; omega
        case rel => exact ⟨k + 1, by omega, by first | rfl | go_num, ⟨by omega⟩, HS, ⟨(by repeat (first | (with_reducible first | exact HB.out | apply below_alloc | apply pw_below_drewN | apply below_drew1 | refine below_set ?_ HB.out.size) | exact HB.out))⟩⟩
       | true =>
        clear hv0
        have hf := Aside0.mk (show undoF X = 1 from by simp [undoF, undoBad, hb1, hb2, h1, h2, h3])
        have HE := Aside0.mk (scan_ret (v := 1) HA.out hlt (by show undoF (l.getD k z81) = _; rw [← HX.out]; exact hf.out) (by decide))
        go_wp2_with (first | (go_at_call 52; refine (spec_l1Key.calls _ _ _ (l1Key_f _)).mono ?_; rintro e w' ⟨rfl, hd⟩; obtain ⟨n, rfl⟩ := hd.out; rw [hb1]) | (go_at_call 69; refine (spec_l1Value.calls _ _ _ (l1Value_f _)).mono ?_; rintro e w' ⟨rfl, hd⟩; obtain ⟨n, rfl⟩ := hd.out; rw [hb2]))
        go_ret
        exact ⟨by rw [HE.out]; rfl, (by repeat (first | (with_reducible first | exact HB.out | apply below_alloc | apply pw_below_drewN | apply below_drew1 | refine below_set ?_ HB.out.size) | exact HB.out))⟩
  have hkn : k = l.length := by omega
  have HE := Aside0.mk (scan_end HA.out hkn)
  have c3 : decide (k < l.length) = false := decide_eq_false hlt
  clear hkn
  go_wp2
  go_ret
  exact ⟨by rw [HE.out]; rfl, HB.out⟩
theorem hb_ (b : Bool) : b = true ∨ b = false := by cases b <;> simp
theorem cIn (a lo hi : Int) (w : World) : Calls Tryd.prog 24 #[.int .i64 a, .int .i64 lo, .int .i64 hi] w fun e w' => e = .returned (.bool (inB a lo hi)) ∧ ∃ n, w' = w.drewN n := (spec_l1In.calls a lo hi _ w (l1In_f a lo hi)).mono fun _ _ h => ⟨h.1, h.2.out⟩
set_option maxHeartbeats 40000000 in
set_option maxRecDepth 100000 in
theorem spec_l6Txns.at (p : Addr) (nx ck : Int) (A : Option Addr) (c : Nat) (l : List S45) (w : World) (q0 : w.cell? p = some (.int .i64 nx)) (q1 : w.cell? ⟨p.block, p.off + 1, none⟩ = some (.int .i64 ck)) (q2 : w.cell? ⟨p.block, p.off + 2, none⟩ = some (.slice A l.length c)) (hr : Kd.C k45 w A l.length l) (hn1 : 1 ≤ nx) (hn2 : nx ≤ 999) :
 Calls Tryd.prog 25 #[.pointer (some p)] w fun e w' => e = .returned (.int .i64 (txnsF nx ck l)) ∧ Below w.heap.size w w' := by
 have hu33 := Tryd.underlying33
 have hu45 := Tryd.underlying45
 have hn := hr.2.1
 have HR := Aside0.mk hr
 clear hr
 unfold txnsF
 generalize hR : scanI (fun i => txnF nx ck l i (l.getD i z45) (l.getD (i - 1) z45)) l.length 0 = r
 have HI := Aside0.mk hR
 clear hR
 go_enter Tryd.func25, Tryd.ntmps25
 go_wp2
 go_loopg [3] (l.length + 1) (fun gg v3 wr => ∃ k : Nat, k ≤ l.length ∧ v3 = .int .i64 (k : Int) ∧ Aside0 (l.length - k < gg) ∧ Aside0 (scanI (fun i => txnF nx ck l i (l.getD i z45) (l.getD (i - 1) z45)) (l.length - k) k = r) ∧ Aside0 (Below w.heap.size w wr))
 case atStart => exact ⟨0, by omega, rfl, ⟨by omega⟩, HI, ⟨Below.refl _ _⟩⟩
 case round =>
  obtain ⟨k, hk, rfl, HG, HA, HB⟩ := hrel
  replace q0 := zx HB q0
  replace q1 := zx HB q1
  replace q2 := zx HB q2
  by_cases hlt : k < l.length
  ·have g0 : (0 : Int) ≤ (k : Int) := by omega
   have g1 : (k : Int) < (l.length : Int) := by omega
   obtain ⟨ad, A4, c4, ea, hx0, hx1, hx2, hx3, hx4, hl4, hr4⟩ := at_T45 (Kd.C_below HR.out HB.out) (k : Int) g0 g1
   cases ea
   obtain ⟨X, hX⟩ : ∃ x, x = l.getD k z45 := ⟨_, rfl⟩
   obtain ⟨Y, hY⟩ : ∃ x, x = l.getD (k - 1) z45 := ⟨_, rfl⟩
   rw [show rd_T45 l (k : Int) = X from hX.symm, show (k : Int).toNat = k from Int.toNat_natCast k] at hx0 hx1 hx2 hx3 hx4
   rw [show rd_T45 l (k : Int) = X from hX.symm] at hl4 hr4
   have HX := Aside0.mk hX
   clear hX
   by_cases kp : 0 < k
   ·have hk0 : decide (0 < k) = true := decide_eq_true kp
    have hk1 : decide ((0 : Int) < (k : Int)) = true := decide_eq_true (by omega)
    have g2 : (0 : Int) ≤ (k : Int) - 1 := by omega
    have g3 : (k : Int) - 1 < (l.length : Int) := by omega
    have g4 : (1 : Int) ≤ (k : Int) := by omega
    have gw : IntKind.i64.wrap ((k : Int) - 1) = (k : Int) - 1 := IntWalk.i64_in _ (by omega)
    obtain ⟨ad2, A5, c5, ea, hy0, hy1, hy2, hy3, hy4, hl5, hr5⟩ := at_T45 (Kd.C_below HR.out HB.out) ((k : Int) - 1) g2 g3
    cases ea
    rw [show rd_T45 l ((k : Int) - 1) = Y from by rw [hY]; show l.getD ((k : Int) - 1).toNat z45 = _; congr 1; omega, show ((k : Int) - 1).toNat = k - 1 from by omega] at hy0
    clear hy1 hy2 hy3 hy4 hl5 hr5
    have HY := Aside0.mk hY
    clear hY kp
    rcases hb_ (inB X.f0 1 (nx - 1)) with hin1 | hin1
    ·skip
     rcases hb_ (inB X.f1 0 ck) with hin2 | hin2
     ·skip
      rcases hb_ (inB X.f2 1 3) with hin3 | hin3
      ·skip
       rcases hb_ (inB X.f3 0 ck) with hin4 | hin4
       ·skip
        rcases hb_ (decide (X.f0 ≤ Y.f0)) with hle | hle
        ·skip
         have hf := Aside0.mk (show txnF nx ck l k X Y = 1 from by simp [txnF, txnBad, hin1, hin2, hin3, hin4, hle, hk0])
         have HE := Aside0.mk (scan_ret (v := 1) HA.out hlt (by show txnF nx ck l k (l.getD k z45) (l.getD (k - 1) z45) = _; rw [← HX.out, ← HY.out]; exact hf.out) (by decide))
         go_wp2
         go_quiet ((go_at_call 24; exact Calls.quiet_of (cIn _ _ _ _)))
         go_wp2
         go_quiet (fail)
         go_wp2
         go_ret
         exact ⟨by rw [HE.out]; rfl, zb⟩
        skip
        rcases hb_ ((X.f3 == 0)) with hd0 | hd0
        ·have gd0 : (X.f3 != 0) = false := by simp [bne, hd0]
         rcases hb_ (decide ((0 : Int) < (X.f4.length : Int))) with hu0 | hu0
         ·have gu0 : decide (0 < X.f4.length) = true := by rw [← hu0]; apply decide_eq_decide.2; omega
          rcases hb_ ((X.f2 == 1)) with hs1 | hs1
          ·have gs1 : (X.f2 != 1) = false := by simp [bne, hs1]
           rcases hb_ ((undosF X.f4 == 0)) with hc0 | hc0
           ·have gc0 : (undosF X.f4 != 0) = false := by simp [bne, hc0]
            have hf := Aside0.mk (show txnF nx ck l k X Y = undosF X.f4 from by simp [txnF, txnBad, hin1, hin2, hin3, hin4, hle, hd0, hu0, hs1, gu0, hk0])
            have HS := Aside0.mk (scan_next HA.out hlt (by show txnF nx ck l k (l.getD k z45) (l.getD (k - 1) z45) = _; rw [← HX.out, ← HY.out, hf.out]; simpa using hc0))
            go_wp2
            go_quiet ((go_at_call 24; exact Calls.quiet_of (cIn _ _ _ _)))
            go_wp2
            go_quiet (fail)
            go_wp2_with (go_at_call 51; refine (spec_l6Undos.at _ A4 c4 X.f4 (World.drewN wr _) ((fun n => (show (World.drewN wr n).cell? ⟨(ad.add (k * 5)).block, (ad.add (k * 5)).off + 4, none⟩ = some (.slice A4 X.f4.length c4) from hx4)) _) (Kd.C_drewN hr4 _)).mono ?_; rintro e w' ⟨rfl, hb⟩; have HB1 := Aside0.mk (show Below w.heap.size w w' from below_step zb hb); clear HB hb; have HB := HB1; clear HB1)
            go_roundg (l.length - k)
            case measure => have := HG.out; omega
            case rel => exact ⟨k + 1, by omega, by first | rfl | go_num, ⟨by omega⟩, HS, ⟨zb⟩⟩
           have gc0 : (undosF X.f4 != 0) = true := by simp [bne, hc0]
           have hf := Aside0.mk (show txnF nx ck l k X Y = undosF X.f4 from by simp [txnF, txnBad, hin1, hin2, hin3, hin4, hle, hd0, hu0, hs1, gu0, hk0])
           have HE := Aside0.mk (scan_ret (v := undosF X.f4) HA.out hlt (by show txnF nx ck l k (l.getD k z45) (l.getD (k - 1) z45) = _; rw [← HX.out, ← HY.out]; exact hf.out) (by simpa using hc0))
           go_wp2
           go_quiet ((go_at_call 24; exact Calls.quiet_of (cIn _ _ _ _)))
           go_wp2
           go_quiet (fail)
           go_wp2_with (go_at_call 51; refine (spec_l6Undos.at _ A4 c4 X.f4 (World.drewN wr _) ((fun n => (show (World.drewN wr n).cell? ⟨(ad.add (k * 5)).block, (ad.add (k * 5)).off + 4, none⟩ = some (.slice A4 X.f4.length c4) from hx4)) _) (Kd.C_drewN hr4 _)).mono ?_; rintro e w' ⟨rfl, hb⟩; have HB1 := Aside0.mk (show Below w.heap.size w w' from below_step zb hb); clear HB hb; have HB := HB1; clear HB1)
           go_ret
           exact ⟨by rw [HE.out]; rfl, zb⟩
          have gs1 : (X.f2 != 1) = true := by simp [bne, hs1]
          have hf := Aside0.mk (show txnF nx ck l k X Y = 1 from by simp [txnF, txnBad, hin1, hin2, hin3, hin4, hle, hd0, hu0, hs1, gu0, hk0])
          have HE := Aside0.mk (scan_ret (v := 1) HA.out hlt (by show txnF nx ck l k (l.getD k z45) (l.getD (k - 1) z45) = _; rw [← HX.out, ← HY.out]; exact hf.out) (by decide))
          go_wp2
          go_quiet ((go_at_call 24; exact Calls.quiet_of (cIn _ _ _ _)))
          go_wp2
          go_quiet (fail)
          go_wp2
          go_ret
          exact ⟨by rw [HE.out]; rfl, zb⟩
         have gu0 : decide (0 < X.f4.length) = false := by rw [← hu0]; apply decide_eq_decide.2; omega
         rcases hb_ ((undosF X.f4 == 0)) with hc0 | hc0
         ·have gc0 : (undosF X.f4 != 0) = false := by simp [bne, hc0]
          have hf := Aside0.mk (show txnF nx ck l k X Y = undosF X.f4 from by simp [txnF, txnBad, hin1, hin2, hin3, hin4, hle, hd0, hu0, gu0, hk0])
          have HS := Aside0.mk (scan_next HA.out hlt (by show txnF nx ck l k (l.getD k z45) (l.getD (k - 1) z45) = _; rw [← HX.out, ← HY.out, hf.out]; simpa using hc0))
          go_wp2
          go_quiet ((go_at_call 24; exact Calls.quiet_of (cIn _ _ _ _)))
          go_wp2
          go_quiet (fail)
          go_wp2_with (go_at_call 51; refine (spec_l6Undos.at _ A4 c4 X.f4 (World.drewN wr _) ((fun n => (show (World.drewN wr n).cell? ⟨(ad.add (k * 5)).block, (ad.add (k * 5)).off + 4, none⟩ = some (.slice A4 X.f4.length c4) from hx4)) _) (Kd.C_drewN hr4 _)).mono ?_; rintro e w' ⟨rfl, hb⟩; have HB1 := Aside0.mk (show Below w.heap.size w w' from below_step zb hb); clear HB hb; have HB := HB1; clear HB1)
          go_roundg (l.length - k)
          case measure => have := HG.out; omega
          case rel => exact ⟨k + 1, by omega, by first | rfl | go_num, ⟨by omega⟩, HS, ⟨zb⟩⟩
         have gc0 : (undosF X.f4 != 0) = true := by simp [bne, hc0]
         have hf := Aside0.mk (show txnF nx ck l k X Y = undosF X.f4 from by simp [txnF, txnBad, hin1, hin2, hin3, hin4, hle, hd0, hu0, gu0, hk0])
         have HE := Aside0.mk (scan_ret (v := undosF X.f4) HA.out hlt (by show txnF nx ck l k (l.getD k z45) (l.getD (k - 1) z45) = _; rw [← HX.out, ← HY.out]; exact hf.out) (by simpa using hc0))
         go_wp2
         go_quiet ((go_at_call 24; exact Calls.quiet_of (cIn _ _ _ _)))
         go_wp2
         go_quiet (fail)
         go_wp2_with (go_at_call 51; refine (spec_l6Undos.at _ A4 c4 X.f4 (World.drewN wr _) ((fun n => (show (World.drewN wr n).cell? ⟨(ad.add (k * 5)).block, (ad.add (k * 5)).off + 4, none⟩ = some (.slice A4 X.f4.length c4) from hx4)) _) (Kd.C_drewN hr4 _)).mono ?_; rintro e w' ⟨rfl, hb⟩; have HB1 := Aside0.mk (show Below w.heap.size w w' from below_step zb hb); clear HB hb; have HB := HB1; clear HB1)
         go_ret
         exact ⟨by rw [HE.out]; rfl, zb⟩
        have gd0 : (X.f3 != 0) = true := by simp [bne, hd0]
        rcases hb_ ((X.f2 == 2)) with hs2 | hs2
        ·have gs2 : (X.f2 != 2) = false := by simp [bne, hs2]
         rcases hb_ (decide (X.f3 ≤ X.f1)) with hdle | hdle
         ·skip
          have hf := Aside0.mk (show txnF nx ck l k X Y = 1 from by simp [txnF, txnBad, hin1, hin2, hin3, hin4, hle, hd0, hs2, hdle, hk0])
          have HE := Aside0.mk (scan_ret (v := 1) HA.out hlt (by show txnF nx ck l k (l.getD k z45) (l.getD (k - 1) z45) = _; rw [← HX.out, ← HY.out]; exact hf.out) (by decide))
          go_wp2
          go_quiet ((go_at_call 24; exact Calls.quiet_of (cIn _ _ _ _)))
          go_wp2
          go_quiet (fail)
          go_wp2
          go_ret
          exact ⟨by rw [HE.out]; rfl, zb⟩
         skip
         rcases hb_ (decide ((0 : Int) < (X.f4.length : Int))) with hu0 | hu0
         ·have gu0 : decide (0 < X.f4.length) = true := by rw [← hu0]; apply decide_eq_decide.2; omega
          rcases hb_ ((X.f2 == 1)) with hs1 | hs1
          ·have gs1 : (X.f2 != 1) = false := by simp [bne, hs1]
           rcases hb_ ((undosF X.f4 == 0)) with hc0 | hc0
           ·have gc0 : (undosF X.f4 != 0) = false := by simp [bne, hc0]
            have hf := Aside0.mk (show txnF nx ck l k X Y = undosF X.f4 from by simp [txnF, txnBad, hin1, hin2, hin3, hin4, hle, hd0, hs2, hdle, hu0, hs1, gu0, hk0])
            have HS := Aside0.mk (scan_next HA.out hlt (by show txnF nx ck l k (l.getD k z45) (l.getD (k - 1) z45) = _; rw [← HX.out, ← HY.out, hf.out]; simpa using hc0))
            go_wp2
            go_quiet ((go_at_call 24; exact Calls.quiet_of (cIn _ _ _ _)))
            go_wp2
            go_quiet (fail)
            go_wp2_with (go_at_call 51; refine (spec_l6Undos.at _ A4 c4 X.f4 (World.drewN wr _) ((fun n => (show (World.drewN wr n).cell? ⟨(ad.add (k * 5)).block, (ad.add (k * 5)).off + 4, none⟩ = some (.slice A4 X.f4.length c4) from hx4)) _) (Kd.C_drewN hr4 _)).mono ?_; rintro e w' ⟨rfl, hb⟩; have HB1 := Aside0.mk (show Below w.heap.size w w' from below_step zb hb); clear HB hb; have HB := HB1; clear HB1)
            go_roundg (l.length - k)
            case measure => have := HG.out; omega
            case rel => exact ⟨k + 1, by omega, by first | rfl | go_num, ⟨by omega⟩, HS, ⟨zb⟩⟩
           have gc0 : (undosF X.f4 != 0) = true := by simp [bne, hc0]
           have hf := Aside0.mk (show txnF nx ck l k X Y = undosF X.f4 from by simp [txnF, txnBad, hin1, hin2, hin3, hin4, hle, hd0, hs2, hdle, hu0, hs1, gu0, hk0])
           have HE := Aside0.mk (scan_ret (v := undosF X.f4) HA.out hlt (by show txnF nx ck l k (l.getD k z45) (l.getD (k - 1) z45) = _; rw [← HX.out, ← HY.out]; exact hf.out) (by simpa using hc0))
           go_wp2
           go_quiet ((go_at_call 24; exact Calls.quiet_of (cIn _ _ _ _)))
           go_wp2
           go_quiet (fail)
           go_wp2_with (go_at_call 51; refine (spec_l6Undos.at _ A4 c4 X.f4 (World.drewN wr _) ((fun n => (show (World.drewN wr n).cell? ⟨(ad.add (k * 5)).block, (ad.add (k * 5)).off + 4, none⟩ = some (.slice A4 X.f4.length c4) from hx4)) _) (Kd.C_drewN hr4 _)).mono ?_; rintro e w' ⟨rfl, hb⟩; have HB1 := Aside0.mk (show Below w.heap.size w w' from below_step zb hb); clear HB hb; have HB := HB1; clear HB1)
           go_ret
           exact ⟨by rw [HE.out]; rfl, zb⟩
          have gs1 : (X.f2 != 1) = true := by simp [bne, hs1]
          have hf := Aside0.mk (show txnF nx ck l k X Y = 1 from by simp [txnF, txnBad, hin1, hin2, hin3, hin4, hle, hd0, hs2, hdle, hu0, hs1, gu0, hk0])
          have HE := Aside0.mk (scan_ret (v := 1) HA.out hlt (by show txnF nx ck l k (l.getD k z45) (l.getD (k - 1) z45) = _; rw [← HX.out, ← HY.out]; exact hf.out) (by decide))
          go_wp2
          go_quiet ((go_at_call 24; exact Calls.quiet_of (cIn _ _ _ _)))
          go_wp2
          go_quiet (fail)
          go_wp2
          go_ret
          exact ⟨by rw [HE.out]; rfl, zb⟩
         have gu0 : decide (0 < X.f4.length) = false := by rw [← hu0]; apply decide_eq_decide.2; omega
         rcases hb_ ((undosF X.f4 == 0)) with hc0 | hc0
         ·have gc0 : (undosF X.f4 != 0) = false := by simp [bne, hc0]
          have hf := Aside0.mk (show txnF nx ck l k X Y = undosF X.f4 from by simp [txnF, txnBad, hin1, hin2, hin3, hin4, hle, hd0, hs2, hdle, hu0, gu0, hk0])
          have HS := Aside0.mk (scan_next HA.out hlt (by show txnF nx ck l k (l.getD k z45) (l.getD (k - 1) z45) = _; rw [← HX.out, ← HY.out, hf.out]; simpa using hc0))
          go_wp2
          go_quiet ((go_at_call 24; exact Calls.quiet_of (cIn _ _ _ _)))
          go_wp2
          go_quiet (fail)
          go_wp2_with (go_at_call 51; refine (spec_l6Undos.at _ A4 c4 X.f4 (World.drewN wr _) ((fun n => (show (World.drewN wr n).cell? ⟨(ad.add (k * 5)).block, (ad.add (k * 5)).off + 4, none⟩ = some (.slice A4 X.f4.length c4) from hx4)) _) (Kd.C_drewN hr4 _)).mono ?_; rintro e w' ⟨rfl, hb⟩; have HB1 := Aside0.mk (show Below w.heap.size w w' from below_step zb hb); clear HB hb; have HB := HB1; clear HB1)
          go_roundg (l.length - k)
          case measure => have := HG.out; omega
          case rel => exact ⟨k + 1, by omega, by first | rfl | go_num, ⟨by omega⟩, HS, ⟨zb⟩⟩
         have gc0 : (undosF X.f4 != 0) = true := by simp [bne, hc0]
         have hf := Aside0.mk (show txnF nx ck l k X Y = undosF X.f4 from by simp [txnF, txnBad, hin1, hin2, hin3, hin4, hle, hd0, hs2, hdle, hu0, gu0, hk0])
         have HE := Aside0.mk (scan_ret (v := undosF X.f4) HA.out hlt (by show txnF nx ck l k (l.getD k z45) (l.getD (k - 1) z45) = _; rw [← HX.out, ← HY.out]; exact hf.out) (by simpa using hc0))
         go_wp2
         go_quiet ((go_at_call 24; exact Calls.quiet_of (cIn _ _ _ _)))
         go_wp2
         go_quiet (fail)
         go_wp2_with (go_at_call 51; refine (spec_l6Undos.at _ A4 c4 X.f4 (World.drewN wr _) ((fun n => (show (World.drewN wr n).cell? ⟨(ad.add (k * 5)).block, (ad.add (k * 5)).off + 4, none⟩ = some (.slice A4 X.f4.length c4) from hx4)) _) (Kd.C_drewN hr4 _)).mono ?_; rintro e w' ⟨rfl, hb⟩; have HB1 := Aside0.mk (show Below w.heap.size w w' from below_step zb hb); clear HB hb; have HB := HB1; clear HB1)
         go_ret
         exact ⟨by rw [HE.out]; rfl, zb⟩
        have gs2 : (X.f2 != 2) = true := by simp [bne, hs2]
        have hf := Aside0.mk (show txnF nx ck l k X Y = 1 from by simp [txnF, txnBad, hin1, hin2, hin3, hin4, hle, hd0, hs2, hk0])
        have HE := Aside0.mk (scan_ret (v := 1) HA.out hlt (by show txnF nx ck l k (l.getD k z45) (l.getD (k - 1) z45) = _; rw [← HX.out, ← HY.out]; exact hf.out) (by decide))
        go_wp2
        go_quiet ((go_at_call 24; exact Calls.quiet_of (cIn _ _ _ _)))
        go_wp2
        go_quiet (fail)
        go_wp2
        go_ret
        exact ⟨by rw [HE.out]; rfl, zb⟩
       skip
       have hf := Aside0.mk (show txnF nx ck l k X Y = 3 from by simp [txnF, txnBad, hin1, hin2, hin3, hin4, hk0])
       have HE := Aside0.mk (scan_ret (v := 3) HA.out hlt (by show txnF nx ck l k (l.getD k z45) (l.getD (k - 1) z45) = _; rw [← HX.out, ← HY.out]; exact hf.out) (by decide))
       go_wp2
       go_quiet ((go_at_call 24; exact Calls.quiet_of (cIn _ _ _ _)))
       go_wp2
       go_ret
       exact ⟨by rw [HE.out]; rfl, zb⟩
      skip
      have hf := Aside0.mk (show txnF nx ck l k X Y = 3 from by simp [txnF, txnBad, hin1, hin2, hin3, hk0])
      have HE := Aside0.mk (scan_ret (v := 3) HA.out hlt (by show txnF nx ck l k (l.getD k z45) (l.getD (k - 1) z45) = _; rw [← HX.out, ← HY.out]; exact hf.out) (by decide))
      go_wp2
      go_quiet ((go_at_call 24; exact Calls.quiet_of (cIn _ _ _ _)))
      go_wp2
      go_ret
      exact ⟨by rw [HE.out]; rfl, zb⟩
     skip
     have hf := Aside0.mk (show txnF nx ck l k X Y = 3 from by simp [txnF, txnBad, hin1, hin2, hk0])
     have HE := Aside0.mk (scan_ret (v := 3) HA.out hlt (by show txnF nx ck l k (l.getD k z45) (l.getD (k - 1) z45) = _; rw [← HX.out, ← HY.out]; exact hf.out) (by decide))
     go_wp2
     go_quiet ((go_at_call 24; exact Calls.quiet_of (cIn _ _ _ _)))
     go_wp2
     go_ret
     exact ⟨by rw [HE.out]; rfl, zb⟩
    ·skip
     have hf := Aside0.mk (show txnF nx ck l k X Y = 3 from by simp [txnF, txnBad, hin1, hk0])
     have HE := Aside0.mk (scan_ret (v := 3) HA.out hlt (by show txnF nx ck l k (l.getD k z45) (l.getD (k - 1) z45) = _; rw [← HX.out, ← HY.out]; exact hf.out) (by decide))
     go_wp2
     go_quiet ((go_at_call 24; exact Calls.quiet_of (cIn _ _ _ _)))
     go_wp2
     go_ret
     exact ⟨by rw [HE.out]; rfl, zb⟩
   ·have hk0 : decide (0 < k) = false := decide_eq_false kp
    have hk1 : decide ((0 : Int) < (k : Int)) = false := decide_eq_false (by omega)
    have HY := Aside0.mk hY
    clear hY kp
    rcases hb_ (inB X.f0 1 (nx - 1)) with hin1 | hin1
    ·skip
     rcases hb_ (inB X.f1 0 ck) with hin2 | hin2
     ·skip
      rcases hb_ (inB X.f2 1 3) with hin3 | hin3
      ·skip
       rcases hb_ (inB X.f3 0 ck) with hin4 | hin4
       ·skip
        rcases hb_ ((X.f3 == 0)) with hd0 | hd0
        ·have gd0 : (X.f3 != 0) = false := by simp [bne, hd0]
         rcases hb_ (decide ((0 : Int) < (X.f4.length : Int))) with hu0 | hu0
         ·have gu0 : decide (0 < X.f4.length) = true := by rw [← hu0]; apply decide_eq_decide.2; omega
          rcases hb_ ((X.f2 == 1)) with hs1 | hs1
          ·have gs1 : (X.f2 != 1) = false := by simp [bne, hs1]
           rcases hb_ ((undosF X.f4 == 0)) with hc0 | hc0
           ·have gc0 : (undosF X.f4 != 0) = false := by simp [bne, hc0]
            have hf := Aside0.mk (show txnF nx ck l k X Y = undosF X.f4 from by simp [txnF, txnBad, hin1, hin2, hin3, hin4, hd0, hu0, hs1, gu0, hk0])
            have HS := Aside0.mk (scan_next HA.out hlt (by show txnF nx ck l k (l.getD k z45) (l.getD (k - 1) z45) = _; rw [← HX.out, ← HY.out, hf.out]; simpa using hc0))
            go_wp2
            go_quiet ((go_at_call 24; exact Calls.quiet_of (cIn _ _ _ _)))
            go_wp2
            go_quiet (fail)
            go_wp2_with (go_at_call 51; refine (spec_l6Undos.at _ A4 c4 X.f4 (World.drewN wr _) ((fun n => (show (World.drewN wr n).cell? ⟨(ad.add (k * 5)).block, (ad.add (k * 5)).off + 4, none⟩ = some (.slice A4 X.f4.length c4) from hx4)) _) (Kd.C_drewN hr4 _)).mono ?_; rintro e w' ⟨rfl, hb⟩; have HB1 := Aside0.mk (show Below w.heap.size w w' from below_step zb hb); clear HB hb; have HB := HB1; clear HB1)
            go_roundg (l.length - k)
            case measure => have := HG.out; omega
            case rel => exact ⟨k + 1, by omega, by first | rfl | go_num, ⟨by omega⟩, HS, ⟨zb⟩⟩
           have gc0 : (undosF X.f4 != 0) = true := by simp [bne, hc0]
           have hf := Aside0.mk (show txnF nx ck l k X Y = undosF X.f4 from by simp [txnF, txnBad, hin1, hin2, hin3, hin4, hd0, hu0, hs1, gu0, hk0])
           have HE := Aside0.mk (scan_ret (v := undosF X.f4) HA.out hlt (by show txnF nx ck l k (l.getD k z45) (l.getD (k - 1) z45) = _; rw [← HX.out, ← HY.out]; exact hf.out) (by simpa using hc0))
           go_wp2
           go_quiet ((go_at_call 24; exact Calls.quiet_of (cIn _ _ _ _)))
           go_wp2
           go_quiet (fail)
           go_wp2_with (go_at_call 51; refine (spec_l6Undos.at _ A4 c4 X.f4 (World.drewN wr _) ((fun n => (show (World.drewN wr n).cell? ⟨(ad.add (k * 5)).block, (ad.add (k * 5)).off + 4, none⟩ = some (.slice A4 X.f4.length c4) from hx4)) _) (Kd.C_drewN hr4 _)).mono ?_; rintro e w' ⟨rfl, hb⟩; have HB1 := Aside0.mk (show Below w.heap.size w w' from below_step zb hb); clear HB hb; have HB := HB1; clear HB1)
           go_ret
           exact ⟨by rw [HE.out]; rfl, zb⟩
          have gs1 : (X.f2 != 1) = true := by simp [bne, hs1]
          have hf := Aside0.mk (show txnF nx ck l k X Y = 1 from by simp [txnF, txnBad, hin1, hin2, hin3, hin4, hd0, hu0, hs1, gu0, hk0])
          have HE := Aside0.mk (scan_ret (v := 1) HA.out hlt (by show txnF nx ck l k (l.getD k z45) (l.getD (k - 1) z45) = _; rw [← HX.out, ← HY.out]; exact hf.out) (by decide))
          go_wp2
          go_quiet ((go_at_call 24; exact Calls.quiet_of (cIn _ _ _ _)))
          go_wp2
          go_quiet (fail)
          go_wp2
          go_ret
          exact ⟨by rw [HE.out]; rfl, zb⟩
         have gu0 : decide (0 < X.f4.length) = false := by rw [← hu0]; apply decide_eq_decide.2; omega
         rcases hb_ ((undosF X.f4 == 0)) with hc0 | hc0
         ·have gc0 : (undosF X.f4 != 0) = false := by simp [bne, hc0]
          have hf := Aside0.mk (show txnF nx ck l k X Y = undosF X.f4 from by simp [txnF, txnBad, hin1, hin2, hin3, hin4, hd0, hu0, gu0, hk0])
          have HS := Aside0.mk (scan_next HA.out hlt (by show txnF nx ck l k (l.getD k z45) (l.getD (k - 1) z45) = _; rw [← HX.out, ← HY.out, hf.out]; simpa using hc0))
          go_wp2
          go_quiet ((go_at_call 24; exact Calls.quiet_of (cIn _ _ _ _)))
          go_wp2
          go_quiet (fail)
          go_wp2_with (go_at_call 51; refine (spec_l6Undos.at _ A4 c4 X.f4 (World.drewN wr _) ((fun n => (show (World.drewN wr n).cell? ⟨(ad.add (k * 5)).block, (ad.add (k * 5)).off + 4, none⟩ = some (.slice A4 X.f4.length c4) from hx4)) _) (Kd.C_drewN hr4 _)).mono ?_; rintro e w' ⟨rfl, hb⟩; have HB1 := Aside0.mk (show Below w.heap.size w w' from below_step zb hb); clear HB hb; have HB := HB1; clear HB1)
          go_roundg (l.length - k)
          case measure => have := HG.out; omega
          case rel => exact ⟨k + 1, by omega, by first | rfl | go_num, ⟨by omega⟩, HS, ⟨zb⟩⟩
         have gc0 : (undosF X.f4 != 0) = true := by simp [bne, hc0]
         have hf := Aside0.mk (show txnF nx ck l k X Y = undosF X.f4 from by simp [txnF, txnBad, hin1, hin2, hin3, hin4, hd0, hu0, gu0, hk0])
         have HE := Aside0.mk (scan_ret (v := undosF X.f4) HA.out hlt (by show txnF nx ck l k (l.getD k z45) (l.getD (k - 1) z45) = _; rw [← HX.out, ← HY.out]; exact hf.out) (by simpa using hc0))
         go_wp2
         go_quiet ((go_at_call 24; exact Calls.quiet_of (cIn _ _ _ _)))
         go_wp2
         go_quiet (fail)
         go_wp2_with (go_at_call 51; refine (spec_l6Undos.at _ A4 c4 X.f4 (World.drewN wr _) ((fun n => (show (World.drewN wr n).cell? ⟨(ad.add (k * 5)).block, (ad.add (k * 5)).off + 4, none⟩ = some (.slice A4 X.f4.length c4) from hx4)) _) (Kd.C_drewN hr4 _)).mono ?_; rintro e w' ⟨rfl, hb⟩; have HB1 := Aside0.mk (show Below w.heap.size w w' from below_step zb hb); clear HB hb; have HB := HB1; clear HB1)
         go_ret
         exact ⟨by rw [HE.out]; rfl, zb⟩
        have gd0 : (X.f3 != 0) = true := by simp [bne, hd0]
        rcases hb_ ((X.f2 == 2)) with hs2 | hs2
        ·have gs2 : (X.f2 != 2) = false := by simp [bne, hs2]
         rcases hb_ (decide (X.f3 ≤ X.f1)) with hdle | hdle
         ·skip
          have hf := Aside0.mk (show txnF nx ck l k X Y = 1 from by simp [txnF, txnBad, hin1, hin2, hin3, hin4, hd0, hs2, hdle, hk0])
          have HE := Aside0.mk (scan_ret (v := 1) HA.out hlt (by show txnF nx ck l k (l.getD k z45) (l.getD (k - 1) z45) = _; rw [← HX.out, ← HY.out]; exact hf.out) (by decide))
          go_wp2
          go_quiet ((go_at_call 24; exact Calls.quiet_of (cIn _ _ _ _)))
          go_wp2
          go_quiet (fail)
          go_wp2
          go_ret
          exact ⟨by rw [HE.out]; rfl, zb⟩
         skip
         rcases hb_ (decide ((0 : Int) < (X.f4.length : Int))) with hu0 | hu0
         ·have gu0 : decide (0 < X.f4.length) = true := by rw [← hu0]; apply decide_eq_decide.2; omega
          rcases hb_ ((X.f2 == 1)) with hs1 | hs1
          ·have gs1 : (X.f2 != 1) = false := by simp [bne, hs1]
           rcases hb_ ((undosF X.f4 == 0)) with hc0 | hc0
           ·have gc0 : (undosF X.f4 != 0) = false := by simp [bne, hc0]
            have hf := Aside0.mk (show txnF nx ck l k X Y = undosF X.f4 from by simp [txnF, txnBad, hin1, hin2, hin3, hin4, hd0, hs2, hdle, hu0, hs1, gu0, hk0])
            have HS := Aside0.mk (scan_next HA.out hlt (by show txnF nx ck l k (l.getD k z45) (l.getD (k - 1) z45) = _; rw [← HX.out, ← HY.out, hf.out]; simpa using hc0))
            go_wp2
            go_quiet ((go_at_call 24; exact Calls.quiet_of (cIn _ _ _ _)))
            go_wp2
            go_quiet (fail)
            go_wp2_with (go_at_call 51; refine (spec_l6Undos.at _ A4 c4 X.f4 (World.drewN wr _) ((fun n => (show (World.drewN wr n).cell? ⟨(ad.add (k * 5)).block, (ad.add (k * 5)).off + 4, none⟩ = some (.slice A4 X.f4.length c4) from hx4)) _) (Kd.C_drewN hr4 _)).mono ?_; rintro e w' ⟨rfl, hb⟩; have HB1 := Aside0.mk (show Below w.heap.size w w' from below_step zb hb); clear HB hb; have HB := HB1; clear HB1)
            go_roundg (l.length - k)
            case measure => have := HG.out; omega
            case rel => exact ⟨k + 1, by omega, by first | rfl | go_num, ⟨by omega⟩, HS, ⟨zb⟩⟩
           have gc0 : (undosF X.f4 != 0) = true := by simp [bne, hc0]
           have hf := Aside0.mk (show txnF nx ck l k X Y = undosF X.f4 from by simp [txnF, txnBad, hin1, hin2, hin3, hin4, hd0, hs2, hdle, hu0, hs1, gu0, hk0])
           have HE := Aside0.mk (scan_ret (v := undosF X.f4) HA.out hlt (by show txnF nx ck l k (l.getD k z45) (l.getD (k - 1) z45) = _; rw [← HX.out, ← HY.out]; exact hf.out) (by simpa using hc0))
           go_wp2
           go_quiet ((go_at_call 24; exact Calls.quiet_of (cIn _ _ _ _)))
           go_wp2
           go_quiet (fail)
           go_wp2_with (go_at_call 51; refine (spec_l6Undos.at _ A4 c4 X.f4 (World.drewN wr _) ((fun n => (show (World.drewN wr n).cell? ⟨(ad.add (k * 5)).block, (ad.add (k * 5)).off + 4, none⟩ = some (.slice A4 X.f4.length c4) from hx4)) _) (Kd.C_drewN hr4 _)).mono ?_; rintro e w' ⟨rfl, hb⟩; have HB1 := Aside0.mk (show Below w.heap.size w w' from below_step zb hb); clear HB hb; have HB := HB1; clear HB1)
           go_ret
           exact ⟨by rw [HE.out]; rfl, zb⟩
          have gs1 : (X.f2 != 1) = true := by simp [bne, hs1]
          have hf := Aside0.mk (show txnF nx ck l k X Y = 1 from by simp [txnF, txnBad, hin1, hin2, hin3, hin4, hd0, hs2, hdle, hu0, hs1, gu0, hk0])
          have HE := Aside0.mk (scan_ret (v := 1) HA.out hlt (by show txnF nx ck l k (l.getD k z45) (l.getD (k - 1) z45) = _; rw [← HX.out, ← HY.out]; exact hf.out) (by decide))
          go_wp2
          go_quiet ((go_at_call 24; exact Calls.quiet_of (cIn _ _ _ _)))
          go_wp2
          go_quiet (fail)
          go_wp2
          go_ret
          exact ⟨by rw [HE.out]; rfl, zb⟩
         have gu0 : decide (0 < X.f4.length) = false := by rw [← hu0]; apply decide_eq_decide.2; omega
         rcases hb_ ((undosF X.f4 == 0)) with hc0 | hc0
         ·have gc0 : (undosF X.f4 != 0) = false := by simp [bne, hc0]
          have hf := Aside0.mk (show txnF nx ck l k X Y = undosF X.f4 from by simp [txnF, txnBad, hin1, hin2, hin3, hin4, hd0, hs2, hdle, hu0, gu0, hk0])
          have HS := Aside0.mk (scan_next HA.out hlt (by show txnF nx ck l k (l.getD k z45) (l.getD (k - 1) z45) = _; rw [← HX.out, ← HY.out, hf.out]; simpa using hc0))
          go_wp2
          go_quiet ((go_at_call 24; exact Calls.quiet_of (cIn _ _ _ _)))
          go_wp2
          go_quiet (fail)
          go_wp2_with (go_at_call 51; refine (spec_l6Undos.at _ A4 c4 X.f4 (World.drewN wr _) ((fun n => (show (World.drewN wr n).cell? ⟨(ad.add (k * 5)).block, (ad.add (k * 5)).off + 4, none⟩ = some (.slice A4 X.f4.length c4) from hx4)) _) (Kd.C_drewN hr4 _)).mono ?_; rintro e w' ⟨rfl, hb⟩; have HB1 := Aside0.mk (show Below w.heap.size w w' from below_step zb hb); clear HB hb; have HB := HB1; clear HB1)
          go_roundg (l.length - k)
          case measure => have := HG.out; omega
          case rel => exact ⟨k + 1, by omega, by first | rfl | go_num, ⟨by omega⟩, HS, ⟨zb⟩⟩
         have gc0 : (undosF X.f4 != 0) = true := by simp [bne, hc0]
         have hf := Aside0.mk (show txnF nx ck l k X Y = undosF X.f4 from by simp [txnF, txnBad, hin1, hin2, hin3, hin4, hd0, hs2, hdle, hu0, gu0, hk0])
         have HE := Aside0.mk (scan_ret (v := undosF X.f4) HA.out hlt (by show txnF nx ck l k (l.getD k z45) (l.getD (k - 1) z45) = _; rw [← HX.out, ← HY.out]; exact hf.out) (by simpa using hc0))
         go_wp2
         go_quiet ((go_at_call 24; exact Calls.quiet_of (cIn _ _ _ _)))
         go_wp2
         go_quiet (fail)
         go_wp2_with (go_at_call 51; refine (spec_l6Undos.at _ A4 c4 X.f4 (World.drewN wr _) ((fun n => (show (World.drewN wr n).cell? ⟨(ad.add (k * 5)).block, (ad.add (k * 5)).off + 4, none⟩ = some (.slice A4 X.f4.length c4) from hx4)) _) (Kd.C_drewN hr4 _)).mono ?_; rintro e w' ⟨rfl, hb⟩; have HB1 := Aside0.mk (show Below w.heap.size w w' from below_step zb hb); clear HB hb; have HB := HB1; clear HB1)
         go_ret
         exact ⟨by rw [HE.out]; rfl, zb⟩
        have gs2 : (X.f2 != 2) = true := by simp [bne, hs2]
        have hf := Aside0.mk (show txnF nx ck l k X Y = 1 from by simp [txnF, txnBad, hin1, hin2, hin3, hin4, hd0, hs2, hk0])
        have HE := Aside0.mk (scan_ret (v := 1) HA.out hlt (by show txnF nx ck l k (l.getD k z45) (l.getD (k - 1) z45) = _; rw [← HX.out, ← HY.out]; exact hf.out) (by decide))
        go_wp2
        go_quiet ((go_at_call 24; exact Calls.quiet_of (cIn _ _ _ _)))
        go_wp2
        go_quiet (fail)
        go_wp2
        go_ret
        exact ⟨by rw [HE.out]; rfl, zb⟩
       skip
       have hf := Aside0.mk (show txnF nx ck l k X Y = 3 from by simp [txnF, txnBad, hin1, hin2, hin3, hin4, hk0])
       have HE := Aside0.mk (scan_ret (v := 3) HA.out hlt (by show txnF nx ck l k (l.getD k z45) (l.getD (k - 1) z45) = _; rw [← HX.out, ← HY.out]; exact hf.out) (by decide))
       go_wp2
       go_quiet ((go_at_call 24; exact Calls.quiet_of (cIn _ _ _ _)))
       go_wp2
       go_ret
       exact ⟨by rw [HE.out]; rfl, zb⟩
      skip
      have hf := Aside0.mk (show txnF nx ck l k X Y = 3 from by simp [txnF, txnBad, hin1, hin2, hin3, hk0])
      have HE := Aside0.mk (scan_ret (v := 3) HA.out hlt (by show txnF nx ck l k (l.getD k z45) (l.getD (k - 1) z45) = _; rw [← HX.out, ← HY.out]; exact hf.out) (by decide))
      go_wp2
      go_quiet ((go_at_call 24; exact Calls.quiet_of (cIn _ _ _ _)))
      go_wp2
      go_ret
      exact ⟨by rw [HE.out]; rfl, zb⟩
     skip
     have hf := Aside0.mk (show txnF nx ck l k X Y = 3 from by simp [txnF, txnBad, hin1, hin2, hk0])
     have HE := Aside0.mk (scan_ret (v := 3) HA.out hlt (by show txnF nx ck l k (l.getD k z45) (l.getD (k - 1) z45) = _; rw [← HX.out, ← HY.out]; exact hf.out) (by decide))
     go_wp2
     go_quiet ((go_at_call 24; exact Calls.quiet_of (cIn _ _ _ _)))
     go_wp2
     go_ret
     exact ⟨by rw [HE.out]; rfl, zb⟩
    skip
    have hf := Aside0.mk (show txnF nx ck l k X Y = 3 from by simp [txnF, txnBad, hin1, hk0])
    have HE := Aside0.mk (scan_ret (v := 3) HA.out hlt (by show txnF nx ck l k (l.getD k z45) (l.getD (k - 1) z45) = _; rw [← HX.out, ← HY.out]; exact hf.out) (by decide))
    go_wp2
    go_quiet ((go_at_call 24; exact Calls.quiet_of (cIn _ _ _ _)))
    go_wp2
    go_ret
    exact ⟨by rw [HE.out]; rfl, zb⟩
  have hkn : k = l.length := by omega
  have HE := Aside0.mk (scan_end HA.out hkn)
  have c3 : decide (k < l.length) = false := decide_eq_false hlt
  clear hkn
  go_wp2
  go_ret
  exact ⟨by rw [HE.out]; rfl, HB.out⟩
theorem quiet2 {P : Program} {f : FuncId} {args : Array Value} {w : World} {a n : Nat} {v : Value} (h : Calls P f args (w.drewN (a + n)) fun e w' => e = .returned v ∧ w' = w.drewN (a + n)) : Calls P f args (w.drewN (a + n)) fun e w'' => e = .returned v ∧ ∃ m, w'' = w.drewN (a + m) := h.mono fun _ _ ⟨he, hm⟩ => ⟨he, n, hm⟩
theorem quietN {P : Program} {f : FuncId} {args : Array Value} {w : World} {a n : Nat} {v : Value} (h : Calls P f args (w.drewN (a + n)) fun e w' => e = .returned v ∧ ∃ m, w' = (w.drewN (a + n)).drewN m) : Calls P f args (w.drewN (a + n)) fun e w'' => e = .returned v ∧ ∃ m, w'' = w.drewN (a + m) := h.mono fun _ _ ⟨he, m, hm⟩ => ⟨he, n + m, by rw [hm, World.drewN_drewN, Nat.add_assoc]⟩
theorem l5Writer_f (l : List S51) : spec_l5Writer.f l = some (writerF l) := by
 unfold spec_l5Writer.f writerF
 by_cases h : 0 < l.length
 ·rw [if_pos (by omega), if_pos (by omega)]
  by_cases h2 : (l.getD 0 z51).f1 = 0
  ·have h3 : (rd_T51 l 0).f1 = 0 := h2
   rw [if_pos h3]; simp only [h, h2, decide_true, Bool.true_and, beq_self_eq_true, if_true]; rfl
  have h3 : ¬ (rd_T51 l 0).f1 = 0 := h2
  rw [if_neg h3]; simp only [h, h2, decide_true, Bool.true_and, beq_iff_eq, if_false]
 rw [if_neg (by omega)]; simp [h]
theorem cWriter (A : Option Addr) (c : Nat) (l : List S51) (w : World) (hr : Kd.C k51 w A l.length l) (hc : l.length ≤ c) : Calls Tryd.prog 56 #[.slice A l.length c] w fun e w' => e = .returned (.int .i64 (writerF l)) ∧ ∃ n, w' = w.drewN n := (spec_l5Writer.calls A c l _ w hr hc (l5Writer_f l)).mono fun _ _ h => ⟨h.1, h.2.out⟩
theorem idx_lt {α : Type} (p : α → Bool) (l : List α) (h : 0 ≤ Lb.idx p l) : Lb.idx p l < l.length := by
 rcases Lb.idxFrom_ge p l 0 with ⟨h1, h2⟩ | ⟨h1, h2, h3⟩
 ·unfold Lb.idx at h; omega
 unfold Lb.idx; omega
set_option maxHeartbeats 8000000 in
set_option maxRecDepth 100000 in
theorem spec_l6Open.at (p q : Addr) (A2 : Option Addr) (c2 : Nat) (txns : List S45) (key : Int) (A1 : Option Addr) (c1 : Nat) (chain : List S51) (w : World) (q2 : w.cell? ⟨p.block, p.off + 2, none⟩ = some (.slice A2 txns.length c2)) (hr2 : Kd.C k45 w A2 txns.length txns)
 (r0 : w.cell? q = some (.int .i64 key)) (r1 : w.cell? ⟨q.block, q.off + 1, none⟩ = some (.slice A1 chain.length c1)) (hr1 : Kd.C k51 w A1 chain.length chain) (hc1 : chain.length ≤ c1) :
 Calls Tryd.prog 54 #[.pointer (some p), .pointer (some q)] w fun e w' => e = .returned (.bool (openF txns key chain)) ∧ ∃ n, w' = w.drewN n := by
 have hu33 := Tryd.underlying33
 have hu45 := Tryd.underlying45
 have hu49 := Tryd.underlying49
 have hn := hr2.2.1
 have HR2 := Aside0.mk hr2
 have HR1 := Aside0.mk hr1
 have HC1 := Aside0.mk hc1
 clear hr2 hr1 hc1
 unfold openF
 obtain ⟨wt, hwt⟩ : ∃ x, x = writerF chain := ⟨_, rfl⟩
 rw [← hwt]
 have HW := Aside0.mk hwt
 clear hwt
 have HT := fun n => Aside0.mk (spec_l6Txn.at p A2 c2 txns wt (w.drewN n) q2 (Kd.C_drewN HR2.out n))
 generalize hat : Lb.idx (fun u : S45 => u.f0 == wt) txns = at_ at HT ⊢
 have HAT := Aside0.mk hat
 clear hat
 have HTT := Aside0.mk HT
 clear HT
 rcases hb_ (wt == 0) with h0 | h0
 ·rw [h0]
  have g0 : (wt != 0) = false := by simp [bne, h0]
  go_enter Tryd.func54, Tryd.ntmps54
  go_wp2_with (go_at_call 56; refine (cWriter _ _ _ _ HR1.out HC1.out).mono ?_; rintro e w' ⟨rfl, n, rfl⟩; rw [← HW.out])
  go_ret
  exact ⟨rfl, ⟨_, rfl⟩⟩
 rw [h0]
 have g0 : (wt != 0) = true := by simp [bne, h0]
 rcases hb_ (decide (0 ≤ at_)) with h1 | h1
 ·have g1 : (0 : Int) ≤ at_ := of_decide_eq_true h1
  have g2 : at_ < (txns.length : Int) := by rw [← HAT.out]; exact idx_lt _ _ (by rw [HAT.out]; exact g1)
  obtain ⟨ad, A4, c4, ea, hx0, hx1, hx2, hx3, hx4, hl4, hr4⟩ := at_T45 HR2.out at_ g1 g2
  cases ea
  obtain ⟨X, hX⟩ : ∃ x, x = txns.getD at_.toNat z45 := ⟨_, rfl⟩
  rw [show rd_T45 txns at_ = X from hX.symm] at hx2 hx4 hl4 hr4
  clear hx0 hx1 hx3
  rw [← hX]
  have HX := Aside0.mk hX
  clear hX
  have HR4 := Aside0.mk hr4
  clear hr4
  rcases hb_ (X.f2 == 1) with h2 | h2
  ·rw [h1, h2]
   obtain ⟨b, hb⟩ : ∃ b, b = X.f4.any fun u => u.f0 == key := ⟨_, rfl⟩
   rw [← hb]
   have HBB := Aside0.mk hb
   clear hb
   go_enter Tryd.func54, Tryd.ntmps54
   go_wp2_with (first | (go_at_call 56; refine (cWriter _ _ _ _ HR1.out HC1.out).mono ?_; rintro e w' ⟨rfl, n, rfl⟩; rw [← HW.out]) | (go_at_call 71; refine ((HTT.out _).out).mono ?_; rintro e w' ⟨rfl, rfl⟩))
   go_quiet ((go_at_call 72; exact quiet2 (v := .bool b) ((spec_l6Wrote.at (ad.add (at_.toNat * 5)) A4 c4 X.f4 key (World.drewN w _) hx4 (Kd.C_drewN HR4.out _)).mono (fun _ _ h => ⟨by rw [h.1, ← HBB.out], h.2.symm⟩))))
   go_wp2
   go_ret
   exact ⟨by first | rfl | simp, ⟨_, rfl⟩⟩
  ·rw [h1, h2]
   go_enter Tryd.func54, Tryd.ntmps54
   go_wp2_with (first | (go_at_call 56; refine (cWriter _ _ _ _ HR1.out HC1.out).mono ?_; rintro e w' ⟨rfl, n, rfl⟩; rw [← HW.out]) | (go_at_call 71; refine ((HTT.out _).out).mono ?_; rintro e w' ⟨rfl, rfl⟩))
   go_quiet (fail)
   go_wp2
   go_ret
   exact ⟨by first | rfl | simp, ⟨_, rfl⟩⟩
 rw [h1]
 go_enter Tryd.func54, Tryd.ntmps54
 go_wp2_with (first | (go_at_call 56; refine (cWriter _ _ _ _ HR1.out HC1.out).mono ?_; rintro e w' ⟨rfl, n, rfl⟩; rw [← HW.out]) | (go_at_call 71; refine ((HTT.out _).out).mono ?_; rintro e w' ⟨rfl, rfl⟩))
 go_quiet (fail)
 go_wp2
 go_ret
 exact ⟨by first | rfl | simp, ⟨_, rfl⟩⟩
theorem cKey (a : Int) (w : World) : Calls Tryd.prog 52 #[.int .i64 a] w fun e w' => e = .returned (.bool (inB a 0 31)) ∧ ∃ n, w' = w.drewN n := (spec_l1Key.calls a _ w (l1Key_f a)).mono fun _ _ h => ⟨h.1, h.2.out⟩
theorem cCF (K : Nat) (A : Option Addr) (c : Nat) (l : List S51) (v : Int) (w : World) (hr : Kd.C k51 w A l.length l) (hc : l.length ≤ c) (h : spec_ChainFault.f K l = some v) : Calls Tryd.prog 53 #[.slice A l.length c] w fun e w' => e = .returned (.int .i64 v) ∧ Below w.heap.size w w' := spec_ChainFault.calls K A c l _ w hr hc h
set_option maxHeartbeats 40000000 in
set_option maxRecDepth 100000 in
theorem spec_l6Rows.at (p : Addr) (ck : Int) (A2 : Option Addr) (c2 : Nat) (txns : List S45) (A3 : Option Addr) (c3 : Nat) (l : List S49) (w : World) (q1 : w.cell? ⟨p.block, p.off + 1, none⟩ = some (.int .i64 ck)) (q2 : w.cell? ⟨p.block, p.off + 2, none⟩ = some (.slice A2 txns.length c2)) (hr2 : Kd.C k45 w A2 txns.length txns)
 (q3 : w.cell? ⟨p.block, p.off + 3, none⟩ = some (.slice A3 l.length c3)) (hr3 : Kd.C k49 w A3 l.length l) (K : Nat) (cf : List S51 → Int) (hbb : ∀ r ∈ l, spec_ChainFault.f K r.f1 = some (cf r.f1)) :
 Calls Tryd.prog 26 #[.pointer (some p)] w fun e w' => e = .returned (.int .i64 (rowsF cf ck txns l)) ∧ Below w.heap.size w w' := by
 have hu33 := Tryd.underlying33
 have hu45 := Tryd.underlying45
 have hu49 := Tryd.underlying49
 have hu51 := Tryd.underlying51
 have hn := hr3.2.1
 have HR := Aside0.mk hr3
 have HR2 := Aside0.mk hr2
 have HBB := Aside0.mk hbb
 have Q1 := Aside0.mk q1
 have Q2 := Aside0.mk q2
 clear hr3 hr2 hbb q1 q2
 unfold rowsF
 generalize hR : scanI (fun i => rowF cf ck txns i (l.getD i z49) (l.getD (i - 1) z49)) l.length 0 = r
 have HI := Aside0.mk hR
 clear hR
 go_enter Tryd.func26, Tryd.ntmps26
 go_wp2
 go_loopg [3] (l.length + 1) (fun gg v3 wr => ∃ k : Nat, k ≤ l.length ∧ v3 = .int .i64 (k : Int) ∧ Aside0 (l.length - k < gg) ∧ Aside0 (scanI (fun i => rowF cf ck txns i (l.getD i z49) (l.getD (i - 1) z49)) (l.length - k) k = r) ∧ Aside0 (Below w.heap.size w wr))
 case atStart => exact ⟨0, by omega, rfl, ⟨by omega⟩, HI, ⟨Below.refl _ _⟩⟩
 case round =>
  obtain ⟨k, hk, rfl, HG, HA, HB⟩ := hrel
  have q1 := (HB.out.cell (World.block_lt_of_cell? w _ Q1.out)).trans Q1.out
  have q2 := (HB.out.cell (World.block_lt_of_cell? w _ Q2.out)).trans Q2.out
  by_cases hlt : k < l.length
  ·have g0 : (0 : Int) ≤ (k : Int) := by omega
   have g1 : (k : Int) < (l.length : Int) := by omega
   obtain ⟨ad, A1, c1, ea, hx0, hx1, hl1, hr1⟩ := at_T49 HR.out (k : Int) g0 g1
   cases ea
   have Q3 := Aside0.mk q3
   clear q3
   have q3 := (HB.out.cell (World.block_lt_of_cell? w _ Q3.out)).trans Q3.out
   obtain ⟨X, hX⟩ : ∃ x, x = l.getD k z49 := ⟨_, rfl⟩
   obtain ⟨Y, hY⟩ : ∃ x, x = l.getD (k - 1) z49 := ⟨_, rfl⟩
   rw [show rd_T49 l (k : Int) = X from hX.symm, show (k : Int).toNat = k from Int.toNat_natCast k] at hx0 hx1
   rw [show rd_T49 l (k : Int) = X from hX.symm] at hl1 hr1
   have HLB := Aside0.mk (show spec_ChainFault.f K X.f1 = some (cf X.f1) from by rw [hX, Lb.getD_at hlt]; exact HBB.out _ (List.getElem_mem hlt))
   have HX := Aside0.mk hX
   have BX0 := Aside0.mk hx0
   have BX1 := Aside0.mk hx1
   have HR1 := Aside0.mk hr1
   have HC1 := Aside0.mk hl1
   clear hX hx0 hx1 hr1 hl1
   have hx0 := (HB.out.cell (World.block_lt_of_cell? w _ BX0.out)).trans BX0.out
   have hx1 := (HB.out.cell (World.block_lt_of_cell? w _ BX1.out)).trans BX1.out
   by_cases kp : 0 < k
   ·have hk0 : decide (0 < k) = true := decide_eq_true kp
    have hk1 : decide ((0 : Int) < (k : Int)) = true := decide_eq_true (by omega)
    have g2 : (0 : Int) ≤ (k : Int) - 1 := by omega
    have g3 : (k : Int) - 1 < (l.length : Int) := by omega
    have g4 : (1 : Int) ≤ (k : Int) := by omega
    have gw : IntKind.i64.wrap ((k : Int) - 1) = (k : Int) - 1 := IntWalk.i64_in _ (by omega)
    obtain ⟨ad2, A5, c5, ea, hy0, hy1, hl5, hr5⟩ := at_T49 (Kd.C_below HR.out HB.out) ((k : Int) - 1) g2 g3
    cases ea
    rw [show rd_T49 l ((k : Int) - 1) = Y from by rw [hY]; show l.getD ((k : Int) - 1).toNat z49 = _; congr 1; omega, show ((k : Int) - 1).toNat = k - 1 from by omega] at hy0
    clear hy1 hl5 hr5
    have HY := Aside0.mk hY
    have BY := Aside0.mk True.intro
    clear hY kp
    rcases hb_ (inB X.f0 0 31) with hkey | hkey
    ·skip
     rcases hb_ (decide (X.f0 ≤ Y.f0)) with hle | hle
     ·skip
      have hf := Aside0.mk (show rowF cf ck txns k X Y = 1 from by simp [rowF, rowBad, hkey, hle, hk0])
      have HE := Aside0.mk (scan_ret (v := 1) HA.out hlt (by show rowF cf ck txns k (l.getD k z49) (l.getD (k - 1) z49) = _; rw [← HX.out, ← HY.out]; exact hf.out) (by decide))
      go_wp2_with (go_at_call 52; refine (cKey _ _).mono ?_; rintro e w' ⟨rfl, n, rfl⟩)
      go_quiet (fail)
      try go_wp2
      go_ret
      exact ⟨by rw [HE.out]; rfl, zb⟩
     skip
     rcases hb_ (((X.f1.length : Int) == 0)) with hemp | hemp
     ·have gemp : (X.f1.length == 0) = true := by simpa using hemp
      have hf := Aside0.mk (show rowF cf ck txns k X Y = 1 from by simp [rowF, rowBad, hkey, hle, hemp, hk0])
      have HE := Aside0.mk (scan_ret (v := 1) HA.out hlt (by show rowF cf ck txns k (l.getD k z49) (l.getD (k - 1) z49) = _; rw [← HX.out, ← HY.out]; exact hf.out) (by decide))
      go_wp2_with (go_at_call 52; refine (cKey _ _).mono ?_; rintro e w' ⟨rfl, n, rfl⟩)
      go_quiet (fail)
      try go_wp2
      go_ret
      exact ⟨by rw [HE.out]; rfl, zb⟩
     have gemp : (X.f1.length == 0) = false := by simpa using hemp
     have gl0 : 0 < X.f1.length := by have := hemp; simp at this; exact List.length_pos_iff.2 this
     obtain ⟨ad3, ea, _, hc0, _, _⟩ := at_T51 HR1.out 0 (by decide) (by omega)
     cases ea
     obtain ⟨V0, hV0⟩ : ∃ x, x = X.f1.getD 0 z51 := ⟨_, rfl⟩
     obtain ⟨V1, hV1⟩ : ∃ x, x = X.f1.getD 1 z51 := ⟨_, rfl⟩
     have BC0 := Aside0.mk (show w.cell? ⟨ad3.block, ad3.off + 1, none⟩ = some (.int .i64 V0.f1) from by rw [show rd_T51 X.f1 0 = V0 from hV0.symm] at hc0; simpa [Addr.add] using hc0)
     have HV0 := Aside0.mk hV0
     have HV1 := Aside0.mk hV1
     clear hc0 hV0 hV1
     have gl1 : decide (0 < X.f1.length) = true := decide_eq_true gl0
     have gl2 : decide ((0 : Int) < (X.f1.length : Int)) = true := decide_eq_true (by omega)
     have gl3 : (0 < X.f1.length) = True := eq_true gl0
     clear gl0
     rcases hb_ ((cf X.f1 == 0)) with hcf | hcf
     ·have gcf : (cf X.f1 != 0) = false := by simp [bne, hcf]
      rcases hb_ (decide (ck < V0.f1)) with ha0 | ha0
      ·skip
       have hf := Aside0.mk (show rowF cf ck txns k X Y = 1 from by have hz : cf X.f1 = 0 := (by simpa using hcf); unfold rowF rowAt; rw [← HV0.out, ← HV1.out]; simp [rowBad, rowAtV, hkey, hle, hemp, hcf, ha0, hk0, hz])
       have HE := Aside0.mk (scan_ret (v := 1) HA.out hlt (by show rowF cf ck txns k (l.getD k z49) (l.getD (k - 1) z49) = _; rw [← HX.out, ← HY.out]; exact hf.out) (by decide))
       go_wp2_with (go_at_call 52; refine (cKey _ _).mono ?_; rintro e w' ⟨rfl, n, rfl⟩)
       go_quiet (fail)
       go_wp2_with (go_at_call 53; refine (cCF _ _ _ _ _ (World.drewN wr _) (Kd.C_drewN (Kd.C_below HR1.out HB.out) _) HC1.out HLB.out).mono ?_; rintro e w5 ⟨rfl, hb⟩; have HB1 := Aside0.mk (show Below w.heap.size w w5 from below_step zb hb); clear HB hb q1 q2 q3 hx0 hx1 BY; have HB := HB1; clear HB1; have q1 := (HB.out.cell (World.block_lt_of_cell? w _ Q1.out)).trans Q1.out; have q2 := (HB.out.cell (World.block_lt_of_cell? w _ Q2.out)).trans Q2.out; have q3 := (HB.out.cell (World.block_lt_of_cell? w _ Q3.out)).trans Q3.out; have hx0 := (HB.out.cell (World.block_lt_of_cell? w _ BX0.out)).trans BX0.out; have hx1 := (HB.out.cell (World.block_lt_of_cell? w _ BX1.out)).trans BX1.out; have hc0 := (HB.out.cell (World.block_lt_of_cell? w _ BC0.out)).trans BC0.out)
       go_quiet ((go_at_call 54; exact Calls.quiet_of (spec_l6Open.at p (ad.add (k * 2)) A2 c2 txns X.f0 _ c1 X.f1 (World.drewN w5 _) q2 (Kd.C_drewN (Kd.C_below HR2.out HB.out) _) hx0 hx1 (Kd.C_drewN (Kd.C_below HR1.out HB.out) _) HC1.out)))
       try go_wp2
       go_ret
       exact ⟨by rw [HE.out]; rfl, zb⟩
      skip
      rcases hb_ (decide ((1 : Int) < (X.f1.length : Int))) with hu1 | hu1
      ·have gu1 : decide (1 < X.f1.length) = true := by rw [← hu1]; apply decide_eq_decide.2; omega
       have gv0 : 1 < X.f1.length := of_decide_eq_true gu1
       obtain ⟨ad4, ea, _, hc1, _, _⟩ := at_T51 HR1.out 1 (by decide) (by omega)
       obtain rfl : ad3 = ad4 := by injection ea
       have BC1 := Aside0.mk (show w.cell? ⟨ad3.block, ad3.off + 5, none⟩ = some (.int .i64 V1.f1) from by rw [show rd_T51 X.f1 1 = V1 from HV1.out.symm] at hc1; simpa [Addr.add] using hc1)
       clear hc1 ea
       have gv3 : (1 < X.f1.length) = True := eq_true gv0
       have gv4 : ((1 : Int) < (X.f1.length : Int)) = True := eq_true (by omega)
       clear gv0
       rcases hb_ (decide (ck < V1.f1)) with ha1 | ha1
       ·skip
        have hf := Aside0.mk (show rowF cf ck txns k X Y = 1 from by have hz : cf X.f1 = 0 := (by simpa using hcf); unfold rowF rowAt; rw [← HV0.out, ← HV1.out]; simp [rowBad, rowAtV, hkey, hle, hemp, hcf, ha0, hu1, ha1, hk0, hz])
        have HE := Aside0.mk (scan_ret (v := 1) HA.out hlt (by show rowF cf ck txns k (l.getD k z49) (l.getD (k - 1) z49) = _; rw [← HX.out, ← HY.out]; exact hf.out) (by decide))
        go_wp2_with (go_at_call 52; refine (cKey _ _).mono ?_; rintro e w' ⟨rfl, n, rfl⟩)
        go_quiet (fail)
        go_wp2_with (go_at_call 53; refine (cCF _ _ _ _ _ (World.drewN wr _) (Kd.C_drewN (Kd.C_below HR1.out HB.out) _) HC1.out HLB.out).mono ?_; rintro e w5 ⟨rfl, hb⟩; have HB1 := Aside0.mk (show Below w.heap.size w w5 from below_step zb hb); clear HB hb q1 q2 q3 hx0 hx1 BY; have HB := HB1; clear HB1; have q1 := (HB.out.cell (World.block_lt_of_cell? w _ Q1.out)).trans Q1.out; have q2 := (HB.out.cell (World.block_lt_of_cell? w _ Q2.out)).trans Q2.out; have q3 := (HB.out.cell (World.block_lt_of_cell? w _ Q3.out)).trans Q3.out; have hx0 := (HB.out.cell (World.block_lt_of_cell? w _ BX0.out)).trans BX0.out; have hx1 := (HB.out.cell (World.block_lt_of_cell? w _ BX1.out)).trans BX1.out; have hc0 := (HB.out.cell (World.block_lt_of_cell? w _ BC0.out)).trans BC0.out; have hc1 := (HB.out.cell (World.block_lt_of_cell? w _ BC1.out)).trans BC1.out)
        go_quiet ((go_at_call 54; exact Calls.quiet_of (spec_l6Open.at p (ad.add (k * 2)) A2 c2 txns X.f0 _ c1 X.f1 (World.drewN w5 _) q2 (Kd.C_drewN (Kd.C_below HR2.out HB.out) _) hx0 hx1 (Kd.C_drewN (Kd.C_below HR1.out HB.out) _) HC1.out)))
        try go_wp2
        go_ret
        exact ⟨by rw [HE.out]; rfl, zb⟩
       skip
       rcases hb_ (openF txns X.f0 X.f1) with hop | hop
       ·skip
        have hf := Aside0.mk (show rowF cf ck txns k X Y = 0 from by have hz : cf X.f1 = 0 := (by simpa using hcf); unfold rowF rowAt; rw [← HV0.out, ← HV1.out]; simp [rowBad, rowAtV, hkey, hle, hemp, hcf, ha0, hu1, ha1, hop, hk0, hz])
        have HS := Aside0.mk (scan_next HA.out hlt (by show rowF cf ck txns k (l.getD k z49) (l.getD (k - 1) z49) = _; rw [← HX.out, ← HY.out]; exact hf.out))
        go_wp2_with (go_at_call 52; refine (cKey _ _).mono ?_; rintro e w' ⟨rfl, n, rfl⟩)
        go_quiet (fail)
        go_wp2_with (go_at_call 53; refine (cCF _ _ _ _ _ (World.drewN wr _) (Kd.C_drewN (Kd.C_below HR1.out HB.out) _) HC1.out HLB.out).mono ?_; rintro e w5 ⟨rfl, hb⟩; have HB1 := Aside0.mk (show Below w.heap.size w w5 from below_step zb hb); clear HB hb q1 q2 q3 hx0 hx1 BY; have HB := HB1; clear HB1; have q1 := (HB.out.cell (World.block_lt_of_cell? w _ Q1.out)).trans Q1.out; have q2 := (HB.out.cell (World.block_lt_of_cell? w _ Q2.out)).trans Q2.out; have q3 := (HB.out.cell (World.block_lt_of_cell? w _ Q3.out)).trans Q3.out; have hx0 := (HB.out.cell (World.block_lt_of_cell? w _ BX0.out)).trans BX0.out; have hx1 := (HB.out.cell (World.block_lt_of_cell? w _ BX1.out)).trans BX1.out; have hc0 := (HB.out.cell (World.block_lt_of_cell? w _ BC0.out)).trans BC0.out; have hc1 := (HB.out.cell (World.block_lt_of_cell? w _ BC1.out)).trans BC1.out)
        go_quiet ((go_at_call 54; exact Calls.quiet_of (spec_l6Open.at p (ad.add (k * 2)) A2 c2 txns X.f0 _ c1 X.f1 (World.drewN w5 _) q2 (Kd.C_drewN (Kd.C_below HR2.out HB.out) _) hx0 hx1 (Kd.C_drewN (Kd.C_below HR1.out HB.out) _) HC1.out)))
        go_wp2
        go_roundg (l.length - k)
        case measure => have := HG.out; omega
        case rel => exact ⟨k + 1, by omega, by first | rfl | go_num, ⟨by omega⟩, HS, ⟨zb⟩⟩
       skip
       have hf := Aside0.mk (show rowF cf ck txns k X Y = 1 from by have hz : cf X.f1 = 0 := (by simpa using hcf); unfold rowF rowAt; rw [← HV0.out, ← HV1.out]; simp [rowBad, rowAtV, hkey, hle, hemp, hcf, ha0, hu1, ha1, hop, hk0, hz])
       have HE := Aside0.mk (scan_ret (v := 1) HA.out hlt (by show rowF cf ck txns k (l.getD k z49) (l.getD (k - 1) z49) = _; rw [← HX.out, ← HY.out]; exact hf.out) (by decide))
       go_wp2_with (go_at_call 52; refine (cKey _ _).mono ?_; rintro e w' ⟨rfl, n, rfl⟩)
       go_quiet (fail)
       go_wp2_with (go_at_call 53; refine (cCF _ _ _ _ _ (World.drewN wr _) (Kd.C_drewN (Kd.C_below HR1.out HB.out) _) HC1.out HLB.out).mono ?_; rintro e w5 ⟨rfl, hb⟩; have HB1 := Aside0.mk (show Below w.heap.size w w5 from below_step zb hb); clear HB hb q1 q2 q3 hx0 hx1 BY; have HB := HB1; clear HB1; have q1 := (HB.out.cell (World.block_lt_of_cell? w _ Q1.out)).trans Q1.out; have q2 := (HB.out.cell (World.block_lt_of_cell? w _ Q2.out)).trans Q2.out; have q3 := (HB.out.cell (World.block_lt_of_cell? w _ Q3.out)).trans Q3.out; have hx0 := (HB.out.cell (World.block_lt_of_cell? w _ BX0.out)).trans BX0.out; have hx1 := (HB.out.cell (World.block_lt_of_cell? w _ BX1.out)).trans BX1.out; have hc0 := (HB.out.cell (World.block_lt_of_cell? w _ BC0.out)).trans BC0.out; have hc1 := (HB.out.cell (World.block_lt_of_cell? w _ BC1.out)).trans BC1.out)
       go_quiet ((go_at_call 54; exact Calls.quiet_of (spec_l6Open.at p (ad.add (k * 2)) A2 c2 txns X.f0 _ c1 X.f1 (World.drewN w5 _) q2 (Kd.C_drewN (Kd.C_below HR2.out HB.out) _) hx0 hx1 (Kd.C_drewN (Kd.C_below HR1.out HB.out) _) HC1.out)))
       try go_wp2
       go_ret
       exact ⟨by rw [HE.out]; rfl, zb⟩
      have gu1 : decide (1 < X.f1.length) = false := by rw [← hu1]; apply decide_eq_decide.2; omega
      rcases hb_ (openF txns X.f0 X.f1) with hop | hop
      ·skip
       have hf := Aside0.mk (show rowF cf ck txns k X Y = 0 from by have hz : cf X.f1 = 0 := (by simpa using hcf); unfold rowF rowAt; rw [← HV0.out, ← HV1.out]; simp [rowBad, rowAtV, hkey, hle, hemp, hcf, ha0, hu1, hop, hk0, hz])
       have HS := Aside0.mk (scan_next HA.out hlt (by show rowF cf ck txns k (l.getD k z49) (l.getD (k - 1) z49) = _; rw [← HX.out, ← HY.out]; exact hf.out))
       go_wp2_with (go_at_call 52; refine (cKey _ _).mono ?_; rintro e w' ⟨rfl, n, rfl⟩)
       go_quiet (fail)
       go_wp2_with (go_at_call 53; refine (cCF _ _ _ _ _ (World.drewN wr _) (Kd.C_drewN (Kd.C_below HR1.out HB.out) _) HC1.out HLB.out).mono ?_; rintro e w5 ⟨rfl, hb⟩; have HB1 := Aside0.mk (show Below w.heap.size w w5 from below_step zb hb); clear HB hb q1 q2 q3 hx0 hx1 BY; have HB := HB1; clear HB1; have q1 := (HB.out.cell (World.block_lt_of_cell? w _ Q1.out)).trans Q1.out; have q2 := (HB.out.cell (World.block_lt_of_cell? w _ Q2.out)).trans Q2.out; have q3 := (HB.out.cell (World.block_lt_of_cell? w _ Q3.out)).trans Q3.out; have hx0 := (HB.out.cell (World.block_lt_of_cell? w _ BX0.out)).trans BX0.out; have hx1 := (HB.out.cell (World.block_lt_of_cell? w _ BX1.out)).trans BX1.out; have hc0 := (HB.out.cell (World.block_lt_of_cell? w _ BC0.out)).trans BC0.out)
       go_quiet ((go_at_call 54; exact Calls.quiet_of (spec_l6Open.at p (ad.add (k * 2)) A2 c2 txns X.f0 _ c1 X.f1 (World.drewN w5 _) q2 (Kd.C_drewN (Kd.C_below HR2.out HB.out) _) hx0 hx1 (Kd.C_drewN (Kd.C_below HR1.out HB.out) _) HC1.out)))
       go_wp2
       go_roundg (l.length - k)
       case measure => have := HG.out; omega
       case rel => exact ⟨k + 1, by omega, by first | rfl | go_num, ⟨by omega⟩, HS, ⟨zb⟩⟩
      skip
      have hf := Aside0.mk (show rowF cf ck txns k X Y = 1 from by have hz : cf X.f1 = 0 := (by simpa using hcf); unfold rowF rowAt; rw [← HV0.out, ← HV1.out]; simp [rowBad, rowAtV, hkey, hle, hemp, hcf, ha0, hu1, hop, hk0, hz])
      have HE := Aside0.mk (scan_ret (v := 1) HA.out hlt (by show rowF cf ck txns k (l.getD k z49) (l.getD (k - 1) z49) = _; rw [← HX.out, ← HY.out]; exact hf.out) (by decide))
      go_wp2_with (go_at_call 52; refine (cKey _ _).mono ?_; rintro e w' ⟨rfl, n, rfl⟩)
      go_quiet (fail)
      go_wp2_with (go_at_call 53; refine (cCF _ _ _ _ _ (World.drewN wr _) (Kd.C_drewN (Kd.C_below HR1.out HB.out) _) HC1.out HLB.out).mono ?_; rintro e w5 ⟨rfl, hb⟩; have HB1 := Aside0.mk (show Below w.heap.size w w5 from below_step zb hb); clear HB hb q1 q2 q3 hx0 hx1 BY; have HB := HB1; clear HB1; have q1 := (HB.out.cell (World.block_lt_of_cell? w _ Q1.out)).trans Q1.out; have q2 := (HB.out.cell (World.block_lt_of_cell? w _ Q2.out)).trans Q2.out; have q3 := (HB.out.cell (World.block_lt_of_cell? w _ Q3.out)).trans Q3.out; have hx0 := (HB.out.cell (World.block_lt_of_cell? w _ BX0.out)).trans BX0.out; have hx1 := (HB.out.cell (World.block_lt_of_cell? w _ BX1.out)).trans BX1.out; have hc0 := (HB.out.cell (World.block_lt_of_cell? w _ BC0.out)).trans BC0.out)
      go_quiet ((go_at_call 54; exact Calls.quiet_of (spec_l6Open.at p (ad.add (k * 2)) A2 c2 txns X.f0 _ c1 X.f1 (World.drewN w5 _) q2 (Kd.C_drewN (Kd.C_below HR2.out HB.out) _) hx0 hx1 (Kd.C_drewN (Kd.C_below HR1.out HB.out) _) HC1.out)))
      try go_wp2
      go_ret
      exact ⟨by rw [HE.out]; rfl, zb⟩
     ·have gcf : (cf X.f1 != 0) = true := by simp [bne, hcf]
      have hcz : ¬ cf X.f1 = 0 := by have := hcf; simpa using this
      have hf := Aside0.mk (show rowF cf ck txns k X Y = cf X.f1 from by simp only [rowF, rowBad, hkey, hle, hemp, hk0, hcz, Bool.false_and, Bool.true_and, Bool.false_or, Bool.or_false, if_true, if_false]; simp)
      have HE := Aside0.mk (scan_ret (v := cf X.f1) HA.out hlt (by show rowF cf ck txns k (l.getD k z49) (l.getD (k - 1) z49) = _; rw [← HX.out, ← HY.out]; exact hf.out) hcz)
      clear hcz
      go_wp2_with (go_at_call 52; refine (cKey _ _).mono ?_; rintro e w' ⟨rfl, n, rfl⟩)
      go_quiet (fail)
      go_wp2_with (go_at_call 53; refine (cCF _ _ _ _ _ (World.drewN wr _) (Kd.C_drewN (Kd.C_below HR1.out HB.out) _) HC1.out HLB.out).mono ?_; rintro e w5 ⟨rfl, hb⟩; have HB1 := Aside0.mk (show Below w.heap.size w w5 from below_step zb hb); clear HB hb q1 q2 q3 hx0 hx1 BY; have HB := HB1; clear HB1; have q1 := (HB.out.cell (World.block_lt_of_cell? w _ Q1.out)).trans Q1.out; have q2 := (HB.out.cell (World.block_lt_of_cell? w _ Q2.out)).trans Q2.out; have q3 := (HB.out.cell (World.block_lt_of_cell? w _ Q3.out)).trans Q3.out; have hx0 := (HB.out.cell (World.block_lt_of_cell? w _ BX0.out)).trans BX0.out; have hx1 := (HB.out.cell (World.block_lt_of_cell? w _ BX1.out)).trans BX1.out)
      try go_wp2
      go_ret
      exact ⟨by rw [HE.out]; rfl, zb⟩
    ·skip
     have hf := Aside0.mk (show rowF cf ck txns k X Y = 3 from by simp [rowF, rowBad, hkey, hk0])
     have HE := Aside0.mk (scan_ret (v := 3) HA.out hlt (by show rowF cf ck txns k (l.getD k z49) (l.getD (k - 1) z49) = _; rw [← HX.out, ← HY.out]; exact hf.out) (by decide))
     go_wp2_with (go_at_call 52; refine (cKey _ _).mono ?_; rintro e w' ⟨rfl, n, rfl⟩)
     try go_wp2
     go_ret
     exact ⟨by rw [HE.out]; rfl, zb⟩
   ·have hk0 : decide (0 < k) = false := decide_eq_false kp
    have hk1 : decide ((0 : Int) < (k : Int)) = false := decide_eq_false (by omega)
    have HY := Aside0.mk hY
    have BY := Aside0.mk True.intro
    clear hY kp
    rcases hb_ (inB X.f0 0 31) with hkey | hkey
    ·skip
     rcases hb_ (((X.f1.length : Int) == 0)) with hemp | hemp
     ·have gemp : (X.f1.length == 0) = true := by simpa using hemp
      have hf := Aside0.mk (show rowF cf ck txns k X Y = 1 from by simp [rowF, rowBad, hkey, hemp, hk0])
      have HE := Aside0.mk (scan_ret (v := 1) HA.out hlt (by show rowF cf ck txns k (l.getD k z49) (l.getD (k - 1) z49) = _; rw [← HX.out, ← HY.out]; exact hf.out) (by decide))
      go_wp2_with (go_at_call 52; refine (cKey _ _).mono ?_; rintro e w' ⟨rfl, n, rfl⟩)
      go_quiet (fail)
      try go_wp2
      go_ret
      exact ⟨by rw [HE.out]; rfl, zb⟩
     have gemp : (X.f1.length == 0) = false := by simpa using hemp
     have gl0 : 0 < X.f1.length := by have := hemp; simp at this; exact List.length_pos_iff.2 this
     obtain ⟨ad3, ea, _, hc0, _, _⟩ := at_T51 HR1.out 0 (by decide) (by omega)
     cases ea
     obtain ⟨V0, hV0⟩ : ∃ x, x = X.f1.getD 0 z51 := ⟨_, rfl⟩
     obtain ⟨V1, hV1⟩ : ∃ x, x = X.f1.getD 1 z51 := ⟨_, rfl⟩
     have BC0 := Aside0.mk (show w.cell? ⟨ad3.block, ad3.off + 1, none⟩ = some (.int .i64 V0.f1) from by rw [show rd_T51 X.f1 0 = V0 from hV0.symm] at hc0; simpa [Addr.add] using hc0)
     have HV0 := Aside0.mk hV0
     have HV1 := Aside0.mk hV1
     clear hc0 hV0 hV1
     have gl1 : decide (0 < X.f1.length) = true := decide_eq_true gl0
     have gl2 : decide ((0 : Int) < (X.f1.length : Int)) = true := decide_eq_true (by omega)
     have gl3 : (0 < X.f1.length) = True := eq_true gl0
     clear gl0
     rcases hb_ ((cf X.f1 == 0)) with hcf | hcf
     ·have gcf : (cf X.f1 != 0) = false := by simp [bne, hcf]
      rcases hb_ (decide (ck < V0.f1)) with ha0 | ha0
      ·skip
       have hf := Aside0.mk (show rowF cf ck txns k X Y = 1 from by have hz : cf X.f1 = 0 := (by simpa using hcf); unfold rowF rowAt; rw [← HV0.out, ← HV1.out]; simp [rowBad, rowAtV, hkey, hemp, hcf, ha0, hk0, hz])
       have HE := Aside0.mk (scan_ret (v := 1) HA.out hlt (by show rowF cf ck txns k (l.getD k z49) (l.getD (k - 1) z49) = _; rw [← HX.out, ← HY.out]; exact hf.out) (by decide))
       go_wp2_with (go_at_call 52; refine (cKey _ _).mono ?_; rintro e w' ⟨rfl, n, rfl⟩)
       go_quiet (fail)
       go_wp2_with (go_at_call 53; refine (cCF _ _ _ _ _ (World.drewN wr _) (Kd.C_drewN (Kd.C_below HR1.out HB.out) _) HC1.out HLB.out).mono ?_; rintro e w5 ⟨rfl, hb⟩; have HB1 := Aside0.mk (show Below w.heap.size w w5 from below_step zb hb); clear HB hb q1 q2 q3 hx0 hx1 BY; have HB := HB1; clear HB1; have q1 := (HB.out.cell (World.block_lt_of_cell? w _ Q1.out)).trans Q1.out; have q2 := (HB.out.cell (World.block_lt_of_cell? w _ Q2.out)).trans Q2.out; have q3 := (HB.out.cell (World.block_lt_of_cell? w _ Q3.out)).trans Q3.out; have hx0 := (HB.out.cell (World.block_lt_of_cell? w _ BX0.out)).trans BX0.out; have hx1 := (HB.out.cell (World.block_lt_of_cell? w _ BX1.out)).trans BX1.out; have hc0 := (HB.out.cell (World.block_lt_of_cell? w _ BC0.out)).trans BC0.out)
       go_quiet ((go_at_call 54; exact Calls.quiet_of (spec_l6Open.at p (ad.add (k * 2)) A2 c2 txns X.f0 _ c1 X.f1 (World.drewN w5 _) q2 (Kd.C_drewN (Kd.C_below HR2.out HB.out) _) hx0 hx1 (Kd.C_drewN (Kd.C_below HR1.out HB.out) _) HC1.out)))
       try go_wp2
       go_ret
       exact ⟨by rw [HE.out]; rfl, zb⟩
      skip
      rcases hb_ (decide ((1 : Int) < (X.f1.length : Int))) with hu1 | hu1
      ·have gu1 : decide (1 < X.f1.length) = true := by rw [← hu1]; apply decide_eq_decide.2; omega
       have gv0 : 1 < X.f1.length := of_decide_eq_true gu1
       obtain ⟨ad4, ea, _, hc1, _, _⟩ := at_T51 HR1.out 1 (by decide) (by omega)
       obtain rfl : ad3 = ad4 := by injection ea
       have BC1 := Aside0.mk (show w.cell? ⟨ad3.block, ad3.off + 5, none⟩ = some (.int .i64 V1.f1) from by rw [show rd_T51 X.f1 1 = V1 from HV1.out.symm] at hc1; simpa [Addr.add] using hc1)
       clear hc1 ea
       have gv3 : (1 < X.f1.length) = True := eq_true gv0
       have gv4 : ((1 : Int) < (X.f1.length : Int)) = True := eq_true (by omega)
       clear gv0
       rcases hb_ (decide (ck < V1.f1)) with ha1 | ha1
       ·skip
        have hf := Aside0.mk (show rowF cf ck txns k X Y = 1 from by have hz : cf X.f1 = 0 := (by simpa using hcf); unfold rowF rowAt; rw [← HV0.out, ← HV1.out]; simp [rowBad, rowAtV, hkey, hemp, hcf, ha0, hu1, ha1, hk0, hz])
        have HE := Aside0.mk (scan_ret (v := 1) HA.out hlt (by show rowF cf ck txns k (l.getD k z49) (l.getD (k - 1) z49) = _; rw [← HX.out, ← HY.out]; exact hf.out) (by decide))
        go_wp2_with (go_at_call 52; refine (cKey _ _).mono ?_; rintro e w' ⟨rfl, n, rfl⟩)
        go_quiet (fail)
        go_wp2_with (go_at_call 53; refine (cCF _ _ _ _ _ (World.drewN wr _) (Kd.C_drewN (Kd.C_below HR1.out HB.out) _) HC1.out HLB.out).mono ?_; rintro e w5 ⟨rfl, hb⟩; have HB1 := Aside0.mk (show Below w.heap.size w w5 from below_step zb hb); clear HB hb q1 q2 q3 hx0 hx1 BY; have HB := HB1; clear HB1; have q1 := (HB.out.cell (World.block_lt_of_cell? w _ Q1.out)).trans Q1.out; have q2 := (HB.out.cell (World.block_lt_of_cell? w _ Q2.out)).trans Q2.out; have q3 := (HB.out.cell (World.block_lt_of_cell? w _ Q3.out)).trans Q3.out; have hx0 := (HB.out.cell (World.block_lt_of_cell? w _ BX0.out)).trans BX0.out; have hx1 := (HB.out.cell (World.block_lt_of_cell? w _ BX1.out)).trans BX1.out; have hc0 := (HB.out.cell (World.block_lt_of_cell? w _ BC0.out)).trans BC0.out; have hc1 := (HB.out.cell (World.block_lt_of_cell? w _ BC1.out)).trans BC1.out)
        go_quiet ((go_at_call 54; exact Calls.quiet_of (spec_l6Open.at p (ad.add (k * 2)) A2 c2 txns X.f0 _ c1 X.f1 (World.drewN w5 _) q2 (Kd.C_drewN (Kd.C_below HR2.out HB.out) _) hx0 hx1 (Kd.C_drewN (Kd.C_below HR1.out HB.out) _) HC1.out)))
        try go_wp2
        go_ret
        exact ⟨by rw [HE.out]; rfl, zb⟩
       skip
       rcases hb_ (openF txns X.f0 X.f1) with hop | hop
       ·skip
        have hf := Aside0.mk (show rowF cf ck txns k X Y = 0 from by have hz : cf X.f1 = 0 := (by simpa using hcf); unfold rowF rowAt; rw [← HV0.out, ← HV1.out]; simp [rowBad, rowAtV, hkey, hemp, hcf, ha0, hu1, ha1, hop, hk0, hz])
        have HS := Aside0.mk (scan_next HA.out hlt (by show rowF cf ck txns k (l.getD k z49) (l.getD (k - 1) z49) = _; rw [← HX.out, ← HY.out]; exact hf.out))
        go_wp2_with (go_at_call 52; refine (cKey _ _).mono ?_; rintro e w' ⟨rfl, n, rfl⟩)
        go_quiet (fail)
        go_wp2_with (go_at_call 53; refine (cCF _ _ _ _ _ (World.drewN wr _) (Kd.C_drewN (Kd.C_below HR1.out HB.out) _) HC1.out HLB.out).mono ?_; rintro e w5 ⟨rfl, hb⟩; have HB1 := Aside0.mk (show Below w.heap.size w w5 from below_step zb hb); clear HB hb q1 q2 q3 hx0 hx1 BY; have HB := HB1; clear HB1; have q1 := (HB.out.cell (World.block_lt_of_cell? w _ Q1.out)).trans Q1.out; have q2 := (HB.out.cell (World.block_lt_of_cell? w _ Q2.out)).trans Q2.out; have q3 := (HB.out.cell (World.block_lt_of_cell? w _ Q3.out)).trans Q3.out; have hx0 := (HB.out.cell (World.block_lt_of_cell? w _ BX0.out)).trans BX0.out; have hx1 := (HB.out.cell (World.block_lt_of_cell? w _ BX1.out)).trans BX1.out; have hc0 := (HB.out.cell (World.block_lt_of_cell? w _ BC0.out)).trans BC0.out; have hc1 := (HB.out.cell (World.block_lt_of_cell? w _ BC1.out)).trans BC1.out)
        go_quiet ((go_at_call 54; exact Calls.quiet_of (spec_l6Open.at p (ad.add (k * 2)) A2 c2 txns X.f0 _ c1 X.f1 (World.drewN w5 _) q2 (Kd.C_drewN (Kd.C_below HR2.out HB.out) _) hx0 hx1 (Kd.C_drewN (Kd.C_below HR1.out HB.out) _) HC1.out)))
        go_wp2
        go_roundg (l.length - k)
        case measure => have := HG.out; omega
        case rel => exact ⟨k + 1, by omega, by first | rfl | go_num, ⟨by omega⟩, HS, ⟨zb⟩⟩
       skip
       have hf := Aside0.mk (show rowF cf ck txns k X Y = 1 from by have hz : cf X.f1 = 0 := (by simpa using hcf); unfold rowF rowAt; rw [← HV0.out, ← HV1.out]; simp [rowBad, rowAtV, hkey, hemp, hcf, ha0, hu1, ha1, hop, hk0, hz])
       have HE := Aside0.mk (scan_ret (v := 1) HA.out hlt (by show rowF cf ck txns k (l.getD k z49) (l.getD (k - 1) z49) = _; rw [← HX.out, ← HY.out]; exact hf.out) (by decide))
       go_wp2_with (go_at_call 52; refine (cKey _ _).mono ?_; rintro e w' ⟨rfl, n, rfl⟩)
       go_quiet (fail)
       go_wp2_with (go_at_call 53; refine (cCF _ _ _ _ _ (World.drewN wr _) (Kd.C_drewN (Kd.C_below HR1.out HB.out) _) HC1.out HLB.out).mono ?_; rintro e w5 ⟨rfl, hb⟩; have HB1 := Aside0.mk (show Below w.heap.size w w5 from below_step zb hb); clear HB hb q1 q2 q3 hx0 hx1 BY; have HB := HB1; clear HB1; have q1 := (HB.out.cell (World.block_lt_of_cell? w _ Q1.out)).trans Q1.out; have q2 := (HB.out.cell (World.block_lt_of_cell? w _ Q2.out)).trans Q2.out; have q3 := (HB.out.cell (World.block_lt_of_cell? w _ Q3.out)).trans Q3.out; have hx0 := (HB.out.cell (World.block_lt_of_cell? w _ BX0.out)).trans BX0.out; have hx1 := (HB.out.cell (World.block_lt_of_cell? w _ BX1.out)).trans BX1.out; have hc0 := (HB.out.cell (World.block_lt_of_cell? w _ BC0.out)).trans BC0.out; have hc1 := (HB.out.cell (World.block_lt_of_cell? w _ BC1.out)).trans BC1.out)
       go_quiet ((go_at_call 54; exact Calls.quiet_of (spec_l6Open.at p (ad.add (k * 2)) A2 c2 txns X.f0 _ c1 X.f1 (World.drewN w5 _) q2 (Kd.C_drewN (Kd.C_below HR2.out HB.out) _) hx0 hx1 (Kd.C_drewN (Kd.C_below HR1.out HB.out) _) HC1.out)))
       try go_wp2
       go_ret
       exact ⟨by rw [HE.out]; rfl, zb⟩
      have gu1 : decide (1 < X.f1.length) = false := by rw [← hu1]; apply decide_eq_decide.2; omega
      rcases hb_ (openF txns X.f0 X.f1) with hop | hop
      ·skip
       have hf := Aside0.mk (show rowF cf ck txns k X Y = 0 from by have hz : cf X.f1 = 0 := (by simpa using hcf); unfold rowF rowAt; rw [← HV0.out, ← HV1.out]; simp [rowBad, rowAtV, hkey, hemp, hcf, ha0, hu1, hop, hk0, hz])
       have HS := Aside0.mk (scan_next HA.out hlt (by show rowF cf ck txns k (l.getD k z49) (l.getD (k - 1) z49) = _; rw [← HX.out, ← HY.out]; exact hf.out))
       go_wp2_with (go_at_call 52; refine (cKey _ _).mono ?_; rintro e w' ⟨rfl, n, rfl⟩)
       go_quiet (fail)
       go_wp2_with (go_at_call 53; refine (cCF _ _ _ _ _ (World.drewN wr _) (Kd.C_drewN (Kd.C_below HR1.out HB.out) _) HC1.out HLB.out).mono ?_; rintro e w5 ⟨rfl, hb⟩; have HB1 := Aside0.mk (show Below w.heap.size w w5 from below_step zb hb); clear HB hb q1 q2 q3 hx0 hx1 BY; have HB := HB1; clear HB1; have q1 := (HB.out.cell (World.block_lt_of_cell? w _ Q1.out)).trans Q1.out; have q2 := (HB.out.cell (World.block_lt_of_cell? w _ Q2.out)).trans Q2.out; have q3 := (HB.out.cell (World.block_lt_of_cell? w _ Q3.out)).trans Q3.out; have hx0 := (HB.out.cell (World.block_lt_of_cell? w _ BX0.out)).trans BX0.out; have hx1 := (HB.out.cell (World.block_lt_of_cell? w _ BX1.out)).trans BX1.out; have hc0 := (HB.out.cell (World.block_lt_of_cell? w _ BC0.out)).trans BC0.out)
       go_quiet ((go_at_call 54; exact Calls.quiet_of (spec_l6Open.at p (ad.add (k * 2)) A2 c2 txns X.f0 _ c1 X.f1 (World.drewN w5 _) q2 (Kd.C_drewN (Kd.C_below HR2.out HB.out) _) hx0 hx1 (Kd.C_drewN (Kd.C_below HR1.out HB.out) _) HC1.out)))
       go_wp2
       go_roundg (l.length - k)
       case measure => have := HG.out; omega
       case rel => exact ⟨k + 1, by omega, by first | rfl | go_num, ⟨by omega⟩, HS, ⟨zb⟩⟩
      skip
      have hf := Aside0.mk (show rowF cf ck txns k X Y = 1 from by have hz : cf X.f1 = 0 := (by simpa using hcf); unfold rowF rowAt; rw [← HV0.out, ← HV1.out]; simp [rowBad, rowAtV, hkey, hemp, hcf, ha0, hu1, hop, hk0, hz])
      have HE := Aside0.mk (scan_ret (v := 1) HA.out hlt (by show rowF cf ck txns k (l.getD k z49) (l.getD (k - 1) z49) = _; rw [← HX.out, ← HY.out]; exact hf.out) (by decide))
      go_wp2_with (go_at_call 52; refine (cKey _ _).mono ?_; rintro e w' ⟨rfl, n, rfl⟩)
      go_quiet (fail)
      go_wp2_with (go_at_call 53; refine (cCF _ _ _ _ _ (World.drewN wr _) (Kd.C_drewN (Kd.C_below HR1.out HB.out) _) HC1.out HLB.out).mono ?_; rintro e w5 ⟨rfl, hb⟩; have HB1 := Aside0.mk (show Below w.heap.size w w5 from below_step zb hb); clear HB hb q1 q2 q3 hx0 hx1 BY; have HB := HB1; clear HB1; have q1 := (HB.out.cell (World.block_lt_of_cell? w _ Q1.out)).trans Q1.out; have q2 := (HB.out.cell (World.block_lt_of_cell? w _ Q2.out)).trans Q2.out; have q3 := (HB.out.cell (World.block_lt_of_cell? w _ Q3.out)).trans Q3.out; have hx0 := (HB.out.cell (World.block_lt_of_cell? w _ BX0.out)).trans BX0.out; have hx1 := (HB.out.cell (World.block_lt_of_cell? w _ BX1.out)).trans BX1.out; have hc0 := (HB.out.cell (World.block_lt_of_cell? w _ BC0.out)).trans BC0.out)
      go_quiet ((go_at_call 54; exact Calls.quiet_of (spec_l6Open.at p (ad.add (k * 2)) A2 c2 txns X.f0 _ c1 X.f1 (World.drewN w5 _) q2 (Kd.C_drewN (Kd.C_below HR2.out HB.out) _) hx0 hx1 (Kd.C_drewN (Kd.C_below HR1.out HB.out) _) HC1.out)))
      try go_wp2
      go_ret
      exact ⟨by rw [HE.out]; rfl, zb⟩
     ·have gcf : (cf X.f1 != 0) = true := by simp [bne, hcf]
      have hcz : ¬ cf X.f1 = 0 := by have := hcf; simpa using this
      have hf := Aside0.mk (show rowF cf ck txns k X Y = cf X.f1 from by simp only [rowF, rowBad, hkey,  hemp, hk0, hcz, Bool.false_and, Bool.true_and, Bool.false_or, Bool.or_false, if_true, if_false]; simp)
      have HE := Aside0.mk (scan_ret (v := cf X.f1) HA.out hlt (by show rowF cf ck txns k (l.getD k z49) (l.getD (k - 1) z49) = _; rw [← HX.out, ← HY.out]; exact hf.out) hcz)
      clear hcz
      go_wp2_with (go_at_call 52; refine (cKey _ _).mono ?_; rintro e w' ⟨rfl, n, rfl⟩)
      go_quiet (fail)
      go_wp2_with (go_at_call 53; refine (cCF _ _ _ _ _ (World.drewN wr _) (Kd.C_drewN (Kd.C_below HR1.out HB.out) _) HC1.out HLB.out).mono ?_; rintro e w5 ⟨rfl, hb⟩; have HB1 := Aside0.mk (show Below w.heap.size w w5 from below_step zb hb); clear HB hb q1 q2 q3 hx0 hx1 BY; have HB := HB1; clear HB1; have q1 := (HB.out.cell (World.block_lt_of_cell? w _ Q1.out)).trans Q1.out; have q2 := (HB.out.cell (World.block_lt_of_cell? w _ Q2.out)).trans Q2.out; have q3 := (HB.out.cell (World.block_lt_of_cell? w _ Q3.out)).trans Q3.out; have hx0 := (HB.out.cell (World.block_lt_of_cell? w _ BX0.out)).trans BX0.out; have hx1 := (HB.out.cell (World.block_lt_of_cell? w _ BX1.out)).trans BX1.out)
      try go_wp2
      go_ret
      exact ⟨by rw [HE.out]; rfl, zb⟩
    skip
    have hf := Aside0.mk (show rowF cf ck txns k X Y = 3 from by simp [rowF, rowBad, hkey, hk0])
    have HE := Aside0.mk (scan_ret (v := 3) HA.out hlt (by show rowF cf ck txns k (l.getD k z49) (l.getD (k - 1) z49) = _; rw [← HX.out, ← HY.out]; exact hf.out) (by decide))
    go_wp2_with (go_at_call 52; refine (cKey _ _).mono ?_; rintro e w' ⟨rfl, n, rfl⟩)
    try go_wp2
    go_ret
    exact ⟨by rw [HE.out]; rfl, zb⟩
  have hkn : k = l.length := by omega
  have HE := Aside0.mk (scan_end HA.out hkn)
  have c3b : decide (k < l.length) = false := decide_eq_false hlt
  replace q3 := zx HB q3
  clear hkn
  go_wp2
  go_ret
  exact ⟨by rw [HE.out]; rfl, HB.out⟩
theorem cW2 (A : Option Addr) (c : Nat) (l : List S51) (w : World) (v : Int) (hv : v = writerF l) (hr : Kd.C k51 w A l.length l) (hc : l.length ≤ c) : Calls Tryd.prog 56 #[.slice A l.length c] w fun e w' => e = .returned (.int .i64 v) ∧ ∃ n, w' = w.drewN n := by rw [hv]; exact cWriter A c l w hr hc
set_option maxHeartbeats 40000000 in
set_option maxRecDepth 100000 in
theorem spec_l6Owns.at (p q : Addr) (A3 : Option Addr) (c3 : Nat) (rows : List S49) (id : Int) (A4 : Option Addr) (c4 : Nat) (us : List S81) (w : World) (q3 : w.cell? ⟨p.block, p.off + 3, none⟩ = some (.slice A3 rows.length c3)) (hr3 : Kd.C k49 w A3 rows.length rows)
 (r0 : w.cell? q = some (.int .i64 id)) (r4 : w.cell? ⟨q.block, q.off + 4, none⟩ = some (.slice A4 us.length c4)) (hr4 : Kd.C k81 w A4 us.length us) :
 Calls Tryd.prog 27 #[.pointer (some p), .pointer (some q)] w fun e w' => e = .returned (.bool (ownsF rows id us)) ∧ Below w.heap.size w w' := by
 have hu33 := Tryd.underlying33
 have hu45 := Tryd.underlying45
 have hu49 := Tryd.underlying49
 have hu81 := Tryd.underlying81
 have hn := hr4.2.1
 have HR3 := Aside0.mk hr3
 have HR4 := Aside0.mk hr4
 clear hr3 hr4
 unfold ownsF
 generalize hR : ownsI rows id us = r
 have HI := Aside0.mk hR
 clear hR
 have Q3 := Aside0.mk q3
 have R0 := Aside0.mk r0
 have R4 := Aside0.mk r4
 go_enter Tryd.func27, Tryd.ntmps27
 go_wp2
 go_loopg [5] (us.length + 1) (fun gg v5 wr => ∃ k : Nat, k ≤ us.length ∧ v5 = .int .i64 (k : Int) ∧ Aside0 (us.length - k < gg) ∧ Aside0 (scanI (fun i => ownF rows id us i (us.getD i z81)) (us.length - k) k = r) ∧ Aside0 (Below w.heap.size w wr))
 case atStart => exact ⟨0, by omega, rfl, ⟨by omega⟩, HI, ⟨Below.refl _ _⟩⟩
 case round =>
  obtain ⟨k, hk, rfl, HG, HA, HB⟩ := hrel
  have hbs := HB.out.size
  have n3 : p.block ≠ wr.heap.size := by have := World.block_lt_of_cell? w _ Q3.out; simp at this; omega
  have n4 : q.block ≠ wr.heap.size := by have := World.block_lt_of_cell? w _ R4.out; simp at this; omega
  replace q3 := (HB.out.cell (World.block_lt_of_cell? w _ Q3.out)).trans Q3.out
  replace r0 := (HB.out.cell (World.block_lt_of_cell? w _ R0.out)).trans R0.out
  replace r4 := (HB.out.cell (World.block_lt_of_cell? w _ R4.out)).trans R4.out
  by_cases hlt : k < us.length
  ·have g0 : (0 : Int) ≤ (k : Int) := by omega
   have g1 : (k : Int) < (us.length : Int) := by omega
   obtain ⟨ad, ea, hx0, hx1, hx2, hx3⟩ := at_T81 HR4.out (k : Int) g0 g1
   cases ea
   obtain ⟨X, hX⟩ : ∃ x, x = us.getD k z81 := ⟨_, rfl⟩
   rw [show rd_T81 us (k : Int) = X from hX.symm, show (k : Int).toNat = k from Int.toNat_natCast k] at hx0 hx1 hx2 hx3
   have HX := Aside0.mk hX
   clear hX
   replace hx0 := zx HB hx0
   replace hx1 := zx HB hx1
   replace hx2 := zx HB hx2
   replace hx3 := zx HB hx3
   have HT := fun W h q => (spec_l6Row.at p A3 c3 rows X.f0 W q h)
   have HTT := Aside0.mk HT
   clear HT
   obtain ⟨at_, hat⟩ : ∃ x, x = ownAt rows X.f0 := ⟨_, rfl⟩
   rw [show Lb.idx (fun u : S49 => u.f0 == X.f0) rows = at_ from hat.symm] at HTT
   have HAT := Aside0.mk hat
   clear hat
   rcases hb_ (decide (at_ < 0)) with h1 | h1
   ·have hf := Aside0.mk (show ownF rows id us k X = 1 from by unfold ownF ownBad; rw [← HAT.out, h1]; rfl)
    have HE := Aside0.mk (scan_ret (v := 1) HA.out hlt (by show ownF rows id us k (us.getD k z81) = _; rw [← HX.out]; exact hf.out) (by decide))
    go_wp2_with (go_at_call 55; refine (HTT.out _ (Kd.C_below HR3.out (below_alloc HB.out _)) (((below_alloc (Below.refl wr.heap.size wr) _).cell (World.block_lt_of_cell? wr _ q3)).trans q3)).mono ?_; rintro e w' ⟨rfl, rfl⟩; have HBB := Aside0.mk (below_alloc (Below.refl wr.heap.size wr) (Obj.cells #[.int .i64 X.f0, .bool X.f1, .bool X.f2, .int .i64 X.f3] 81)); have HB1 := Aside0.mk (below_alloc HB.out (Obj.cells #[.int .i64 X.f0, .bool X.f1, .bool X.f2, .int .i64 X.f3] 81)); have BK := Aside0.mk (show (wr.alloc (Obj.cells #[.int .i64 X.f0, .bool X.f1, .bool X.f2, .int .i64 X.f3] 81)).heap[wr.heap.size]? = some (Obj.cells #[.int .i64 X.f0, .bool X.f1, .bool X.f2, .int .i64 X.f3] 81) from blk_new wr _); generalize wr.alloc (Obj.cells #[.int .i64 X.f0, .bool X.f1, .bool X.f2, .int .i64 X.f3] 81) = wb at HBB HB1 BK ⊢; have z0 : wb.cell? ⟨wr.heap.size, 0, none⟩ = some (.int .i64 X.f0) := (blk_cell BK.out 0).trans rfl; have z1 : wb.cell? ⟨wr.heap.size, 1, none⟩ = some (.bool X.f1) := (blk_cell BK.out 1).trans rfl; have Hr0 := (HBB.out.cell (World.block_lt_of_cell? wr _ r0)).trans r0; have Hr4 := (HBB.out.cell (World.block_lt_of_cell? wr _ r4)).trans r4; have Hq3 := (HBB.out.cell (World.block_lt_of_cell? wr _ q3)).trans q3; clear r0 r4 q3; have r0 := Hr0; have r4 := Hr4; have q3 := Hq3; clear Hr0 Hr4 Hq3 HB; have HB := HB1; clear HB1)
    go_quiet (fail)
    go_wp2
    go_ret
    exact ⟨by rw [HE.out]; rfl, (by repeat (first | (with_reducible first | exact HB.out | apply below_alloc | apply pw_below_drewN | apply below_drew1 | refine below_set ?_ HB.out.size) | exact HB.out))⟩
   ·have g1 : (0 : Int) ≤ at_ := by have := of_decide_eq_false h1; omega
    have g2 : at_ < (rows.length : Int) := by rw [HAT.out]; exact idx_lt _ _ (by have := HAT.out; unfold ownAt at this; rw [← this]; exact g1)
    obtain ⟨ad2, A1, c1, ea, hy0, hy1, hl1, hr1⟩ := at_T49 (Kd.C_below HR3.out HB.out) at_ g1 g2
    cases ea
    obtain ⟨Y, hY⟩ : ∃ x, x = rows.getD at_.toNat z49 := ⟨_, rfl⟩
    rw [show rd_T49 rows at_ = Y from hY.symm] at hy0 hy1 hl1 hr1
    clear hy0
    have HY := Aside0.mk hY
    clear hY
    have HR1 := Aside0.mk hr1
    have HL1 := Aside0.mk hl1
    clear hr1 hl1
    obtain ⟨wt, hwt⟩ : ∃ x, x = writerF Y.f1 := ⟨_, rfl⟩
    have HW := Aside0.mk hwt
    clear hwt
    rcases hb_ (wt == id) with h2 | h2
    ·have g2' : (wt != id) = false := by simp [bne, h2]
     have hbad := Aside0.mk (show ownBad rows id X.f0 = false from by unfold ownBad; rw [← HAT.out, ← HY.out, ← HW.out, h1, h2]; rfl)
     go_wp2_with (go_at_call 55; refine (HTT.out _ (Kd.C_below HR3.out (below_alloc HB.out _)) (((below_alloc (Below.refl wr.heap.size wr) _).cell (World.block_lt_of_cell? wr _ q3)).trans q3)).mono ?_; rintro e w' ⟨rfl, rfl⟩; have HBB := Aside0.mk (below_alloc (Below.refl wr.heap.size wr) (Obj.cells #[.int .i64 X.f0, .bool X.f1, .bool X.f2, .int .i64 X.f3] 81)); have HB1 := Aside0.mk (below_alloc HB.out (Obj.cells #[.int .i64 X.f0, .bool X.f1, .bool X.f2, .int .i64 X.f3] 81)); have BK := Aside0.mk (show (wr.alloc (Obj.cells #[.int .i64 X.f0, .bool X.f1, .bool X.f2, .int .i64 X.f3] 81)).heap[wr.heap.size]? = some (Obj.cells #[.int .i64 X.f0, .bool X.f1, .bool X.f2, .int .i64 X.f3] 81) from blk_new wr _); generalize wr.alloc (Obj.cells #[.int .i64 X.f0, .bool X.f1, .bool X.f2, .int .i64 X.f3] 81) = wb at HBB HB1 BK ⊢; have z0 : wb.cell? ⟨wr.heap.size, 0, none⟩ = some (.int .i64 X.f0) := (blk_cell BK.out 0).trans rfl; have z1 : wb.cell? ⟨wr.heap.size, 1, none⟩ = some (.bool X.f1) := (blk_cell BK.out 1).trans rfl; have Hr0 := (HBB.out.cell (World.block_lt_of_cell? wr _ r0)).trans r0; have Hr4 := (HBB.out.cell (World.block_lt_of_cell? wr _ r4)).trans r4; have Hq3 := (HBB.out.cell (World.block_lt_of_cell? wr _ q3)).trans q3; clear r0 r4 q3; have r0 := Hr0; have r4 := Hr4; have q3 := Hq3; clear Hr0 Hr4 Hq3 HB; have HB := HB1; clear HB1; have Hy1 := (HBB.out.cell (World.block_lt_of_cell? wr _ hy1)).trans hy1; clear hy1; have hy1 := Hy1; clear Hy1)
     go_quiet ((go_at_call 56; exact Calls.quiet_of (cW2 _ _ _ _ _ HW.out (Kd.C_drewN (Kd.C_below HR1.out HBB.out) _) HL1.out)))
     go_wp2
     go_loopg [8, 9] (k + 1) (fun gi v8 v9 wi => ∃ j : Nat, j ≤ k ∧ v8 = .bool ((us.take j).any (fun x => x.f0 == X.f0)) ∧ v9 = .int .i64 (j : Int) ∧ Aside0 (k - j < gi) ∧ Aside0 (∃ n, wi = wb.drewN n))
     case atStart => exact ⟨0, by omega, rfl, rfl, ⟨by omega⟩, ⟨_, rfl⟩⟩
     case round =>
      obtain ⟨j, hj, rfl, rfl, HGi, HN⟩ := hrel
      obtain ⟨n, rfl⟩ := HN.out
      obtain ⟨b, hb⟩ : ∃ b, b = (us.take j).any (fun x => x.f0 == X.f0) := ⟨_, rfl⟩
      rw [← hb]
      have HBJ := Aside0.mk hb
      clear hb
      by_cases hjk : j < k
      ·have hju : j < us.length := by omega
       have jd : decide (j < k) = true := decide_eq_true hjk
       have ji : decide ((j : Int) < (k : Int)) = true := decide_eq_true (by omega)
       obtain ⟨ad5, ea, hv0, _, _, _⟩ := at_T81 (Kd.C_below HR4.out HB.out) (j : Int) (by omega) (by omega)
       obtain rfl : ad = ad5 := by injection ea
       clear ea
       obtain ⟨V, hV⟩ : ∃ x, x = us.getD j z81 := ⟨_, rfl⟩
       rw [show rd_T81 us (j : Int) = V from hV.symm, show (j : Int).toNat = j from Int.toNat_natCast j] at hv0
       have HV := Aside0.mk (show (us.take (j + 1)).any (fun x => x.f0 == X.f0) = (b || V.f0 == X.f0) from by rw [List.take_succ_eq_append_getElem hju, List.any_append, ← HBJ.out, hV, Lb.getD_at hju]; simp)
       clear hV
       rcases hb_ b with rb | rb
       ·subst rb
        go_wp2
        go_quiet (fail)
        go_wp2
        go_roundg (k - j)
        case measure => have := HGi.out; omega
        case rel => exact ⟨j + 1, by omega, by rw [HV.out]; simp, by first | rfl | go_num, ⟨by omega⟩, ⟨_, rfl⟩⟩
       subst rb
       go_wp2
       go_quiet (fail)
       go_wp2
       go_roundg (k - j)
       case measure => have := HGi.out; omega
       case rel => exact ⟨j + 1, by omega, by rw [HV.out]; simp, by first | rfl | go_num, ⟨by omega⟩, ⟨_, rfl⟩⟩
      have hjk2 : j = k := by omega
      have jd : decide (j < k) = false := decide_eq_false hjk
      have ji : decide ((j : Int) < (k : Int)) = false := decide_eq_false (by omega)
      rcases hb_ X.f1 with u1 | u1 <;> rcases hb_ b with rb | rb
      ·have hf := Aside0.mk (show ownF rows id us k X = 0 from by unfold ownF; rw [hbad.out, ← hjk2, ← HBJ.out, u1, rb]; rfl)
       have HS := Aside0.mk (scan_next HA.out hlt (by show ownF rows id us k (us.getD k z81) = _; rw [← HX.out]; exact hf.out))
       rw [u1] at z1
       rw [rb]
       go_wp2
       go_roundg (us.length - k)
       case measure => have := HG.out; omega
       case rel => exact ⟨k + 1, by omega, by first | rfl | go_num, ⟨by omega⟩, HS, ⟨(by repeat (first | (with_reducible first | exact HB.out | apply below_alloc | apply pw_below_drewN | apply below_drew1 | refine below_set ?_ HB.out.size) | exact HB.out))⟩⟩
      ·have hf := Aside0.mk (show ownF rows id us k X = 1 from by unfold ownF; rw [hbad.out, ← hjk2, ← HBJ.out, u1, rb]; rfl)
       have HE := Aside0.mk (scan_ret (v := 1) HA.out hlt (by show ownF rows id us k (us.getD k z81) = _; rw [← HX.out]; exact hf.out) (by decide))
       rw [u1] at z1
       rw [rb]
       go_wp2
       go_ret
       exact ⟨by rw [HE.out]; rfl, (by repeat (first | (with_reducible first | exact HB.out | apply below_alloc | apply pw_below_drewN | apply below_drew1 | refine below_set ?_ HB.out.size) | exact HB.out))⟩
      ·have hf := Aside0.mk (show ownF rows id us k X = 1 from by unfold ownF; rw [hbad.out, ← hjk2, ← HBJ.out, u1, rb]; rfl)
       have HE := Aside0.mk (scan_ret (v := 1) HA.out hlt (by show ownF rows id us k (us.getD k z81) = _; rw [← HX.out]; exact hf.out) (by decide))
       rw [u1] at z1
       rw [rb]
       go_wp2
       go_ret
       exact ⟨by rw [HE.out]; rfl, (by repeat (first | (with_reducible first | exact HB.out | apply below_alloc | apply pw_below_drewN | apply below_drew1 | refine below_set ?_ HB.out.size) | exact HB.out))⟩
      have hf := Aside0.mk (show ownF rows id us k X = 0 from by unfold ownF; rw [hbad.out, ← hjk2, ← HBJ.out, u1, rb]; rfl)
      have HS := Aside0.mk (scan_next HA.out hlt (by show ownF rows id us k (us.getD k z81) = _; rw [← HX.out]; exact hf.out))
      rw [u1] at z1
      rw [rb]
      go_wp2
      go_roundg (us.length - k)
      case measure => have := HG.out; omega
      case rel => exact ⟨k + 1, by omega, by first | rfl | go_num, ⟨by omega⟩, HS, ⟨(by repeat (first | (with_reducible first | exact HB.out | apply below_alloc | apply pw_below_drewN | apply below_drew1 | refine below_set ?_ HB.out.size) | exact HB.out))⟩⟩
    ·have g2' : (wt != id) = true := by simp [bne, h2]
     have hf := Aside0.mk (show ownF rows id us k X = 1 from by unfold ownF ownBad; rw [← HAT.out, ← HY.out, ← HW.out, h1, h2]; rfl)
     have HE := Aside0.mk (scan_ret (v := 1) HA.out hlt (by show ownF rows id us k (us.getD k z81) = _; rw [← HX.out]; exact hf.out) (by decide))
     go_wp2_with (go_at_call 55; refine (HTT.out _ (Kd.C_below HR3.out (below_alloc HB.out _)) (((below_alloc (Below.refl wr.heap.size wr) _).cell (World.block_lt_of_cell? wr _ q3)).trans q3)).mono ?_; rintro e w' ⟨rfl, rfl⟩; have HBB := Aside0.mk (below_alloc (Below.refl wr.heap.size wr) (Obj.cells #[.int .i64 X.f0, .bool X.f1, .bool X.f2, .int .i64 X.f3] 81)); have HB1 := Aside0.mk (below_alloc HB.out (Obj.cells #[.int .i64 X.f0, .bool X.f1, .bool X.f2, .int .i64 X.f3] 81)); have BK := Aside0.mk (show (wr.alloc (Obj.cells #[.int .i64 X.f0, .bool X.f1, .bool X.f2, .int .i64 X.f3] 81)).heap[wr.heap.size]? = some (Obj.cells #[.int .i64 X.f0, .bool X.f1, .bool X.f2, .int .i64 X.f3] 81) from blk_new wr _); generalize wr.alloc (Obj.cells #[.int .i64 X.f0, .bool X.f1, .bool X.f2, .int .i64 X.f3] 81) = wb at HBB HB1 BK ⊢; have z0 : wb.cell? ⟨wr.heap.size, 0, none⟩ = some (.int .i64 X.f0) := (blk_cell BK.out 0).trans rfl; have z1 : wb.cell? ⟨wr.heap.size, 1, none⟩ = some (.bool X.f1) := (blk_cell BK.out 1).trans rfl; have Hr0 := (HBB.out.cell (World.block_lt_of_cell? wr _ r0)).trans r0; have Hr4 := (HBB.out.cell (World.block_lt_of_cell? wr _ r4)).trans r4; have Hq3 := (HBB.out.cell (World.block_lt_of_cell? wr _ q3)).trans q3; clear r0 r4 q3; have r0 := Hr0; have r4 := Hr4; have q3 := Hq3; clear Hr0 Hr4 Hq3 HB; have HB := HB1; clear HB1; have Hy1 := (HBB.out.cell (World.block_lt_of_cell? wr _ hy1)).trans hy1; clear hy1; have hy1 := Hy1; clear Hy1)
     go_quiet ((go_at_call 56; exact Calls.quiet_of (cW2 _ _ _ _ _ HW.out (Kd.C_drewN (Kd.C_below HR1.out HBB.out) _) HL1.out)))
     go_wp2
     go_ret
     exact ⟨by rw [HE.out]; rfl, (by repeat (first | (with_reducible first | exact HB.out | apply below_alloc | apply pw_below_drewN | apply below_drew1 | refine below_set ?_ HB.out.size) | exact HB.out))⟩
  have hkn : k = us.length := by omega
  have HE := Aside0.mk (scan_end HA.out hkn)
  have c3 : decide (k < us.length) = false := decide_eq_false hlt
  clear hkn
  go_wp2
  go_ret
  exact ⟨by rw [HE.out]; rfl, HB.out⟩
theorem l5Txn_f (a : Int) : spec_l5Txn.f a = some (inB a 1 999) := by unfold spec_l5Txn.f; rw [l1In_f]; rfl
theorem cT5 (a : Int) (w : World) : Calls Tryd.prog 23 #[.int .i64 a] w fun e w' => e = .returned (.bool (inB a 1 999)) ∧ ∃ n, w' = w.drewN n := (spec_l5Txn.calls a _ w (l5Txn_f a)).mono fun _ _ h => ⟨h.1, h.2.out⟩
set_option maxHeartbeats 40000000 in
set_option maxRecDepth 100000 in
theorem spec_l6Fault.at (p : Addr) (nx ck : Int) (A2 : Option Addr) (c2 : Nat) (txns : List S45) (A3 : Option Addr) (c3 : Nat) (rows : List S49) (w : World) (q0 : w.cell? p = some (.int .i64 nx)) (q1 : w.cell? ⟨p.block, p.off + 1, none⟩ = some (.int .i64 ck)) (q2 : w.cell? ⟨p.block, p.off + 2, none⟩ = some (.slice A2 txns.length c2)) (hr2 : Kd.C k45 w A2 txns.length txns)
 (q3 : w.cell? ⟨p.block, p.off + 3, none⟩ = some (.slice A3 rows.length c3)) (hr3 : Kd.C k49 w A3 rows.length rows) (K : Nat) (cf : List S51 → Int) (hbb : ∀ r ∈ rows, spec_ChainFault.f K r.f1 = some (cf r.f1)) :
 Calls Tryd.prog 12 #[.pointer (some p)] w fun e w' => e = .returned (.int .i64 (faultF cf nx ck txns rows)) ∧ Below w.heap.size w w' := by
 have hu33 := Tryd.underlying33
 have hu45 := Tryd.underlying45
 have HB := Aside0.mk (Below.refl w.heap.size w)
 have HBB := Aside0.mk hbb
 clear hbb
 have hn := hr2.2.1
 have HR2 := Aside0.mk hr2
 have HR3 := Aside0.mk hr3
 clear hr2 hr3
 have Q0 := Aside0.mk q0
 have Q1 := Aside0.mk q1
 have Q2 := Aside0.mk q2
 have Q3 := Aside0.mk q3
 obtain ⟨r, hr⟩ : ∃ r, faultF cf nx ck txns rows = r := ⟨_, rfl⟩
 rw [hr]
 have HF := Aside0.mk hr
 clear hr
 rcases hb_ (inB nx 1 999) with h1 | h1
 ·have hn1 : 1 ≤ nx := by simp [inB] at h1; omega
  have hn2 : nx ≤ 999 := by simp [inB] at h1; omega
  rcases hb_ (inB ck 0 1000000) with h2 | h2
  ·by_cases h3 : 20 < txns.length
   ·have HE := Aside0.mk (show r = 2 from by rw [← HF.out]; unfold faultF; rw [if_pos h1, if_pos h2, if_pos (.inl h3)])
    have t1 : decide ((20 : Int) < (txns.length : Int)) = true := decide_eq_true (by omega)
    have t2 : decide (20 < txns.length) = true := decide_eq_true h3
    clear h3
    go_enter Tryd.func12, Tryd.ntmps12
    go_wp2_with (first | (go_at_call 23; refine (cT5 _ _).mono ?_; rintro e w' ⟨rfl, n, rfl⟩) | (go_at_call 24; refine (cIn _ _ _ _).mono ?_; rintro e w' ⟨rfl, n, rfl⟩))
    go_ret
    exact ⟨by rw [HE.out]; rfl, (by repeat (first | (with_reducible first | exact HB.out | apply below_alloc | apply pw_below_drewN | apply below_drew1 | refine below_set ?_ HB.out.size) | exact HB.out))⟩
   have t1 : decide ((20 : Int) < (txns.length : Int)) = false := decide_eq_false (by omega)
   have t2 : decide (20 < txns.length) = false := decide_eq_false h3
   by_cases h4 : 32 < rows.length
   ·have HE := Aside0.mk (show r = 2 from by rw [← HF.out]; unfold faultF; rw [if_pos h1, if_pos h2, if_pos (.inr h4)])
    have t3 : decide ((32 : Int) < (rows.length : Int)) = true := decide_eq_true (by omega)
    have t4 : decide (32 < rows.length) = true := decide_eq_true h4
    clear h3 h4
    go_enter Tryd.func12, Tryd.ntmps12
    go_wp2_with (first | (go_at_call 23; refine (cT5 _ _).mono ?_; rintro e w' ⟨rfl, n, rfl⟩) | (go_at_call 24; refine (cIn _ _ _ _).mono ?_; rintro e w' ⟨rfl, n, rfl⟩))
    go_ret
    exact ⟨by rw [HE.out]; rfl, (by repeat (first | (with_reducible first | exact HB.out | apply below_alloc | apply pw_below_drewN | apply below_drew1 | refine below_set ?_ HB.out.size) | exact HB.out))⟩
   have t3 : decide ((32 : Int) < (rows.length : Int)) = false := decide_eq_false (by omega)
   have t4 : decide (32 < rows.length) = false := decide_eq_false h4
   have HF2 := Aside0.mk (show r = (if txnsF nx ck txns = 0 then (if rowsF cf ck txns rows = 0 then ownAll txns rows else rowsF cf ck txns rows) else txnsF nx ck txns) from by rw [← HF.out]; unfold faultF; rw [if_pos h1, if_pos h2, if_neg (by omega)])
   clear h3 h4
   obtain ⟨a, ha⟩ : ∃ a, a = txnsF nx ck txns := ⟨_, rfl⟩
   rw [← ha] at HF2
   have HT := Aside0.mk ha
   clear ha
   rcases hb_ (a == 0) with h5 | h5
   ·have g5 : (a != 0) = false := by simp [bne, h5]
    have HF3 := Aside0.mk (show r = (if rowsF cf ck txns rows = 0 then ownAll txns rows else rowsF cf ck txns rows) from by rw [HF2.out, if_pos (by simpa using h5)])
    obtain ⟨b, hb⟩ : ∃ b, b = rowsF cf ck txns rows := ⟨_, rfl⟩
    rw [← hb] at HF3
    have HRW := Aside0.mk hb
    clear hb HF2
    rcases hb_ (b == 0) with h6 | h6
    ·have g6 : (b != 0) = false := by simp [bne, h6]
     have HI := Aside0.mk (show scanI (fun i => ownIf rows (txns.getD i z45)) txns.length 0 = r from by rw [HF3.out, if_pos (by simpa using h6)]; rfl)
     clear HF3
     go_enter Tryd.func12, Tryd.ntmps12
     go_wp2_with (first | (go_at_call 23; refine (cT5 _ _).mono ?_; rintro e w' ⟨rfl, n, rfl⟩) | (go_at_call 24; refine (cIn _ _ _ _).mono ?_; rintro e w' ⟨rfl, n, rfl⟩) | (go_at_call 25; refine (spec_l6Txns.at p nx ck A2 c2 txns (World.drewN w _) q0 q1 q2 (Kd.C_below HR2.out (by repeat (first | (with_reducible first | exact HB.out | apply below_alloc | apply pw_below_drewN | apply below_drew1 | refine below_set ?_ HB.out.size) | exact HB.out))) hn1 hn2).mono ?_; rintro e w5 ⟨rfl, hb⟩; rw [← HT.out]; have HB1 := Aside0.mk (show Below w.heap.size w w5 from below_step (by repeat (first | (with_reducible first | exact HB.out | apply below_alloc | apply pw_below_drewN | apply below_drew1 | refine below_set ?_ HB.out.size) | exact HB.out)) hb); clear HB hb q0 q1 q2 q3; have HB := HB1; clear HB1; have q0 := (HB.out.cell (World.block_lt_of_cell? w _ Q0.out)).trans Q0.out; have q1 := (HB.out.cell (World.block_lt_of_cell? w _ Q1.out)).trans Q1.out; have q2 := (HB.out.cell (World.block_lt_of_cell? w _ Q2.out)).trans Q2.out; have q3 := (HB.out.cell (World.block_lt_of_cell? w _ Q3.out)).trans Q3.out) | (go_at_call 26; refine (spec_l6Rows.at p ck A2 c2 txns A3 c3 rows _ q1 q2 (Kd.C_below HR2.out (by repeat (first | (with_reducible first | exact HB.out | apply below_alloc | apply pw_below_drewN | apply below_drew1 | refine below_set ?_ HB.out.size) | exact HB.out))) q3 (Kd.C_below HR3.out (by repeat (first | (with_reducible first | exact HB.out | apply below_alloc | apply pw_below_drewN | apply below_drew1 | refine below_set ?_ HB.out.size) | exact HB.out))) K cf HBB.out).mono ?_; rintro e w5 ⟨rfl, hb⟩; rw [← HRW.out]; have HB1 := Aside0.mk (show Below w.heap.size w w5 from below_step (by repeat (first | (with_reducible first | exact HB.out | apply below_alloc | apply pw_below_drewN | apply below_drew1 | refine below_set ?_ HB.out.size) | exact HB.out)) hb); clear HB hb q0 q1 q2 q3; have HB := HB1; clear HB1; have q0 := (HB.out.cell (World.block_lt_of_cell? w _ Q0.out)).trans Q0.out; have q1 := (HB.out.cell (World.block_lt_of_cell? w _ Q1.out)).trans Q1.out; have q2 := (HB.out.cell (World.block_lt_of_cell? w _ Q2.out)).trans Q2.out; have q3 := (HB.out.cell (World.block_lt_of_cell? w _ Q3.out)).trans Q3.out))
     go_loopg [5] (txns.length + 1) (fun gg v5 wr => ∃ k : Nat, k ≤ txns.length ∧ v5 = .int .i64 (k : Int) ∧ Aside0 (txns.length - k < gg) ∧ Aside0 (scanI (fun i => ownIf rows (txns.getD i z45)) (txns.length - k) k = r) ∧ Aside0 (Below w.heap.size w wr))
     case atStart => exact ⟨0, by omega, rfl, ⟨by omega⟩, HI, ⟨(by repeat (first | (with_reducible first | exact HB.out | apply below_alloc | apply pw_below_drewN | apply below_drew1 | refine below_set ?_ HB.out.size) | exact HB.out))⟩⟩
     case round =>
      clear HB q0 q1 q2 q3
      obtain ⟨k, hk, rfl, HG, HA, HB⟩ := hrel
      have q2 := (HB.out.cell (World.block_lt_of_cell? w _ Q2.out)).trans Q2.out
      have q3 := (HB.out.cell (World.block_lt_of_cell? w _ Q3.out)).trans Q3.out
      by_cases hlt : k < txns.length
      ·obtain ⟨ad, A4, c4, ea, hx0, _, _, _, hx4, hl4, hr4⟩ := at_T45 (Kd.C_below HR2.out HB.out) (k : Int) (by omega) (by omega)
       cases ea
       have g0 : (0 : Int) ≤ (k : Int) := by omega
       have g1 : (k : Int) < (txns.length : Int) := by omega
       obtain ⟨X, hX⟩ : ∃ x, x = txns.getD k z45 := ⟨_, rfl⟩
       rw [show rd_T45 txns (k : Int) = X from hX.symm, show (k : Int).toNat = k from Int.toNat_natCast k] at hx0 hx4
       rw [show rd_T45 txns (k : Int) = X from hX.symm] at hl4 hr4
       have HX := Aside0.mk hX
       have HR4 := Aside0.mk hr4
       clear hX hr4 hl4
       obtain ⟨o, ho⟩ : ∃ o, o = ownsF rows X.f0 X.f4 := ⟨_, rfl⟩
       have HO := Aside0.mk ho
       clear ho
       rcases hb_ o with h7 | h7
       ·have HS := Aside0.mk (scan_next HA.out hlt (by show ownIf rows (txns.getD k z45) = _; rw [← HX.out]; unfold ownIf; rw [← HO.out, h7]; rfl))
        go_wp2_with (go_at_call 27; refine (spec_l6Owns.at p (ad.add (k * 5)) A3 c3 rows X.f0 A4 c4 X.f4 _ q3 (Kd.C_below HR3.out (by repeat (first | (with_reducible first | exact HB.out | apply below_alloc | apply pw_below_drewN | apply below_drew1 | refine below_set ?_ HB.out.size) | exact HB.out))) hx0 hx4 HR4.out).mono ?_; rintro e w5 ⟨rfl, hb⟩; rw [← HO.out, h7]; have HB1 := Aside0.mk (show Below w.heap.size w w5 from below_step (by repeat (first | (with_reducible first | exact HB.out | apply below_alloc | apply pw_below_drewN | apply below_drew1 | refine below_set ?_ HB.out.size) | exact HB.out)) hb); clear HB hb; have HB := HB1; clear HB1)
        go_roundg (txns.length - k)
        case measure => have := HG.out; omega
        case rel => exact ⟨k + 1, by omega, by first | rfl | go_num, ⟨by omega⟩, HS, ⟨(by repeat (first | (with_reducible first | exact HB.out | apply below_alloc | apply pw_below_drewN | apply below_drew1 | refine below_set ?_ HB.out.size) | exact HB.out))⟩⟩
       ·have HE := Aside0.mk (scan_ret (v := 1) HA.out hlt (by show ownIf rows (txns.getD k z45) = _; rw [← HX.out]; unfold ownIf; rw [← HO.out, h7]; rfl) (by decide))
        go_wp2_with (go_at_call 27; refine (spec_l6Owns.at p (ad.add (k * 5)) A3 c3 rows X.f0 A4 c4 X.f4 _ q3 (Kd.C_below HR3.out (by repeat (first | (with_reducible first | exact HB.out | apply below_alloc | apply pw_below_drewN | apply below_drew1 | refine below_set ?_ HB.out.size) | exact HB.out))) hx0 hx4 HR4.out).mono ?_; rintro e w5 ⟨rfl, hb⟩; rw [← HO.out, h7]; have HB1 := Aside0.mk (show Below w.heap.size w w5 from below_step (by repeat (first | (with_reducible first | exact HB.out | apply below_alloc | apply pw_below_drewN | apply below_drew1 | refine below_set ?_ HB.out.size) | exact HB.out)) hb); clear HB hb; have HB := HB1; clear HB1)
        go_ret
        exact ⟨by rw [HE.out]; rfl, (by repeat (first | (with_reducible first | exact HB.out | apply below_alloc | apply pw_below_drewN | apply below_drew1 | refine below_set ?_ HB.out.size) | exact HB.out))⟩
      have hkn : k = txns.length := by omega
      have HE := Aside0.mk (scan_end HA.out hkn)
      have c3 : decide (k < txns.length) = false := decide_eq_false hlt
      clear hkn
      go_wp2
      go_ret
      exact ⟨by rw [HE.out]; rfl, (by repeat (first | (with_reducible first | exact HB.out | apply below_alloc | apply pw_below_drewN | apply below_drew1 | refine below_set ?_ HB.out.size) | exact HB.out))⟩
    have g6 : (b != 0) = true := by simp [bne, h6]
    have HE := Aside0.mk (show r = b from by rw [HF3.out, if_neg (by simpa using h6)])
    go_enter Tryd.func12, Tryd.ntmps12
    go_wp2_with (first | (go_at_call 23; refine (cT5 _ _).mono ?_; rintro e w' ⟨rfl, n, rfl⟩) | (go_at_call 24; refine (cIn _ _ _ _).mono ?_; rintro e w' ⟨rfl, n, rfl⟩) | (go_at_call 25; refine (spec_l6Txns.at p nx ck A2 c2 txns (World.drewN w _) q0 q1 q2 (Kd.C_below HR2.out (by repeat (first | (with_reducible first | exact HB.out | apply below_alloc | apply pw_below_drewN | apply below_drew1 | refine below_set ?_ HB.out.size) | exact HB.out))) hn1 hn2).mono ?_; rintro e w5 ⟨rfl, hb⟩; rw [← HT.out]; have HB1 := Aside0.mk (show Below w.heap.size w w5 from below_step (by repeat (first | (with_reducible first | exact HB.out | apply below_alloc | apply pw_below_drewN | apply below_drew1 | refine below_set ?_ HB.out.size) | exact HB.out)) hb); clear HB hb q0 q1 q2 q3; have HB := HB1; clear HB1; have q0 := (HB.out.cell (World.block_lt_of_cell? w _ Q0.out)).trans Q0.out; have q1 := (HB.out.cell (World.block_lt_of_cell? w _ Q1.out)).trans Q1.out; have q2 := (HB.out.cell (World.block_lt_of_cell? w _ Q2.out)).trans Q2.out; have q3 := (HB.out.cell (World.block_lt_of_cell? w _ Q3.out)).trans Q3.out) | (go_at_call 26; refine (spec_l6Rows.at p ck A2 c2 txns A3 c3 rows _ q1 q2 (Kd.C_below HR2.out (by repeat (first | (with_reducible first | exact HB.out | apply below_alloc | apply pw_below_drewN | apply below_drew1 | refine below_set ?_ HB.out.size) | exact HB.out))) q3 (Kd.C_below HR3.out (by repeat (first | (with_reducible first | exact HB.out | apply below_alloc | apply pw_below_drewN | apply below_drew1 | refine below_set ?_ HB.out.size) | exact HB.out))) K cf HBB.out).mono ?_; rintro e w5 ⟨rfl, hb⟩; rw [← HRW.out]; have HB1 := Aside0.mk (show Below w.heap.size w w5 from below_step (by repeat (first | (with_reducible first | exact HB.out | apply below_alloc | apply pw_below_drewN | apply below_drew1 | refine below_set ?_ HB.out.size) | exact HB.out)) hb); clear HB hb q0 q1 q2 q3; have HB := HB1; clear HB1; have q0 := (HB.out.cell (World.block_lt_of_cell? w _ Q0.out)).trans Q0.out; have q1 := (HB.out.cell (World.block_lt_of_cell? w _ Q1.out)).trans Q1.out; have q2 := (HB.out.cell (World.block_lt_of_cell? w _ Q2.out)).trans Q2.out; have q3 := (HB.out.cell (World.block_lt_of_cell? w _ Q3.out)).trans Q3.out))
    go_ret
    exact ⟨by rw [HE.out]; rfl, (by repeat (first | (with_reducible first | exact HB.out | apply below_alloc | apply pw_below_drewN | apply below_drew1 | refine below_set ?_ HB.out.size) | exact HB.out))⟩
   have g5 : (a != 0) = true := by simp [bne, h5]
   have HE := Aside0.mk (show r = a from by rw [HF2.out, if_neg (by simpa using h5)])
   go_enter Tryd.func12, Tryd.ntmps12
   go_wp2_with (first | (go_at_call 23; refine (cT5 _ _).mono ?_; rintro e w' ⟨rfl, n, rfl⟩) | (go_at_call 24; refine (cIn _ _ _ _).mono ?_; rintro e w' ⟨rfl, n, rfl⟩) | (go_at_call 25; refine (spec_l6Txns.at p nx ck A2 c2 txns (World.drewN w _) q0 q1 q2 (Kd.C_below HR2.out (by repeat (first | (with_reducible first | exact HB.out | apply below_alloc | apply pw_below_drewN | apply below_drew1 | refine below_set ?_ HB.out.size) | exact HB.out))) hn1 hn2).mono ?_; rintro e w5 ⟨rfl, hb⟩; rw [← HT.out]; have HB1 := Aside0.mk (show Below w.heap.size w w5 from below_step (by repeat (first | (with_reducible first | exact HB.out | apply below_alloc | apply pw_below_drewN | apply below_drew1 | refine below_set ?_ HB.out.size) | exact HB.out)) hb); clear HB hb q0 q1 q2 q3; have HB := HB1; clear HB1; have q0 := (HB.out.cell (World.block_lt_of_cell? w _ Q0.out)).trans Q0.out; have q1 := (HB.out.cell (World.block_lt_of_cell? w _ Q1.out)).trans Q1.out; have q2 := (HB.out.cell (World.block_lt_of_cell? w _ Q2.out)).trans Q2.out; have q3 := (HB.out.cell (World.block_lt_of_cell? w _ Q3.out)).trans Q3.out))
   go_ret
   exact ⟨by rw [HE.out]; rfl, (by repeat (first | (with_reducible first | exact HB.out | apply below_alloc | apply pw_below_drewN | apply below_drew1 | refine below_set ?_ HB.out.size) | exact HB.out))⟩
  have HE := Aside0.mk (show r = 3 from by rw [← HF.out]; unfold faultF; rw [if_pos h1, if_neg (by rw [h2]; decide)])
  go_enter Tryd.func12, Tryd.ntmps12
  go_wp2_with (first | (go_at_call 23; refine (cT5 _ _).mono ?_; rintro e w' ⟨rfl, n, rfl⟩) | (go_at_call 24; refine (cIn _ _ _ _).mono ?_; rintro e w' ⟨rfl, n, rfl⟩))
  go_ret
  exact ⟨by rw [HE.out]; rfl, (by repeat (first | (with_reducible first | exact HB.out | apply below_alloc | apply pw_below_drewN | apply below_drew1 | refine below_set ?_ HB.out.size) | exact HB.out))⟩
 have HE := Aside0.mk (show r = 3 from by rw [← HF.out]; unfold faultF; rw [if_neg (by rw [h1]; decide)])
 go_enter Tryd.func12, Tryd.ntmps12
 go_wp2_with (first | (go_at_call 23; refine (cT5 _ _).mono ?_; rintro e w' ⟨rfl, n, rfl⟩) | (go_at_call 24; refine (cIn _ _ _ _).mono ?_; rintro e w' ⟨rfl, n, rfl⟩))
 go_ret
 exact ⟨by rw [HE.out]; rfl, (by repeat (first | (with_reducible first | exact HB.out | apply below_alloc | apply pw_below_drewN | apply below_drew1 | refine below_set ?_ HB.out.size) | exact HB.out))⟩
theorem spec_l6Fault.calls {g : Nat} (k : Nat) (s0_0 : Int) (s0_1 : Int) (A2 : Option Addr) (c2 : Nat) (s0_2 : List (S45)) (A3 : Option Addr) (c3 : Nat) (s0_3 : List (S49)) (r : Int) (w : World) (hr2 : Kd.C k45 w A2 s0_2.length s0_2) (hc2 : s0_2.length ≤ c2) (hr3 : Kd.C k49 w A3 s0_3.length s0_3) (hc3 : s0_3.length ≤ c3) (h : spec_l6Fault.f k s0_0 s0_1 s0_2 s0_3 = some r)
 (hbx : Aside0 (w.heap[g]? = some (.cells #[.int .i64 s0_0, .int .i64 s0_1, .slice A2 s0_2.length c2, .slice A3 s0_3.length c3] 33 (0, 0))) := by assumption) :
 Calls Tryd.prog 12 #[.pointer (some ⟨g, 0, none⟩)] w fun e w' => e = .returned (.int .i64 r) ∧ Below w.heap.size w w' := by
 have hc := hbx.out
 unfold spec_l6Fault.f at h
 by_cases hk : (s0_3.all fun r => (spec_ChainFault.f k r.f1).isSome) = true
 ·rw [if_pos hk] at h
  obtain rfl := Option.some.inj h
  refine spec_l6Fault.at ⟨g, 0, none⟩ s0_0 s0_1 A2 c2 s0_2 A3 c3 s0_3 w ((blk_cell hc 0).trans rfl) ((blk_cell hc 1).trans rfl) ((blk_cell hc 2).trans rfl) hr2 ((blk_cell hc 3).trans rfl) hr3 k (spec_l6Fault.cf k) ?_
  intro r hr
  have := List.all_eq_true.1 hk r hr
  obtain ⟨v, hv⟩ := Option.isSome_iff_exists.1 this
  unfold spec_l6Fault.cf
  rw [hv]; rfl
 rw [if_neg hk] at h
 cases h
end Go.Proofs.YtldlnafakfigeaaDoor.P
