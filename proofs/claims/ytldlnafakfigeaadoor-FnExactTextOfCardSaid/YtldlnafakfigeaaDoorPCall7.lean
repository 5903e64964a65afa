import Derived.Test.YtldlnafakfigeaaDoorZz
import Derived.Test.YtldlnafakfigeaaDoorP0
import Derived.Test.YtldlnafakfigeaaDoorPDall0
import Derived.Test.YtldlnafakfigeaaDoorWRepsOne
import Derived.Test.YtldlnafakfigeaaDoorLb
import Derived.Shelf.Abstract
import Derived.Test.YtldlnafakfigeaaDoorLb
import Derived.Test.YtldlnafakfigeaaDoorLb
import Derived.Test.YtldlnafakfigeaaDoorLb
import Derived.Test.YtldlnafakfigeaaDoorLb
namespace Go.Proofs.YtldlnafakfigeaaDoor.P
open Go.RowKit Go.Proofs.YtldlnafakfigeaaDoorW.PrintWords Go.Proofs.YtldlnafakfigeaaDoorW.PrintLast Go.Proofs.YtldlnafakfigeaaDoorW.PrintMore
attribute [local go_sem] max2_int min2_int max_two min_two max_three min_three max_four min_four   -- for this text's walks alone
set_option linter.unusedVariables false
set_option linter.unusedSimpArgs false
-- PROOF --
set_option maxHeartbeats 8000000 in
set_option maxRecDepth 100000 in
theorem slices_IndexFunc_impl_Txn.calls (g : Nat) (lb : Array Value) (p : S45 → Bool) (A0 : Option Addr) (c0 : Nat) (l0 : List (S45)) (w : World) (hr0 : Kd.C k45 w A0 l0.length l0)
 (hp : ∀ (W : World) (x : S45) (A_4 : Option Addr) (c_4 : Nat), x ∈ l0 → Below w.heap.size w W → x.f4.length ≤ c_4 → Kd.C k81 W A_4 x.f4.length x.f4 → Calls Tryd.prog g (#[.agg #[.int .i64 x.f0, .int .i64 x.f1, .int .i64 x.f2, .int .i64 x.f3, .slice A_4 x.f4.length c_4]] ++ lb) W fun e w' => e = .returned (.bool (p x)) ∧ Below W.heap.size W w')
 (eg : ∀ args w, (callFunc g args).run Tryd.prog w = .ok (.enter g args) w) :
 Calls Tryd.prog 61 #[.slice A0 l0.length c0, .func (.func g) #[] lb] w fun e w' => e = .returned (.int .i64 (Go.Proofs.YtldlnafakfigeaaDoor.Lb.idx p l0)) ∧ Below w.heap.size w w' := by
 have hu45 := Tryd.underlying45
 have hn := hr0.2.1
 have HR0 := Aside0.mk hr0
 clear hr0
 go_enter Tryd.func61, Tryd.ntmps61
 go_wp2
 go_loopg [5, 8] (l0.length + 1) (fun gg _ s8 wr => ∃ x : Int, 0 ≤ x ∧ x ≤ (l0.length : Int) ∧ Aside0 (l0.length + 1 - x.toNat ≤ gg) ∧ s8 = .int .i64 x ∧ Aside0 (Below w.heap.size w wr) ∧ Aside0 (∀ j : Nat, j < x.toNat → p (l0.getD j z45) = false))
 case atStart => exact ⟨0, by omega, by omega, ⟨by simp⟩, rfl, ⟨Below.refl _ _⟩, ⟨fun j hj => by simp at hj⟩⟩
 case round =>
  obtain ⟨x, hx0, hx1, HG, rfl, HB, HA⟩ := hrel
  by_cases c3 : x < (l0.length : Int)
  ·have c3b0 : decide (x < (l0.length : Int)) = true := decide_eq_true c3
   have c4b0 : decide (0 ≤ x) = true := decide_eq_true hx0
   obtain ⟨ad, A_4, c_4, e1, q0, q1, q2, q3, q4, ql4, qc4⟩ := at_T45 HR0.out x hx0 c3
   cases e1
   replace q0 := zx HB q0
   replace q1 := zx HB q1
   replace q2 := zx HB q2
   replace q3 := zx HB q3
   replace q4 := zx HB q4
   replace qc4 := Kd.C_below qc4 HB.out
   have hx : x.toNat < l0.length := by omega
   have hrd : rd_T45 l0 x = l0.getD x.toNat z45 := rfl
   have hcall := hp wr (rd_T45 l0 x) A_4 c_4 (by rw [hrd, List.getD_eq_getElem?_getD, List.getElem?_eq_getElem hx]; exact List.getElem_mem hx) HB.out ql4 qc4
   clear hp hrd
   cases hq : p (rd_T45 l0 x) with
   | true =>
    rw [hq] at hcall
    have HQ := Aside0.mk hq
    clear hq
    go_wp2_with (go_at_fn g; refine hcall.mono ?_; rintro e w' ⟨rfl, hb'⟩)
    go_ret
    refine ⟨?_, HB.out.trans (hb'.mono HB.out.size)⟩
    unfold Go.Proofs.YtldlnafakfigeaaDoor.Lb.idx
    rw [Go.Proofs.YtldlnafakfigeaaDoor.Lb.idx_hit p z45 l0 x.toNat 0 hx HA.out HQ.out]
    rw [show (0 : Int) + (x.toNat : Int) = x by omega]
    rfl
   | false =>
    rw [hq] at hcall
    have HQ := Aside0.mk hq
    clear hq
    go_wp2_with (go_at_fn g; refine hcall.mono ?_; rintro e w' ⟨rfl, hb'⟩)
    go_roundg (l0.length + 1 - (x + 1).toNat)
    case measure => have := HG.out; omega
    case rel => exact ⟨x + 1, by omega, by omega, ⟨by omega⟩, by first | rfl | go_num, ⟨HB.out.trans (hb'.mono HB.out.size)⟩, ⟨fun j hj => by
     by_cases e : j = x.toNat
     ·subst e; exact HQ.out
     exact HA.out j (by omega)⟩⟩
  have hxx : x = (l0.length : Int) := by omega
  have c3b0 : decide (x < (l0.length : Int)) = false := decide_eq_false c3
  have hm : Go.Proofs.YtldlnafakfigeaaDoor.Lb.idx p l0 = -1 := by
   unfold Go.Proofs.YtldlnafakfigeaaDoor.Lb.idx
   exact Go.Proofs.YtldlnafakfigeaaDoor.Lb.idx_miss p z45 l0 0 (fun j hj => HA.out j (by omega))
  have HM := Aside0.mk hm
  clear hm
  have HX := Aside0.mk hxx
  clear hxx
  go_wp2
  go_ret
  exact ⟨by rw [HM.out]; rfl, HB.out⟩
-- PROOF --
set_option maxHeartbeats 8000000 in
set_option maxRecDepth 100000 in
theorem slices_ContainsFunc_impl_Txn.calls (g : Nat) (lb : Array Value) (p : S45 → Bool) (A0 : Option Addr) (c0 : Nat) (l0 : List (S45)) (w : World) (hr0 : Kd.C k45 w A0 l0.length l0)
 (hp : ∀ (W : World) (x : S45) (A_4 : Option Addr) (c_4 : Nat), x ∈ l0 → Below w.heap.size w W → x.f4.length ≤ c_4 → Kd.C k81 W A_4 x.f4.length x.f4 → Calls Tryd.prog g (#[.agg #[.int .i64 x.f0, .int .i64 x.f1, .int .i64 x.f2, .int .i64 x.f3, .slice A_4 x.f4.length c_4]] ++ lb) W fun e w' => e = .returned (.bool (p x)) ∧ Below W.heap.size W w')
 (eg : ∀ args w, (callFunc g args).run Tryd.prog w = .ok (.enter g args) w) :
 Calls Tryd.prog 38 #[.slice A0 l0.length c0, .func (.func g) #[] lb] w fun e w' => e = .returned (.bool (l0.any p)) ∧ Below w.heap.size w w' := by
 have hcon := slices_IndexFunc_impl_Txn.calls g lb p A0 c0 l0 w hr0 hp eg
 rw [← Go.Proofs.YtldlnafakfigeaaDoor.Lb.idx_any p l0]
 clear hr0 hp
 generalize Go.Proofs.YtldlnafakfigeaaDoor.Lb.idx p l0 = r at hcon ⊢
 have HC := Aside0.mk hcon
 clear hcon
 go_enter Tryd.func38, Tryd.ntmps38
 go_wp2_with (go_at_call 61; refine HC.out.mono ?_; rintro e w' ⟨rfl, hb'⟩)
 go_ret
 exact ⟨rfl, hb'⟩
-- PROOF --
set_option maxHeartbeats 8000000 in
set_option maxRecDepth 100000 in
theorem slices_IndexFunc_impl_Undo.calls (g : Nat) (lb : Array Value) (p : S81 → Bool) (A0 : Option Addr) (c0 : Nat) (l0 : List (S81)) (w : World) (hr0 : Kd.C k81 w A0 l0.length l0)
 (hp : ∀ (W : World) (x : S81), x ∈ l0 → Below w.heap.size w W → Calls Tryd.prog g (#[.agg #[.int .i64 x.f0, .bool x.f1, .bool x.f2, .int .i64 x.f3]] ++ lb) W fun e w' => e = .returned (.bool (p x)) ∧ Below W.heap.size W w')
 (eg : ∀ args w, (callFunc g args).run Tryd.prog w = .ok (.enter g args) w) :
 Calls Tryd.prog 63 #[.slice A0 l0.length c0, .func (.func g) #[] lb] w fun e w' => e = .returned (.int .i64 (Go.Proofs.YtldlnafakfigeaaDoor.Lb.idx p l0)) ∧ Below w.heap.size w w' := by
 have hu81 := Tryd.underlying81
 have hn := hr0.2.1
 have HR0 := Aside0.mk hr0
 clear hr0
 go_enter Tryd.func63, Tryd.ntmps63
 go_wp2
 go_loopg [5, 8] (l0.length + 1) (fun gg _ s8 wr => ∃ x : Int, 0 ≤ x ∧ x ≤ (l0.length : Int) ∧ Aside0 (l0.length + 1 - x.toNat ≤ gg) ∧ s8 = .int .i64 x ∧ Aside0 (Below w.heap.size w wr) ∧ Aside0 (∀ j : Nat, j < x.toNat → p (l0.getD j z81) = false))
 case atStart => exact ⟨0, by omega, by omega, ⟨by simp⟩, rfl, ⟨Below.refl _ _⟩, ⟨fun j hj => by simp at hj⟩⟩
 case round =>
  obtain ⟨x, hx0, hx1, HG, rfl, HB, HA⟩ := hrel
  by_cases c3 : x < (l0.length : Int)
  ·have c3b0 : decide (x < (l0.length : Int)) = true := decide_eq_true c3
   have c4b0 : decide (0 ≤ x) = true := decide_eq_true hx0
   obtain ⟨ad, e1, q0, q1, q2, q3⟩ := at_T81 HR0.out x hx0 c3
   cases e1
   replace q0 := zx HB q0
   replace q1 := zx HB q1
   replace q2 := zx HB q2
   replace q3 := zx HB q3
   have hx : x.toNat < l0.length := by omega
   have hrd : rd_T81 l0 x = l0.getD x.toNat z81 := rfl
   have hcall := hp wr (rd_T81 l0 x) (by rw [hrd, List.getD_eq_getElem?_getD, List.getElem?_eq_getElem hx]; exact List.getElem_mem hx) HB.out
   clear hp hrd
   cases hq : p (rd_T81 l0 x) with
   | true =>
    rw [hq] at hcall
    have HQ := Aside0.mk hq
    clear hq
    go_wp2_with (go_at_fn g; refine hcall.mono ?_; rintro e w' ⟨rfl, hb'⟩)
    go_ret
    refine ⟨?_, HB.out.trans (hb'.mono HB.out.size)⟩
    unfold Go.Proofs.YtldlnafakfigeaaDoor.Lb.idx
    rw [Go.Proofs.YtldlnafakfigeaaDoor.Lb.idx_hit p z81 l0 x.toNat 0 hx HA.out HQ.out]
    rw [show (0 : Int) + (x.toNat : Int) = x by omega]
    rfl
   | false =>
    rw [hq] at hcall
    have HQ := Aside0.mk hq
    clear hq
    go_wp2_with (go_at_fn g; refine hcall.mono ?_; rintro e w' ⟨rfl, hb'⟩)
    go_roundg (l0.length + 1 - (x + 1).toNat)
    case measure => have := HG.out; omega
    case rel => exact ⟨x + 1, by omega, by omega, ⟨by omega⟩, by first | rfl | go_num, ⟨HB.out.trans (hb'.mono HB.out.size)⟩, ⟨fun j hj => by
     by_cases e : j = x.toNat
     ·subst e; exact HQ.out
     exact HA.out j (by omega)⟩⟩
  have hxx : x = (l0.length : Int) := by omega
  have c3b0 : decide (x < (l0.length : Int)) = false := decide_eq_false c3
  have hm : Go.Proofs.YtldlnafakfigeaaDoor.Lb.idx p l0 = -1 := by
   unfold Go.Proofs.YtldlnafakfigeaaDoor.Lb.idx
   exact Go.Proofs.YtldlnafakfigeaaDoor.Lb.idx_miss p z81 l0 0 (fun j hj => HA.out j (by omega))
  have HM := Aside0.mk hm
  clear hm
  have HX := Aside0.mk hxx
  clear hxx
  go_wp2
  go_ret
  exact ⟨by rw [HM.out]; rfl, HB.out⟩
-- PROOF --
set_option maxHeartbeats 8000000 in
set_option maxRecDepth 100000 in
theorem slices_ContainsFunc_impl_Undo.calls (g : Nat) (lb : Array Value) (p : S81 → Bool) (A0 : Option Addr) (c0 : Nat) (l0 : List (S81)) (w : World) (hr0 : Kd.C k81 w A0 l0.length l0)
 (hp : ∀ (W : World) (x : S81), x ∈ l0 → Below w.heap.size w W → Calls Tryd.prog g (#[.agg #[.int .i64 x.f0, .bool x.f1, .bool x.f2, .int .i64 x.f3]] ++ lb) W fun e w' => e = .returned (.bool (p x)) ∧ Below W.heap.size W w')
 (eg : ∀ args w, (callFunc g args).run Tryd.prog w = .ok (.enter g args) w) :
 Calls Tryd.prog 41 #[.slice A0 l0.length c0, .func (.func g) #[] lb] w fun e w' => e = .returned (.bool (l0.any p)) ∧ Below w.heap.size w w' := by
 have hcon := slices_IndexFunc_impl_Undo.calls g lb p A0 c0 l0 w hr0 hp eg
 rw [← Go.Proofs.YtldlnafakfigeaaDoor.Lb.idx_any p l0]
 clear hr0 hp
 generalize Go.Proofs.YtldlnafakfigeaaDoor.Lb.idx p l0 = r at hcon ⊢
 have HC := Aside0.mk hcon
 clear hcon
 go_enter Tryd.func41, Tryd.ntmps41
 go_wp2_with (go_at_call 63; refine HC.out.mono ?_; rintro e w' ⟨rfl, hb'⟩)
 go_ret
 exact ⟨rfl, hb'⟩
set_option maxHeartbeats 8000000 in
set_option maxRecDepth 100000 in
theorem impl_isOpenOf.calls (A0 : Option Addr) (c0 : Nat) (l0 : List (S51)) (a1 : Int) (r : Bool) (w : World) (hr0 : Kd.C k51 w A0 l0.length l0) (hc0 : l0.length ≤ c0) (h : impl_isOpenOf.f l0 a1 = some r) :
 Calls Tryd.prog 43 #[.slice A0 l0.length c0, .int .i64 a1] w fun e w' => e = .returned (.bool r) ∧ Drawn0 w w' := by
 have HR0 := Aside0.mk hr0
 have HC0 := Aside0.mk hc0
 clear hr0 hc0
 have H : (if (l0.length : Int) > 0 then (if 0 < (l0.length : Int) then (if ((rd_T51 l0 0).f1) = 0 then (some (((rd_T51 l0 0).f0) == a1)) else (some false)) else (none)) else (some false)) = some r := h
 clear h
 by_cases c3 : (l0.length : Int) > 0
 ·rw [if_pos c3] at H
  have c3b0 : decide (0 < (l0.length : Int)) = true := decide_eq_true c3
  have c3b1 : decide (0 < l0.length) = true := decide_eq_true (by omega)
  clear c3
  by_cases c4 : 0 < (l0.length : Int)
  ·rw [if_pos c4] at H
   have c4b0 : decide (0 < (l0.length : Int)) = true := decide_eq_true c4
   have c4b1 : decide (0 < l0.length) = true := decide_eq_true (by omega)
   clear c4
   by_cases c5 : ((rd_T51 l0 0).f1) = 0
   ·rw [if_pos c5] at H
    have c5b0 : (((rd_T51 l0 0).f1) == 0) = true := beq_iff_eq.mpr c5
    have c5b1 : (((rd_T51 l0 0).f1) != 0) = false := bne_eq_false_iff_eq.mpr c5
    clear c5
    obtain rfl := Option.some.inj H
    have p240 : 0 ≤ (0 : Int) := (by omega)
    have q6 : 0 < (l0.length : Int) := of_decide_eq_true za
    obtain ⟨ad6, e240, hx6_0, hx6_1, hx6_2, hx6_3⟩ := at_T51 HR0.out 0 p240 q6
    cases e240
    have qi240 : (0 < l0.length) = True := eq_true (by omega)
    (try rw [show ((0 : Int)).toNat = 0 from rfl] at hx6_0 hx6_1 hx6_2 hx6_3)
    (try rw [show 0 * 4 = 0 from rfl] at hx6_0 hx6_1 hx6_2 hx6_3)
    (try rw [Addr.add_zero'] at hx6_0 hx6_1 hx6_2 hx6_3)
    replace p240 := eq_true p240
    replace q6 := eq_true q6
    have p241 : 0 ≤ (0 : Int) := (by omega)
    have q7 : 0 < (l0.length : Int) := of_decide_eq_true za
    obtain ⟨ad7, e241, hx7_0, hx7_1, hx7_2, hx7_3⟩ := at_T51 HR0.out 0 p241 q7
    obtain rfl : ad6 = ad7 := (by injection e241)
    have qi241 : (0 < l0.length) = True := eq_true (by omega)
    (try rw [show ((0 : Int)).toNat = 0 from rfl] at hx7_0 hx7_1 hx7_2 hx7_3)
    (try rw [show 0 * 4 = 0 from rfl] at hx7_0 hx7_1 hx7_2 hx7_3)
    (try rw [Addr.add_zero'] at hx7_0 hx7_1 hx7_2 hx7_3)
    replace p241 := eq_true p241
    replace q7 := eq_true q7
    go_enter Tryd.func43, Tryd.ntmps43
    go_wp2
    go_ret
    exact ⟨zs, zd⟩
   rw [if_neg c5] at H
   have c5b0 : (((rd_T51 l0 0).f1) == 0) = false := beq_eq_false_iff_ne.mpr c5
   have c5b1 : (((rd_T51 l0 0).f1) != 0) = true := bne_iff_ne.mpr c5
   obtain rfl := Option.some.inj H
   have p240 : 0 ≤ (0 : Int) := (by omega)
   have q6 : 0 < (l0.length : Int) := of_decide_eq_true za
   obtain ⟨ad6, e240, hx6_0, hx6_1, hx6_2, hx6_3⟩ := at_T51 HR0.out 0 p240 q6
   cases e240
   have qi240 : (0 < l0.length) = True := eq_true (by omega)
   (try rw [show ((0 : Int)).toNat = 0 from rfl] at hx6_0 hx6_1 hx6_2 hx6_3)
   (try rw [show 0 * 4 = 0 from rfl] at hx6_0 hx6_1 hx6_2 hx6_3)
   (try rw [Addr.add_zero'] at hx6_0 hx6_1 hx6_2 hx6_3)
   replace p240 := eq_true p240
   replace q6 := eq_true q6
   go_enter Tryd.func43, Tryd.ntmps43
   go_wp2
   go_ret
   exact ⟨zs, zd⟩
  rw [if_neg c4] at H
  exact absurd H (by simp)
 rw [if_neg c3] at H
 have c3b0 : decide (0 < (l0.length : Int)) = false := decide_eq_false c3
 have c3b1 : decide (0 < l0.length) = false := decide_eq_false (by omega)
 clear c3
 obtain rfl := Option.some.inj H
 go_enter Tryd.func43, Tryd.ntmps43
 go_wp2
 go_ret
 exact ⟨zs, zd⟩
-- PROOF --
set_option maxHeartbeats 8000000 in
set_option maxRecDepth 100000 in
theorem slices_BinarySearchFunc_impl_Row.calls (g : Nat) (lb : Array Value) (c : S49 → Int) (tv : Value) (A0 : Option Addr) (c0 : Nat) (l0 : List (S49)) (w : World) (hr0 : Kd.C k49 w A0 l0.length l0)
 (hp : ∀ (W : World) (x : S49) (A_1 : Option Addr) (c_1 : Nat), x ∈ l0 → Below w.heap.size w W → x.f1.length ≤ c_1 → Kd.C k51 W A_1 x.f1.length x.f1 → Calls Tryd.prog g (#[.agg #[.int .i64 x.f0, .slice A_1 x.f1.length c_1], tv] ++ lb) W fun e w' => e = .returned (.int .i64 (c x)) ∧ Below W.heap.size W w')
 (eg : ∀ args w, (callFunc g args).run Tryd.prog w = .ok (.enter g args) w) :
 Calls Tryd.prog 75 #[.slice A0 l0.length c0, tv, .func (.func g) #[] lb] w fun e w' => e = .returned (.tuple #[.int .i64 (Go.Proofs.YtldlnafakfigeaaDoor.Lb.bs c z49 l0), .bool (Go.Proofs.YtldlnafakfigeaaDoor.Lb.bsHit c z49 l0)]) ∧ Below w.heap.size w w' := by
 have hu49 := Tryd.underlying49
 unfold Go.Proofs.YtldlnafakfigeaaDoor.Lb.bsHit
 generalize hR : Go.Proofs.YtldlnafakfigeaaDoor.Lb.bs c z49 l0 = r
 generalize hcr : c (l0.getD r.toNat z49) = cr
 have hn := hr0.2.1
 have HR0 := Aside0.mk hr0
 clear hr0
 have HN := Aside0.mk hn
 go_enter Tryd.func75, Tryd.ntmps75
 go_wp2
 go_loopg [9, 10, 11] (l0.length + 1) (fun gg s9 s10 _ wr => ∃ (m : Nat) (i j : Int), 0 ≤ i ∧ i ≤ j ∧ j ≤ (l0.length : Int) ∧ Aside0 ((j - i).toNat ≤ m) ∧ Aside0 ((j - i).toNat + 1 ≤ gg) ∧ s9 = .int .i64 i ∧ s10 = .int .i64 j ∧ Aside0 (Below w.heap.size w wr) ∧ Aside0 (Go.Proofs.YtldlnafakfigeaaDoor.Lb.bsLoop c z49 l0 m i j = r))
 case atStart => exact ⟨l0.length, 0, l0.length, by omega, by omega, by omega, ⟨by omega⟩, ⟨by omega⟩, rfl, rfl, ⟨Below.refl _ _⟩, ⟨hR⟩⟩
 case round =>
  obtain ⟨m, i, j, hi0, hij, hj1, HM, HG, rfl, rfl, HB, HA⟩ := hrel
  by_cases c2 : i < j
  ·have c2b0 : decide (i < j) = true := decide_eq_true c2
   obtain ⟨m', rfl⟩ : ∃ m', m = m' + 1 := ⟨m - 1, by have := HM.out; omega⟩
   obtain ⟨h, hh⟩ : ∃ h : Int, h = (i + j) / 2 := ⟨_, rfl⟩
   have hx0 : 0 ≤ h := by omega
   have c3 : h < (l0.length : Int) := by omega
   have c3b0 : decide (h < (l0.length : Int)) = true := decide_eq_true c3
   have c4b0 : decide (0 ≤ h) = true := decide_eq_true hx0
   have eu : ∀ n : Int, IntKind.u64.wrap n = n % 18446744073709551616 := by intro n; simp [IntKind.wrap, IntKind.bits, IntKind.signed]
   have ew : wrap64 (IntKind.u64.wrap (wrap64 (i + j)) / 2) = h := by rw [eu, hh]; unfold wrap64; omega
   clear eu
   obtain ⟨ad, A_1, c_1, e1, q0, q1, ql1, qc1⟩ := at_T49 HR0.out h hx0 c3
   cases e1
   replace q0 := zx HB q0
   replace q1 := zx HB q1
   replace qc1 := Kd.C_below qc1 HB.out
   have hx : h.toNat < l0.length := by omega
   have hrd : rd_T49 l0 h = l0.getD h.toNat z49 := rfl
   have hcall := hp wr (rd_T49 l0 h) A_1 c_1 (by rw [hrd, List.getD_eq_getElem?_getD, List.getElem?_eq_getElem hx]; exact List.getElem_mem hx) HB.out ql1 qc1
   have HI := Aside0.mk (And.intro hi0 (And.intro hij hj1))
   have HH := Aside0.mk hh
   have HP := Aside0.mk hp
   have hcv0 : c (rd_T49 l0 h) = c (l0.getD ((i + j) / 2).toNat z49) := by rw [hrd, hh]
   clear hrd hh hi0 hij hj1 hx hp
   generalize c (rd_T49 l0 h) = cv at hcall hcv0
   have HC := Aside0.mk hcv0
   have HC2 := Aside0.mk c2
   clear hcv0 c2
   by_cases hq : cv < 0
   ·have hqb : decide (cv < 0) = true := decide_eq_true hq
    have HQ := Aside0.mk hq
    clear hq
    go_wp2_with (go_at_fn g; refine hcall.mono ?_; rintro e w' ⟨rfl, hb'⟩)
    go_roundg ((j - (h + 1)).toNat + 1)
    case measure => have := HG.out; have := HI.out; have := HH.out; have := HC2.out; omega
    case rel => exact ⟨m', h + 1, j, by omega, by have := HI.out; have := HH.out; have := HC2.out; omega, HI.out.2.2, ⟨by have := HM.out; have := HH.out; have := HC2.out; have := HI.out; omega⟩, ⟨Nat.le_refl _⟩, by first | rfl | go_num, rfl, ⟨HB.out.trans (hb'.mono HB.out.size)⟩, ⟨by rw [← HA.out, Go.Proofs.YtldlnafakfigeaaDoor.Lb.bsLoop_low HC2.out (by rw [← HC.out]; have := HQ.out; omega), HH.out]⟩⟩
   ·have hqb : decide (cv < 0) = false := decide_eq_false hq
    have HQ := Aside0.mk hq
    clear hq
    go_wp2_with (go_at_fn g; refine hcall.mono ?_; rintro e w' ⟨rfl, hb'⟩)
    go_roundg ((h - i).toNat + 1)
    case measure => have := HG.out; have := HI.out; have := HH.out; have := HC2.out; omega
    case rel => exact ⟨m', i, h, HI.out.1, by have := HI.out; have := HH.out; have := HC2.out; omega, by omega, ⟨by have := HM.out; have := HH.out; have := HC2.out; have := HI.out; omega⟩, ⟨Nat.le_refl _⟩, rfl, by first | rfl | go_num, ⟨HB.out.trans (hb'.mono HB.out.size)⟩, ⟨by rw [← HA.out, Go.Proofs.YtldlnafakfigeaaDoor.Lb.bsLoop_high HC2.out (by rw [← HC.out]; have := HQ.out; omega), HH.out]⟩⟩
  have c2b0 : decide (i < j) = false := decide_eq_false c2
  have hr : r = i := HA.out.symm.trans (Go.Proofs.YtldlnafakfigeaaDoor.Lb.bsLoop_end c2)
  subst hr
  have HI := Aside0.mk (And.intro hi0 (And.intro hij hj1))
  clear c2 hR
  by_cases c3 : r < (l0.length : Int)
  ·have c3b0 : decide (r < (l0.length : Int)) = true := decide_eq_true c3
   have c4b0 : decide (0 ≤ r) = true := decide_eq_true hi0
   have hx0 := hi0
   obtain ⟨ad, A_1, c_1, e1, q0, q1, ql1, qc1⟩ := at_T49 HR0.out r hx0 c3
   cases e1
   replace q0 := zx HB q0
   replace q1 := zx HB q1
   replace qc1 := Kd.C_below qc1 HB.out
   have hx : r.toNat < l0.length := by omega
   have hrd : rd_T49 l0 r = l0.getD r.toNat z49 := rfl
   have hcall := hp wr (rd_T49 l0 r) A_1 c_1 (by rw [hrd, List.getD_eq_getElem?_getD, List.getElem?_eq_getElem hx]; exact List.getElem_mem hx) HB.out ql1 qc1
   have hcv : c (rd_T49 l0 r) = cr := hcr
   rw [hcv] at hcall
   have HCR := Aside0.mk hcr
   clear hrd hi0 hij hj1 hx hp hcv hcr
   go_wp2_with (go_at_fn g; refine hcall.mono ?_; rintro e w' ⟨rfl, hb'⟩)
   go_ret2
   exact ⟨by first | rfl | (rw [c3b0]; rfl) | simp [c3b0], HB.out.trans (hb'.mono HB.out.size)⟩
  have c3b0 : decide (r < (l0.length : Int)) = false := decide_eq_false c3
  clear hp hcr
  go_wp2
  go_ret2
  exact ⟨by first | rfl | (rw [c3b0]; rfl) | simp [c3b0], HB.out⟩
end Go.Proofs.YtldlnafakfigeaaDoor.P
