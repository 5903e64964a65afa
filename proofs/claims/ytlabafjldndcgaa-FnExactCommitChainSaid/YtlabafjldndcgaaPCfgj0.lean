-- Printed by this session's own program over the kit's print (wip/tools/mp.py). Not trusted: Lean checks it.
import Derived.Test.YtlabafjldndcgaaP0
import Derived.Test.YtlabafjldndcgaaPD0
namespace Go.Proofs.Ytlabafjldndcgaa.P
open Go.RowKit Go.Proofs.YtlabafjldndcgaaW.PrintWords Go.Proofs.YtlabafjldndcgaaW.PrintLast Go.Proofs.YtlabafjldndcgaaW.PrintMore
attribute [local go_sem] max2_int min2_int max_two min_two max_three min_three max_four min_four   -- for this text's walks alone
set_option linter.unusedVariables false
set_option linter.unusedSimpArgs false

/-! ### impl_isOpenOf: function 61 -/
set_option maxHeartbeats 8000000 in
set_option maxRecDepth 100000 in
theorem impl_isOpenOf.calls (A0 : Option Addr) (c0 : Nat) (l0 : List (S58)) (a1 : Int) (r : Bool) (w : World) (hr0 : Kd.C k58 w A0 l0.length l0) (hc0 : l0.length ≤ c0) (h : impl_isOpenOf.f l0 a1 = some r) :
    Calls Try.prog 61 #[.slice A0 l0.length c0, .int .i64 a1] w fun e w' => e = .returned (.bool r) ∧ Drawn0 w w' := by
  have HR0 := Aside0.mk hr0
  have HC0 := Aside0.mk hc0
  clear hr0 hc0
  have H : (if (l0.length : Int) > 0 then (if 0 < (l0.length : Int) then (if ((rd_T58 l0 0).f1) = 0 then (some (((rd_T58 l0 0).f0) == a1)) else (some false)) else (none)) else (some false)) = some r := h
  clear h
  by_cases c3 : (l0.length : Int) > 0
  · rw [if_pos c3] at H
    have c3b0 : decide (0 < (l0.length : Int)) = true := decide_eq_true c3
    have c3b1 : decide (0 < l0.length) = true := decide_eq_true (by omega)
    clear c3
    by_cases c4 : 0 < (l0.length : Int)
    · rw [if_pos c4] at H
      have c4b0 : decide (0 < (l0.length : Int)) = true := decide_eq_true c4
      have c4b1 : decide (0 < l0.length) = true := decide_eq_true (by omega)
      clear c4
      by_cases c5 : ((rd_T58 l0 0).f1) = 0
      · rw [if_pos c5] at H
        have c5b0 : (((rd_T58 l0 0).f1) == 0) = true := beq_iff_eq.mpr c5
        have c5b1 : (((rd_T58 l0 0).f1) != 0) = false := bne_eq_false_iff_eq.mpr c5
        clear c5
        obtain rfl := Option.some.inj H
        have p394 : 0 ≤ (0 : Int) := (by omega)
        have q394 : 0 < (l0.length : Int) := of_decide_eq_true (by first | (with_reducible assumption) | assumption)
        obtain ⟨ad394, e394, hx394_0, hx394_1, hx394_2, hx394_3⟩ := at_T58 HR0.out 0 p394 q394
        cases e394
        have qi394 : (0 < l0.length) = True := eq_true (by omega)
        (try rw [show ((0 : Int)).toNat = 0 from rfl] at hx394_0)
        (try rw [show 0 * 4 = 0 from rfl] at hx394_0)
        (try rw [Addr.add_zero'] at hx394_0)
        (try rw [show ((0 : Int)).toNat = 0 from rfl] at hx394_1)
        (try rw [show 0 * 4 = 0 from rfl] at hx394_1)
        (try rw [Addr.add_zero'] at hx394_1)
        (try rw [show ((0 : Int)).toNat = 0 from rfl] at hx394_2)
        (try rw [show 0 * 4 = 0 from rfl] at hx394_2)
        (try rw [Addr.add_zero'] at hx394_2)
        (try rw [show ((0 : Int)).toNat = 0 from rfl] at hx394_3)
        (try rw [show 0 * 4 = 0 from rfl] at hx394_3)
        (try rw [Addr.add_zero'] at hx394_3)
        replace p394 := eq_true p394
        replace q394 := eq_true q394
        have p395 : 0 ≤ (0 : Int) := (by omega)
        have q395 : 0 < (l0.length : Int) := of_decide_eq_true (by first | (with_reducible assumption) | assumption)
        obtain ⟨ad395, e395, hx395_0, hx395_1, hx395_2, hx395_3⟩ := at_T58 HR0.out 0 p395 q395
        obtain rfl : ad394 = ad395 := (by injection e395)
        have qi395 : (0 < l0.length) = True := eq_true (by omega)
        (try rw [show ((0 : Int)).toNat = 0 from rfl] at hx395_0)
        (try rw [show 0 * 4 = 0 from rfl] at hx395_0)
        (try rw [Addr.add_zero'] at hx395_0)
        (try rw [show ((0 : Int)).toNat = 0 from rfl] at hx395_1)
        (try rw [show 0 * 4 = 0 from rfl] at hx395_1)
        (try rw [Addr.add_zero'] at hx395_1)
        (try rw [show ((0 : Int)).toNat = 0 from rfl] at hx395_2)
        (try rw [show 0 * 4 = 0 from rfl] at hx395_2)
        (try rw [Addr.add_zero'] at hx395_2)
        (try rw [show ((0 : Int)).toNat = 0 from rfl] at hx395_3)
        (try rw [show 0 * 4 = 0 from rfl] at hx395_3)
        (try rw [Addr.add_zero'] at hx395_3)
        replace p395 := eq_true p395
        replace q395 := eq_true q395
        go_enter Try.func61, Try.ntmps61
        go_wp2
        go_ret
        exact ⟨by first | rfl | (simp; done) | (simp [*]; done), by repeat (first | exact Drawn0.refl _ | apply Drawn0.step)⟩
      · rw [if_neg c5] at H
        have c5b0 : (((rd_T58 l0 0).f1) == 0) = false := beq_eq_false_iff_ne.mpr c5
        have c5b1 : (((rd_T58 l0 0).f1) != 0) = true := bne_iff_ne.mpr c5
        obtain rfl := Option.some.inj H
        have p394 : 0 ≤ (0 : Int) := (by omega)
        have q394 : 0 < (l0.length : Int) := of_decide_eq_true (by first | (with_reducible assumption) | assumption)
        obtain ⟨ad394, e394, hx394_0, hx394_1, hx394_2, hx394_3⟩ := at_T58 HR0.out 0 p394 q394
        cases e394
        have qi394 : (0 < l0.length) = True := eq_true (by omega)
        (try rw [show ((0 : Int)).toNat = 0 from rfl] at hx394_0)
        (try rw [show 0 * 4 = 0 from rfl] at hx394_0)
        (try rw [Addr.add_zero'] at hx394_0)
        (try rw [show ((0 : Int)).toNat = 0 from rfl] at hx394_1)
        (try rw [show 0 * 4 = 0 from rfl] at hx394_1)
        (try rw [Addr.add_zero'] at hx394_1)
        (try rw [show ((0 : Int)).toNat = 0 from rfl] at hx394_2)
        (try rw [show 0 * 4 = 0 from rfl] at hx394_2)
        (try rw [Addr.add_zero'] at hx394_2)
        (try rw [show ((0 : Int)).toNat = 0 from rfl] at hx394_3)
        (try rw [show 0 * 4 = 0 from rfl] at hx394_3)
        (try rw [Addr.add_zero'] at hx394_3)
        replace p394 := eq_true p394
        replace q394 := eq_true q394
        go_enter Try.func61, Try.ntmps61
        go_wp2
        go_ret
        exact ⟨by first | rfl | (simp; done) | (simp [*]; done), by repeat (first | exact Drawn0.refl _ | apply Drawn0.step)⟩
    · rw [if_neg c4] at H
      exact absurd H (by simp)
  · rw [if_neg c3] at H
    have c3b0 : decide (0 < (l0.length : Int)) = false := decide_eq_false c3
    have c3b1 : decide (0 < l0.length) = false := decide_eq_false (by omega)
    clear c3
    obtain rfl := Option.some.inj H
    go_enter Try.func61, Try.ntmps61
    go_wp2
    go_ret
    exact ⟨by first | rfl | (simp; done) | (simp [*]; done), by repeat (first | exact Drawn0.refl _ | apply Drawn0.step)⟩

end Go.Proofs.Ytlabafjldndcgaa.P
