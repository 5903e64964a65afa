-- Printed by this session's own program over the kit's print (wip/tools/mp.py). Not trusted: Lean checks it.
import Derived.Test.YtlabafjldndcgaaP0
import Derived.Test.YtlabafjldndcgaaPD0
import Derived.Test.YtlabafjldndcgaaWRepsOne
namespace Go.Proofs.Ytlabafjldndcgaa.P
open Go.RowKit Go.Proofs.YtlabafjldndcgaaW.PrintWords Go.Proofs.YtlabafjldndcgaaW.PrintLast Go.Proofs.YtlabafjldndcgaaW.PrintMore
attribute [local go_sem] max2_int min2_int max_two min_two max_three min_three max_four min_four   -- for this text's walks alone
set_option linter.unusedVariables false
set_option linter.unusedSimpArgs false

/-! ### spec_l5Writer: function 49 -/
set_option maxHeartbeats 8000000 in
set_option maxRecDepth 100000 in
theorem spec_l5Writer.calls (A0 : Option Addr) (c0 : Nat) (l0 : List (S58)) (r : Int) (w : World) (hr0 : Kd.C k58 w A0 l0.length l0) (hc0 : l0.length ≤ c0) (h : spec_l5Writer.f l0 = some r) :
  Calls Try.prog 49 #[.slice A0 l0.length c0] w fun e w' => e = .returned (.int .i64 r) ∧ Drawn0 w w' := by
 have HR0 := Aside0.mk hr0
 have HC0 := Aside0.mk hc0
 clear hr0 hc0
 have H : (if (l0.length : Int) > 0 then (if 0 < (l0.length : Int) then (if ((rd_T58 l0 0).f1) = 0 then (some ((rd_T58 l0 0).f0)) else (some 0)) else (none)) else (some 0)) = some r := h
 clear h
 by_cases c2 : (l0.length : Int) > 0
 ·rw [if_pos c2] at H
  have c2b0 : decide (0 < (l0.length : Int)) = true := decide_eq_true c2
  have c2b1 : decide (0 < l0.length) = true := decide_eq_true (by omega)
  clear c2
  by_cases c3 : 0 < (l0.length : Int)
  ·rw [if_pos c3] at H
   have c3b0 : decide (0 < (l0.length : Int)) = true := decide_eq_true c3
   have c3b1 : decide (0 < l0.length) = true := decide_eq_true (by omega)
   clear c3
   by_cases c4 : ((rd_T58 l0 0).f1) = 0
   ·rw [if_pos c4] at H
    have c4b0 : (((rd_T58 l0 0).f1) == 0) = true := beq_iff_eq.mpr c4
    have c4b1 : (((rd_T58 l0 0).f1) != 0) = false := bne_eq_false_iff_eq.mpr c4
    clear c4
    obtain rfl := Option.some.inj H
    have p154 : 0 ≤ (0 : Int) := (by omega)
    have q154 : 0 < (l0.length : Int) := of_decide_eq_true (by first | (with_reducible assumption) | assumption)
    obtain ⟨ad154, e154, hx154_0, hx154_1, hx154_2, hx154_3⟩ := at_T58 HR0.out 0 p154 q154
    cases e154
    have qi154 : (0 < l0.length) = True := eq_true (by omega)
    (try rw [show ((0 : Int)).toNat = 0 from rfl] at hx154_0)
    (try rw [show 0 * 4 = 0 from rfl] at hx154_0)
    (try rw [Addr.add_zero'] at hx154_0)
    (try rw [show ((0 : Int)).toNat = 0 from rfl] at hx154_1)
    (try rw [show 0 * 4 = 0 from rfl] at hx154_1)
    (try rw [Addr.add_zero'] at hx154_1)
    (try rw [show ((0 : Int)).toNat = 0 from rfl] at hx154_2)
    (try rw [show 0 * 4 = 0 from rfl] at hx154_2)
    (try rw [Addr.add_zero'] at hx154_2)
    (try rw [show ((0 : Int)).toNat = 0 from rfl] at hx154_3)
    (try rw [show 0 * 4 = 0 from rfl] at hx154_3)
    (try rw [Addr.add_zero'] at hx154_3)
    replace p154 := eq_true p154
    replace q154 := eq_true q154
    have p155 : 0 ≤ (0 : Int) := (by omega)
    have q155 : 0 < (l0.length : Int) := of_decide_eq_true (by first | (with_reducible assumption) | assumption)
    obtain ⟨ad155, e155, hx155_0, hx155_1, hx155_2, hx155_3⟩ := at_T58 HR0.out 0 p155 q155
    obtain rfl : ad154 = ad155 := (by injection e155)
    have qi155 : (0 < l0.length) = True := eq_true (by omega)
    (try rw [show ((0 : Int)).toNat = 0 from rfl] at hx155_0)
    (try rw [show 0 * 4 = 0 from rfl] at hx155_0)
    (try rw [Addr.add_zero'] at hx155_0)
    (try rw [show ((0 : Int)).toNat = 0 from rfl] at hx155_1)
    (try rw [show 0 * 4 = 0 from rfl] at hx155_1)
    (try rw [Addr.add_zero'] at hx155_1)
    (try rw [show ((0 : Int)).toNat = 0 from rfl] at hx155_2)
    (try rw [show 0 * 4 = 0 from rfl] at hx155_2)
    (try rw [Addr.add_zero'] at hx155_2)
    (try rw [show ((0 : Int)).toNat = 0 from rfl] at hx155_3)
    (try rw [show 0 * 4 = 0 from rfl] at hx155_3)
    (try rw [Addr.add_zero'] at hx155_3)
    replace p155 := eq_true p155
    replace q155 := eq_true q155
    go_enter Try.func49, Try.ntmps49
    go_wp2
    go_ret
    exact ⟨by first | rfl | (simp; done) | (simp [*]; done), by repeat (first | exact Drawn0.refl _ | apply Drawn0.step)⟩
   ·rw [if_neg c4] at H
    have c4b0 : (((rd_T58 l0 0).f1) == 0) = false := beq_eq_false_iff_ne.mpr c4
    have c4b1 : (((rd_T58 l0 0).f1) != 0) = true := bne_iff_ne.mpr c4
    obtain rfl := Option.some.inj H
    have p154 : 0 ≤ (0 : Int) := (by omega)
    have q154 : 0 < (l0.length : Int) := of_decide_eq_true (by first | (with_reducible assumption) | assumption)
    obtain ⟨ad154, e154, hx154_0, hx154_1, hx154_2, hx154_3⟩ := at_T58 HR0.out 0 p154 q154
    cases e154
    have qi154 : (0 < l0.length) = True := eq_true (by omega)
    (try rw [show ((0 : Int)).toNat = 0 from rfl] at hx154_0)
    (try rw [show 0 * 4 = 0 from rfl] at hx154_0)
    (try rw [Addr.add_zero'] at hx154_0)
    (try rw [show ((0 : Int)).toNat = 0 from rfl] at hx154_1)
    (try rw [show 0 * 4 = 0 from rfl] at hx154_1)
    (try rw [Addr.add_zero'] at hx154_1)
    (try rw [show ((0 : Int)).toNat = 0 from rfl] at hx154_2)
    (try rw [show 0 * 4 = 0 from rfl] at hx154_2)
    (try rw [Addr.add_zero'] at hx154_2)
    (try rw [show ((0 : Int)).toNat = 0 from rfl] at hx154_3)
    (try rw [show 0 * 4 = 0 from rfl] at hx154_3)
    (try rw [Addr.add_zero'] at hx154_3)
    replace p154 := eq_true p154
    replace q154 := eq_true q154
    go_enter Try.func49, Try.ntmps49
    go_wp2
    go_ret
    exact ⟨by first | rfl | (simp; done) | (simp [*]; done), by repeat (first | exact Drawn0.refl _ | apply Drawn0.step)⟩
  ·rw [if_neg c3] at H
   exact absurd H (by simp)
 ·rw [if_neg c2] at H
  have c2b0 : decide (0 < (l0.length : Int)) = false := decide_eq_false c2
  have c2b1 : decide (0 < l0.length) = false := decide_eq_false (by omega)
  clear c2
  obtain rfl := Option.some.inj H
  go_enter Try.func49, Try.ntmps49
  go_wp2
  go_ret
  exact ⟨by first | rfl | (simp; done) | (simp [*]; done), by repeat (first | exact Drawn0.refl _ | apply Drawn0.step)⟩

end Go.Proofs.Ytlabafjldndcgaa.P
