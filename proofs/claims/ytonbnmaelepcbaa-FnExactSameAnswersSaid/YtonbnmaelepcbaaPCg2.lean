import Derived.Test.YtonbnmaelepcbaaZz
import Derived.Test.YtonbnmaelepcbaaP0
import Derived.Test.YtonbnmaelepcbaaPDg0
import Derived.Test.YtonbnmaelepcbaaPE0
import Derived.Test.YtonbnmaelepcbaaWRepsOne
import Derived.Test.YtonbnmaelepcbaaLv
namespace Go.Proofs.Ytonbnmaelepcbaa.P
open Go.RowKit Go.Proofs.YtonbnmaelepcbaaW.PrintWords Go.Proofs.YtonbnmaelepcbaaW.PrintLast Go.Proofs.YtonbnmaelepcbaaW.PrintMore
attribute [local go_sem] max2_int min2_int max_two min_two max_three min_three max_four min_four   -- for this text's walks alone
set_option linter.unusedVariables false
set_option linter.unusedSimpArgs false
attribute [local go_sem high] eqA105
set_option maxHeartbeats 8000000 in
set_option maxRecDepth 100000 in
theorem slices_Equal_int64.calls (k : Nat) (A0 : Option Addr) (c0 : Nat) (l0 : List Int) (A1 : Option Addr) (c1 : Nat) (l1 : List Int) (r : Bool) (w : World) (hr0 : Kd.C (Kd.int .i64) w A0 l0.length l0) (hc0 : l0.length ≤ c0) (hr1 : Kd.C (Kd.int .i64) w A1 l1.length l1) (hc1 : l1.length ≤ c1) (h : slices_Equal_int64.f k l0 l1 = some r) :
 Calls Try.prog 102 #[.slice A0 l0.length c0, .slice A1 l1.length c1] w fun e w' => e = .returned (.bool r) ∧ Drawn0 w w' := by
 have HR0 := Aside0.mk hr0
 have HC0 := Aside0.mk hc0
 clear hr0 hc0
 have HR1 := Aside0.mk hr1
 have HC1 := Aside0.mk hc1
 clear hr1 hc1
 have H : (if (l0.length : Int) = (l1.length : Int) then (slices_Equal_int64.l0 k l0 l1 (l0.length : Int) 0) else (some false)) = some r := h
 clear h
 by_cases c3 : (l0.length : Int) = (l1.length : Int)
 ·rw [if_pos c3] at H
  have c3b0 : ((l0.length : Int) == (l1.length : Int)) = true := beq_iff_eq.mpr c3
  have c3b1 : ((l0.length : Int) != (l1.length : Int)) = false := bne_eq_false_iff_eq.mpr c3
  have c3b2 : (l0.length == l1.length) = true := by first | simpa using c3 | (simp at c3 ⊢; omega)
  clear c3
  have H' := Aside0.mk H
  clear H
  go_enter Try.func102, Try.ntmps102
  go_wp2
  repeat (go_quiet (fail); try go_wp2)
  go_loopg [13] k (fun kq v13 w' => ∃ (x13_1 : Int), v13 = .int .i64 x13_1 ∧ Aside0 (slices_Equal_int64.l0 kq l0 l1 (l0.length : Int) x13_1 = some r) ∧ Aside0 (kq ≤ k) ∧ Drawn0 w w')
  case atStart => exact ⟨(0), zs, H', ⟨Nat.le_refl _⟩, zd⟩
  case round =>
   clear H'
   try clear c1
   try clear p2
   try clear c3
   try clear c3b0
   try clear c3b1
   try clear c3b2
   obtain ⟨x13_1, rfl, HA, HK1, ⟨m1, rfl⟩⟩ := hrel
   cases gk with
   | zero => exact absurd HA.out (by simp [slices_Equal_int64.l0])
   | succ k1 =>
    have H := HA.out
    clear HA
    simp only [slices_Equal_int64.l0] at H
    by_cases c4 : x13_1 < (l0.length : Int)
    ·rw [if_pos c4] at H
     have c4b0 : decide (x13_1 < (l0.length : Int)) = true := decide_eq_true c4
     clear c4
     by_cases c5 : 0 ≤ x13_1
     ·rw [if_pos c5] at H
      have c5b0 : decide (0 ≤ x13_1) = true := decide_eq_true c5
      clear c5
      by_cases c6 : x13_1 < (l0.length : Int)
      ·rw [if_pos c6] at H
       have c6b0 : decide (x13_1 < (l0.length : Int)) = true := decide_eq_true c6
       clear c6
       by_cases c7 : x13_1 < (l1.length : Int)
       ·rw [if_pos c7] at H
        have c7b0 : decide (x13_1 < (l1.length : Int)) = true := decide_eq_true c7
        clear c7
        by_cases c8 : (rd l0 x13_1) = (rd l1 x13_1)
        ·rw [if_pos c8] at H
         have c8b0 : ((rd l0 x13_1) == (rd l1 x13_1)) = true := beq_iff_eq.mpr c8
         have c8b1 : ((rd l0 x13_1) != (rd l1 x13_1)) = false := bne_eq_false_iff_eq.mpr c8
         clear c8
         have H' := Aside0.mk H
         clear H
         have p495 : 0 ≤ (x13_1 : Int) := of_decide_eq_true za
         have q9 : x13_1 < (l0.length : Int) := of_decide_eq_true za
         obtain ⟨ad9, e495, hx9_0⟩ := Kd.at_int HR0.out x13_1 p495 q9
         cases e495
         replace p495 := eq_true p495
         replace q9 := eq_true q9
         have p496 : 0 ≤ (x13_1 : Int) := of_decide_eq_true za
         have q10 : x13_1 < (l1.length : Int) := of_decide_eq_true za
         obtain ⟨ad10, e496, hx10_0⟩ := Kd.at_int HR1.out x13_1 p496 q10
         cases e496
         replace p496 := eq_true p496
         replace q10 := eq_true q10
         go_wp2
         repeat (go_quiet (fail); try go_wp2)
         go_roundg k1
         case measure => have := HK1.out; omega
         case rel => exact ⟨(wrap64 (x13_1 + 1)), zs, H', ⟨by have := HK1.out; omega⟩, zd⟩
        rw [if_neg c8] at H
        have c8b0 : ((rd l0 x13_1) == (rd l1 x13_1)) = false := beq_eq_false_iff_ne.mpr c8
        have c8b1 : ((rd l0 x13_1) != (rd l1 x13_1)) = true := bne_iff_ne.mpr c8
        obtain rfl := Option.some.inj H
        have p495 : 0 ≤ (x13_1 : Int) := of_decide_eq_true za
        have q9 : x13_1 < (l0.length : Int) := of_decide_eq_true za
        obtain ⟨ad9, e495, hx9_0⟩ := Kd.at_int HR0.out x13_1 p495 q9
        cases e495
        replace p495 := eq_true p495
        replace q9 := eq_true q9
        have p496 : 0 ≤ (x13_1 : Int) := of_decide_eq_true za
        have q10 : x13_1 < (l1.length : Int) := of_decide_eq_true za
        obtain ⟨ad10, e496, hx10_0⟩ := Kd.at_int HR1.out x13_1 p496 q10
        cases e496
        replace p496 := eq_true p496
        replace q10 := eq_true q10
        go_wp2
        repeat (go_quiet (fail); try go_wp2)
        go_ret
        exact ⟨zs, zd⟩
       rw [if_neg c7] at H
       exact absurd H (by simp)
      rw [if_neg c6] at H
      exact absurd H (by simp)
     rw [if_neg c5] at H
     exact absurd H (by simp)
    rw [if_neg c4] at H
    have c4b0 : decide (x13_1 < (l0.length : Int)) = false := decide_eq_false c4
    clear c4
    obtain rfl := Option.some.inj H
    go_wp2
    repeat (go_quiet (fail); try go_wp2)
    go_ret
    exact ⟨zs, zd⟩
 rw [if_neg c3] at H
 have c3b0 : ((l0.length : Int) == (l1.length : Int)) = false := beq_eq_false_iff_ne.mpr c3
 have c3b1 : ((l0.length : Int) != (l1.length : Int)) = true := bne_iff_ne.mpr c3
 have c3b2 : (l0.length == l1.length) = false := by first | simpa using c3 | (simp at c3 ⊢; omega)
 obtain rfl := Option.some.inj H
 go_enter Try.func102, Try.ntmps102
 go_wp2
 repeat (go_quiet (fail); try go_wp2)
 go_ret
 exact ⟨zs, zd⟩
set_option maxHeartbeats 8000000 in
set_option maxRecDepth 100000 in
theorem slices_Equal_impl_Cell.calls (k : Nat) (A0 : Option Addr) (c0 : Nat) (l0 : List (S105)) (A1 : Option Addr) (c1 : Nat) (l1 : List (S105)) (r : Bool) (w : World) (hr0 : Kd.C k105 w A0 l0.length l0) (hc0 : l0.length ≤ c0) (hr1 : Kd.C k105 w A1 l1.length l1) (hc1 : l1.length ≤ c1) (h : slices_Equal_impl_Cell.f k l0 l1 = some r) :
 Calls Try.prog 103 #[.slice A0 l0.length c0, .slice A1 l1.length c1] w fun e w' => e = .returned (.bool r) ∧ Drawn0 w w' := by
 have hu105 := Try.underlying105
 have HR0 := Aside0.mk hr0
 have HC0 := Aside0.mk hc0
 clear hr0 hc0
 have HR1 := Aside0.mk hr1
 have HC1 := Aside0.mk hc1
 clear hr1 hc1
 have H : (if (l0.length : Int) = (l1.length : Int) then (slices_Equal_impl_Cell.l0 k l0 l1 (l0.length : Int) 0) else (some false)) = some r := h
 clear h
 by_cases c3 : (l0.length : Int) = (l1.length : Int)
 ·rw [if_pos c3] at H
  have c3b0 : ((l0.length : Int) == (l1.length : Int)) = true := beq_iff_eq.mpr c3
  have c3b1 : ((l0.length : Int) != (l1.length : Int)) = false := bne_eq_false_iff_eq.mpr c3
  have c3b2 : (l0.length == l1.length) = true := by first | simpa using c3 | (simp at c3 ⊢; omega)
  clear c3
  have H' := Aside0.mk H
  clear H
  go_enter Try.func103, Try.ntmps103
  go_wp2
  repeat (go_quiet (fail); try go_wp2)
  go_loopg [13] k (fun kq v13 w' => ∃ (x13_1 : Int), v13 = .int .i64 x13_1 ∧ Aside0 (slices_Equal_impl_Cell.l0 kq l0 l1 (l0.length : Int) x13_1 = some r) ∧ Aside0 (kq ≤ k) ∧ Drawn0 w w')
  case atStart => exact ⟨(0), zs, H', ⟨Nat.le_refl _⟩, zd⟩
  case round =>
   clear H'
   try clear c1
   try clear p2
   try clear c3
   try clear c3b0
   try clear c3b1
   try clear c3b2
   obtain ⟨x13_1, rfl, HA, HK1, ⟨m1, rfl⟩⟩ := hrel
   cases gk with
   | zero => exact absurd HA.out (by simp [slices_Equal_impl_Cell.l0])
   | succ k1 =>
    have H := HA.out
    clear HA
    simp only [slices_Equal_impl_Cell.l0] at H
    by_cases c4 : x13_1 < (l0.length : Int)
    ·rw [if_pos c4] at H
     have c4b0 : decide (x13_1 < (l0.length : Int)) = true := decide_eq_true c4
     clear c4
     by_cases c5 : 0 ≤ x13_1
     ·rw [if_pos c5] at H
      have c5b0 : decide (0 ≤ x13_1) = true := decide_eq_true c5
      clear c5
      by_cases c6 : x13_1 < (l0.length : Int)
      ·rw [if_pos c6] at H
       have c6b0 : decide (x13_1 < (l0.length : Int)) = true := decide_eq_true c6
       clear c6
       by_cases c7 : x13_1 < (l1.length : Int)
       ·rw [if_pos c7] at H
        have c7b0 : decide (x13_1 < (l1.length : Int)) = true := decide_eq_true c7
        clear c7
        by_cases c8 : (!(((rd_T105 l0 x13_1).f0) == ((rd_T105 l1 x13_1).f0)) || (!(((rd_T105 l0 x13_1).f1) == ((rd_T105 l1 x13_1).f1)))) = true
        ·rw [if_pos c8] at H
         have c8b0 : (!(((rd_T105 l0 x13_1).f0) == ((rd_T105 l1 x13_1).f0)) || (!(((rd_T105 l0 x13_1).f1) == ((rd_T105 l1 x13_1).f1)))) = true := c8
         clear c8
         obtain rfl := Option.some.inj H
         have p497 : 0 ≤ (x13_1 : Int) := of_decide_eq_true za
         have q9 : x13_1 < (l0.length : Int) := of_decide_eq_true za
         obtain ⟨ad9, e497, hx9_0, hx9_1⟩ := at_T105 HR0.out x13_1 p497 q9
         cases e497
         replace p497 := eq_true p497
         replace q9 := eq_true q9
         have p498 : 0 ≤ (x13_1 : Int) := of_decide_eq_true za
         have q10 : x13_1 < (l1.length : Int) := of_decide_eq_true za
         obtain ⟨ad10, e498, hx10_0, hx10_1⟩ := at_T105 HR1.out x13_1 p498 q10
         cases e498
         replace p498 := eq_true p498
         replace q10 := eq_true q10
         go_wp2
         repeat (go_quiet (fail); try go_wp2)
         go_ret
         exact ⟨zs, zd⟩
        rw [if_neg c8] at H
        have c8b0 : (!(((rd_T105 l0 x13_1).f0) == ((rd_T105 l1 x13_1).f0)) || (!(((rd_T105 l0 x13_1).f1) == ((rd_T105 l1 x13_1).f1)))) = false := by simpa using c8
        clear c8
        have H' := Aside0.mk H
        clear H
        have p497 : 0 ≤ (x13_1 : Int) := of_decide_eq_true za
        have q9 : x13_1 < (l0.length : Int) := of_decide_eq_true za
        obtain ⟨ad9, e497, hx9_0, hx9_1⟩ := at_T105 HR0.out x13_1 p497 q9
        cases e497
        replace p497 := eq_true p497
        replace q9 := eq_true q9
        have p498 : 0 ≤ (x13_1 : Int) := of_decide_eq_true za
        have q10 : x13_1 < (l1.length : Int) := of_decide_eq_true za
        obtain ⟨ad10, e498, hx10_0, hx10_1⟩ := at_T105 HR1.out x13_1 p498 q10
        cases e498
        replace p498 := eq_true p498
        replace q10 := eq_true q10
        go_wp2
        repeat (go_quiet (fail); try go_wp2)
        go_roundg k1
        case measure => have := HK1.out; omega
        case rel => exact ⟨(wrap64 (x13_1 + 1)), zs, H', ⟨by have := HK1.out; omega⟩, zd⟩
       rw [if_neg c7] at H
       exact absurd H (by simp)
      rw [if_neg c6] at H
      exact absurd H (by simp)
     rw [if_neg c5] at H
     exact absurd H (by simp)
    rw [if_neg c4] at H
    have c4b0 : decide (x13_1 < (l0.length : Int)) = false := decide_eq_false c4
    clear c4
    obtain rfl := Option.some.inj H
    go_wp2
    repeat (go_quiet (fail); try go_wp2)
    go_ret
    exact ⟨zs, zd⟩
 rw [if_neg c3] at H
 have c3b0 : ((l0.length : Int) == (l1.length : Int)) = false := beq_eq_false_iff_ne.mpr c3
 have c3b1 : ((l0.length : Int) != (l1.length : Int)) = true := bne_iff_ne.mpr c3
 have c3b2 : (l0.length == l1.length) = false := by first | simpa using c3 | (simp at c3 ⊢; omega)
 obtain rfl := Option.some.inj H
 go_enter Try.func103, Try.ntmps103
 go_wp2
 repeat (go_quiet (fail); try go_wp2)
 go_ret
 exact ⟨zs, zd⟩
set_option maxHeartbeats 8000000 in
set_option maxRecDepth 100000 in
theorem impl_mayWrite.calls (A0 : Option Addr) (c0 : Nat) (l0 : List (S90)) (a1_0 : Int) (a1_1 : Int) (r : Int) (w : World) (hr0 : Kd.C k90 w A0 l0.length l0) (hc0 : l0.length ≤ c0) (h : impl_mayWrite.f l0 a1_0 a1_1 = some r) :
 Calls Try.prog 105 #[.slice A0 l0.length c0, .agg #[.int .i64 a1_0, .int .i64 a1_1]] w fun e w' => e = .returned (.int .i64 r) ∧ Below w.heap.size w w' := by
 have hu116 := Try.underlying116
 have HR0 := Aside0.mk hr0
 have HC0 := Aside0.mk hc0
 clear hr0 hc0
 have HB := Aside0.mk (Below.refl w.heap.size w)
 have H : (if (l0.length : Int) > 0 then (if 0 < (l0.length : Int) then (if ((rd_T90 l0 0).f1) = 0 then (if ((rd_T90 l0 0).f0) = a1_1 then (if ((rd_T90 l0 0).f1) > a1_0 then (some 9) else (some 0)) else (some 9)) else (if ((rd_T90 l0 0).f1) > a1_0 then (some 9) else (some 0))) else (none)) else (some 0)) = some r := h
 clear h
 by_cases c3 : (l0.length : Int) > 0
 ·rw [if_pos c3] at H
  have c3b0 : decide (0 < (l0.length : Int)) = true := decide_eq_true c3
  have c3b1 : decide (0 < l0.length) = true := decide_eq_true (by omega)
  clear c3
  by_cases c4 : 0 < (l0.length : Int)
  ·rw [if_pos c4] at H
   have c4b0 : decide (0 < (l0.length : Int)) = true := decide_eq_true c4
   have c4b1 : decide (0 < l0.length) = true := decide_eq_true (by omega)
   clear c4
   by_cases c5 : ((rd_T90 l0 0).f1) = 0
   ·rw [if_pos c5] at H
    have c5b0 : (((rd_T90 l0 0).f1) == 0) = true := beq_iff_eq.mpr c5
    have c5b1 : (((rd_T90 l0 0).f1) != 0) = false := bne_eq_false_iff_eq.mpr c5
    clear c5
    by_cases c6 : ((rd_T90 l0 0).f0) = a1_1
    ·rw [if_pos c6] at H
     have c6b0 : (((rd_T90 l0 0).f0) == a1_1) = true := beq_iff_eq.mpr c6
     have c6b1 : (((rd_T90 l0 0).f0) != a1_1) = false := bne_eq_false_iff_eq.mpr c6
     clear c6
     by_cases c7 : ((rd_T90 l0 0).f1) > a1_0
     ·rw [if_pos c7] at H
      have c7b0 : decide (a1_0 < ((rd_T90 l0 0).f1)) = true := decide_eq_true c7
      clear c7
      obtain rfl := Option.some.inj H
      go_enter Try.func105, Try.ntmps105
      go_wp2_with (first | ((with_reducible refine gate_dst (N := 3) rfl ?_); refine zE 3 116 #[.int .i64 a1_0, .int .i64 a1_1] ?_; intro gb24 hg w8 hbox hb; have BK24 := Aside0.mk hbox; have GW24 := Aside0.mk (zh hg : w.heap.size ≤ gb24); have GE24 := GW24; replace HB := Aside0.mk (below_step zb hb); clear hb hbox hg; have p516 : 0 ≤ (0 : Int) := (by omega); have q20 : 0 < (l0.length : Int) := of_decide_eq_true za; obtain ⟨ad20, e516, hx20_0, hx20_1, hx20_2, hx20_3⟩ := at_T90 HR0.out 0 p516 q20; cases e516; have qi516 : (0 < l0.length) = True := eq_true (by omega); (try rw [show ((0 : Int)).toNat = 0 from rfl] at hx20_0 hx20_1 hx20_2 hx20_3); (try rw [show 0 * 4 = 0 from rfl] at hx20_0 hx20_1 hx20_2 hx20_3); (try rw [Addr.add_zero'] at hx20_0 hx20_1 hx20_2 hx20_3); replace hx20_0 := zx HB hx20_0; replace hx20_1 := zx HB hx20_1; replace hx20_2 := zx HB hx20_2; replace hx20_3 := zx HB hx20_3; replace p516 := eq_true p516; replace q20 := eq_true q20; have p517 : 0 ≤ (0 : Int) := (by omega); have q21 : 0 < (l0.length : Int) := of_decide_eq_true za; obtain ⟨ad21, e517, hx21_0, hx21_1, hx21_2, hx21_3⟩ := at_T90 HR0.out 0 p517 q21; obtain rfl : ad20 = ad21 := (by injection e517); have qi517 : (0 < l0.length) = True := eq_true (by omega); (try rw [show ((0 : Int)).toNat = 0 from rfl] at hx21_0 hx21_1 hx21_2 hx21_3); (try rw [show 0 * 4 = 0 from rfl] at hx21_0 hx21_1 hx21_2 hx21_3); (try rw [Addr.add_zero'] at hx21_0 hx21_1 hx21_2 hx21_3); replace hx21_0 := zx HB hx21_0; replace hx21_1 := zx HB hx21_1; replace hx21_2 := zx HB hx21_2; replace hx21_3 := zx HB hx21_3; replace p517 := eq_true p517; replace q21 := eq_true q21; obtain ⟨z9_0, z9_1, j9_0, j9_1⟩ := Lv.blks2 BK24.out; have p518 : 0 ≤ (0 : Int) := (by omega); have q22 : 0 < (l0.length : Int) := of_decide_eq_true za; obtain ⟨ad22, e518, hx22_0, hx22_1, hx22_2, hx22_3⟩ := at_T90 HR0.out 0 p518 q22; obtain rfl : ad20 = ad22 := (by injection e518); have qi518 : (0 < l0.length) = True := eq_true (by omega); (try rw [show ((0 : Int)).toNat = 0 from rfl] at hx22_0 hx22_1 hx22_2 hx22_3); (try rw [show 0 * 4 = 0 from rfl] at hx22_0 hx22_1 hx22_2 hx22_3); (try rw [Addr.add_zero'] at hx22_0 hx22_1 hx22_2 hx22_3); replace hx22_0 := zx HB hx22_0; replace hx22_1 := zx HB hx22_1; replace hx22_2 := zx HB hx22_2; replace hx22_3 := zx HB hx22_3; replace p518 := eq_true p518; replace q22 := eq_true q22))
      repeat (go_quiet (first | ((with_reducible refine gate_dst (N := 3) rfl ?_); refine zE 3 116 #[.int .i64 a1_0, .int .i64 a1_1] ?_; intro gb24 hg w8 hbox hb; have BK24 := Aside0.mk hbox; have GW24 := Aside0.mk (zh hg : w.heap.size ≤ gb24); have GE24 := GW24; replace HB := Aside0.mk (below_step zb hb); clear hb hbox hg; have p516 : 0 ≤ (0 : Int) := (by omega); have q20 : 0 < (l0.length : Int) := of_decide_eq_true za; obtain ⟨ad20, e516, hx20_0, hx20_1, hx20_2, hx20_3⟩ := at_T90 HR0.out 0 p516 q20; cases e516; have qi516 : (0 < l0.length) = True := eq_true (by omega); (try rw [show ((0 : Int)).toNat = 0 from rfl] at hx20_0 hx20_1 hx20_2 hx20_3); (try rw [show 0 * 4 = 0 from rfl] at hx20_0 hx20_1 hx20_2 hx20_3); (try rw [Addr.add_zero'] at hx20_0 hx20_1 hx20_2 hx20_3); replace hx20_0 := zx HB hx20_0; replace hx20_1 := zx HB hx20_1; replace hx20_2 := zx HB hx20_2; replace hx20_3 := zx HB hx20_3; replace p516 := eq_true p516; replace q20 := eq_true q20; have p517 : 0 ≤ (0 : Int) := (by omega); have q21 : 0 < (l0.length : Int) := of_decide_eq_true za; obtain ⟨ad21, e517, hx21_0, hx21_1, hx21_2, hx21_3⟩ := at_T90 HR0.out 0 p517 q21; obtain rfl : ad20 = ad21 := (by injection e517); have qi517 : (0 < l0.length) = True := eq_true (by omega); (try rw [show ((0 : Int)).toNat = 0 from rfl] at hx21_0 hx21_1 hx21_2 hx21_3); (try rw [show 0 * 4 = 0 from rfl] at hx21_0 hx21_1 hx21_2 hx21_3); (try rw [Addr.add_zero'] at hx21_0 hx21_1 hx21_2 hx21_3); replace hx21_0 := zx HB hx21_0; replace hx21_1 := zx HB hx21_1; replace hx21_2 := zx HB hx21_2; replace hx21_3 := zx HB hx21_3; replace p517 := eq_true p517; replace q21 := eq_true q21; obtain ⟨z9_0, z9_1, j9_0, j9_1⟩ := Lv.blks2 BK24.out; have p518 : 0 ≤ (0 : Int) := (by omega); have q22 : 0 < (l0.length : Int) := of_decide_eq_true za; obtain ⟨ad22, e518, hx22_0, hx22_1, hx22_2, hx22_3⟩ := at_T90 HR0.out 0 p518 q22; obtain rfl : ad20 = ad22 := (by injection e518); have qi518 : (0 < l0.length) = True := eq_true (by omega); (try rw [show ((0 : Int)).toNat = 0 from rfl] at hx22_0 hx22_1 hx22_2 hx22_3); (try rw [show 0 * 4 = 0 from rfl] at hx22_0 hx22_1 hx22_2 hx22_3); (try rw [Addr.add_zero'] at hx22_0 hx22_1 hx22_2 hx22_3); replace hx22_0 := zx HB hx22_0; replace hx22_1 := zx HB hx22_1; replace hx22_2 := zx HB hx22_2; replace hx22_3 := zx HB hx22_3; replace p518 := eq_true p518; replace q22 := eq_true q22)); try go_wp2_with (first | ((with_reducible refine gate_dst (N := 3) rfl ?_); refine zE 3 116 #[.int .i64 a1_0, .int .i64 a1_1] ?_; intro gb24 hg w8 hbox hb; have BK24 := Aside0.mk hbox; have GW24 := Aside0.mk (zh hg : w.heap.size ≤ gb24); have GE24 := GW24; replace HB := Aside0.mk (below_step zb hb); clear hb hbox hg; have p516 : 0 ≤ (0 : Int) := (by omega); have q20 : 0 < (l0.length : Int) := of_decide_eq_true za; obtain ⟨ad20, e516, hx20_0, hx20_1, hx20_2, hx20_3⟩ := at_T90 HR0.out 0 p516 q20; cases e516; have qi516 : (0 < l0.length) = True := eq_true (by omega); (try rw [show ((0 : Int)).toNat = 0 from rfl] at hx20_0 hx20_1 hx20_2 hx20_3); (try rw [show 0 * 4 = 0 from rfl] at hx20_0 hx20_1 hx20_2 hx20_3); (try rw [Addr.add_zero'] at hx20_0 hx20_1 hx20_2 hx20_3); replace hx20_0 := zx HB hx20_0; replace hx20_1 := zx HB hx20_1; replace hx20_2 := zx HB hx20_2; replace hx20_3 := zx HB hx20_3; replace p516 := eq_true p516; replace q20 := eq_true q20; have p517 : 0 ≤ (0 : Int) := (by omega); have q21 : 0 < (l0.length : Int) := of_decide_eq_true za; obtain ⟨ad21, e517, hx21_0, hx21_1, hx21_2, hx21_3⟩ := at_T90 HR0.out 0 p517 q21; obtain rfl : ad20 = ad21 := (by injection e517); have qi517 : (0 < l0.length) = True := eq_true (by omega); (try rw [show ((0 : Int)).toNat = 0 from rfl] at hx21_0 hx21_1 hx21_2 hx21_3); (try rw [show 0 * 4 = 0 from rfl] at hx21_0 hx21_1 hx21_2 hx21_3); (try rw [Addr.add_zero'] at hx21_0 hx21_1 hx21_2 hx21_3); replace hx21_0 := zx HB hx21_0; replace hx21_1 := zx HB hx21_1; replace hx21_2 := zx HB hx21_2; replace hx21_3 := zx HB hx21_3; replace p517 := eq_true p517; replace q21 := eq_true q21; obtain ⟨z9_0, z9_1, j9_0, j9_1⟩ := Lv.blks2 BK24.out; have p518 : 0 ≤ (0 : Int) := (by omega); have q22 : 0 < (l0.length : Int) := of_decide_eq_true za; obtain ⟨ad22, e518, hx22_0, hx22_1, hx22_2, hx22_3⟩ := at_T90 HR0.out 0 p518 q22; obtain rfl : ad20 = ad22 := (by injection e518); have qi518 : (0 < l0.length) = True := eq_true (by omega); (try rw [show ((0 : Int)).toNat = 0 from rfl] at hx22_0 hx22_1 hx22_2 hx22_3); (try rw [show 0 * 4 = 0 from rfl] at hx22_0 hx22_1 hx22_2 hx22_3); (try rw [Addr.add_zero'] at hx22_0 hx22_1 hx22_2 hx22_3); replace hx22_0 := zx HB hx22_0; replace hx22_1 := zx HB hx22_1; replace hx22_2 := zx HB hx22_2; replace hx22_3 := zx HB hx22_3; replace p518 := eq_true p518; replace q22 := eq_true q22)))
      go_ret
      exact ⟨ze, zb⟩
     rw [if_neg c7] at H
     have c7b0 : decide (a1_0 < ((rd_T90 l0 0).f1)) = false := decide_eq_false c7
     clear c7
     obtain rfl := Option.some.inj H
     go_enter Try.func105, Try.ntmps105
     go_wp2_with (first | ((with_reducible refine gate_dst (N := 3) rfl ?_); refine zE 3 116 #[.int .i64 a1_0, .int .i64 a1_1] ?_; intro gb24 hg w10 hbox hb; have BK24 := Aside0.mk hbox; have GW24 := Aside0.mk (zh hg : w.heap.size ≤ gb24); have GE24 := GW24; replace HB := Aside0.mk (below_step zb hb); clear hb hbox hg; have p516 : 0 ≤ (0 : Int) := (by omega); have q20 : 0 < (l0.length : Int) := of_decide_eq_true za; obtain ⟨ad20, e516, hx20_0, hx20_1, hx20_2, hx20_3⟩ := at_T90 HR0.out 0 p516 q20; cases e516; have qi516 : (0 < l0.length) = True := eq_true (by omega); (try rw [show ((0 : Int)).toNat = 0 from rfl] at hx20_0 hx20_1 hx20_2 hx20_3); (try rw [show 0 * 4 = 0 from rfl] at hx20_0 hx20_1 hx20_2 hx20_3); (try rw [Addr.add_zero'] at hx20_0 hx20_1 hx20_2 hx20_3); replace hx20_0 := zx HB hx20_0; replace hx20_1 := zx HB hx20_1; replace hx20_2 := zx HB hx20_2; replace hx20_3 := zx HB hx20_3; replace p516 := eq_true p516; replace q20 := eq_true q20; have p517 : 0 ≤ (0 : Int) := (by omega); have q21 : 0 < (l0.length : Int) := of_decide_eq_true za; obtain ⟨ad21, e517, hx21_0, hx21_1, hx21_2, hx21_3⟩ := at_T90 HR0.out 0 p517 q21; obtain rfl : ad20 = ad21 := (by injection e517); have qi517 : (0 < l0.length) = True := eq_true (by omega); (try rw [show ((0 : Int)).toNat = 0 from rfl] at hx21_0 hx21_1 hx21_2 hx21_3); (try rw [show 0 * 4 = 0 from rfl] at hx21_0 hx21_1 hx21_2 hx21_3); (try rw [Addr.add_zero'] at hx21_0 hx21_1 hx21_2 hx21_3); replace hx21_0 := zx HB hx21_0; replace hx21_1 := zx HB hx21_1; replace hx21_2 := zx HB hx21_2; replace hx21_3 := zx HB hx21_3; replace p517 := eq_true p517; replace q21 := eq_true q21; obtain ⟨z11_0, z11_1, j11_0, j11_1⟩ := Lv.blks2 BK24.out; have p518 : 0 ≤ (0 : Int) := (by omega); have q22 : 0 < (l0.length : Int) := of_decide_eq_true za; obtain ⟨ad22, e518, hx22_0, hx22_1, hx22_2, hx22_3⟩ := at_T90 HR0.out 0 p518 q22; obtain rfl : ad20 = ad22 := (by injection e518); have qi518 : (0 < l0.length) = True := eq_true (by omega); (try rw [show ((0 : Int)).toNat = 0 from rfl] at hx22_0 hx22_1 hx22_2 hx22_3); (try rw [show 0 * 4 = 0 from rfl] at hx22_0 hx22_1 hx22_2 hx22_3); (try rw [Addr.add_zero'] at hx22_0 hx22_1 hx22_2 hx22_3); replace hx22_0 := zx HB hx22_0; replace hx22_1 := zx HB hx22_1; replace hx22_2 := zx HB hx22_2; replace hx22_3 := zx HB hx22_3; replace p518 := eq_true p518; replace q22 := eq_true q22))
     repeat (go_quiet (first | ((with_reducible refine gate_dst (N := 3) rfl ?_); refine zE 3 116 #[.int .i64 a1_0, .int .i64 a1_1] ?_; intro gb24 hg w10 hbox hb; have BK24 := Aside0.mk hbox; have GW24 := Aside0.mk (zh hg : w.heap.size ≤ gb24); have GE24 := GW24; replace HB := Aside0.mk (below_step zb hb); clear hb hbox hg; have p516 : 0 ≤ (0 : Int) := (by omega); have q20 : 0 < (l0.length : Int) := of_decide_eq_true za; obtain ⟨ad20, e516, hx20_0, hx20_1, hx20_2, hx20_3⟩ := at_T90 HR0.out 0 p516 q20; cases e516; have qi516 : (0 < l0.length) = True := eq_true (by omega); (try rw [show ((0 : Int)).toNat = 0 from rfl] at hx20_0 hx20_1 hx20_2 hx20_3); (try rw [show 0 * 4 = 0 from rfl] at hx20_0 hx20_1 hx20_2 hx20_3); (try rw [Addr.add_zero'] at hx20_0 hx20_1 hx20_2 hx20_3); replace hx20_0 := zx HB hx20_0; replace hx20_1 := zx HB hx20_1; replace hx20_2 := zx HB hx20_2; replace hx20_3 := zx HB hx20_3; replace p516 := eq_true p516; replace q20 := eq_true q20; have p517 : 0 ≤ (0 : Int) := (by omega); have q21 : 0 < (l0.length : Int) := of_decide_eq_true za; obtain ⟨ad21, e517, hx21_0, hx21_1, hx21_2, hx21_3⟩ := at_T90 HR0.out 0 p517 q21; obtain rfl : ad20 = ad21 := (by injection e517); have qi517 : (0 < l0.length) = True := eq_true (by omega); (try rw [show ((0 : Int)).toNat = 0 from rfl] at hx21_0 hx21_1 hx21_2 hx21_3); (try rw [show 0 * 4 = 0 from rfl] at hx21_0 hx21_1 hx21_2 hx21_3); (try rw [Addr.add_zero'] at hx21_0 hx21_1 hx21_2 hx21_3); replace hx21_0 := zx HB hx21_0; replace hx21_1 := zx HB hx21_1; replace hx21_2 := zx HB hx21_2; replace hx21_3 := zx HB hx21_3; replace p517 := eq_true p517; replace q21 := eq_true q21; obtain ⟨z11_0, z11_1, j11_0, j11_1⟩ := Lv.blks2 BK24.out; have p518 : 0 ≤ (0 : Int) := (by omega); have q22 : 0 < (l0.length : Int) := of_decide_eq_true za; obtain ⟨ad22, e518, hx22_0, hx22_1, hx22_2, hx22_3⟩ := at_T90 HR0.out 0 p518 q22; obtain rfl : ad20 = ad22 := (by injection e518); have qi518 : (0 < l0.length) = True := eq_true (by omega); (try rw [show ((0 : Int)).toNat = 0 from rfl] at hx22_0 hx22_1 hx22_2 hx22_3); (try rw [show 0 * 4 = 0 from rfl] at hx22_0 hx22_1 hx22_2 hx22_3); (try rw [Addr.add_zero'] at hx22_0 hx22_1 hx22_2 hx22_3); replace hx22_0 := zx HB hx22_0; replace hx22_1 := zx HB hx22_1; replace hx22_2 := zx HB hx22_2; replace hx22_3 := zx HB hx22_3; replace p518 := eq_true p518; replace q22 := eq_true q22)); try go_wp2_with (first | ((with_reducible refine gate_dst (N := 3) rfl ?_); refine zE 3 116 #[.int .i64 a1_0, .int .i64 a1_1] ?_; intro gb24 hg w10 hbox hb; have BK24 := Aside0.mk hbox; have GW24 := Aside0.mk (zh hg : w.heap.size ≤ gb24); have GE24 := GW24; replace HB := Aside0.mk (below_step zb hb); clear hb hbox hg; have p516 : 0 ≤ (0 : Int) := (by omega); have q20 : 0 < (l0.length : Int) := of_decide_eq_true za; obtain ⟨ad20, e516, hx20_0, hx20_1, hx20_2, hx20_3⟩ := at_T90 HR0.out 0 p516 q20; cases e516; have qi516 : (0 < l0.length) = True := eq_true (by omega); (try rw [show ((0 : Int)).toNat = 0 from rfl] at hx20_0 hx20_1 hx20_2 hx20_3); (try rw [show 0 * 4 = 0 from rfl] at hx20_0 hx20_1 hx20_2 hx20_3); (try rw [Addr.add_zero'] at hx20_0 hx20_1 hx20_2 hx20_3); replace hx20_0 := zx HB hx20_0; replace hx20_1 := zx HB hx20_1; replace hx20_2 := zx HB hx20_2; replace hx20_3 := zx HB hx20_3; replace p516 := eq_true p516; replace q20 := eq_true q20; have p517 : 0 ≤ (0 : Int) := (by omega); have q21 : 0 < (l0.length : Int) := of_decide_eq_true za; obtain ⟨ad21, e517, hx21_0, hx21_1, hx21_2, hx21_3⟩ := at_T90 HR0.out 0 p517 q21; obtain rfl : ad20 = ad21 := (by injection e517); have qi517 : (0 < l0.length) = True := eq_true (by omega); (try rw [show ((0 : Int)).toNat = 0 from rfl] at hx21_0 hx21_1 hx21_2 hx21_3); (try rw [show 0 * 4 = 0 from rfl] at hx21_0 hx21_1 hx21_2 hx21_3); (try rw [Addr.add_zero'] at hx21_0 hx21_1 hx21_2 hx21_3); replace hx21_0 := zx HB hx21_0; replace hx21_1 := zx HB hx21_1; replace hx21_2 := zx HB hx21_2; replace hx21_3 := zx HB hx21_3; replace p517 := eq_true p517; replace q21 := eq_true q21; obtain ⟨z11_0, z11_1, j11_0, j11_1⟩ := Lv.blks2 BK24.out; have p518 : 0 ≤ (0 : Int) := (by omega); have q22 : 0 < (l0.length : Int) := of_decide_eq_true za; obtain ⟨ad22, e518, hx22_0, hx22_1, hx22_2, hx22_3⟩ := at_T90 HR0.out 0 p518 q22; obtain rfl : ad20 = ad22 := (by injection e518); have qi518 : (0 < l0.length) = True := eq_true (by omega); (try rw [show ((0 : Int)).toNat = 0 from rfl] at hx22_0 hx22_1 hx22_2 hx22_3); (try rw [show 0 * 4 = 0 from rfl] at hx22_0 hx22_1 hx22_2 hx22_3); (try rw [Addr.add_zero'] at hx22_0 hx22_1 hx22_2 hx22_3); replace hx22_0 := zx HB hx22_0; replace hx22_1 := zx HB hx22_1; replace hx22_2 := zx HB hx22_2; replace hx22_3 := zx HB hx22_3; replace p518 := eq_true p518; replace q22 := eq_true q22)))
     go_ret
     exact ⟨ze, zb⟩
    rw [if_neg c6] at H
    have c6b0 : (((rd_T90 l0 0).f0) == a1_1) = false := beq_eq_false_iff_ne.mpr c6
    have c6b1 : (((rd_T90 l0 0).f0) != a1_1) = true := bne_iff_ne.mpr c6
    obtain rfl := Option.some.inj H
    go_enter Try.func105, Try.ntmps105
    go_wp2_with (first | ((with_reducible refine gate_dst (N := 3) rfl ?_); refine zE 3 116 #[.int .i64 a1_0, .int .i64 a1_1] ?_; intro gb24 hg w12 hbox hb; have BK24 := Aside0.mk hbox; have GW24 := Aside0.mk (zh hg : w.heap.size ≤ gb24); have GE24 := GW24; replace HB := Aside0.mk (below_step zb hb); clear hb hbox hg; have p516 : 0 ≤ (0 : Int) := (by omega); have q20 : 0 < (l0.length : Int) := of_decide_eq_true za; obtain ⟨ad20, e516, hx20_0, hx20_1, hx20_2, hx20_3⟩ := at_T90 HR0.out 0 p516 q20; cases e516; have qi516 : (0 < l0.length) = True := eq_true (by omega); (try rw [show ((0 : Int)).toNat = 0 from rfl] at hx20_0 hx20_1 hx20_2 hx20_3); (try rw [show 0 * 4 = 0 from rfl] at hx20_0 hx20_1 hx20_2 hx20_3); (try rw [Addr.add_zero'] at hx20_0 hx20_1 hx20_2 hx20_3); replace hx20_0 := zx HB hx20_0; replace hx20_1 := zx HB hx20_1; replace hx20_2 := zx HB hx20_2; replace hx20_3 := zx HB hx20_3; replace p516 := eq_true p516; replace q20 := eq_true q20; have p517 : 0 ≤ (0 : Int) := (by omega); have q21 : 0 < (l0.length : Int) := of_decide_eq_true za; obtain ⟨ad21, e517, hx21_0, hx21_1, hx21_2, hx21_3⟩ := at_T90 HR0.out 0 p517 q21; obtain rfl : ad20 = ad21 := (by injection e517); have qi517 : (0 < l0.length) = True := eq_true (by omega); (try rw [show ((0 : Int)).toNat = 0 from rfl] at hx21_0 hx21_1 hx21_2 hx21_3); (try rw [show 0 * 4 = 0 from rfl] at hx21_0 hx21_1 hx21_2 hx21_3); (try rw [Addr.add_zero'] at hx21_0 hx21_1 hx21_2 hx21_3); replace hx21_0 := zx HB hx21_0; replace hx21_1 := zx HB hx21_1; replace hx21_2 := zx HB hx21_2; replace hx21_3 := zx HB hx21_3; replace p517 := eq_true p517; replace q21 := eq_true q21; obtain ⟨z13_0, z13_1, j13_0, j13_1⟩ := Lv.blks2 BK24.out))
    repeat (go_quiet (first | ((with_reducible refine gate_dst (N := 3) rfl ?_); refine zE 3 116 #[.int .i64 a1_0, .int .i64 a1_1] ?_; intro gb24 hg w12 hbox hb; have BK24 := Aside0.mk hbox; have GW24 := Aside0.mk (zh hg : w.heap.size ≤ gb24); have GE24 := GW24; replace HB := Aside0.mk (below_step zb hb); clear hb hbox hg; have p516 : 0 ≤ (0 : Int) := (by omega); have q20 : 0 < (l0.length : Int) := of_decide_eq_true za; obtain ⟨ad20, e516, hx20_0, hx20_1, hx20_2, hx20_3⟩ := at_T90 HR0.out 0 p516 q20; cases e516; have qi516 : (0 < l0.length) = True := eq_true (by omega); (try rw [show ((0 : Int)).toNat = 0 from rfl] at hx20_0 hx20_1 hx20_2 hx20_3); (try rw [show 0 * 4 = 0 from rfl] at hx20_0 hx20_1 hx20_2 hx20_3); (try rw [Addr.add_zero'] at hx20_0 hx20_1 hx20_2 hx20_3); replace hx20_0 := zx HB hx20_0; replace hx20_1 := zx HB hx20_1; replace hx20_2 := zx HB hx20_2; replace hx20_3 := zx HB hx20_3; replace p516 := eq_true p516; replace q20 := eq_true q20; have p517 : 0 ≤ (0 : Int) := (by omega); have q21 : 0 < (l0.length : Int) := of_decide_eq_true za; obtain ⟨ad21, e517, hx21_0, hx21_1, hx21_2, hx21_3⟩ := at_T90 HR0.out 0 p517 q21; obtain rfl : ad20 = ad21 := (by injection e517); have qi517 : (0 < l0.length) = True := eq_true (by omega); (try rw [show ((0 : Int)).toNat = 0 from rfl] at hx21_0 hx21_1 hx21_2 hx21_3); (try rw [show 0 * 4 = 0 from rfl] at hx21_0 hx21_1 hx21_2 hx21_3); (try rw [Addr.add_zero'] at hx21_0 hx21_1 hx21_2 hx21_3); replace hx21_0 := zx HB hx21_0; replace hx21_1 := zx HB hx21_1; replace hx21_2 := zx HB hx21_2; replace hx21_3 := zx HB hx21_3; replace p517 := eq_true p517; replace q21 := eq_true q21; obtain ⟨z13_0, z13_1, j13_0, j13_1⟩ := Lv.blks2 BK24.out)); try go_wp2_with (first | ((with_reducible refine gate_dst (N := 3) rfl ?_); refine zE 3 116 #[.int .i64 a1_0, .int .i64 a1_1] ?_; intro gb24 hg w12 hbox hb; have BK24 := Aside0.mk hbox; have GW24 := Aside0.mk (zh hg : w.heap.size ≤ gb24); have GE24 := GW24; replace HB := Aside0.mk (below_step zb hb); clear hb hbox hg; have p516 : 0 ≤ (0 : Int) := (by omega); have q20 : 0 < (l0.length : Int) := of_decide_eq_true za; obtain ⟨ad20, e516, hx20_0, hx20_1, hx20_2, hx20_3⟩ := at_T90 HR0.out 0 p516 q20; cases e516; have qi516 : (0 < l0.length) = True := eq_true (by omega); (try rw [show ((0 : Int)).toNat = 0 from rfl] at hx20_0 hx20_1 hx20_2 hx20_3); (try rw [show 0 * 4 = 0 from rfl] at hx20_0 hx20_1 hx20_2 hx20_3); (try rw [Addr.add_zero'] at hx20_0 hx20_1 hx20_2 hx20_3); replace hx20_0 := zx HB hx20_0; replace hx20_1 := zx HB hx20_1; replace hx20_2 := zx HB hx20_2; replace hx20_3 := zx HB hx20_3; replace p516 := eq_true p516; replace q20 := eq_true q20; have p517 : 0 ≤ (0 : Int) := (by omega); have q21 : 0 < (l0.length : Int) := of_decide_eq_true za; obtain ⟨ad21, e517, hx21_0, hx21_1, hx21_2, hx21_3⟩ := at_T90 HR0.out 0 p517 q21; obtain rfl : ad20 = ad21 := (by injection e517); have qi517 : (0 < l0.length) = True := eq_true (by omega); (try rw [show ((0 : Int)).toNat = 0 from rfl] at hx21_0 hx21_1 hx21_2 hx21_3); (try rw [show 0 * 4 = 0 from rfl] at hx21_0 hx21_1 hx21_2 hx21_3); (try rw [Addr.add_zero'] at hx21_0 hx21_1 hx21_2 hx21_3); replace hx21_0 := zx HB hx21_0; replace hx21_1 := zx HB hx21_1; replace hx21_2 := zx HB hx21_2; replace hx21_3 := zx HB hx21_3; replace p517 := eq_true p517; replace q21 := eq_true q21; obtain ⟨z13_0, z13_1, j13_0, j13_1⟩ := Lv.blks2 BK24.out)))
    go_ret
    exact ⟨ze, zb⟩
   rw [if_neg c5] at H
   have c5b0 : (((rd_T90 l0 0).f1) == 0) = false := beq_eq_false_iff_ne.mpr c5
   have c5b1 : (((rd_T90 l0 0).f1) != 0) = true := bne_iff_ne.mpr c5
   by_cases c14 : ((rd_T90 l0 0).f1) > a1_0
   ·rw [if_pos c14] at H
    have c14b0 : decide (a1_0 < ((rd_T90 l0 0).f1)) = true := decide_eq_true c14
    clear c14
    obtain rfl := Option.some.inj H
    go_enter Try.func105, Try.ntmps105
    go_wp2_with (first | ((with_reducible refine gate_dst (N := 3) rfl ?_); refine zE 3 116 #[.int .i64 a1_0, .int .i64 a1_1] ?_; intro gb24 hg w15 hbox hb; have BK24 := Aside0.mk hbox; have GW24 := Aside0.mk (zh hg : w.heap.size ≤ gb24); have GE24 := GW24; replace HB := Aside0.mk (below_step zb hb); clear hb hbox hg; have p516 : 0 ≤ (0 : Int) := (by omega); have q20 : 0 < (l0.length : Int) := of_decide_eq_true za; obtain ⟨ad20, e516, hx20_0, hx20_1, hx20_2, hx20_3⟩ := at_T90 HR0.out 0 p516 q20; cases e516; have qi516 : (0 < l0.length) = True := eq_true (by omega); (try rw [show ((0 : Int)).toNat = 0 from rfl] at hx20_0 hx20_1 hx20_2 hx20_3); (try rw [show 0 * 4 = 0 from rfl] at hx20_0 hx20_1 hx20_2 hx20_3); (try rw [Addr.add_zero'] at hx20_0 hx20_1 hx20_2 hx20_3); replace hx20_0 := zx HB hx20_0; replace hx20_1 := zx HB hx20_1; replace hx20_2 := zx HB hx20_2; replace hx20_3 := zx HB hx20_3; replace p516 := eq_true p516; replace q20 := eq_true q20; have p519 : 0 ≤ (0 : Int) := (by omega); have q23 : 0 < (l0.length : Int) := of_decide_eq_true za; obtain ⟨ad23, e519, hx23_0, hx23_1, hx23_2, hx23_3⟩ := at_T90 HR0.out 0 p519 q23; obtain rfl : ad20 = ad23 := (by injection e519); have qi519 : (0 < l0.length) = True := eq_true (by omega); (try rw [show ((0 : Int)).toNat = 0 from rfl] at hx23_0 hx23_1 hx23_2 hx23_3); (try rw [show 0 * 4 = 0 from rfl] at hx23_0 hx23_1 hx23_2 hx23_3); (try rw [Addr.add_zero'] at hx23_0 hx23_1 hx23_2 hx23_3); replace hx23_0 := zx HB hx23_0; replace hx23_1 := zx HB hx23_1; replace hx23_2 := zx HB hx23_2; replace hx23_3 := zx HB hx23_3; replace p519 := eq_true p519; replace q23 := eq_true q23; obtain ⟨z16_0, z16_1, j16_0, j16_1⟩ := Lv.blks2 BK24.out))
    repeat (go_quiet (first | ((with_reducible refine gate_dst (N := 3) rfl ?_); refine zE 3 116 #[.int .i64 a1_0, .int .i64 a1_1] ?_; intro gb24 hg w15 hbox hb; have BK24 := Aside0.mk hbox; have GW24 := Aside0.mk (zh hg : w.heap.size ≤ gb24); have GE24 := GW24; replace HB := Aside0.mk (below_step zb hb); clear hb hbox hg; have p516 : 0 ≤ (0 : Int) := (by omega); have q20 : 0 < (l0.length : Int) := of_decide_eq_true za; obtain ⟨ad20, e516, hx20_0, hx20_1, hx20_2, hx20_3⟩ := at_T90 HR0.out 0 p516 q20; cases e516; have qi516 : (0 < l0.length) = True := eq_true (by omega); (try rw [show ((0 : Int)).toNat = 0 from rfl] at hx20_0 hx20_1 hx20_2 hx20_3); (try rw [show 0 * 4 = 0 from rfl] at hx20_0 hx20_1 hx20_2 hx20_3); (try rw [Addr.add_zero'] at hx20_0 hx20_1 hx20_2 hx20_3); replace hx20_0 := zx HB hx20_0; replace hx20_1 := zx HB hx20_1; replace hx20_2 := zx HB hx20_2; replace hx20_3 := zx HB hx20_3; replace p516 := eq_true p516; replace q20 := eq_true q20; have p519 : 0 ≤ (0 : Int) := (by omega); have q23 : 0 < (l0.length : Int) := of_decide_eq_true za; obtain ⟨ad23, e519, hx23_0, hx23_1, hx23_2, hx23_3⟩ := at_T90 HR0.out 0 p519 q23; obtain rfl : ad20 = ad23 := (by injection e519); have qi519 : (0 < l0.length) = True := eq_true (by omega); (try rw [show ((0 : Int)).toNat = 0 from rfl] at hx23_0 hx23_1 hx23_2 hx23_3); (try rw [show 0 * 4 = 0 from rfl] at hx23_0 hx23_1 hx23_2 hx23_3); (try rw [Addr.add_zero'] at hx23_0 hx23_1 hx23_2 hx23_3); replace hx23_0 := zx HB hx23_0; replace hx23_1 := zx HB hx23_1; replace hx23_2 := zx HB hx23_2; replace hx23_3 := zx HB hx23_3; replace p519 := eq_true p519; replace q23 := eq_true q23; obtain ⟨z16_0, z16_1, j16_0, j16_1⟩ := Lv.blks2 BK24.out)); try go_wp2_with (first | ((with_reducible refine gate_dst (N := 3) rfl ?_); refine zE 3 116 #[.int .i64 a1_0, .int .i64 a1_1] ?_; intro gb24 hg w15 hbox hb; have BK24 := Aside0.mk hbox; have GW24 := Aside0.mk (zh hg : w.heap.size ≤ gb24); have GE24 := GW24; replace HB := Aside0.mk (below_step zb hb); clear hb hbox hg; have p516 : 0 ≤ (0 : Int) := (by omega); have q20 : 0 < (l0.length : Int) := of_decide_eq_true za; obtain ⟨ad20, e516, hx20_0, hx20_1, hx20_2, hx20_3⟩ := at_T90 HR0.out 0 p516 q20; cases e516; have qi516 : (0 < l0.length) = True := eq_true (by omega); (try rw [show ((0 : Int)).toNat = 0 from rfl] at hx20_0 hx20_1 hx20_2 hx20_3); (try rw [show 0 * 4 = 0 from rfl] at hx20_0 hx20_1 hx20_2 hx20_3); (try rw [Addr.add_zero'] at hx20_0 hx20_1 hx20_2 hx20_3); replace hx20_0 := zx HB hx20_0; replace hx20_1 := zx HB hx20_1; replace hx20_2 := zx HB hx20_2; replace hx20_3 := zx HB hx20_3; replace p516 := eq_true p516; replace q20 := eq_true q20; have p519 : 0 ≤ (0 : Int) := (by omega); have q23 : 0 < (l0.length : Int) := of_decide_eq_true za; obtain ⟨ad23, e519, hx23_0, hx23_1, hx23_2, hx23_3⟩ := at_T90 HR0.out 0 p519 q23; obtain rfl : ad20 = ad23 := (by injection e519); have qi519 : (0 < l0.length) = True := eq_true (by omega); (try rw [show ((0 : Int)).toNat = 0 from rfl] at hx23_0 hx23_1 hx23_2 hx23_3); (try rw [show 0 * 4 = 0 from rfl] at hx23_0 hx23_1 hx23_2 hx23_3); (try rw [Addr.add_zero'] at hx23_0 hx23_1 hx23_2 hx23_3); replace hx23_0 := zx HB hx23_0; replace hx23_1 := zx HB hx23_1; replace hx23_2 := zx HB hx23_2; replace hx23_3 := zx HB hx23_3; replace p519 := eq_true p519; replace q23 := eq_true q23; obtain ⟨z16_0, z16_1, j16_0, j16_1⟩ := Lv.blks2 BK24.out)))
    go_ret
    exact ⟨ze, zb⟩
   rw [if_neg c14] at H
   have c14b0 : decide (a1_0 < ((rd_T90 l0 0).f1)) = false := decide_eq_false c14
   clear c14
   obtain rfl := Option.some.inj H
   go_enter Try.func105, Try.ntmps105
   go_wp2_with (first | ((with_reducible refine gate_dst (N := 3) rfl ?_); refine zE 3 116 #[.int .i64 a1_0, .int .i64 a1_1] ?_; intro gb24 hg w17 hbox hb; have BK24 := Aside0.mk hbox; have GW24 := Aside0.mk (zh hg : w.heap.size ≤ gb24); have GE24 := GW24; replace HB := Aside0.mk (below_step zb hb); clear hb hbox hg; have p516 : 0 ≤ (0 : Int) := (by omega); have q20 : 0 < (l0.length : Int) := of_decide_eq_true za; obtain ⟨ad20, e516, hx20_0, hx20_1, hx20_2, hx20_3⟩ := at_T90 HR0.out 0 p516 q20; cases e516; have qi516 : (0 < l0.length) = True := eq_true (by omega); (try rw [show ((0 : Int)).toNat = 0 from rfl] at hx20_0 hx20_1 hx20_2 hx20_3); (try rw [show 0 * 4 = 0 from rfl] at hx20_0 hx20_1 hx20_2 hx20_3); (try rw [Addr.add_zero'] at hx20_0 hx20_1 hx20_2 hx20_3); replace hx20_0 := zx HB hx20_0; replace hx20_1 := zx HB hx20_1; replace hx20_2 := zx HB hx20_2; replace hx20_3 := zx HB hx20_3; replace p516 := eq_true p516; replace q20 := eq_true q20; have p519 : 0 ≤ (0 : Int) := (by omega); have q23 : 0 < (l0.length : Int) := of_decide_eq_true za; obtain ⟨ad23, e519, hx23_0, hx23_1, hx23_2, hx23_3⟩ := at_T90 HR0.out 0 p519 q23; obtain rfl : ad20 = ad23 := (by injection e519); have qi519 : (0 < l0.length) = True := eq_true (by omega); (try rw [show ((0 : Int)).toNat = 0 from rfl] at hx23_0 hx23_1 hx23_2 hx23_3); (try rw [show 0 * 4 = 0 from rfl] at hx23_0 hx23_1 hx23_2 hx23_3); (try rw [Addr.add_zero'] at hx23_0 hx23_1 hx23_2 hx23_3); replace hx23_0 := zx HB hx23_0; replace hx23_1 := zx HB hx23_1; replace hx23_2 := zx HB hx23_2; replace hx23_3 := zx HB hx23_3; replace p519 := eq_true p519; replace q23 := eq_true q23; obtain ⟨z18_0, z18_1, j18_0, j18_1⟩ := Lv.blks2 BK24.out))
   repeat (go_quiet (first | ((with_reducible refine gate_dst (N := 3) rfl ?_); refine zE 3 116 #[.int .i64 a1_0, .int .i64 a1_1] ?_; intro gb24 hg w17 hbox hb; have BK24 := Aside0.mk hbox; have GW24 := Aside0.mk (zh hg : w.heap.size ≤ gb24); have GE24 := GW24; replace HB := Aside0.mk (below_step zb hb); clear hb hbox hg; have p516 : 0 ≤ (0 : Int) := (by omega); have q20 : 0 < (l0.length : Int) := of_decide_eq_true za; obtain ⟨ad20, e516, hx20_0, hx20_1, hx20_2, hx20_3⟩ := at_T90 HR0.out 0 p516 q20; cases e516; have qi516 : (0 < l0.length) = True := eq_true (by omega); (try rw [show ((0 : Int)).toNat = 0 from rfl] at hx20_0 hx20_1 hx20_2 hx20_3); (try rw [show 0 * 4 = 0 from rfl] at hx20_0 hx20_1 hx20_2 hx20_3); (try rw [Addr.add_zero'] at hx20_0 hx20_1 hx20_2 hx20_3); replace hx20_0 := zx HB hx20_0; replace hx20_1 := zx HB hx20_1; replace hx20_2 := zx HB hx20_2; replace hx20_3 := zx HB hx20_3; replace p516 := eq_true p516; replace q20 := eq_true q20; have p519 : 0 ≤ (0 : Int) := (by omega); have q23 : 0 < (l0.length : Int) := of_decide_eq_true za; obtain ⟨ad23, e519, hx23_0, hx23_1, hx23_2, hx23_3⟩ := at_T90 HR0.out 0 p519 q23; obtain rfl : ad20 = ad23 := (by injection e519); have qi519 : (0 < l0.length) = True := eq_true (by omega); (try rw [show ((0 : Int)).toNat = 0 from rfl] at hx23_0 hx23_1 hx23_2 hx23_3); (try rw [show 0 * 4 = 0 from rfl] at hx23_0 hx23_1 hx23_2 hx23_3); (try rw [Addr.add_zero'] at hx23_0 hx23_1 hx23_2 hx23_3); replace hx23_0 := zx HB hx23_0; replace hx23_1 := zx HB hx23_1; replace hx23_2 := zx HB hx23_2; replace hx23_3 := zx HB hx23_3; replace p519 := eq_true p519; replace q23 := eq_true q23; obtain ⟨z18_0, z18_1, j18_0, j18_1⟩ := Lv.blks2 BK24.out)); try go_wp2_with (first | ((with_reducible refine gate_dst (N := 3) rfl ?_); refine zE 3 116 #[.int .i64 a1_0, .int .i64 a1_1] ?_; intro gb24 hg w17 hbox hb; have BK24 := Aside0.mk hbox; have GW24 := Aside0.mk (zh hg : w.heap.size ≤ gb24); have GE24 := GW24; replace HB := Aside0.mk (below_step zb hb); clear hb hbox hg; have p516 : 0 ≤ (0 : Int) := (by omega); have q20 : 0 < (l0.length : Int) := of_decide_eq_true za; obtain ⟨ad20, e516, hx20_0, hx20_1, hx20_2, hx20_3⟩ := at_T90 HR0.out 0 p516 q20; cases e516; have qi516 : (0 < l0.length) = True := eq_true (by omega); (try rw [show ((0 : Int)).toNat = 0 from rfl] at hx20_0 hx20_1 hx20_2 hx20_3); (try rw [show 0 * 4 = 0 from rfl] at hx20_0 hx20_1 hx20_2 hx20_3); (try rw [Addr.add_zero'] at hx20_0 hx20_1 hx20_2 hx20_3); replace hx20_0 := zx HB hx20_0; replace hx20_1 := zx HB hx20_1; replace hx20_2 := zx HB hx20_2; replace hx20_3 := zx HB hx20_3; replace p516 := eq_true p516; replace q20 := eq_true q20; have p519 : 0 ≤ (0 : Int) := (by omega); have q23 : 0 < (l0.length : Int) := of_decide_eq_true za; obtain ⟨ad23, e519, hx23_0, hx23_1, hx23_2, hx23_3⟩ := at_T90 HR0.out 0 p519 q23; obtain rfl : ad20 = ad23 := (by injection e519); have qi519 : (0 < l0.length) = True := eq_true (by omega); (try rw [show ((0 : Int)).toNat = 0 from rfl] at hx23_0 hx23_1 hx23_2 hx23_3); (try rw [show 0 * 4 = 0 from rfl] at hx23_0 hx23_1 hx23_2 hx23_3); (try rw [Addr.add_zero'] at hx23_0 hx23_1 hx23_2 hx23_3); replace hx23_0 := zx HB hx23_0; replace hx23_1 := zx HB hx23_1; replace hx23_2 := zx HB hx23_2; replace hx23_3 := zx HB hx23_3; replace p519 := eq_true p519; replace q23 := eq_true q23; obtain ⟨z18_0, z18_1, j18_0, j18_1⟩ := Lv.blks2 BK24.out)))
   go_ret
   exact ⟨ze, zb⟩
  rw [if_neg c4] at H
  exact absurd H (by simp)
 rw [if_neg c3] at H
 have c3b0 : decide (0 < (l0.length : Int)) = false := decide_eq_false c3
 have c3b1 : decide (0 < l0.length) = false := decide_eq_false (by omega)
 clear c3
 obtain rfl := Option.some.inj H
 go_enter Try.func105, Try.ntmps105
 go_wp2_with (first | ((with_reducible refine gate_dst (N := 3) rfl ?_); refine zE 3 116 #[.int .i64 a1_0, .int .i64 a1_1] ?_; intro gb24 hg w19 hbox hb; have BK24 := Aside0.mk hbox; have GW24 := Aside0.mk (zh hg : w.heap.size ≤ gb24); have GE24 := GW24; replace HB := Aside0.mk (below_step zb hb); clear hb hbox hg))
 repeat (go_quiet (first | ((with_reducible refine gate_dst (N := 3) rfl ?_); refine zE 3 116 #[.int .i64 a1_0, .int .i64 a1_1] ?_; intro gb24 hg w19 hbox hb; have BK24 := Aside0.mk hbox; have GW24 := Aside0.mk (zh hg : w.heap.size ≤ gb24); have GE24 := GW24; replace HB := Aside0.mk (below_step zb hb); clear hb hbox hg)); try go_wp2_with (first | ((with_reducible refine gate_dst (N := 3) rfl ?_); refine zE 3 116 #[.int .i64 a1_0, .int .i64 a1_1] ?_; intro gb24 hg w19 hbox hb; have BK24 := Aside0.mk hbox; have GW24 := Aside0.mk (zh hg : w.heap.size ≤ gb24); have GE24 := GW24; replace HB := Aside0.mk (below_step zb hb); clear hb hbox hg)))
 go_ret
 exact ⟨ze, zb⟩
end Go.Proofs.Ytonbnmaelepcbaa.P
