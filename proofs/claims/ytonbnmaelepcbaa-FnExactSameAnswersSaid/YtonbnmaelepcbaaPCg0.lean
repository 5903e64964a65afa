import Derived.Test.YtonbnmaelepcbaaP0
import Derived.Test.YtonbnmaelepcbaaPCacdefgh2
import Derived.Test.YtonbnmaelepcbaaPCacdefgh6
import Derived.Test.YtonbnmaelepcbaaPDg0
import Derived.Test.YtonbnmaelepcbaaPE0
import Derived.Test.YtonbnmaelepcbaaWRepsOne
import Derived.Test.YtonbnmaelepcbaaLv
import Derived.Test.YtonbnmaelepcbaaLb
import Derived.IntWalk
import Derived.Shelf.Abstract
import Derived.Test.YtonbnmaelepcbaaZz
namespace Go.Proofs.Ytonbnmaelepcbaa.P
open Go.RowKit Go.Proofs.YtonbnmaelepcbaaW.PrintWords Go.Proofs.YtonbnmaelepcbaaW.PrintLast Go.Proofs.YtonbnmaelepcbaaW.PrintMore
attribute [local go_sem] max2_int min2_int max_two min_two max_three min_three max_four min_four   -- for this text's walks alone
set_option linter.unusedVariables false
set_option linter.unusedSimpArgs false
attribute [local go_sem high] eqA105
set_option maxHeartbeats 8000000 in
set_option maxRecDepth 100000 in
theorem spec_l7Same.calls (k : Nat) (A0 : Option Addr) (c0 : Nat) (l0 : List Int) (A1 : Option Addr) (c1 : Nat) (l1 : List Int) (r : Bool) (w : World) (hr0 : Kd.C (Kd.int .i64) w A0 l0.length l0) (hc0 : l0.length ≤ c0) (hr1 : Kd.C (Kd.int .i64) w A1 l1.length l1) (hc1 : l1.length ≤ c1) (h : spec_l7Same.f k l0 l1 = some r) :
 Calls Try.prog 97 #[.slice A0 l0.length c0, .slice A1 l1.length c1] w fun e w' => e = .returned (.bool r) ∧ Drawn0 w w' := by
 have HR0 := Aside0.mk hr0
 have HC0 := Aside0.mk hc0
 clear hr0 hc0
 have HR1 := Aside0.mk hr1
 have HC1 := Aside0.mk hc1
 clear hr1 hc1
 have H : (if (l0.length : Int) = (l1.length : Int) then (spec_l7Same.l0 k l0 l1 0) else (some false)) = some r := h
 clear h
 by_cases c3 : (l0.length : Int) = (l1.length : Int)
 ·rw [if_pos c3] at H
  have c3b0 : ((l0.length : Int) == (l1.length : Int)) = true := beq_iff_eq.mpr c3
  have c3b1 : ((l0.length : Int) != (l1.length : Int)) = false := bne_eq_false_iff_eq.mpr c3
  have c3b2 : (l0.length == l1.length) = true := by first | simpa using c3 | (simp at c3 ⊢; omega)
  clear c3
  have H' := Aside0.mk H
  clear H
  go_enter Try.func97, Try.ntmps97
  go_wp2
  repeat (go_quiet (fail); try go_wp2)
  go_loopg [5] k (fun kq v5 w' => ∃ (x5_1 : Int), v5 = .int .i64 x5_1 ∧ Aside0 (spec_l7Same.l0 kq l0 l1 x5_1 = some r) ∧ Aside0 (kq ≤ k) ∧ Drawn0 w w')
  case atStart => exact ⟨(0), zs, H', ⟨Nat.le_refl _⟩, zd⟩
  case round =>
   clear H'
   try clear c1
   try clear p2
   try clear c3
   try clear c3b0
   try clear c3b1
   try clear c3b2
   obtain ⟨x5_1, rfl, HA, HK1, ⟨m1, rfl⟩⟩ := hrel
   cases gk with
   | zero => exact absurd HA.out (by simp [spec_l7Same.l0])
   | succ k1 =>
    have H := HA.out
    clear HA
    simp only [spec_l7Same.l0] at H
    by_cases c4 : x5_1 < (l0.length : Int)
    ·rw [if_pos c4] at H
     have c4b0 : decide (x5_1 < (l0.length : Int)) = true := decide_eq_true c4
     clear c4
     by_cases c5 : 0 ≤ x5_1
     ·rw [if_pos c5] at H
      have c5b0 : decide (0 ≤ x5_1) = true := decide_eq_true c5
      clear c5
      by_cases c6 : x5_1 < (l1.length : Int)
      ·rw [if_pos c6] at H
       have c6b0 : decide (x5_1 < (l1.length : Int)) = true := decide_eq_true c6
       clear c6
       by_cases c7 : (rd l0 x5_1) = (rd l1 x5_1)
       ·rw [if_pos c7] at H
        have c7b0 : ((rd l0 x5_1) == (rd l1 x5_1)) = true := beq_iff_eq.mpr c7
        have c7b1 : ((rd l0 x5_1) != (rd l1 x5_1)) = false := bne_eq_false_iff_eq.mpr c7
        clear c7
        have H' := Aside0.mk H
        clear H
        have p487 : 0 ≤ (x5_1 : Int) := of_decide_eq_true za
        have q8 : x5_1 < (l0.length : Int) := of_decide_eq_true za
        obtain ⟨ad8, e487, hx8_0⟩ := Kd.at_int HR0.out x5_1 p487 q8
        cases e487
        replace p487 := eq_true p487
        replace q8 := eq_true q8
        have p488 : 0 ≤ (x5_1 : Int) := of_decide_eq_true za
        have q9 : x5_1 < (l1.length : Int) := of_decide_eq_true za
        obtain ⟨ad9, e488, hx9_0⟩ := Kd.at_int HR1.out x5_1 p488 q9
        cases e488
        replace p488 := eq_true p488
        replace q9 := eq_true q9
        go_wp2
        repeat (go_quiet (fail); try go_wp2)
        go_roundg k1
        case measure => have := HK1.out; omega
        case rel => exact ⟨(wrap64 (x5_1 + 1)), zs, H', ⟨by have := HK1.out; omega⟩, zd⟩
       rw [if_neg c7] at H
       have c7b0 : ((rd l0 x5_1) == (rd l1 x5_1)) = false := beq_eq_false_iff_ne.mpr c7
       have c7b1 : ((rd l0 x5_1) != (rd l1 x5_1)) = true := bne_iff_ne.mpr c7
       obtain rfl := Option.some.inj H
       have p487 : 0 ≤ (x5_1 : Int) := of_decide_eq_true za
       have q8 : x5_1 < (l0.length : Int) := of_decide_eq_true za
       obtain ⟨ad8, e487, hx8_0⟩ := Kd.at_int HR0.out x5_1 p487 q8
       cases e487
       replace p487 := eq_true p487
       replace q8 := eq_true q8
       have p488 : 0 ≤ (x5_1 : Int) := of_decide_eq_true za
       have q9 : x5_1 < (l1.length : Int) := of_decide_eq_true za
       obtain ⟨ad9, e488, hx9_0⟩ := Kd.at_int HR1.out x5_1 p488 q9
       cases e488
       replace p488 := eq_true p488
       replace q9 := eq_true q9
       go_wp2
       repeat (go_quiet (fail); try go_wp2)
       go_ret
       exact ⟨zs, zd⟩
      rw [if_neg c6] at H
      exact absurd H (by simp)
     rw [if_neg c5] at H
     exact absurd H (by simp)
    rw [if_neg c4] at H
    have c4b0 : decide (x5_1 < (l0.length : Int)) = false := decide_eq_false c4
    clear c4
    obtain rfl := Option.some.inj H
    go_wp2
    repeat (go_quiet (fail); try go_wp2)
    go_ret
    exact ⟨zs, zd⟩
 rw [if_neg c3] at H
 have c3b0 : ((l0.length : Int) == (l1.length : Int)) = false := beq_eq_false_iff_ne.mpr c3
 have c3b1 : ((l0.length : Int) != (l1.length : Int)) = true := bne_iff_ne.mpr c3
 have c3b2 : (l0.length == l1.length) = false := by first | simpa using c3 | (simp at c3 ⊢; omega)
 obtain rfl := Option.some.inj H
 go_enter Try.func97, Try.ntmps97
 go_wp2
 repeat (go_quiet (fail); try go_wp2)
 go_ret
 exact ⟨zs, zd⟩
set_option maxHeartbeats 8000000 in
set_option maxRecDepth 100000 in
theorem spec_l7Cells.calls (k : Nat) (A0 : Option Addr) (c0 : Nat) (l0 : List (S105)) (A1 : Option Addr) (c1 : Nat) (l1 : List (S105)) (r : Bool) (w : World) (hr0 : Kd.C k105 w A0 l0.length l0) (hc0 : l0.length ≤ c0) (hr1 : Kd.C k105 w A1 l1.length l1) (hc1 : l1.length ≤ c1) (h : spec_l7Cells.f k l0 l1 = some r) :
 Calls Try.prog 99 #[.slice A0 l0.length c0, .slice A1 l1.length c1] w fun e w' => e = .returned (.bool r) ∧ Drawn0 w w' := by
 have hu105 := Try.underlying105
 have HR0 := Aside0.mk hr0
 have HC0 := Aside0.mk hc0
 clear hr0 hc0
 have HR1 := Aside0.mk hr1
 have HC1 := Aside0.mk hc1
 clear hr1 hc1
 have H : (if (l0.length : Int) = (l1.length : Int) then (spec_l7Cells.l0 k l0 l1 0) else (some false)) = some r := h
 clear h
 by_cases c3 : (l0.length : Int) = (l1.length : Int)
 ·rw [if_pos c3] at H
  have c3b0 : ((l0.length : Int) == (l1.length : Int)) = true := beq_iff_eq.mpr c3
  have c3b1 : ((l0.length : Int) != (l1.length : Int)) = false := bne_eq_false_iff_eq.mpr c3
  have c3b2 : (l0.length == l1.length) = true := by first | simpa using c3 | (simp at c3 ⊢; omega)
  clear c3
  have H' := Aside0.mk H
  clear H
  go_enter Try.func99, Try.ntmps99
  go_wp2
  repeat (go_quiet (fail); try go_wp2)
  go_loopg [5] k (fun kq v5 w' => ∃ (x5_1 : Int), v5 = .int .i64 x5_1 ∧ Aside0 (spec_l7Cells.l0 kq l0 l1 x5_1 = some r) ∧ Aside0 (kq ≤ k) ∧ Drawn0 w w')
  case atStart => exact ⟨(0), zs, H', ⟨Nat.le_refl _⟩, zd⟩
  case round =>
   clear H'
   try clear c1
   try clear p2
   try clear c3
   try clear c3b0
   try clear c3b1
   try clear c3b2
   obtain ⟨x5_1, rfl, HA, HK1, ⟨m1, rfl⟩⟩ := hrel
   cases gk with
   | zero => exact absurd HA.out (by simp [spec_l7Cells.l0])
   | succ k1 =>
    have H := HA.out
    clear HA
    simp only [spec_l7Cells.l0] at H
    by_cases c4 : x5_1 < (l0.length : Int)
    ·rw [if_pos c4] at H
     have c4b0 : decide (x5_1 < (l0.length : Int)) = true := decide_eq_true c4
     clear c4
     by_cases c5 : 0 ≤ x5_1
     ·rw [if_pos c5] at H
      have c5b0 : decide (0 ≤ x5_1) = true := decide_eq_true c5
      clear c5
      by_cases c6 : x5_1 < (l1.length : Int)
      ·rw [if_pos c6] at H
       have c6b0 : decide (x5_1 < (l1.length : Int)) = true := decide_eq_true c6
       clear c6
       by_cases c7 : (!(((rd_T105 l0 x5_1).f0) == ((rd_T105 l1 x5_1).f0)) || (!(((rd_T105 l0 x5_1).f1) == ((rd_T105 l1 x5_1).f1)))) = true
       ·rw [if_pos c7] at H
        have c7b0 : (!(((rd_T105 l0 x5_1).f0) == ((rd_T105 l1 x5_1).f0)) || (!(((rd_T105 l0 x5_1).f1) == ((rd_T105 l1 x5_1).f1)))) = true := c7
        clear c7
        obtain rfl := Option.some.inj H
        have p489 : 0 ≤ (x5_1 : Int) := of_decide_eq_true za
        have q8 : x5_1 < (l0.length : Int) := of_decide_eq_true za
        obtain ⟨ad8, e489, hx8_0, hx8_1⟩ := at_T105 HR0.out x5_1 p489 q8
        cases e489
        replace p489 := eq_true p489
        replace q8 := eq_true q8
        have p490 : 0 ≤ (x5_1 : Int) := of_decide_eq_true za
        have q9 : x5_1 < (l1.length : Int) := of_decide_eq_true za
        obtain ⟨ad9, e490, hx9_0, hx9_1⟩ := at_T105 HR1.out x5_1 p490 q9
        cases e490
        replace p490 := eq_true p490
        replace q9 := eq_true q9
        go_wp2
        repeat (go_quiet (fail); try go_wp2)
        go_ret
        exact ⟨zs, zd⟩
       rw [if_neg c7] at H
       have c7b0 : (!(((rd_T105 l0 x5_1).f0) == ((rd_T105 l1 x5_1).f0)) || (!(((rd_T105 l0 x5_1).f1) == ((rd_T105 l1 x5_1).f1)))) = false := by simpa using c7
       clear c7
       have H' := Aside0.mk H
       clear H
       have p489 : 0 ≤ (x5_1 : Int) := of_decide_eq_true za
       have q8 : x5_1 < (l0.length : Int) := of_decide_eq_true za
       obtain ⟨ad8, e489, hx8_0, hx8_1⟩ := at_T105 HR0.out x5_1 p489 q8
       cases e489
       replace p489 := eq_true p489
       replace q8 := eq_true q8
       have p490 : 0 ≤ (x5_1 : Int) := of_decide_eq_true za
       have q9 : x5_1 < (l1.length : Int) := of_decide_eq_true za
       obtain ⟨ad9, e490, hx9_0, hx9_1⟩ := at_T105 HR1.out x5_1 p490 q9
       cases e490
       replace p490 := eq_true p490
       replace q9 := eq_true q9
       go_wp2
       repeat (go_quiet (fail); try go_wp2)
       go_roundg k1
       case measure => have := HK1.out; omega
       case rel => exact ⟨(wrap64 (x5_1 + 1)), zs, H', ⟨by have := HK1.out; omega⟩, zd⟩
      rw [if_neg c6] at H
      exact absurd H (by simp)
     rw [if_neg c5] at H
     exact absurd H (by simp)
    rw [if_neg c4] at H
    have c4b0 : decide (x5_1 < (l0.length : Int)) = false := decide_eq_false c4
    clear c4
    obtain rfl := Option.some.inj H
    go_wp2
    repeat (go_quiet (fail); try go_wp2)
    go_ret
    exact ⟨zs, zd⟩
 rw [if_neg c3] at H
 have c3b0 : ((l0.length : Int) == (l1.length : Int)) = false := beq_eq_false_iff_ne.mpr c3
 have c3b1 : ((l0.length : Int) != (l1.length : Int)) = true := bne_iff_ne.mpr c3
 have c3b2 : (l0.length == l1.length) = false := by first | simpa using c3 | (simp at c3 ⊢; omega)
 obtain rfl := Option.some.inj H
 go_enter Try.func99, Try.ntmps99
 go_wp2
 repeat (go_quiet (fail); try go_wp2)
 go_ret
 exact ⟨zs, zd⟩
set_option maxHeartbeats 8000000 in
set_option maxRecDepth 100000 in
theorem spec_l5May.calls (A0 : Option Addr) (c0 : Nat) (l0 : List (S90)) (a1_0 : Int) (a1_1 : Int) (r : Bool) (w : World) (hr0 : Kd.C k90 w A0 l0.length l0) (hc0 : l0.length ≤ c0) (h : spec_l5May.f l0 a1_0 a1_1 = some r) :
 Calls Try.prog 132 #[.slice A0 l0.length c0, .agg #[.int .i64 a1_0, .int .i64 a1_1]] w fun e w' => e = .returned (.bool r) ∧ Below w.heap.size w w' := by
 have hu116 := Try.underlying116
 have HR0 := Aside0.mk hr0
 have HC0 := Aside0.mk hc0
 clear hr0 hc0
 have HB := Aside0.mk (Below.refl w.heap.size w)
 have H : (if (l0.length : Int) = 0 then (some true) else (if 0 < (l0.length : Int) then (if ((rd_T90 l0 0).f1) = 0 then (some (((rd_T90 l0 0).f0) == a1_1)) else (some (decide (((rd_T90 l0 0).f1) ≤ a1_0)))) else (none))) = some r := h
 clear h
 by_cases c3 : (l0.length : Int) = 0
 ·rw [if_pos c3] at H
  have c3b0 : ((l0.length : Int) == 0) = true := beq_iff_eq.mpr c3
  have c3b1 : ((l0.length : Int) != 0) = false := bne_eq_false_iff_eq.mpr c3
  clear c3
  obtain rfl := Option.some.inj H
  go_enter Try.func132, Try.ntmps132
  go_wp2_with (first | ((with_reducible refine gate_dst (N := 3) rfl ?_); refine zE 3 116 #[.int .i64 a1_0, .int .i64 a1_1] ?_; intro gb14 hg w4 hbox hb; have BK14 := Aside0.mk hbox; have GW14 := Aside0.mk (zh hg : w.heap.size ≤ gb14); have GE14 := GW14; replace HB := Aside0.mk (below_step zb hb); clear hb hbox hg))
  repeat (go_quiet (first | ((with_reducible refine gate_dst (N := 3) rfl ?_); refine zE 3 116 #[.int .i64 a1_0, .int .i64 a1_1] ?_; intro gb14 hg w4 hbox hb; have BK14 := Aside0.mk hbox; have GW14 := Aside0.mk (zh hg : w.heap.size ≤ gb14); have GE14 := GW14; replace HB := Aside0.mk (below_step zb hb); clear hb hbox hg)); try go_wp2_with (first | ((with_reducible refine gate_dst (N := 3) rfl ?_); refine zE 3 116 #[.int .i64 a1_0, .int .i64 a1_1] ?_; intro gb14 hg w4 hbox hb; have BK14 := Aside0.mk hbox; have GW14 := Aside0.mk (zh hg : w.heap.size ≤ gb14); have GE14 := GW14; replace HB := Aside0.mk (below_step zb hb); clear hb hbox hg)))
  go_ret
  exact ⟨ze, zb⟩
 rw [if_neg c3] at H
 have c3b0 : ((l0.length : Int) == 0) = false := beq_eq_false_iff_ne.mpr c3
 have c3b1 : ((l0.length : Int) != 0) = true := bne_iff_ne.mpr c3
 have c3b2 : ¬ (l0 = []) := fun h_ => c3 (by rw [h_]; rfl)
 by_cases c5 : 0 < (l0.length : Int)
 ·rw [if_pos c5] at H
  have c5b0 : decide (0 < (l0.length : Int)) = true := decide_eq_true c5
  have c5b1 : decide (0 < l0.length) = true := decide_eq_true (by omega)
  clear c5
  by_cases c6 : ((rd_T90 l0 0).f1) = 0
  ·rw [if_pos c6] at H
   have c6b0 : (((rd_T90 l0 0).f1) == 0) = true := beq_iff_eq.mpr c6
   have c6b1 : (((rd_T90 l0 0).f1) != 0) = false := bne_eq_false_iff_eq.mpr c6
   clear c6
   obtain rfl := Option.some.inj H
   go_enter Try.func132, Try.ntmps132
   go_wp2_with (first | ((with_reducible refine gate_dst (N := 3) rfl ?_); refine zE 3 116 #[.int .i64 a1_0, .int .i64 a1_1] ?_; intro gb14 hg w7 hbox hb; have BK14 := Aside0.mk hbox; have GW14 := Aside0.mk (zh hg : w.heap.size ≤ gb14); have GE14 := GW14; replace HB := Aside0.mk (below_step zb hb); clear hb hbox hg; have p492 : 0 ≤ (0 : Int) := (by omega); have q11 : 0 < (l0.length : Int) := of_decide_eq_true za; obtain ⟨ad11, e492, hx11_0, hx11_1, hx11_2, hx11_3⟩ := at_T90 HR0.out 0 p492 q11; cases e492; have qi492 : (0 < l0.length) = True := eq_true (by omega); (try rw [show ((0 : Int)).toNat = 0 from rfl] at hx11_0 hx11_1 hx11_2 hx11_3); (try rw [show 0 * 4 = 0 from rfl] at hx11_0 hx11_1 hx11_2 hx11_3); (try rw [Addr.add_zero'] at hx11_0 hx11_1 hx11_2 hx11_3); replace hx11_0 := zx HB hx11_0; replace hx11_1 := zx HB hx11_1; replace hx11_2 := zx HB hx11_2; replace hx11_3 := zx HB hx11_3; replace p492 := eq_true p492; replace q11 := eq_true q11; have p493 : 0 ≤ (0 : Int) := (by omega); have q12 : 0 < (l0.length : Int) := of_decide_eq_true za; obtain ⟨ad12, e493, hx12_0, hx12_1, hx12_2, hx12_3⟩ := at_T90 HR0.out 0 p493 q12; obtain rfl : ad11 = ad12 := (by injection e493); have qi493 : (0 < l0.length) = True := eq_true (by omega); (try rw [show ((0 : Int)).toNat = 0 from rfl] at hx12_0 hx12_1 hx12_2 hx12_3); (try rw [show 0 * 4 = 0 from rfl] at hx12_0 hx12_1 hx12_2 hx12_3); (try rw [Addr.add_zero'] at hx12_0 hx12_1 hx12_2 hx12_3); replace hx12_0 := zx HB hx12_0; replace hx12_1 := zx HB hx12_1; replace hx12_2 := zx HB hx12_2; replace hx12_3 := zx HB hx12_3; replace p493 := eq_true p493; replace q12 := eq_true q12; obtain ⟨z8_0, z8_1, j8_0, j8_1⟩ := Lv.blks2 BK14.out))
   repeat (go_quiet (first | ((with_reducible refine gate_dst (N := 3) rfl ?_); refine zE 3 116 #[.int .i64 a1_0, .int .i64 a1_1] ?_; intro gb14 hg w7 hbox hb; have BK14 := Aside0.mk hbox; have GW14 := Aside0.mk (zh hg : w.heap.size ≤ gb14); have GE14 := GW14; replace HB := Aside0.mk (below_step zb hb); clear hb hbox hg; have p492 : 0 ≤ (0 : Int) := (by omega); have q11 : 0 < (l0.length : Int) := of_decide_eq_true za; obtain ⟨ad11, e492, hx11_0, hx11_1, hx11_2, hx11_3⟩ := at_T90 HR0.out 0 p492 q11; cases e492; have qi492 : (0 < l0.length) = True := eq_true (by omega); (try rw [show ((0 : Int)).toNat = 0 from rfl] at hx11_0 hx11_1 hx11_2 hx11_3); (try rw [show 0 * 4 = 0 from rfl] at hx11_0 hx11_1 hx11_2 hx11_3); (try rw [Addr.add_zero'] at hx11_0 hx11_1 hx11_2 hx11_3); replace hx11_0 := zx HB hx11_0; replace hx11_1 := zx HB hx11_1; replace hx11_2 := zx HB hx11_2; replace hx11_3 := zx HB hx11_3; replace p492 := eq_true p492; replace q11 := eq_true q11; have p493 : 0 ≤ (0 : Int) := (by omega); have q12 : 0 < (l0.length : Int) := of_decide_eq_true za; obtain ⟨ad12, e493, hx12_0, hx12_1, hx12_2, hx12_3⟩ := at_T90 HR0.out 0 p493 q12; obtain rfl : ad11 = ad12 := (by injection e493); have qi493 : (0 < l0.length) = True := eq_true (by omega); (try rw [show ((0 : Int)).toNat = 0 from rfl] at hx12_0 hx12_1 hx12_2 hx12_3); (try rw [show 0 * 4 = 0 from rfl] at hx12_0 hx12_1 hx12_2 hx12_3); (try rw [Addr.add_zero'] at hx12_0 hx12_1 hx12_2 hx12_3); replace hx12_0 := zx HB hx12_0; replace hx12_1 := zx HB hx12_1; replace hx12_2 := zx HB hx12_2; replace hx12_3 := zx HB hx12_3; replace p493 := eq_true p493; replace q12 := eq_true q12; obtain ⟨z8_0, z8_1, j8_0, j8_1⟩ := Lv.blks2 BK14.out)); try go_wp2_with (first | ((with_reducible refine gate_dst (N := 3) rfl ?_); refine zE 3 116 #[.int .i64 a1_0, .int .i64 a1_1] ?_; intro gb14 hg w7 hbox hb; have BK14 := Aside0.mk hbox; have GW14 := Aside0.mk (zh hg : w.heap.size ≤ gb14); have GE14 := GW14; replace HB := Aside0.mk (below_step zb hb); clear hb hbox hg; have p492 : 0 ≤ (0 : Int) := (by omega); have q11 : 0 < (l0.length : Int) := of_decide_eq_true za; obtain ⟨ad11, e492, hx11_0, hx11_1, hx11_2, hx11_3⟩ := at_T90 HR0.out 0 p492 q11; cases e492; have qi492 : (0 < l0.length) = True := eq_true (by omega); (try rw [show ((0 : Int)).toNat = 0 from rfl] at hx11_0 hx11_1 hx11_2 hx11_3); (try rw [show 0 * 4 = 0 from rfl] at hx11_0 hx11_1 hx11_2 hx11_3); (try rw [Addr.add_zero'] at hx11_0 hx11_1 hx11_2 hx11_3); replace hx11_0 := zx HB hx11_0; replace hx11_1 := zx HB hx11_1; replace hx11_2 := zx HB hx11_2; replace hx11_3 := zx HB hx11_3; replace p492 := eq_true p492; replace q11 := eq_true q11; have p493 : 0 ≤ (0 : Int) := (by omega); have q12 : 0 < (l0.length : Int) := of_decide_eq_true za; obtain ⟨ad12, e493, hx12_0, hx12_1, hx12_2, hx12_3⟩ := at_T90 HR0.out 0 p493 q12; obtain rfl : ad11 = ad12 := (by injection e493); have qi493 : (0 < l0.length) = True := eq_true (by omega); (try rw [show ((0 : Int)).toNat = 0 from rfl] at hx12_0 hx12_1 hx12_2 hx12_3); (try rw [show 0 * 4 = 0 from rfl] at hx12_0 hx12_1 hx12_2 hx12_3); (try rw [Addr.add_zero'] at hx12_0 hx12_1 hx12_2 hx12_3); replace hx12_0 := zx HB hx12_0; replace hx12_1 := zx HB hx12_1; replace hx12_2 := zx HB hx12_2; replace hx12_3 := zx HB hx12_3; replace p493 := eq_true p493; replace q12 := eq_true q12; obtain ⟨z8_0, z8_1, j8_0, j8_1⟩ := Lv.blks2 BK14.out)))
   go_ret
   exact ⟨ze, zb⟩
  rw [if_neg c6] at H
  have c6b0 : (((rd_T90 l0 0).f1) == 0) = false := beq_eq_false_iff_ne.mpr c6
  have c6b1 : (((rd_T90 l0 0).f1) != 0) = true := bne_iff_ne.mpr c6
  obtain rfl := Option.some.inj H
  go_enter Try.func132, Try.ntmps132
  go_wp2_with (first | ((with_reducible refine gate_dst (N := 3) rfl ?_); refine zE 3 116 #[.int .i64 a1_0, .int .i64 a1_1] ?_; intro gb14 hg w9 hbox hb; have BK14 := Aside0.mk hbox; have GW14 := Aside0.mk (zh hg : w.heap.size ≤ gb14); have GE14 := GW14; replace HB := Aside0.mk (below_step zb hb); clear hb hbox hg; have p492 : 0 ≤ (0 : Int) := (by omega); have q11 : 0 < (l0.length : Int) := of_decide_eq_true za; obtain ⟨ad11, e492, hx11_0, hx11_1, hx11_2, hx11_3⟩ := at_T90 HR0.out 0 p492 q11; cases e492; have qi492 : (0 < l0.length) = True := eq_true (by omega); (try rw [show ((0 : Int)).toNat = 0 from rfl] at hx11_0 hx11_1 hx11_2 hx11_3); (try rw [show 0 * 4 = 0 from rfl] at hx11_0 hx11_1 hx11_2 hx11_3); (try rw [Addr.add_zero'] at hx11_0 hx11_1 hx11_2 hx11_3); replace hx11_0 := zx HB hx11_0; replace hx11_1 := zx HB hx11_1; replace hx11_2 := zx HB hx11_2; replace hx11_3 := zx HB hx11_3; replace p492 := eq_true p492; replace q11 := eq_true q11; have p494 : 0 ≤ (0 : Int) := (by omega); have q13 : 0 < (l0.length : Int) := of_decide_eq_true za; obtain ⟨ad13, e494, hx13_0, hx13_1, hx13_2, hx13_3⟩ := at_T90 HR0.out 0 p494 q13; obtain rfl : ad11 = ad13 := (by injection e494); have qi494 : (0 < l0.length) = True := eq_true (by omega); (try rw [show ((0 : Int)).toNat = 0 from rfl] at hx13_0 hx13_1 hx13_2 hx13_3); (try rw [show 0 * 4 = 0 from rfl] at hx13_0 hx13_1 hx13_2 hx13_3); (try rw [Addr.add_zero'] at hx13_0 hx13_1 hx13_2 hx13_3); replace hx13_0 := zx HB hx13_0; replace hx13_1 := zx HB hx13_1; replace hx13_2 := zx HB hx13_2; replace hx13_3 := zx HB hx13_3; replace p494 := eq_true p494; replace q13 := eq_true q13; obtain ⟨z10_0, z10_1, j10_0, j10_1⟩ := Lv.blks2 BK14.out))
  repeat (go_quiet (first | ((with_reducible refine gate_dst (N := 3) rfl ?_); refine zE 3 116 #[.int .i64 a1_0, .int .i64 a1_1] ?_; intro gb14 hg w9 hbox hb; have BK14 := Aside0.mk hbox; have GW14 := Aside0.mk (zh hg : w.heap.size ≤ gb14); have GE14 := GW14; replace HB := Aside0.mk (below_step zb hb); clear hb hbox hg; have p492 : 0 ≤ (0 : Int) := (by omega); have q11 : 0 < (l0.length : Int) := of_decide_eq_true za; obtain ⟨ad11, e492, hx11_0, hx11_1, hx11_2, hx11_3⟩ := at_T90 HR0.out 0 p492 q11; cases e492; have qi492 : (0 < l0.length) = True := eq_true (by omega); (try rw [show ((0 : Int)).toNat = 0 from rfl] at hx11_0 hx11_1 hx11_2 hx11_3); (try rw [show 0 * 4 = 0 from rfl] at hx11_0 hx11_1 hx11_2 hx11_3); (try rw [Addr.add_zero'] at hx11_0 hx11_1 hx11_2 hx11_3); replace hx11_0 := zx HB hx11_0; replace hx11_1 := zx HB hx11_1; replace hx11_2 := zx HB hx11_2; replace hx11_3 := zx HB hx11_3; replace p492 := eq_true p492; replace q11 := eq_true q11; have p494 : 0 ≤ (0 : Int) := (by omega); have q13 : 0 < (l0.length : Int) := of_decide_eq_true za; obtain ⟨ad13, e494, hx13_0, hx13_1, hx13_2, hx13_3⟩ := at_T90 HR0.out 0 p494 q13; obtain rfl : ad11 = ad13 := (by injection e494); have qi494 : (0 < l0.length) = True := eq_true (by omega); (try rw [show ((0 : Int)).toNat = 0 from rfl] at hx13_0 hx13_1 hx13_2 hx13_3); (try rw [show 0 * 4 = 0 from rfl] at hx13_0 hx13_1 hx13_2 hx13_3); (try rw [Addr.add_zero'] at hx13_0 hx13_1 hx13_2 hx13_3); replace hx13_0 := zx HB hx13_0; replace hx13_1 := zx HB hx13_1; replace hx13_2 := zx HB hx13_2; replace hx13_3 := zx HB hx13_3; replace p494 := eq_true p494; replace q13 := eq_true q13; obtain ⟨z10_0, z10_1, j10_0, j10_1⟩ := Lv.blks2 BK14.out)); try go_wp2_with (first | ((with_reducible refine gate_dst (N := 3) rfl ?_); refine zE 3 116 #[.int .i64 a1_0, .int .i64 a1_1] ?_; intro gb14 hg w9 hbox hb; have BK14 := Aside0.mk hbox; have GW14 := Aside0.mk (zh hg : w.heap.size ≤ gb14); have GE14 := GW14; replace HB := Aside0.mk (below_step zb hb); clear hb hbox hg; have p492 : 0 ≤ (0 : Int) := (by omega); have q11 : 0 < (l0.length : Int) := of_decide_eq_true za; obtain ⟨ad11, e492, hx11_0, hx11_1, hx11_2, hx11_3⟩ := at_T90 HR0.out 0 p492 q11; cases e492; have qi492 : (0 < l0.length) = True := eq_true (by omega); (try rw [show ((0 : Int)).toNat = 0 from rfl] at hx11_0 hx11_1 hx11_2 hx11_3); (try rw [show 0 * 4 = 0 from rfl] at hx11_0 hx11_1 hx11_2 hx11_3); (try rw [Addr.add_zero'] at hx11_0 hx11_1 hx11_2 hx11_3); replace hx11_0 := zx HB hx11_0; replace hx11_1 := zx HB hx11_1; replace hx11_2 := zx HB hx11_2; replace hx11_3 := zx HB hx11_3; replace p492 := eq_true p492; replace q11 := eq_true q11; have p494 : 0 ≤ (0 : Int) := (by omega); have q13 : 0 < (l0.length : Int) := of_decide_eq_true za; obtain ⟨ad13, e494, hx13_0, hx13_1, hx13_2, hx13_3⟩ := at_T90 HR0.out 0 p494 q13; obtain rfl : ad11 = ad13 := (by injection e494); have qi494 : (0 < l0.length) = True := eq_true (by omega); (try rw [show ((0 : Int)).toNat = 0 from rfl] at hx13_0 hx13_1 hx13_2 hx13_3); (try rw [show 0 * 4 = 0 from rfl] at hx13_0 hx13_1 hx13_2 hx13_3); (try rw [Addr.add_zero'] at hx13_0 hx13_1 hx13_2 hx13_3); replace hx13_0 := zx HB hx13_0; replace hx13_1 := zx HB hx13_1; replace hx13_2 := zx HB hx13_2; replace hx13_3 := zx HB hx13_3; replace p494 := eq_true p494; replace q13 := eq_true q13; obtain ⟨z10_0, z10_1, j10_0, j10_1⟩ := Lv.blks2 BK14.out)))
  go_ret
  exact ⟨ze, zb⟩
 rw [if_neg c5] at H
 exact absurd H (by simp)
-- PROOF --
set_option maxHeartbeats 8000000 in
set_option maxRecDepth 100000 in
theorem spec_l7May.at {g : Nat} (k : Nat) (a0_0 a0_1 : Int) (A2 : Option Addr) (c2 : Nat) (l2 : List S83) (A3 : Option Addr) (c3 : Nat) (l3 : List S87) (at_ id : Int) (r : List Int) (w : World) (hr2 : Kd.C k83 w A2 l2.length l2) (hc2 : l2.length ≤ c2) (hr3 : Kd.C k87 w A3 l3.length l3) (hc3 : l3.length ≤ c3) (h : spec_l7May.f k l3 at_ id = some r) (hbx : Aside0 (w.heap[g]? = some (Obj.cells #[.int .i64 a0_0, .int .i64 a0_1, .slice A2 l2.length c2, .slice A3 l3.length c3] 31))) :
 Calls Try.prog 101 #[.pointer (some ⟨g, 0, none⟩), .agg #[.int .i64 at_, .int .i64 id]] w fun e w' => ∃ v_ : Value, e = .returned v_ ∧ Kd.R (Kd.int .i64) 2 w' w.heap.size (fun _ => True) v_ r ∧ Below w.heap.size w w' := by
 have hu31 := Try.underlying31
 have hu87 := Try.underlying87
 have hu61 := Try.underlying61
 have hu116 := Try.underlying116
 have HB := Aside0.mk (Below.refl w.heap.size w)
 have HR2 := Aside0.mk hr2
 have HR3 := Aside0.mk hr3
 have HC2 := Aside0.mk hc2
 have HC3 := Aside0.mk hc3
 have hn2 := hr2.2.1
 have hn3 := hr3.2.1
 clear hr2 hr3 hc2 hc3
 have H0 := Aside0.mk (show spec_l7May.l0 k l3 at_ id 0 [] = some r from h)
 clear h
 go_enter Try.func101, Try.ntmps101
 go_wp2_with ((with_reducible refine gate_dst (N := 8) rfl ?_); refine Kd.R_lit (Kd.int .i64) _ 2 ?hg (N := 8) ?hd (xs := ([] : List Int)) (inner := []) (ok := fun _ => True) (okp := fun _ => True) ?hr ?hp (fun _ hk => hk) trivial (Below.refl _ _) (Nat.le_refl _) (by simp) ?_; (case hd => rfl); (case hg => rfl); (case hr => first | (go_simp; done) | (go_simp; rfl)); (case hp => exact (Reps.none _ _)); intro v1_ w1 ho1 hb1 hg1 hn1; clear hg1 hn1)
 have HO := Aside0.mk (Kd.R_lower ho1 (below_size (below_alloc (Below.refl w.heap.size w) (Obj.cells #[.int .i64 at_, .int .i64 id] 116))))
 have XV := Aside0.mk (keepB hb1 (blk_new w (Obj.cells #[.int .i64 at_, .int .i64 id] 116)))
 replace HB := Aside0.mk (show Below w.heap.size w w1 from below_step (below_alloc (Below.refl _ _) _) hb1)
 clear ho1 hb1
 go_loopg [5, 6] k (fun kq v5 v6 wr => ∃ (acc : List Int) (i : Int), v6 = .int .i64 i ∧ Aside0 (spec_l7May.l0 kq l3 at_ id i acc = some r) ∧ Aside0 (kq ≤ k) ∧ Aside0 (0 ≤ i ∧ i ≤ 32) ∧ Aside0 (Kd.R (Kd.int .i64) 2 wr w.heap.size (fun _ => True) v5 acc) ∧ Aside0 (wr.heap[w.heap.size]? = some (Obj.cells #[.int .i64 at_, .int .i64 id] 116)) ∧ Aside0 (Below w.heap.size w wr))
 case atStart => exact ⟨[], 0, rfl, H0, ⟨Nat.le_refl _⟩, ⟨by omega⟩, HO, XV, HB⟩
 case round =>
  clear H0 HO XV HB
  obtain ⟨acc, i, rfl, HA, HK1, HI, HO, XV, HB⟩ := hrel
  have X0 := Aside0.mk (keepB HB.out hbx.out)
  cases gk with
  | zero => exact absurd HA.out (by simp [spec_l7May.l0])
  | succ k1 =>
   have H := HA.out
   clear HA
   simp only [spec_l7May.l0] at H
   by_cases c1 : i ≤ 31
   ·rw [if_pos c1] at H
    have C1 := Aside0.mk c1
    have E9 := Aside0.mk (show wrap64 (i + 1) = i + 1 from by have h_ := HI.out; exact Lb.w64 (by omega) (by omega))
    have d1 : decide (i ≤ 31) = true := decide_eq_true c1
    clear c1
    unfold mayK at H
    obtain ⟨j, hj⟩ : ∃ j, j = Lb.idx (fun u : S87 => u.f0 == i) l3 := ⟨_, rfl⟩
    rw [← hj] at H
    have HJ := Aside0.mk hj
    clear hj
    by_cases cj : j < 0
    ·rw [if_pos cj, Option.bind_some] at H
     have cj0 : decide (j < 0) = true := decide_eq_true cj
     rw [if_pos rfl] at H
     by_cases c5 : acc.length < 8796093022208
     ·rw [if_pos c5] at H
      have H' := Aside0.mk H
      have LM := Aside0.mk c5
      clear H c5
      have cX0_0 : wr.cell? ⟨g, 0, none⟩ = some (.int .i64 a0_0) := (blk_cell X0.out 0).trans rfl
      have cX0_1 : wr.cell? ⟨g, 1, none⟩ = some (.int .i64 a0_1) := (blk_cell X0.out 1).trans rfl
      have cX0_2 : wr.cell? ⟨g, 2, none⟩ = some (.slice A2 l2.length c2) := (blk_cell X0.out 2).trans rfl
      have cX0_3 : wr.cell? ⟨g, 3, none⟩ = some (.slice A3 l3.length c3) := (blk_cell X0.out 3).trans rfl
      have lX0 : g < wr.heap.size := blk_lt X0.out
      have nX0 : g ≠ wr.heap.size := Nat.ne_of_lt (blk_lt X0.out)
      have cXV_0 : wr.cell? ⟨w.heap.size, 0, none⟩ = some (.int .i64 at_) := (blk_cell XV.out 0).trans rfl
      have cXV_1 : wr.cell? ⟨w.heap.size, 1, none⟩ = some (.int .i64 id) := (blk_cell XV.out 1).trans rfl
      have lXV : w.heap.size < wr.heap.size := blk_lt XV.out
      have nXV : w.heap.size ≠ wr.heap.size := Nat.ne_of_lt (blk_lt XV.out)
      go_wp2_with fail
      refine Calls.mono (spec_l6Row.at ⟨g, 0, none⟩ _ c3 l3 i _ ((blk_cell X0.out 3).trans rfl) (Kd.C_below HR3.out HB.out)) ?_
      rw [← HJ.out]
      rintro e w' ⟨rfl, rfl⟩
      go_upto_region 6 with fail
      clear cX0_0 cX0_1 cX0_2 cX0_3 lX0 nX0 cXV_0 cXV_1 lXV nXV
      refine start_ (n := 14) (S := fun _ => True) (ds := []) #[false, false, false, false, false, false, false, false, false, false, false, false, false, false] (by kernel_rfl) rfl rfl trivial (fun hHeld => ?_)
      replace X0 := Aside0.mk (blk_drew X0.out)
      replace XV := Aside0.mk (blk_drew XV.out)
      replace HO := Aside0.mk (Kd.R_drew HO.out)
      replace HB := Aside0.mk (below_drew1 HB.out)
      clear hHeld
      generalize wr.drew = ua at X0 XV HO HB ⊢
      refine zp 0 16 ?_; refine zp 1 17 ?_; refine zp 2 18 ?_
      refine pure_ (i := 3) (N := some 19) (v := undef) (a' := ?_) #[true, true, true, true, false, false, false, false, false, false, false, false, false, false] rfl rfl (by kernel_rfl) (fun _ _ _ h => h) (Or.inr ⟨by rfl, rfl⟩) ?_ ?_
      rotate_left
      ·simp only [Act.put, List.setIfInBounds_toArray, List.set_cons_zero, List.set_cons_succ, i64_w, i32_w]
       rfl
      refine pure_ (i := 4) (N := some 20) (v := undef) (a' := ?_) #[true, true, true, true, true, false, false, false, false, false, false, false, false, false] rfl rfl (by kernel_rfl) (fun _ _ _ h => h) (Or.inr ⟨by rfl, rfl⟩) ?_ ?_
      rotate_left
      ·simp only [Act.put, List.setIfInBounds_toArray, List.set_cons_zero, List.set_cons_succ, i64_w, i32_w]
       rfl
      refine pure_ (i := 5) (N := some 21) (v := undef) (a' := ?_) #[true, true, true, true, true, true, false, false, false, false, false, false, false, false] rfl rfl (by kernel_rfl) (fun _ _ _ h => h) (Or.inr ⟨by rfl, rfl⟩) ?_ ?_
      rotate_left
      ·simp only [Act.put, List.setIfInBounds_toArray, List.set_cons_zero, List.set_cons_succ, i64_w, i32_w]
       rfl
      refine pure_ (i := 6) (N := some 22) (v := undef) (a' := ?_) #[true, true, true, true, true, true, true, false, false, false, false, false, false, false] rfl rfl (by kernel_rfl) (fun _ _ _ h => h) (Or.inr ⟨by rfl, rfl⟩) ?_ ?_
      rotate_left
      ·simp only [Act.put, List.setIfInBounds_toArray, List.set_cons_zero, List.set_cons_succ, i64_w, i32_w]
       rfl
      refine pure_ (i := 7) (N := some 23) (v := undef) (a' := ?_) #[true, true, true, true, true, true, true, true, false, false, false, false, false, false] rfl rfl (by kernel_rfl) (fun _ _ _ h => h) (Or.inr ⟨by rfl, rfl⟩) ?_ ?_
      rotate_left
      ·simp only [Act.put, List.setIfInBounds_toArray, List.set_cons_zero, List.set_cons_succ, i64_w, i32_w]
       rfl
      refine pure_ (i := 8) (N := some 24) (v := undef) (a' := ?_) #[true, true, true, true, true, true, true, true, true, false, false, false, false, false] rfl rfl (by kernel_rfl) (fun _ _ _ h => h) (Or.inr ⟨by rfl, rfl⟩) ?_ ?_
      rotate_left
      ·simp only [Act.put, List.setIfInBounds_toArray, List.set_cons_zero, List.set_cons_succ, i64_w, i32_w]
       rfl
      refine pure_ (i := 9) (N := some 25) (v := undef) (a' := ?_) #[true, true, true, true, true, true, true, true, true, true, false, false, false, false] rfl rfl (by kernel_rfl) (fun _ _ _ h => h) (Or.inr ⟨by rfl, rfl⟩) ?_ ?_
      rotate_left
      ·simp only [Act.put, List.setIfInBounds_toArray, List.set_cons_zero, List.set_cons_succ, i64_w, i32_w]
       rfl
      refine pure_ (i := 10) (N := some 26) (v := undef) (a' := ?_) #[true, true, true, true, true, true, true, true, true, true, true, false, false, false] rfl rfl (by kernel_rfl) (fun _ _ _ h => h) (Or.inr ⟨by rfl, rfl⟩) ?_ ?_
      rotate_left
      ·simp only [Act.put, List.setIfInBounds_toArray, List.set_cons_zero, List.set_cons_succ, i64_w, i32_w]
       rfl
      refine pure_ (i := 11) (N := some 27) (v := undef) (a' := ?_) #[true, true, true, true, true, true, true, true, true, true, true, true, false, false] rfl rfl (by kernel_rfl) (fun _ _ _ h => h) (Or.inr ⟨by rfl, rfl⟩) ?_ ?_
      rotate_left
      ·simp only [Act.put, List.setIfInBounds_toArray, List.set_cons_zero, List.set_cons_succ, i64_w, i32_w]
       rfl
      refine pure_ (i := 12) (N := some 28) (v := undef) (a' := ?_) #[true, true, true, true, true, true, true, true, true, true, true, true, true, false] rfl rfl (by kernel_rfl) (fun _ _ _ h => h) (Or.inr ⟨by rfl, rfl⟩) ?_ ?_
      rotate_left
      ·simp only [Act.put, List.setIfInBounds_toArray, List.set_cons_zero, List.set_cons_succ, i64_w, i32_w]
       rfl
      refine zp 13 29 ?_
      refine done_ (by kernel_rfl) ?_
      go_wp2_with ((with_reducible refine gate_builtin (b := .append) (xs := #[.tmp 30, .tmp 32]) rfl ?_); at_builtin; refine Kd.R_append (Kd.int .i64) (w0 := w) w.heap.size rfl (.tmp 30) (.tmp 32) 61 2 (.int .i64 0) 8 rfl Try.underlying61 info2 rfl (by decide) (by omega) u5 acc i [.int .i64 i] (fun _ => True) (fun _ => False) rfl (by first | (go_simp; done) | (go_simp; rfl)) ?aP (fun _ hk => hk.elim) ?aF ?aO ?aB ?aS ?aL ?_; (case aP => exact rfl); (case aB => exact zb); (case aF => exact (fun _ _ => trivial)); (case aO => exact (zr HO)); (case aS => exact (below_size zb)); (case aL => have := LM.out; omega); intro v5_ w5 ho5 hb5 hg5 ha5; have XW := Aside0.mk (blk_grown (g := w.heap.size) (o := Obj.cells #[.int .i64 at_, .int .i64 id] 116) (zq XV) hg5 (Kd.R_ne HO.out XV.out (by decide))); clear HO XV HB; have HO := Aside0.mk ho5; have XV := XW; have HB := Aside0.mk hb5; clear ho5 hb5 hg5 ha5 XW)
      go_roundg k1
      case measure => have := HK1.out; omega
      case rel => exact ⟨acc ++ [i], wrap64 (i + 1), by first | rfl | rw [E9.out], H', ⟨by have := HK1.out; omega⟩, ⟨by have h_ := HI.out; have q_ := C1.out; rw [E9.out]; omega⟩, ⟨zr HO⟩, ⟨zq XV⟩, ⟨zb⟩⟩
     exact absurd H (by rw [if_neg c5]; simp)
    rw [if_neg cj] at H
    have cj0 : decide (j < 0) = false := decide_eq_false cj
    have j0 : 0 ≤ j := by omega
    have j1 : j < (l3.length : Int) := by rw [HJ.out]; exact idx_lt _ _ (by rw [← HJ.out]; exact j0)
    obtain ⟨Y, hY⟩ : ∃ x, x = l3.getD j.toNat z87 := ⟨_, rfl⟩
    rw [← hY] at H
    have HY := Aside0.mk hY
    clear hY
    obtain ⟨ad, A1, c1, ea, -, hq, hA1, hK⟩ := at_T87 HR3.out j j0 j1
    cases ea
    rw [show rd_T87 l3 j = Y from HY.out.symm] at hq hA1 hK
    have HQ := Aside0.mk hq
    have HA1 := Aside0.mk hA1
    have HK := Aside0.mk hK
    clear hq hA1 hK
    obtain ⟨b, hm, H⟩ := Option.bind_eq_some_iff.mp H
    have HM := Aside0.mk hm
    clear hm
    cases b
    ·rw [if_neg (by decide)] at H
     have H' := Aside0.mk H
     clear H
     have cX0_0 : wr.cell? ⟨g, 0, none⟩ = some (.int .i64 a0_0) := (blk_cell X0.out 0).trans rfl
     have cX0_1 : wr.cell? ⟨g, 1, none⟩ = some (.int .i64 a0_1) := (blk_cell X0.out 1).trans rfl
     have cX0_2 : wr.cell? ⟨g, 2, none⟩ = some (.slice A2 l2.length c2) := (blk_cell X0.out 2).trans rfl
     have cX0_3 : wr.cell? ⟨g, 3, none⟩ = some (.slice (some ad) l3.length c3) := (blk_cell X0.out 3).trans rfl
     have lX0 : g < wr.heap.size := blk_lt X0.out
     have nX0 : g ≠ wr.heap.size := Nat.ne_of_lt (blk_lt X0.out)
     have cXV_0 : wr.cell? ⟨w.heap.size, 0, none⟩ = some (.int .i64 at_) := (blk_cell XV.out 0).trans rfl
     have cXV_1 : wr.cell? ⟨w.heap.size, 1, none⟩ = some (.int .i64 id) := (blk_cell XV.out 1).trans rfl
     have lXV : w.heap.size < wr.heap.size := blk_lt XV.out
     have nXV : w.heap.size ≠ wr.heap.size := Nat.ne_of_lt (blk_lt XV.out)
     go_wp2_with fail
     refine Calls.mono (spec_l6Row.at ⟨g, 0, none⟩ _ c3 l3 i _ ((blk_cell X0.out 3).trans rfl) (Kd.C_below HR3.out HB.out)) ?_
     rw [← HJ.out]
     rintro e w' ⟨rfl, rfl⟩
     go_upto_region 6 with fail
     clear cX0_0 cX0_1 cX0_2 cX0_3 lX0 nX0 cXV_0 cXV_1 lXV nXV
     refine start_ (n := 14) (S := fun W_ => W_.cell? ⟨g, 3, none⟩ = some (.slice (some ad) l3.length c3) ∧ W_.cell? ⟨(ad.add (j.toNat * 2)).block, (ad.add (j.toNat * 2)).off + 1, none⟩ = some (.slice A1 Y.f1.length c1) ∧ W_.cell? ⟨w.heap.size, 0, none⟩ = some (.int .i64 at_) ∧ W_.cell? ⟨w.heap.size, 1, none⟩ = some (.int .i64 id)) (ds := []) #[false, false, false, false, false, false, false, false, false, false, false, false, false, false] (by kernel_rfl) rfl rfl ⟨(blk_cell X0.out 3).trans rfl, pw_cell_below HB.out HQ.out, (blk_cell XV.out 0).trans rfl, (blk_cell XV.out 1).trans rfl⟩ (fun hHeld => ?_)
     refine zp 0 16 ?_; refine zp 1 17 ?_; refine zp 2 18 ?_; refine zp 3 19 ?_; refine zp 4 20 ?_; refine zp 5 21 ?_; refine zp 7 23 ?_; refine zt 6 22 ?_; refine zp 8 24 ?_; refine zp 9 25 ?_; refine zt 10 26 ?_; refine zt 11 27 ?_
     refine one_ (i := 12) (N := some 28) #[true, true, true, true, true, true, true, true, true, true, true, true, true, false] rfl rfl (by kernel_rfl) (by decide) (fun K hK => ?_)
     refine goes_ Try.func132 (by kernel_rfl) rfl #[.slice A1 Y.f1.length c1, .agg #[.int .i64 at_, .int .i64 id]] (by rfl) rfl rfl zm ?_
     with_reducible refine (spec_l5May.calls A1 c1 Y.f1 at_ id _ _ (Kd.C_drew (Kd.C_below HK.out HB.out)) HA1.out HM.out).mono ?_
     rintro e ua ⟨rfl, hb⟩
     refine ⟨_, rfl, ?_⟩
     replace hb : Below wr.heap.size wr ua := below_step (below_drew (Below.refl _ _)) hb
     replace HB := Aside0.mk (show Below w.heap.size w ua from below_step HB.out hb)
     replace X0 := Aside0.mk (keepB hb X0.out)
     replace XV := Aside0.mk (keepB hb XV.out)
     replace HO := Aside0.mk (Kd.R_below HO.out hb)
     clear hb
     refine hK.out _ _ ⟨(blk_cell X0.out 3).trans rfl, pw_cell_below HB.out HQ.out, (blk_cell XV.out 0).trans rfl, (blk_cell XV.out 1).trans rfl⟩ (fun hHeld => ?_)
     clear hK K
     refine norm_ (a' := ?_) ?_ ?_
     rotate_left
     ·show Act.put _ (some 28) _ = _
      simp only [Act.put, List.setIfInBounds_toArray, List.set_cons_zero, List.set_cons_succ, i64_w, i32_w]
      rfl
     refine zp 13 29 ?_
     refine done_ (by kernel_rfl) ?_
     go_wp2_with fail
     go_roundg k1
     case measure => have := HK1.out; omega
     case rel => exact ⟨acc, wrap64 (i + 1), by first | rfl | rw [E9.out], H', ⟨by have := HK1.out; omega⟩, ⟨by have h_ := HI.out; have q_ := C1.out; rw [E9.out]; omega⟩, ⟨zr HO⟩, ⟨zq XV⟩, ⟨zb⟩⟩
    ·rw [if_pos rfl] at H
     by_cases c5 : acc.length < 8796093022208
     ·rw [if_pos c5] at H
      have H' := Aside0.mk H
      have LM := Aside0.mk c5
      clear H c5
      have cX0_0 : wr.cell? ⟨g, 0, none⟩ = some (.int .i64 a0_0) := (blk_cell X0.out 0).trans rfl
      have cX0_1 : wr.cell? ⟨g, 1, none⟩ = some (.int .i64 a0_1) := (blk_cell X0.out 1).trans rfl
      have cX0_2 : wr.cell? ⟨g, 2, none⟩ = some (.slice A2 l2.length c2) := (blk_cell X0.out 2).trans rfl
      have cX0_3 : wr.cell? ⟨g, 3, none⟩ = some (.slice (some ad) l3.length c3) := (blk_cell X0.out 3).trans rfl
      have lX0 : g < wr.heap.size := blk_lt X0.out
      have nX0 : g ≠ wr.heap.size := Nat.ne_of_lt (blk_lt X0.out)
      have cXV_0 : wr.cell? ⟨w.heap.size, 0, none⟩ = some (.int .i64 at_) := (blk_cell XV.out 0).trans rfl
      have cXV_1 : wr.cell? ⟨w.heap.size, 1, none⟩ = some (.int .i64 id) := (blk_cell XV.out 1).trans rfl
      have lXV : w.heap.size < wr.heap.size := blk_lt XV.out
      have nXV : w.heap.size ≠ wr.heap.size := Nat.ne_of_lt (blk_lt XV.out)
      go_wp2_with fail
      refine Calls.mono (spec_l6Row.at ⟨g, 0, none⟩ _ c3 l3 i _ ((blk_cell X0.out 3).trans rfl) (Kd.C_below HR3.out HB.out)) ?_
      rw [← HJ.out]
      rintro e w' ⟨rfl, rfl⟩
      go_upto_region 6 with fail
      clear cX0_0 cX0_1 cX0_2 cX0_3 lX0 nX0 cXV_0 cXV_1 lXV nXV
      refine start_ (n := 14) (S := fun W_ => W_.cell? ⟨g, 3, none⟩ = some (.slice (some ad) l3.length c3) ∧ W_.cell? ⟨(ad.add (j.toNat * 2)).block, (ad.add (j.toNat * 2)).off + 1, none⟩ = some (.slice A1 Y.f1.length c1) ∧ W_.cell? ⟨w.heap.size, 0, none⟩ = some (.int .i64 at_) ∧ W_.cell? ⟨w.heap.size, 1, none⟩ = some (.int .i64 id)) (ds := []) #[false, false, false, false, false, false, false, false, false, false, false, false, false, false] (by kernel_rfl) rfl rfl ⟨(blk_cell X0.out 3).trans rfl, pw_cell_below HB.out HQ.out, (blk_cell XV.out 0).trans rfl, (blk_cell XV.out 1).trans rfl⟩ (fun hHeld => ?_)
      refine zp 0 16 ?_; refine zp 1 17 ?_; refine zp 2 18 ?_; refine zp 3 19 ?_; refine zp 4 20 ?_; refine zp 5 21 ?_; refine zp 7 23 ?_; refine zt 6 22 ?_; refine zp 8 24 ?_; refine zp 9 25 ?_; refine zt 10 26 ?_; refine zt 11 27 ?_
      refine one_ (i := 12) (N := some 28) #[true, true, true, true, true, true, true, true, true, true, true, true, true, false] rfl rfl (by kernel_rfl) (by decide) (fun K hK => ?_)
      refine goes_ Try.func132 (by kernel_rfl) rfl #[.slice A1 Y.f1.length c1, .agg #[.int .i64 at_, .int .i64 id]] (by rfl) rfl rfl zm ?_
      with_reducible refine (spec_l5May.calls A1 c1 Y.f1 at_ id _ _ (Kd.C_drew (Kd.C_below HK.out HB.out)) HA1.out HM.out).mono ?_
      rintro e ua ⟨rfl, hb⟩
      refine ⟨_, rfl, ?_⟩
      replace hb : Below wr.heap.size wr ua := below_step (below_drew (Below.refl _ _)) hb
      replace HB := Aside0.mk (show Below w.heap.size w ua from below_step HB.out hb)
      replace X0 := Aside0.mk (keepB hb X0.out)
      replace XV := Aside0.mk (keepB hb XV.out)
      replace HO := Aside0.mk (Kd.R_below HO.out hb)
      clear hb
      refine hK.out _ _ ⟨(blk_cell X0.out 3).trans rfl, pw_cell_below HB.out HQ.out, (blk_cell XV.out 0).trans rfl, (blk_cell XV.out 1).trans rfl⟩ (fun hHeld => ?_)
      clear hK K
      refine norm_ (a' := ?_) ?_ ?_
      rotate_left
      ·show Act.put _ (some 28) _ = _
       simp only [Act.put, List.setIfInBounds_toArray, List.set_cons_zero, List.set_cons_succ, i64_w, i32_w]
       rfl
      refine zp 13 29 ?_
      refine done_ (by kernel_rfl) ?_
      go_wp2_with ((with_reducible refine gate_builtin (b := .append) (xs := #[.tmp 30, .tmp 32]) rfl ?_); at_builtin; refine Kd.R_append (Kd.int .i64) (w0 := w) w.heap.size rfl (.tmp 30) (.tmp 32) 61 2 (.int .i64 0) 8 rfl Try.underlying61 info2 rfl (by decide) (by omega) u5 acc i [.int .i64 i] (fun _ => True) (fun _ => False) rfl (by first | (go_simp; done) | (go_simp; rfl)) ?aP (fun _ hk => hk.elim) ?aF ?aO ?aB ?aS ?aL ?_; (case aP => exact rfl); (case aB => exact zb); (case aF => exact (fun _ _ => trivial)); (case aO => exact (zr HO)); (case aS => exact (below_size zb)); (case aL => have := LM.out; omega); intro v5_ w5 ho5 hb5 hg5 ha5; have XW := Aside0.mk (blk_grown (g := w.heap.size) (o := Obj.cells #[.int .i64 at_, .int .i64 id] 116) (zq XV) hg5 (Kd.R_ne HO.out XV.out (by decide))); clear HO XV HB; have HO := Aside0.mk ho5; have XV := XW; have HB := Aside0.mk hb5; clear ho5 hb5 hg5 ha5 XW)
      go_roundg k1
      case measure => have := HK1.out; omega
      case rel => exact ⟨acc ++ [i], wrap64 (i + 1), by first | rfl | rw [E9.out], H', ⟨by have := HK1.out; omega⟩, ⟨by have h_ := HI.out; have q_ := C1.out; rw [E9.out]; omega⟩, ⟨zr HO⟩, ⟨zq XV⟩, ⟨zb⟩⟩
     exact absurd H (by rw [if_neg c5]; simp)
   rw [if_neg c1] at H
   obtain rfl := Option.some.inj H
   have d1 : decide (i ≤ 31) = false := decide_eq_false c1
   go_wp2_with fail
   go_ret
   exact ⟨_, rfl, HO.out, HB.out⟩
end Go.Proofs.Ytonbnmaelepcbaa.P
