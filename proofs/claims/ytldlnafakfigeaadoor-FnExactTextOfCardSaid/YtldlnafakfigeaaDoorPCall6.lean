import Derived.Test.YtldlnafakfigeaaDoorZz
import Derived.Test.YtldlnafakfigeaaDoorP0
import Derived.Test.YtldlnafakfigeaaDoorPCall5
import Derived.Test.YtldlnafakfigeaaDoorPDall0
import Derived.Test.YtldlnafakfigeaaDoorWRepsOne
import Derived.Test.YtldlnafakfigeaaDoorLv
import Derived.Test.YtldlnafakfigeaaDoorLv
import Derived.Test.YtldlnafakfigeaaDoorLb
import Derived.Shelf.Abstract
import Derived.Test.YtldlnafakfigeaaDoorLb
namespace Go.Proofs.YtldlnafakfigeaaDoor.P
open Go.RowKit Go.Proofs.YtldlnafakfigeaaDoorW.PrintWords Go.Proofs.YtldlnafakfigeaaDoorW.PrintLast Go.Proofs.YtldlnafakfigeaaDoorW.PrintMore
attribute [local go_sem] max2_int min2_int max_two min_two max_three min_three max_four min_four   -- for this text's walks alone
set_option linter.unusedVariables false
set_option linter.unusedSimpArgs false
set_option maxHeartbeats 8000000 in
set_option maxRecDepth 100000 in
theorem impl_undosFault.calls (k : Nat) (A0 : Option Addr) (c0 : Nat) (l0 : List (S81)) (r : Int) (w : World) (hr0 : Kd.C k81 w A0 l0.length l0) (hc0 : l0.length ≤ c0) (h : impl_undosFault.f k l0 = some r) :
 Calls Tryd.prog 33 #[.slice A0 l0.length c0] w fun e w' => e = .returned (.int .i64 r) ∧ Below w.heap.size w w' := by
 have hu81 := Tryd.underlying81
 have HR0 := Aside0.mk hr0
 have HC0 := Aside0.mk hc0
 clear hr0 hc0
 have HB := Aside0.mk (Below.refl w.heap.size w)
 have H : (if (l0.length : Int) > 60 then (some 2) else (impl_undosFault.l0 k l0 (l0.length : Int) 0)) = some r := h
 clear h
 by_cases c2 : (l0.length : Int) > 60
 ·rw [if_pos c2] at H
  have c2b0 : decide (60 < (l0.length : Int)) = true := decide_eq_true c2
  have c2b1 : decide (60 < l0.length) = true := decide_eq_true (by omega)
  clear c2
  obtain rfl := Option.some.inj H
  go_enter Tryd.func33, Tryd.ntmps33
  go_wp2
  go_ret
  exact ⟨ze, zb⟩
 rw [if_neg c2] at H
 have c2b0 : decide (60 < (l0.length : Int)) = false := decide_eq_false c2
 have c2b1 : decide (60 < l0.length) = false := decide_eq_false (by omega)
 clear c2
 have H' := Aside0.mk H
 clear H
 go_enter Tryd.func33, Tryd.ntmps33
 go_wp2
 go_loopg [10] k (fun kq v10 w' => ∃ (x10_1 : Int), v10 = .int .i64 x10_1 ∧ Aside0 (impl_undosFault.l0 kq l0 (l0.length : Int) x10_1 = some r) ∧ Aside0 (kq ≤ k) ∧ Aside0 (Below w.heap.size w w'))
 case atStart => exact ⟨(0), zs, H', ⟨Nat.le_refl _⟩, ⟨zb⟩⟩
 case round =>
  clear H'
  try clear c2
  try clear c2b0
  try clear c2b1
  try clear p2
  obtain ⟨x10_1, rfl, HA, HK1, HB⟩ := hrel
  cases gk with
  | zero => exact absurd HA.out (by simp [impl_undosFault.l0])
  | succ k1 =>
   have H := HA.out
   clear HA
   simp only [impl_undosFault.l0] at H
   by_cases c3 : x10_1 < (l0.length : Int)
   ·rw [if_pos c3] at H
    have c3b0 : decide (x10_1 < (l0.length : Int)) = true := decide_eq_true c3
    clear c3
    by_cases c4 : 0 ≤ x10_1
    ·rw [if_pos c4] at H
     have c4b0 : decide (0 ≤ x10_1) = true := decide_eq_true c4
     clear c4
     by_cases c5 : x10_1 < (l0.length : Int)
     ·rw [if_pos c5] at H
      have c5b0 : decide (x10_1 < (l0.length : Int)) = true := decide_eq_true c5
      clear c5
      have HC6 := Aside0.mk H
      clear H
      have p229 : 0 ≤ (x10_1 : Int) := of_decide_eq_true za
      have q28 : x10_1 < (l0.length : Int) := of_decide_eq_true za
      obtain ⟨ad28, e229, hx28_0, hx28_1, hx28_2, hx28_3⟩ := at_T81 (Kd.C_below HR0.out HB.out) x10_1 p229 q28
      cases e229
      replace p229 := eq_true p229
      replace q28 := eq_true q28
      go_upto_region 6 with (first | ((with_reducible refine gate_dst (N := 4) rfl ?_); refine zE 4 81 #[.int .i64 0, .bool false, .bool false, .int .i64 0] ?_; intro gb27 hg w7 hbox hb; have BK27 := Aside0.mk hbox; have GW27 := Aside0.mk (zh hg : w.heap.size ≤ gb27); have GE27 := GW27; replace HB := Aside0.mk (below_step zb hb); clear hb hbox hg; obtain ⟨z8_0, z8_1, z8_2, z8_3, j8_0, j8_1, j8_2, j8_3⟩ := Go.Proofs.YtldlnafakfigeaaDoor.Lv.blks4 BK27.out))
      (try simp only [Act.put, List.setIfInBounds_toArray, List.set_cons_zero, List.set_cons_succ])
      go_cut [14] (fun v14 wc => ∃ (kq : Nat) (x14_5 : Bool), v14 = .bool x14_5 ∧ Aside0 (impl_undosFault.j1 kq l0 (l0.length : Int) x10_1 x14_5 ((rd_T81 l0 x10_1).f0) ((rd_T81 l0 x10_1).f1) ((rd_T81 l0 x10_1).f2) ((rd_T81 l0 x10_1).f3) = some r) ∧ Aside0 (kq ≤ k1) ∧ Aside0 (wc.heap[gb27]? = some (.cells #[.int .i64 ((rd_T81 l0 x10_1).f0), .bool ((rd_T81 l0 x10_1).f1), .bool ((rd_T81 l0 x10_1).f2), .int .i64 ((rd_T81 l0 x10_1).f3)] 81 (0, 0))) ∧ Aside0 (Below w.heap.size w wc))
      case first =>
       have H := HC6.out
       clear HC6
       replace H := Option.bind_eq_some_iff.mp H
       obtain ⟨t30, A90, H⟩ := H
       replace H : (if t30 = true then ((impl_isValue.f ((rd_T81 l0 x10_1).f3)).bind fun t29 => (impl_undosFault.j1 k1 l0 (l0.length : Int) x10_1 (!t29) ((rd_T81 l0 x10_1).f0) ((rd_T81 l0 x10_1).f1) ((rd_T81 l0 x10_1).f2) ((rd_T81 l0 x10_1).f3))) else (impl_undosFault.j1 k1 l0 (l0.length : Int) x10_1 true ((rd_T81 l0 x10_1).f0) ((rd_T81 l0 x10_1).f1) ((rd_T81 l0 x10_1).f2) ((rd_T81 l0 x10_1).f3))) = some r := H
       have A9 := Aside0.mk A90
       clear A90
       by_cases c10 : t30 = true
       ·subst c10
        have H1 : ((impl_isValue.f ((rd_T81 l0 x10_1).f3)).bind fun t29 => (impl_undosFault.j1 k1 l0 (l0.length : Int) x10_1 (!t29) ((rd_T81 l0 x10_1).f0) ((rd_T81 l0 x10_1).f1) ((rd_T81 l0 x10_1).f2) ((rd_T81 l0 x10_1).f3))) = some r := by rw [if_pos rfl] at H; exact H
        clear H
        have H := H1
        clear H1
        replace H := Option.bind_eq_some_iff.mp H
        obtain ⟨t29, A31, H⟩ := H
        replace H : (impl_undosFault.j1 k1 l0 (l0.length : Int) x10_1 (!t29) ((rd_T81 l0 x10_1).f0) ((rd_T81 l0 x10_1).f1) ((rd_T81 l0 x10_1).f2) ((rd_T81 l0 x10_1).f3)) = some r := H
        have A11 := Aside0.mk A31
        clear A31
        have H' := Aside0.mk H
        clear H
        obtain ⟨z12_0, z12_1, z12_2, z12_3, j12_0, j12_1, j12_2, j12_3⟩ := Go.Proofs.YtldlnafakfigeaaDoor.Lv.blks4 BK27.out
        go_wp2_with (first | ((with_reducible refine gate_callee (f := 34) rfl ?_); refine zj 17 Tryd.func34 #[.int .i64 ((rd_T81 l0 x10_1).f0)] ?_; (with_reducible refine (impl_isKey.calls ((rd_T81 l0 x10_1).f0) true _ A9.out).mono ?_); rintro e w' ⟨rfl, ⟨nd, rfl⟩⟩; refine ⟨_, rfl, ?_⟩) | (go_at_call 59; (with_reducible refine (impl_isValue.calls ((rd_T81 l0 x10_1).f3) t29 _ A11.out).mono ?_); rintro e w' ⟨rfl, ⟨nd, rfl⟩⟩))
        go_meet
        case rel => exact ⟨_, (!t29), zs, H', ⟨by have := HK1.out; first | omega | exact Nat.le_refl _⟩, ⟨by refine zQ ?_; refine blk_put (cs := #[.int .i64 ((rd_T81 l0 x10_1).f0), .bool ((rd_T81 l0 x10_1).f1), .bool ((rd_T81 l0 x10_1).f2), .int .i64 0]) ?_ 3 _ rfl; refine zQ ?_; refine blk_put (cs := #[.int .i64 ((rd_T81 l0 x10_1).f0), .bool ((rd_T81 l0 x10_1).f1), .bool false, .int .i64 0]) ?_ 2 _ rfl; refine zQ ?_; refine blk_put (cs := #[.int .i64 ((rd_T81 l0 x10_1).f0), .bool false, .bool false, .int .i64 0]) ?_ 1 _ rfl; refine zQ ?_; refine blk_put (cs := #[.int .i64 0, .bool false, .bool false, .int .i64 0]) ?_ 0 _ rfl; refine zQ ?_; exact BK27.out⟩, ⟨zb⟩⟩
       replace c10 := Bool.eq_false_iff.mpr c10
       subst c10
       have H1 : (impl_undosFault.j1 k1 l0 (l0.length : Int) x10_1 true ((rd_T81 l0 x10_1).f0) ((rd_T81 l0 x10_1).f1) ((rd_T81 l0 x10_1).f2) ((rd_T81 l0 x10_1).f3)) = some r := by rw [if_neg (show ¬ (false = true) by decide)] at H; exact H
       clear H
       have H := H1
       clear H1
       have H' := Aside0.mk H
       clear H
       obtain ⟨z13_0, z13_1, z13_2, z13_3, j13_0, j13_1, j13_2, j13_3⟩ := Go.Proofs.YtldlnafakfigeaaDoor.Lv.blks4 BK27.out
       go_wp2_with (first | ((with_reducible refine gate_callee (f := 34) rfl ?_); refine zj 17 Tryd.func34 #[.int .i64 ((rd_T81 l0 x10_1).f0)] ?_; (with_reducible refine (impl_isKey.calls ((rd_T81 l0 x10_1).f0) false _ A9.out).mono ?_); rintro e w' ⟨rfl, ⟨nd, rfl⟩⟩; refine ⟨_, rfl, ?_⟩))
       go_meet
       case rel => exact ⟨_, (true), zs, H', ⟨by have := HK1.out; first | omega | exact Nat.le_refl _⟩, ⟨by refine zQ ?_; refine blk_put (cs := #[.int .i64 ((rd_T81 l0 x10_1).f0), .bool ((rd_T81 l0 x10_1).f1), .bool ((rd_T81 l0 x10_1).f2), .int .i64 0]) ?_ 3 _ rfl; refine zQ ?_; refine blk_put (cs := #[.int .i64 ((rd_T81 l0 x10_1).f0), .bool ((rd_T81 l0 x10_1).f1), .bool false, .int .i64 0]) ?_ 2 _ rfl; refine zQ ?_; refine blk_put (cs := #[.int .i64 ((rd_T81 l0 x10_1).f0), .bool false, .bool false, .int .i64 0]) ?_ 1 _ rfl; refine zQ ?_; refine blk_put (cs := #[.int .i64 0, .bool false, .bool false, .int .i64 0]) ?_ 0 _ rfl; refine zQ ?_; exact BK27.out⟩, ⟨zb⟩⟩
      case rest =>
       clear HC6
       try clear c1
       try clear c2
       try clear c2b0
       try clear c2b1
       try clear p2
       try clear q2
       try clear hx2
       try clear c3
       try clear c3b0
       try clear c4
       try clear c4b0
       try clear c5
       try clear c5b0
       try clear c10
       try clear z12_0 z12_1 z12_2 z12_3
       try clear z13_0 z13_1 z13_2 z13_3
       try clear z8_0 z8_1 z8_2 z8_3
       try clear j12_0 j12_1 j12_2 j12_3
       try clear j13_0 j13_1 j13_2 j13_3
       try clear j8_0 j8_1 j8_2 j8_3
       try clear hx28_0
       try clear hx28_1
       try clear hx28_2
       try clear hx28_3
       try clear p2
       try clear p229
       try clear q28
       obtain ⟨kq, x14_5, rfl, HA, HJ5, BK27, HB⟩ := hcut
       cases kq with
       | zero => exact absurd HA.out (by simp [impl_undosFault.j1])
       | succ kj5 =>
        have H := HA.out
        clear HA
        simp only [impl_undosFault.j1] at H
        by_cases c14 : x14_5 = true
        ·subst c14
         have H1 : (some 3) = some r := by rw [if_pos rfl] at H; exact H
         clear H
         have H := H1
         clear H1
         obtain rfl := Option.some.inj H
         go_wp2
         go_ret
         exact ⟨ze, zb⟩
        replace c14 := Bool.eq_false_iff.mpr c14
        subst c14
        have H1 : (if ((rd_T81 l0 x10_1).f1) = true then (impl_undosFault.j2 kj5 l0 (l0.length : Int) x10_1 false ((rd_T81 l0 x10_1).f0) ((rd_T81 l0 x10_1).f1) ((rd_T81 l0 x10_1).f2) ((rd_T81 l0 x10_1).f3)) else (if ((rd_T81 l0 x10_1).f2) = true then (impl_undosFault.j2 kj5 l0 (l0.length : Int) x10_1 true ((rd_T81 l0 x10_1).f0) ((rd_T81 l0 x10_1).f1) ((rd_T81 l0 x10_1).f2) ((rd_T81 l0 x10_1).f3)) else (impl_undosFault.j2 kj5 l0 (l0.length : Int) x10_1 (((rd_T81 l0 x10_1).f3) != 0) ((rd_T81 l0 x10_1).f0) ((rd_T81 l0 x10_1).f1) ((rd_T81 l0 x10_1).f2) ((rd_T81 l0 x10_1).f3)))) = some r := by rw [if_neg (show ¬ (false = true) by decide)] at H; exact H
        clear H
        have H := H1
        clear H1
        have HC15 := Aside0.mk H
        clear H
        go_upto_region 8 with (fail)
        go_cut [25] (fun v25 wc => ∃ (kq : Nat) (x25_14 : Bool), v25 = .bool x25_14 ∧ Aside0 (impl_undosFault.j2 kq l0 (l0.length : Int) x10_1 x25_14 ((rd_T81 l0 x10_1).f0) ((rd_T81 l0 x10_1).f1) ((rd_T81 l0 x10_1).f2) ((rd_T81 l0 x10_1).f3) = some r) ∧ Aside0 (kq ≤ kj5) ∧ Aside0 (wc.heap[gb27]? = some (.cells #[.int .i64 ((rd_T81 l0 x10_1).f0), .bool ((rd_T81 l0 x10_1).f1), .bool ((rd_T81 l0 x10_1).f2), .int .i64 ((rd_T81 l0 x10_1).f3)] 81 (0, 0))) ∧ Aside0 (Below w.heap.size w wc))
        case first =>
         have H := HC15.out
         clear HC15
         by_cases c16 : ((rd_T81 l0 x10_1).f1) = true
         ·rw [if_pos c16] at H
          have c16b0 : ((rd_T81 l0 x10_1).f1) = true := c16
          clear c16
          (first | rw [c16b0] | (simp only [i64_w, i32_w]; rw [c16b0]) | skip)
          have H' := Aside0.mk H
          clear H
          obtain ⟨z17_0, z17_1, z17_2, z17_3, j17_0, j17_1, j17_2, j17_3⟩ := Go.Proofs.YtldlnafakfigeaaDoor.Lv.blks4 BK27.out
          go_wp2
          go_meet
          case rel => exact ⟨_, (false), zs, H', ⟨by have := HK1.out; have := HJ5.out; first | omega | exact Nat.le_refl _⟩, ⟨zq BK27⟩, ⟨zb⟩⟩
         rw [if_neg c16] at H
         have c16b0 : ((rd_T81 l0 x10_1).f1) = false := by simpa using c16
         clear c16
         (first | rw [c16b0] | (simp only [i64_w, i32_w]; rw [c16b0]) | skip)
         by_cases c18 : ((rd_T81 l0 x10_1).f2) = true
         ·rw [if_pos c18] at H
          have c18b0 : ((rd_T81 l0 x10_1).f2) = true := c18
          clear c18
          have H' := Aside0.mk H
          clear H
          obtain ⟨z19_0, z19_1, z19_2, z19_3, j19_0, j19_1, j19_2, j19_3⟩ := Go.Proofs.YtldlnafakfigeaaDoor.Lv.blks4 BK27.out
          go_wp2
          go_meet
          case rel => exact ⟨_, (true), zs, H', ⟨by have := HK1.out; have := HJ5.out; first | omega | exact Nat.le_refl _⟩, ⟨zq BK27⟩, ⟨zb⟩⟩
         rw [if_neg c18] at H
         have c18b0 : ((rd_T81 l0 x10_1).f2) = false := by simpa using c18
         clear c18
         have H' := Aside0.mk H
         clear H
         obtain ⟨z20_0, z20_1, z20_2, z20_3, j20_0, j20_1, j20_2, j20_3⟩ := Go.Proofs.YtldlnafakfigeaaDoor.Lv.blks4 BK27.out
         go_wp2
         go_meet
         case rel => exact ⟨_, ((((rd_T81 l0 x10_1).f3) != 0)), zs, H', ⟨by have := HK1.out; have := HJ5.out; first | omega | exact Nat.le_refl _⟩, ⟨zq BK27⟩, ⟨zb⟩⟩
        case rest =>
         clear HC15
         try clear c1
         try clear c2
         try clear c2b0
         try clear c2b1
         try clear p2
         try clear q2
         try clear hx2
         try clear c3
         try clear c3b0
         try clear c4
         try clear c4b0
         try clear c5
         try clear c5b0
         try clear c10
         try clear c14
         try clear c16
         try clear c16b0
         try clear c18
         try clear c18b0
         try clear z12_0 z12_1 z12_2 z12_3
         try clear z13_0 z13_1 z13_2 z13_3
         try clear z17_0 z17_1 z17_2 z17_3
         try clear z19_0 z19_1 z19_2 z19_3
         try clear z20_0 z20_1 z20_2 z20_3
         try clear z8_0 z8_1 z8_2 z8_3
         try clear j12_0 j12_1 j12_2 j12_3
         try clear j13_0 j13_1 j13_2 j13_3
         try clear j17_0 j17_1 j17_2 j17_3
         try clear j19_0 j19_1 j19_2 j19_3
         try clear j20_0 j20_1 j20_2 j20_3
         try clear j8_0 j8_1 j8_2 j8_3
         try clear hx28_0
         try clear hx28_1
         try clear hx28_2
         try clear hx28_3
         try clear p2
         try clear p229
         try clear q2
         try clear q28
         obtain ⟨kq, x25_14, rfl, HA, HJ14, BK27, HB⟩ := hcut
         cases kq with
         | zero => exact absurd HA.out (by simp [impl_undosFault.j2])
         | succ kj14 =>
          have H := HA.out
          clear HA
          simp only [impl_undosFault.j2] at H
          by_cases c21 : x25_14 = true
          ·subst c21
           have H1 : (some 1) = some r := by rw [if_pos rfl] at H; exact H
           clear H
           have H := H1
           clear H1
           obtain rfl := Option.some.inj H
           go_wp2
           go_ret
           exact ⟨ze, zb⟩
          replace c21 := Bool.eq_false_iff.mpr c21
          subst c21
          have H1 : (if ((rd_T81 l0 x10_1).f2) = true then (if ((rd_T81 l0 x10_1).f3) = 0 then (impl_undosFault.l0 kj14 l0 (l0.length : Int) (wrap64 (x10_1 + 1))) else (some 1)) else (impl_undosFault.l0 kj14 l0 (l0.length : Int) (wrap64 (x10_1 + 1)))) = some r := by rw [if_neg (show ¬ (false = true) by decide)] at H; exact H
          clear H
          have H := H1
          clear H1
          by_cases c22 : ((rd_T81 l0 x10_1).f2) = true
          ·rw [if_pos c22] at H
           have c22b0 : ((rd_T81 l0 x10_1).f2) = true := c22
           clear c22
           by_cases c23 : ((rd_T81 l0 x10_1).f3) = 0
           ·rw [if_pos c23] at H
            have c23b0 : (((rd_T81 l0 x10_1).f3) == 0) = true := beq_iff_eq.mpr c23
            have c23b1 : (((rd_T81 l0 x10_1).f3) != 0) = false := bne_eq_false_iff_eq.mpr c23
            clear c23
            have H' := Aside0.mk H
            clear H
            obtain ⟨z24_0, z24_1, z24_2, z24_3, j24_0, j24_1, j24_2, j24_3⟩ := Go.Proofs.YtldlnafakfigeaaDoor.Lv.blks4 BK27.out
            go_wp2
            go_roundg kj14
            case measure => have := HK1.out; have := HJ5.out; have := HJ14.out; omega
            case rel => exact ⟨(wrap64 (x10_1 + 1)), zs, H', ⟨by have := HK1.out; have := HJ5.out; have := HJ14.out; omega⟩, ⟨zb⟩⟩
           rw [if_neg c23] at H
           have c23b0 : (((rd_T81 l0 x10_1).f3) == 0) = false := beq_eq_false_iff_ne.mpr c23
           have c23b1 : (((rd_T81 l0 x10_1).f3) != 0) = true := bne_iff_ne.mpr c23
           obtain rfl := Option.some.inj H
           obtain ⟨z25_0, z25_1, z25_2, z25_3, j25_0, j25_1, j25_2, j25_3⟩ := Go.Proofs.YtldlnafakfigeaaDoor.Lv.blks4 BK27.out
           go_wp2
           go_ret
           exact ⟨ze, zb⟩
          rw [if_neg c22] at H
          have c22b0 : ((rd_T81 l0 x10_1).f2) = false := by simpa using c22
          clear c22
          have H' := Aside0.mk H
          clear H
          obtain ⟨z26_0, z26_1, z26_2, z26_3, j26_0, j26_1, j26_2, j26_3⟩ := Go.Proofs.YtldlnafakfigeaaDoor.Lv.blks4 BK27.out
          go_wp2
          go_roundg kj14
          case measure => have := HK1.out; have := HJ5.out; have := HJ14.out; omega
          case rel => exact ⟨(wrap64 (x10_1 + 1)), zs, H', ⟨by have := HK1.out; have := HJ5.out; have := HJ14.out; omega⟩, ⟨zb⟩⟩
     rw [if_neg c5] at H
     exact absurd H (by simp)
    rw [if_neg c4] at H
    exact absurd H (by simp)
   rw [if_neg c3] at H
   have c3b0 : decide (x10_1 < (l0.length : Int)) = false := decide_eq_false c3
   clear c3
   obtain rfl := Option.some.inj H
   go_wp2
   go_ret
   exact ⟨ze, zb⟩
set_option maxHeartbeats 40000000 in
set_option maxRecDepth 100000 in
theorem impl_ChainFault.calls (k : Nat) (A0 : Option Addr) (c0 : Nat) (l0 : List (S51)) (r : Int) (w : World) (hr0 : Kd.C k51 w A0 l0.length l0) (hc0 : l0.length ≤ c0) (h : impl_ChainFault.f k l0 = some r) :
 Calls Tryd.prog 35 #[.slice A0 l0.length c0] w fun e w' => e = .returned (.int .i64 r) ∧ Below w.heap.size w w' := by
 have hu51 := Tryd.underlying51
 have HR0 := Aside0.mk hr0
 have HC0 := Aside0.mk hc0
 clear hr0 hc0
 have HB := Aside0.mk (Below.refl w.heap.size w)
 have H : (if (l0.length : Int) > 12 then (some 2) else (impl_ChainFault.l0 k l0 l0 (l0.length : Int) 0)) = some r := h
 clear h
 by_cases c2 : (l0.length : Int) > 12
 ·rw [if_pos c2] at H
  have c2b0 : decide (12 < (l0.length : Int)) = true := decide_eq_true c2
  have c2b1 : decide (12 < l0.length) = true := decide_eq_true (by omega)
  clear c2
  obtain rfl := Option.some.inj H
  go_enter Tryd.func35, Tryd.ntmps35
  go_wp2
  repeat (go_quiet (fail); try go_wp2)
  go_ret
  exact ⟨ze, zb⟩
 rw [if_neg c2] at H
 have c2b0 : decide (12 < (l0.length : Int)) = false := decide_eq_false c2
 have c2b1 : decide (12 < l0.length) = false := decide_eq_false (by omega)
 clear c2
 have H' := Aside0.mk H
 clear H
 go_enter Tryd.func35, Tryd.ntmps35
 go_wp2
 repeat (go_quiet (fail); try go_wp2)
 go_loopg [10] k (fun kq v10 w' => ∃ (x10_1 : Int), v10 = .int .i64 x10_1 ∧ Aside0 (impl_ChainFault.l0 kq l0 l0 (l0.length : Int) x10_1 = some r) ∧ Aside0 (kq ≤ k) ∧ Aside0 (Below w.heap.size w w'))
 case atStart => exact ⟨(0), zs, H', ⟨Nat.le_refl _⟩, ⟨zb⟩⟩
 case round =>
  clear H'
  try clear c2
  try clear c2b0
  try clear c2b1
  try clear p2
  obtain ⟨x10_1, rfl, HA, HK1, HB⟩ := hrel
  cases gk with
  | zero => exact absurd HA.out (by simp [impl_ChainFault.l0])
  | succ k1 =>
   have H := HA.out
   clear HA
   simp only [impl_ChainFault.l0] at H
   by_cases c3 : x10_1 < (l0.length : Int)
   ·rw [if_pos c3] at H
    have c3b0 : decide (x10_1 < (l0.length : Int)) = true := decide_eq_true c3
    clear c3
    by_cases c4 : 0 ≤ x10_1
    ·rw [if_pos c4] at H
     have c4b0 : decide (0 ≤ x10_1) = true := decide_eq_true c4
     clear c4
     by_cases c5 : x10_1 < (l0.length : Int)
     ·rw [if_pos c5] at H
      have c5b0 : decide (x10_1 < (l0.length : Int)) = true := decide_eq_true c5
      clear c5
      have HC6 := Aside0.mk H
      clear H
      have p233 : 0 ≤ (x10_1 : Int) := of_decide_eq_true za
      have q38 : x10_1 < (l0.length : Int) := of_decide_eq_true za
      obtain ⟨ad38, e233, hx38_0, hx38_1, hx38_2, hx38_3⟩ := at_T51 (Kd.C_below HR0.out HB.out) x10_1 p233 q38
      cases e233
      replace p233 := eq_true p233
      replace q38 := eq_true q38
      go_upto_region 6 with (first | ((with_reducible refine gate_dst (N := 4) rfl ?_); refine zE 4 51 #[.int .i64 0, .int .i64 0, .bool false, .int .i64 0] ?_; intro gb36 hg w7 hbox hb; have BK36 := Aside0.mk hbox; have GW36 := Aside0.mk (zh hg : w.heap.size ≤ gb36); have GE36 := GW36; replace HB := Aside0.mk (below_step zb hb); clear hb hbox hg; obtain ⟨z8_0, z8_1, z8_2, z8_3, j8_0, j8_1, j8_2, j8_3⟩ := Go.Proofs.YtldlnafakfigeaaDoor.Lv.blks4 BK36.out))
      repeat (go_quiet (first | ((with_reducible refine gate_dst (N := 4) rfl ?_); refine zE 4 51 #[.int .i64 0, .int .i64 0, .bool false, .int .i64 0] ?_; intro gb36 hg w7 hbox hb; have BK36 := Aside0.mk hbox; have GW36 := Aside0.mk (zh hg : w.heap.size ≤ gb36); have GE36 := GW36; replace HB := Aside0.mk (below_step zb hb); clear hb hbox hg; obtain ⟨z8_0, z8_1, z8_2, z8_3, j8_0, j8_1, j8_2, j8_3⟩ := Go.Proofs.YtldlnafakfigeaaDoor.Lv.blks4 BK36.out)); go_upto_region 6 with (first | ((with_reducible refine gate_dst (N := 4) rfl ?_); refine zE 4 51 #[.int .i64 0, .int .i64 0, .bool false, .int .i64 0] ?_; intro gb36 hg w7 hbox hb; have BK36 := Aside0.mk hbox; have GW36 := Aside0.mk (zh hg : w.heap.size ≤ gb36); have GE36 := GW36; replace HB := Aside0.mk (below_step zb hb); clear hb hbox hg; obtain ⟨z8_0, z8_1, z8_2, z8_3, j8_0, j8_1, j8_2, j8_3⟩ := Go.Proofs.YtldlnafakfigeaaDoor.Lv.blks4 BK36.out)))
      (try simp only [Act.put, List.setIfInBounds_toArray, List.set_cons_zero, List.set_cons_succ])
      go_cut [15] (fun v15 wc => ∃ (kq : Nat) (x15_5 : Bool), v15 = .bool x15_5 ∧ Aside0 (impl_ChainFault.j1 kq l0 x10_1 l0 (l0.length : Int) x10_1 x15_5 ((rd_T51 l0 x10_1).f0) ((rd_T51 l0 x10_1).f1) ((rd_T51 l0 x10_1).f2) ((rd_T51 l0 x10_1).f3) = some r) ∧ Aside0 (kq ≤ k1) ∧ Aside0 (wc.heap[gb36]? = some (.cells #[.int .i64 ((rd_T51 l0 x10_1).f0), .int .i64 ((rd_T51 l0 x10_1).f1), .bool ((rd_T51 l0 x10_1).f2), .int .i64 ((rd_T51 l0 x10_1).f3)] 51 (0, 0))) ∧ Aside0 (Below w.heap.size w wc))
      case first =>
       have H := HC6.out
       clear HC6
       replace H := Option.bind_eq_some_iff.mp H
       obtain ⟨t42, A90, H⟩ := H
       replace H : (if t42 = true then ((impl_isLsn.f ((rd_T51 l0 x10_1).f1)).bind fun t41 => (if t41 = true then ((impl_isValue.f ((rd_T51 l0 x10_1).f3)).bind fun t40 => (impl_ChainFault.j1 k1 l0 x10_1 l0 (l0.length : Int) x10_1 (!t40) ((rd_T51 l0 x10_1).f0) ((rd_T51 l0 x10_1).f1) ((rd_T51 l0 x10_1).f2) ((rd_T51 l0 x10_1).f3))) else (impl_ChainFault.j1 k1 l0 x10_1 l0 (l0.length : Int) x10_1 true ((rd_T51 l0 x10_1).f0) ((rd_T51 l0 x10_1).f1) ((rd_T51 l0 x10_1).f2) ((rd_T51 l0 x10_1).f3)))) else (impl_ChainFault.j1 k1 l0 x10_1 l0 (l0.length : Int) x10_1 true ((rd_T51 l0 x10_1).f0) ((rd_T51 l0 x10_1).f1) ((rd_T51 l0 x10_1).f2) ((rd_T51 l0 x10_1).f3))) = some r := H
       have A9 := Aside0.mk A90
       clear A90
       by_cases c10 : t42 = true
       ·subst c10
        have H1 : ((impl_isLsn.f ((rd_T51 l0 x10_1).f1)).bind fun t41 => (if t41 = true then ((impl_isValue.f ((rd_T51 l0 x10_1).f3)).bind fun t40 => (impl_ChainFault.j1 k1 l0 x10_1 l0 (l0.length : Int) x10_1 (!t40) ((rd_T51 l0 x10_1).f0) ((rd_T51 l0 x10_1).f1) ((rd_T51 l0 x10_1).f2) ((rd_T51 l0 x10_1).f3))) else (impl_ChainFault.j1 k1 l0 x10_1 l0 (l0.length : Int) x10_1 true ((rd_T51 l0 x10_1).f0) ((rd_T51 l0 x10_1).f1) ((rd_T51 l0 x10_1).f2) ((rd_T51 l0 x10_1).f3)))) = some r := by rw [if_pos rfl] at H; exact H
        clear H
        have H := H1
        clear H1
        replace H := Option.bind_eq_some_iff.mp H
        obtain ⟨t41, A43, H⟩ := H
        replace H : (if t41 = true then ((impl_isValue.f ((rd_T51 l0 x10_1).f3)).bind fun t40 => (impl_ChainFault.j1 k1 l0 x10_1 l0 (l0.length : Int) x10_1 (!t40) ((rd_T51 l0 x10_1).f0) ((rd_T51 l0 x10_1).f1) ((rd_T51 l0 x10_1).f2) ((rd_T51 l0 x10_1).f3))) else (impl_ChainFault.j1 k1 l0 x10_1 l0 (l0.length : Int) x10_1 true ((rd_T51 l0 x10_1).f0) ((rd_T51 l0 x10_1).f1) ((rd_T51 l0 x10_1).f2) ((rd_T51 l0 x10_1).f3))) = some r := H
        have A11 := Aside0.mk A43
        clear A43
        by_cases c12 : t41 = true
        ·subst c12
         have H1 : ((impl_isValue.f ((rd_T51 l0 x10_1).f3)).bind fun t40 => (impl_ChainFault.j1 k1 l0 x10_1 l0 (l0.length : Int) x10_1 (!t40) ((rd_T51 l0 x10_1).f0) ((rd_T51 l0 x10_1).f1) ((rd_T51 l0 x10_1).f2) ((rd_T51 l0 x10_1).f3))) = some r := by rw [if_pos rfl] at H; exact H
         clear H
         have H := H1
         clear H1
         replace H := Option.bind_eq_some_iff.mp H
         obtain ⟨t40, A44, H⟩ := H
         replace H : (impl_ChainFault.j1 k1 l0 x10_1 l0 (l0.length : Int) x10_1 (!t40) ((rd_T51 l0 x10_1).f0) ((rd_T51 l0 x10_1).f1) ((rd_T51 l0 x10_1).f2) ((rd_T51 l0 x10_1).f3)) = some r := H
         have A13 := Aside0.mk A44
         clear A44
         have H' := Aside0.mk H
         clear H
         obtain ⟨z14_0, z14_1, z14_2, z14_3, j14_0, j14_1, j14_2, j14_3⟩ := Go.Proofs.YtldlnafakfigeaaDoor.Lv.blks4 BK36.out
         go_wp2_with (first | (go_at_call 30; (with_reducible refine (impl_isTxn.calls ((rd_T51 l0 x10_1).f0) true _ A9.out).mono ?_); rintro e w' ⟨rfl, ⟨nd, rfl⟩⟩; (try first | exact ⟨rfl, _, World.drewN_drewN _ _ _⟩ | exact ⟨rfl, _, Eq.trans (World.drewN_drewN _ _ _) (congrArg (World.drewN _) (Nat.add_assoc _ _ _))⟩)) | (go_at_call 31; (with_reducible refine (impl_isLsn.calls ((rd_T51 l0 x10_1).f1) true _ A11.out).mono ?_); rintro e w' ⟨rfl, ⟨nd, rfl⟩⟩; (try first | exact ⟨rfl, _, World.drewN_drewN _ _ _⟩ | exact ⟨rfl, _, Eq.trans (World.drewN_drewN _ _ _) (congrArg (World.drewN _) (Nat.add_assoc _ _ _))⟩)) | (go_at_call 59; (with_reducible refine (impl_isValue.calls ((rd_T51 l0 x10_1).f3) t40 _ A13.out).mono ?_); rintro e w' ⟨rfl, ⟨nd, rfl⟩⟩; (try first | exact ⟨rfl, _, World.drewN_drewN _ _ _⟩ | exact ⟨rfl, _, Eq.trans (World.drewN_drewN _ _ _) (congrArg (World.drewN _) (Nat.add_assoc _ _ _))⟩)))
         repeat (go_quiet (first | (go_at_call 30; (with_reducible refine (impl_isTxn.calls ((rd_T51 l0 x10_1).f0) true _ A9.out).mono ?_); rintro e w' ⟨rfl, ⟨nd, rfl⟩⟩; (try first | exact ⟨rfl, _, World.drewN_drewN _ _ _⟩ | exact ⟨rfl, _, Eq.trans (World.drewN_drewN _ _ _) (congrArg (World.drewN _) (Nat.add_assoc _ _ _))⟩)) | (go_at_call 31; (with_reducible refine (impl_isLsn.calls ((rd_T51 l0 x10_1).f1) true _ A11.out).mono ?_); rintro e w' ⟨rfl, ⟨nd, rfl⟩⟩; (try first | exact ⟨rfl, _, World.drewN_drewN _ _ _⟩ | exact ⟨rfl, _, Eq.trans (World.drewN_drewN _ _ _) (congrArg (World.drewN _) (Nat.add_assoc _ _ _))⟩)) | (go_at_call 59; (with_reducible refine (impl_isValue.calls ((rd_T51 l0 x10_1).f3) t40 _ A13.out).mono ?_); rintro e w' ⟨rfl, ⟨nd, rfl⟩⟩; (try first | exact ⟨rfl, _, World.drewN_drewN _ _ _⟩ | exact ⟨rfl, _, Eq.trans (World.drewN_drewN _ _ _) (congrArg (World.drewN _) (Nat.add_assoc _ _ _))⟩))); try go_wp2_with (first | (go_at_call 30; (with_reducible refine (impl_isTxn.calls ((rd_T51 l0 x10_1).f0) true _ A9.out).mono ?_); rintro e w' ⟨rfl, ⟨nd, rfl⟩⟩; (try first | exact ⟨rfl, _, World.drewN_drewN _ _ _⟩ | exact ⟨rfl, _, Eq.trans (World.drewN_drewN _ _ _) (congrArg (World.drewN _) (Nat.add_assoc _ _ _))⟩)) | (go_at_call 31; (with_reducible refine (impl_isLsn.calls ((rd_T51 l0 x10_1).f1) true _ A11.out).mono ?_); rintro e w' ⟨rfl, ⟨nd, rfl⟩⟩; (try first | exact ⟨rfl, _, World.drewN_drewN _ _ _⟩ | exact ⟨rfl, _, Eq.trans (World.drewN_drewN _ _ _) (congrArg (World.drewN _) (Nat.add_assoc _ _ _))⟩)) | (go_at_call 59; (with_reducible refine (impl_isValue.calls ((rd_T51 l0 x10_1).f3) t40 _ A13.out).mono ?_); rintro e w' ⟨rfl, ⟨nd, rfl⟩⟩; (try first | exact ⟨rfl, _, World.drewN_drewN _ _ _⟩ | exact ⟨rfl, _, Eq.trans (World.drewN_drewN _ _ _) (congrArg (World.drewN _) (Nat.add_assoc _ _ _))⟩))))
         go_meet
         case rel => exact ⟨_, (!t40), zs, H', ⟨by have := HK1.out; first | omega | exact Nat.le_refl _⟩, ⟨by refine zQ ?_; refine blk_put (cs := #[.int .i64 ((rd_T51 l0 x10_1).f0), .int .i64 ((rd_T51 l0 x10_1).f1), .bool ((rd_T51 l0 x10_1).f2), .int .i64 0]) ?_ 3 _ rfl; refine zQ ?_; refine blk_put (cs := #[.int .i64 ((rd_T51 l0 x10_1).f0), .int .i64 ((rd_T51 l0 x10_1).f1), .bool false, .int .i64 0]) ?_ 2 _ rfl; refine zQ ?_; refine blk_put (cs := #[.int .i64 ((rd_T51 l0 x10_1).f0), .int .i64 0, .bool false, .int .i64 0]) ?_ 1 _ rfl; refine zQ ?_; refine blk_put (cs := #[.int .i64 0, .int .i64 0, .bool false, .int .i64 0]) ?_ 0 _ rfl; refine zQ ?_; exact BK36.out⟩, ⟨zb⟩⟩
        replace c12 := Bool.eq_false_iff.mpr c12
        subst c12
        have H1 : (impl_ChainFault.j1 k1 l0 x10_1 l0 (l0.length : Int) x10_1 true ((rd_T51 l0 x10_1).f0) ((rd_T51 l0 x10_1).f1) ((rd_T51 l0 x10_1).f2) ((rd_T51 l0 x10_1).f3)) = some r := by rw [if_neg (show ¬ (false = true) by decide)] at H; exact H
        clear H
        have H := H1
        clear H1
        have H' := Aside0.mk H
        clear H
        obtain ⟨z15_0, z15_1, z15_2, z15_3, j15_0, j15_1, j15_2, j15_3⟩ := Go.Proofs.YtldlnafakfigeaaDoor.Lv.blks4 BK36.out
        go_wp2_with (first | (go_at_call 30; (with_reducible refine (impl_isTxn.calls ((rd_T51 l0 x10_1).f0) true _ A9.out).mono ?_); rintro e w' ⟨rfl, ⟨nd, rfl⟩⟩; (try first | exact ⟨rfl, _, World.drewN_drewN _ _ _⟩ | exact ⟨rfl, _, Eq.trans (World.drewN_drewN _ _ _) (congrArg (World.drewN _) (Nat.add_assoc _ _ _))⟩)) | (go_at_call 31; (with_reducible refine (impl_isLsn.calls ((rd_T51 l0 x10_1).f1) false _ A11.out).mono ?_); rintro e w' ⟨rfl, ⟨nd, rfl⟩⟩; (try first | exact ⟨rfl, _, World.drewN_drewN _ _ _⟩ | exact ⟨rfl, _, Eq.trans (World.drewN_drewN _ _ _) (congrArg (World.drewN _) (Nat.add_assoc _ _ _))⟩)))
        repeat (go_quiet (first | (go_at_call 30; (with_reducible refine (impl_isTxn.calls ((rd_T51 l0 x10_1).f0) true _ A9.out).mono ?_); rintro e w' ⟨rfl, ⟨nd, rfl⟩⟩; (try first | exact ⟨rfl, _, World.drewN_drewN _ _ _⟩ | exact ⟨rfl, _, Eq.trans (World.drewN_drewN _ _ _) (congrArg (World.drewN _) (Nat.add_assoc _ _ _))⟩)) | (go_at_call 31; (with_reducible refine (impl_isLsn.calls ((rd_T51 l0 x10_1).f1) false _ A11.out).mono ?_); rintro e w' ⟨rfl, ⟨nd, rfl⟩⟩; (try first | exact ⟨rfl, _, World.drewN_drewN _ _ _⟩ | exact ⟨rfl, _, Eq.trans (World.drewN_drewN _ _ _) (congrArg (World.drewN _) (Nat.add_assoc _ _ _))⟩))); try go_wp2_with (first | (go_at_call 30; (with_reducible refine (impl_isTxn.calls ((rd_T51 l0 x10_1).f0) true _ A9.out).mono ?_); rintro e w' ⟨rfl, ⟨nd, rfl⟩⟩; (try first | exact ⟨rfl, _, World.drewN_drewN _ _ _⟩ | exact ⟨rfl, _, Eq.trans (World.drewN_drewN _ _ _) (congrArg (World.drewN _) (Nat.add_assoc _ _ _))⟩)) | (go_at_call 31; (with_reducible refine (impl_isLsn.calls ((rd_T51 l0 x10_1).f1) false _ A11.out).mono ?_); rintro e w' ⟨rfl, ⟨nd, rfl⟩⟩; (try first | exact ⟨rfl, _, World.drewN_drewN _ _ _⟩ | exact ⟨rfl, _, Eq.trans (World.drewN_drewN _ _ _) (congrArg (World.drewN _) (Nat.add_assoc _ _ _))⟩))))
        go_meet
        case rel => exact ⟨_, (true), zs, H', ⟨by have := HK1.out; first | omega | exact Nat.le_refl _⟩, ⟨by refine zQ ?_; refine blk_put (cs := #[.int .i64 ((rd_T51 l0 x10_1).f0), .int .i64 ((rd_T51 l0 x10_1).f1), .bool ((rd_T51 l0 x10_1).f2), .int .i64 0]) ?_ 3 _ rfl; refine zQ ?_; refine blk_put (cs := #[.int .i64 ((rd_T51 l0 x10_1).f0), .int .i64 ((rd_T51 l0 x10_1).f1), .bool false, .int .i64 0]) ?_ 2 _ rfl; refine zQ ?_; refine blk_put (cs := #[.int .i64 ((rd_T51 l0 x10_1).f0), .int .i64 0, .bool false, .int .i64 0]) ?_ 1 _ rfl; refine zQ ?_; refine blk_put (cs := #[.int .i64 0, .int .i64 0, .bool false, .int .i64 0]) ?_ 0 _ rfl; refine zQ ?_; exact BK36.out⟩, ⟨zb⟩⟩
       replace c10 := Bool.eq_false_iff.mpr c10
       subst c10
       have H1 : (impl_ChainFault.j1 k1 l0 x10_1 l0 (l0.length : Int) x10_1 true ((rd_T51 l0 x10_1).f0) ((rd_T51 l0 x10_1).f1) ((rd_T51 l0 x10_1).f2) ((rd_T51 l0 x10_1).f3)) = some r := by rw [if_neg (show ¬ (false = true) by decide)] at H; exact H
       clear H
       have H := H1
       clear H1
       have H' := Aside0.mk H
       clear H
       obtain ⟨z16_0, z16_1, z16_2, z16_3, j16_0, j16_1, j16_2, j16_3⟩ := Go.Proofs.YtldlnafakfigeaaDoor.Lv.blks4 BK36.out
       go_wp2_with (first | (go_at_call 30; (with_reducible refine (impl_isTxn.calls ((rd_T51 l0 x10_1).f0) false _ A9.out).mono ?_); rintro e w' ⟨rfl, ⟨nd, rfl⟩⟩; (try first | exact ⟨rfl, _, World.drewN_drewN _ _ _⟩ | exact ⟨rfl, _, Eq.trans (World.drewN_drewN _ _ _) (congrArg (World.drewN _) (Nat.add_assoc _ _ _))⟩)))
       repeat (go_quiet (first | (go_at_call 30; (with_reducible refine (impl_isTxn.calls ((rd_T51 l0 x10_1).f0) false _ A9.out).mono ?_); rintro e w' ⟨rfl, ⟨nd, rfl⟩⟩; (try first | exact ⟨rfl, _, World.drewN_drewN _ _ _⟩ | exact ⟨rfl, _, Eq.trans (World.drewN_drewN _ _ _) (congrArg (World.drewN _) (Nat.add_assoc _ _ _))⟩))); try go_wp2_with (first | (go_at_call 30; (with_reducible refine (impl_isTxn.calls ((rd_T51 l0 x10_1).f0) false _ A9.out).mono ?_); rintro e w' ⟨rfl, ⟨nd, rfl⟩⟩; (try first | exact ⟨rfl, _, World.drewN_drewN _ _ _⟩ | exact ⟨rfl, _, Eq.trans (World.drewN_drewN _ _ _) (congrArg (World.drewN _) (Nat.add_assoc _ _ _))⟩))))
       go_meet
       case rel => exact ⟨_, (true), zs, H', ⟨by have := HK1.out; first | omega | exact Nat.le_refl _⟩, ⟨by refine zQ ?_; refine blk_put (cs := #[.int .i64 ((rd_T51 l0 x10_1).f0), .int .i64 ((rd_T51 l0 x10_1).f1), .bool ((rd_T51 l0 x10_1).f2), .int .i64 0]) ?_ 3 _ rfl; refine zQ ?_; refine blk_put (cs := #[.int .i64 ((rd_T51 l0 x10_1).f0), .int .i64 ((rd_T51 l0 x10_1).f1), .bool false, .int .i64 0]) ?_ 2 _ rfl; refine zQ ?_; refine blk_put (cs := #[.int .i64 ((rd_T51 l0 x10_1).f0), .int .i64 0, .bool false, .int .i64 0]) ?_ 1 _ rfl; refine zQ ?_; refine blk_put (cs := #[.int .i64 0, .int .i64 0, .bool false, .int .i64 0]) ?_ 0 _ rfl; refine zQ ?_; exact BK36.out⟩, ⟨zb⟩⟩
      case rest =>
       clear HC6
       try clear c1
       try clear c2
       try clear c2b0
       try clear c2b1
       try clear p2
       try clear q2
       try clear hx2
       try clear c3
       try clear c3b0
       try clear c4
       try clear c4b0
       try clear c5
       try clear c5b0
       try clear c10
       try clear c12
       try clear z14_0 z14_1 z14_2 z14_3
       try clear z15_0 z15_1 z15_2 z15_3
       try clear z16_0 z16_1 z16_2 z16_3
       try clear z8_0 z8_1 z8_2 z8_3
       try clear j14_0 j14_1 j14_2 j14_3
       try clear j15_0 j15_1 j15_2 j15_3
       try clear j16_0 j16_1 j16_2 j16_3
       try clear j8_0 j8_1 j8_2 j8_3
       try clear hx38_0
       try clear hx38_1
       try clear hx38_2
       try clear hx38_3
       try clear p2
       try clear p233
       try clear q38
       obtain ⟨kq, x15_5, rfl, HA, HJ5, BK36, HB⟩ := hcut
       cases kq with
       | zero => exact absurd HA.out (by simp [impl_ChainFault.j1])
       | succ kj5 =>
        have H := HA.out
        clear HA
        simp only [impl_ChainFault.j1] at H
        by_cases c17 : x15_5 = true
        ·subst c17
         have H1 : (some 3) = some r := by rw [if_pos rfl] at H; exact H
         clear H
         have H := H1
         clear H1
         obtain rfl := Option.some.inj H
         go_wp2
         repeat (go_quiet (fail); try go_wp2)
         go_ret
         exact ⟨ze, zb⟩
        replace c17 := Bool.eq_false_iff.mpr c17
        subst c17
        have H1 : (if ((rd_T51 l0 x10_1).f2) = true then (impl_ChainFault.j2 kj5 l0 x10_1 l0 (l0.length : Int) x10_1 (((rd_T51 l0 x10_1).f3) != 0) ((rd_T51 l0 x10_1).f0) ((rd_T51 l0 x10_1).f1) ((rd_T51 l0 x10_1).f2) ((rd_T51 l0 x10_1).f3)) else (impl_ChainFault.j2 kj5 l0 x10_1 l0 (l0.length : Int) x10_1 false ((rd_T51 l0 x10_1).f0) ((rd_T51 l0 x10_1).f1) ((rd_T51 l0 x10_1).f2) ((rd_T51 l0 x10_1).f3))) = some r := by rw [if_neg (show ¬ (false = true) by decide)] at H; exact H
        clear H
        have H := H1
        clear H1
        have HC18 := Aside0.mk H
        clear H
        go_upto_region 8 with (fail)
        repeat (go_quiet (fail); go_upto_region 8 with (fail))
        go_cut [32] (fun v32 wc => ∃ (kq : Nat) (x32_17 : Bool), v32 = .bool x32_17 ∧ Aside0 (impl_ChainFault.j2 kq l0 x10_1 l0 (l0.length : Int) x10_1 x32_17 ((rd_T51 l0 x10_1).f0) ((rd_T51 l0 x10_1).f1) ((rd_T51 l0 x10_1).f2) ((rd_T51 l0 x10_1).f3) = some r) ∧ Aside0 (kq ≤ kj5) ∧ Aside0 (wc.heap[gb36]? = some (.cells #[.int .i64 ((rd_T51 l0 x10_1).f0), .int .i64 ((rd_T51 l0 x10_1).f1), .bool ((rd_T51 l0 x10_1).f2), .int .i64 ((rd_T51 l0 x10_1).f3)] 51 (0, 0))) ∧ Aside0 (Below w.heap.size w wc))
        case first =>
         have H := HC18.out
         clear HC18
         by_cases c19 : ((rd_T51 l0 x10_1).f2) = true
         ·rw [if_pos c19] at H
          have c19b0 : ((rd_T51 l0 x10_1).f2) = true := c19
          clear c19
          (first | rw [c19b0] | (simp only [i64_w, i32_w]; rw [c19b0]) | skip)
          have H' := Aside0.mk H
          clear H
          obtain ⟨z20_0, z20_1, z20_2, z20_3, j20_0, j20_1, j20_2, j20_3⟩ := Go.Proofs.YtldlnafakfigeaaDoor.Lv.blks4 BK36.out
          go_wp2
          repeat (go_quiet (fail); try go_wp2)
          go_meet
          case rel => exact ⟨_, ((((rd_T51 l0 x10_1).f3) != 0)), zs, H', ⟨by have := HK1.out; have := HJ5.out; first | omega | exact Nat.le_refl _⟩, ⟨zq BK36⟩, ⟨zb⟩⟩
         rw [if_neg c19] at H
         have c19b0 : ((rd_T51 l0 x10_1).f2) = false := by simpa using c19
         clear c19
         (first | rw [c19b0] | (simp only [i64_w, i32_w]; rw [c19b0]) | skip)
         have H' := Aside0.mk H
         clear H
         obtain ⟨z21_0, z21_1, z21_2, z21_3, j21_0, j21_1, j21_2, j21_3⟩ := Go.Proofs.YtldlnafakfigeaaDoor.Lv.blks4 BK36.out
         go_wp2
         repeat (go_quiet (fail); try go_wp2)
         go_meet
         case rel => exact ⟨_, (false), zs, H', ⟨by have := HK1.out; have := HJ5.out; first | omega | exact Nat.le_refl _⟩, ⟨zq BK36⟩, ⟨zb⟩⟩
        case rest =>
         clear HC18
         try clear c1
         try clear c2
         try clear c2b0
         try clear c2b1
         try clear p2
         try clear q2
         try clear hx2
         try clear c3
         try clear c3b0
         try clear c4
         try clear c4b0
         try clear c5
         try clear c5b0
         try clear c10
         try clear c12
         try clear c17
         try clear c19
         try clear c19b0
         try clear z14_0 z14_1 z14_2 z14_3
         try clear z15_0 z15_1 z15_2 z15_3
         try clear z16_0 z16_1 z16_2 z16_3
         try clear z20_0 z20_1 z20_2 z20_3
         try clear z21_0 z21_1 z21_2 z21_3
         try clear z8_0 z8_1 z8_2 z8_3
         try clear j14_0 j14_1 j14_2 j14_3
         try clear j15_0 j15_1 j15_2 j15_3
         try clear j16_0 j16_1 j16_2 j16_3
         try clear j20_0 j20_1 j20_2 j20_3
         try clear j21_0 j21_1 j21_2 j21_3
         try clear j8_0 j8_1 j8_2 j8_3
         try clear hx38_0
         try clear hx38_1
         try clear hx38_2
         try clear hx38_3
         try clear p2
         try clear p233
         try clear q2
         try clear q38
         obtain ⟨kq, x32_17, rfl, HA, HJ17, BK36, HB⟩ := hcut
         cases kq with
         | zero => exact absurd HA.out (by simp [impl_ChainFault.j2])
         | succ kj17 =>
          have H := HA.out
          clear HA
          simp only [impl_ChainFault.j2] at H
          by_cases c22 : x32_17 = true
          ·subst c22
           have H1 : (some 1) = some r := by rw [if_pos rfl] at H; exact H
           clear H
           have H := H1
           clear H1
           obtain rfl := Option.some.inj H
           go_wp2
           repeat (go_quiet (fail); try go_wp2)
           go_ret
           exact ⟨ze, zb⟩
          replace c22 := Bool.eq_false_iff.mpr c22
          subst c22
          have H1 : (if ((rd_T51 l0 x10_1).f1) = 0 then (impl_ChainFault.j3 kj17 l0 x10_1 l0 (l0.length : Int) x10_1 (decide (x10_1 > 0)) ((rd_T51 l0 x10_1).f0) ((rd_T51 l0 x10_1).f1) ((rd_T51 l0 x10_1).f2) ((rd_T51 l0 x10_1).f3)) else (impl_ChainFault.j3 kj17 l0 x10_1 l0 (l0.length : Int) x10_1 false ((rd_T51 l0 x10_1).f0) ((rd_T51 l0 x10_1).f1) ((rd_T51 l0 x10_1).f2) ((rd_T51 l0 x10_1).f3))) = some r := by rw [if_neg (show ¬ (false = true) by decide)] at H; exact H
          clear H
          have H := H1
          clear H1
          have HC23 := Aside0.mk H
          clear H
          go_upto_region 9 with (fail)
          repeat (go_quiet (fail); go_upto_region 9 with (fail))
          go_cut [32] (fun v32 wc => ∃ (kq : Nat) (x32_22 : Bool), v32 = .bool x32_22 ∧ Aside0 (impl_ChainFault.j3 kq l0 x10_1 l0 (l0.length : Int) x10_1 x32_22 ((rd_T51 l0 x10_1).f0) ((rd_T51 l0 x10_1).f1) ((rd_T51 l0 x10_1).f2) ((rd_T51 l0 x10_1).f3) = some r) ∧ Aside0 (kq ≤ kj17) ∧ Aside0 (wc.heap[gb36]? = some (.cells #[.int .i64 ((rd_T51 l0 x10_1).f0), .int .i64 ((rd_T51 l0 x10_1).f1), .bool ((rd_T51 l0 x10_1).f2), .int .i64 ((rd_T51 l0 x10_1).f3)] 51 (0, 0))) ∧ Aside0 (Below w.heap.size w wc))
          case first =>
           have H := HC23.out
           clear HC23
           by_cases c24 : ((rd_T51 l0 x10_1).f1) = 0
           ·rw [if_pos c24] at H
            have c24b0 : (((rd_T51 l0 x10_1).f1) == 0) = true := beq_iff_eq.mpr c24
            have c24b1 : (((rd_T51 l0 x10_1).f1) != 0) = false := bne_eq_false_iff_eq.mpr c24
            clear c24
            (first | rw [c24b0] | (simp only [i64_w, i32_w]; rw [c24b0]) | skip)
            have H' := Aside0.mk H
            clear H
            obtain ⟨z25_0, z25_1, z25_2, z25_3, j25_0, j25_1, j25_2, j25_3⟩ := Go.Proofs.YtldlnafakfigeaaDoor.Lv.blks4 BK36.out
            go_wp2
            repeat (go_quiet (fail); try go_wp2)
            go_meet
            case rel => exact ⟨_, (decide (x10_1 > 0)), zs, H', ⟨by have := HK1.out; have := HJ5.out; have := HJ17.out; first | omega | exact Nat.le_refl _⟩, ⟨zq BK36⟩, ⟨zb⟩⟩
           rw [if_neg c24] at H
           have c24b0 : (((rd_T51 l0 x10_1).f1) == 0) = false := beq_eq_false_iff_ne.mpr c24
           have c24b1 : (((rd_T51 l0 x10_1).f1) != 0) = true := bne_iff_ne.mpr c24
           (first | rw [c24b0] | (simp only [i64_w, i32_w]; rw [c24b0]) | skip)
           have H' := Aside0.mk H
           clear H
           obtain ⟨z26_0, z26_1, z26_2, z26_3, j26_0, j26_1, j26_2, j26_3⟩ := Go.Proofs.YtldlnafakfigeaaDoor.Lv.blks4 BK36.out
           go_wp2
           repeat (go_quiet (fail); try go_wp2)
           go_meet
           case rel => exact ⟨_, (false), zs, H', ⟨by have := HK1.out; have := HJ5.out; have := HJ17.out; first | omega | exact Nat.le_refl _⟩, ⟨zq BK36⟩, ⟨zb⟩⟩
          case rest =>
           clear HC23
           try clear c1
           try clear c2
           try clear c2b0
           try clear c2b1
           try clear p2
           try clear q2
           try clear hx2
           try clear c3
           try clear c3b0
           try clear c4
           try clear c4b0
           try clear c5
           try clear c5b0
           try clear c10
           try clear c12
           try clear c17
           try clear c19
           try clear c19b0
           try clear c22
           try clear p23
           try clear q23
           try clear hx23
           try clear c24
           try clear c24b0
           try clear c24b1
           try clear z14_0 z14_1 z14_2 z14_3
           try clear z15_0 z15_1 z15_2 z15_3
           try clear z16_0 z16_1 z16_2 z16_3
           try clear z20_0 z20_1 z20_2 z20_3
           try clear z21_0 z21_1 z21_2 z21_3
           try clear z25_0 z25_1 z25_2 z25_3
           try clear z26_0 z26_1 z26_2 z26_3
           try clear z8_0 z8_1 z8_2 z8_3
           try clear j14_0 j14_1 j14_2 j14_3
           try clear j15_0 j15_1 j15_2 j15_3
           try clear j16_0 j16_1 j16_2 j16_3
           try clear j20_0 j20_1 j20_2 j20_3
           try clear j21_0 j21_1 j21_2 j21_3
           try clear j25_0 j25_1 j25_2 j25_3
           try clear j26_0 j26_1 j26_2 j26_3
           try clear j8_0 j8_1 j8_2 j8_3
           try clear hx38_0
           try clear hx38_1
           try clear hx38_2
           try clear hx38_3
           try clear p2
           try clear p233
           try clear q2
           try clear q38
           obtain ⟨kq, x32_22, rfl, HA, HJ22, BK36, HB⟩ := hcut
           cases kq with
           | zero => exact absurd HA.out (by simp [impl_ChainFault.j3])
           | succ kj22 =>
            have H := HA.out
            clear HA
            simp only [impl_ChainFault.j3] at H
            by_cases c27 : x32_22 = true
            ·subst c27
             have H1 : (some 1) = some r := by rw [if_pos rfl] at H; exact H
             clear H
             have H := H1
             clear H1
             obtain rfl := Option.some.inj H
             go_wp2
             repeat (go_quiet (fail); try go_wp2)
             go_ret
             exact ⟨ze, zb⟩
            replace c27 := Bool.eq_false_iff.mpr c27
            subst c27
            have H1 : (if x10_1 > 0 then (if 0 ≤ (wrap64 (x10_1 - 1)) then (if (wrap64 (x10_1 - 1)) < (l0.length : Int) then (if ((rd_T51 l0 (wrap64 (x10_1 - 1))).f1) = 0 then (impl_ChainFault.l0 kj22 l0 l0 (l0.length : Int) (wrap64 (x10_1 + 1))) else (if ((rd_T51 l0 x10_1).f1) ≥ ((rd_T51 l0 (wrap64 (x10_1 - 1))).f1) then (some 1) else (impl_ChainFault.l0 kj22 l0 l0 (l0.length : Int) (wrap64 (x10_1 + 1))))) else (none)) else (none)) else (impl_ChainFault.l0 kj22 l0 l0 (l0.length : Int) (wrap64 (x10_1 + 1)))) = some r := by rw [if_neg (show ¬ (false = true) by decide)] at H; exact H
            clear H
            have H := H1
            clear H1
            by_cases c28 : x10_1 > 0
            ·rw [if_pos c28] at H
             have c28b0 : decide (0 < x10_1) = true := decide_eq_true c28
             clear c28
             obtain ⟨ji29, hji29⟩ : ∃ j_ : Int, (wrap64 (x10_1 - 1)) = j_ := ⟨_, rfl⟩
             replace H : (if 0 ≤ (ji29) then (if (ji29) < (l0.length : Int) then (if ((rd_T51 l0 (ji29)).f1) = 0 then (impl_ChainFault.l0 kj22 l0 l0 (l0.length : Int) (wrap64 (x10_1 + 1))) else (if ((rd_T51 l0 x10_1).f1) ≥ ((rd_T51 l0 (ji29)).f1) then (some 1) else (impl_ChainFault.l0 kj22 l0 l0 (l0.length : Int) (wrap64 (x10_1 + 1))))) else (none)) else (none)) = some r := by first | (rw [hji29] at H; exact H) | (simp only [hji29] at H ⊢; exact H)
             have hji29w : (IntKind.i64.wrap (x10_1 - 1)) = ji29 := (i64_w _).trans hji29
             by_cases c30 : 0 ≤ (ji29)
             ·rw [if_pos c30] at H
              have c30b0 : decide (0 ≤ (ji29)) = true := decide_eq_true c30
              clear c30
              by_cases c31 : (ji29) < (l0.length : Int)
              ·rw [if_pos c31] at H
               have c31b0 : decide ((ji29) < (l0.length : Int)) = true := decide_eq_true c31
               clear c31
               by_cases c32 : ((rd_T51 l0 (ji29)).f1) = 0
               ·rw [if_pos c32] at H
                have c32b0 : (((rd_T51 l0 (ji29)).f1) == 0) = true := beq_iff_eq.mpr c32
                have c32b1 : (((rd_T51 l0 (ji29)).f1) != 0) = false := bne_eq_false_iff_eq.mpr c32
                clear c32
                have H' := Aside0.mk H
                clear H
                have p238 : 0 ≤ ((ji29) : Int) := of_decide_eq_true za
                have q37 : (ji29) < (l0.length : Int) := of_decide_eq_true za
                obtain ⟨ad37, e238, hx37_0, hx37_1, hx37_2, hx37_3⟩ := at_T51 HR0.out (ji29) p238 q37
                obtain rfl : ad38 = ad37 := (by injection e238)
                replace hx37_0 := zx HB hx37_0
                replace hx37_1 := zx HB hx37_1
                replace hx37_2 := zx HB hx37_2
                replace hx37_3 := zx HB hx37_3
                replace p238 := eq_true p238
                replace q37 := eq_true q37
                go_wp2
                repeat (go_quiet (fail); try go_wp2)
                go_roundg kj22
                case measure => have := HK1.out; have := HJ5.out; have := HJ17.out; have := HJ22.out; omega
                case rel => exact ⟨(wrap64 (x10_1 + 1)), zs, H', ⟨by have := HK1.out; have := HJ5.out; have := HJ17.out; have := HJ22.out; omega⟩, ⟨zb⟩⟩
               rw [if_neg c32] at H
               have c32b0 : (((rd_T51 l0 (ji29)).f1) == 0) = false := beq_eq_false_iff_ne.mpr c32
               have c32b1 : (((rd_T51 l0 (ji29)).f1) != 0) = true := bne_iff_ne.mpr c32
               have HX_ := Aside0.mk H
               clear H
               have p238 : 0 ≤ ((ji29) : Int) := of_decide_eq_true za
               have q37 : (ji29) < (l0.length : Int) := of_decide_eq_true za
               obtain ⟨ad37, e238, hx37_0, hx37_1, hx37_2, hx37_3⟩ := at_T51 HR0.out (ji29) p238 q37
               obtain rfl : ad38 = ad37 := (by injection e238)
               replace hx37_0 := zx HB hx37_0
               replace hx37_1 := zx HB hx37_1
               replace hx37_2 := zx HB hx37_2
               replace hx37_3 := zx HB hx37_3
               replace p238 := eq_true p238
               replace q37 := eq_true q37
               obtain ⟨z34_0, z34_1, z34_2, z34_3, j34_0, j34_1, j34_2, j34_3⟩ := Go.Proofs.YtldlnafakfigeaaDoor.Lv.blks4 BK36.out
               have p239 : 0 ≤ ((ji29) : Int) := of_decide_eq_true za
               have q39 : (ji29) < (l0.length : Int) := of_decide_eq_true za
               obtain ⟨ad39, e239, hx39_0, hx39_1, hx39_2, hx39_3⟩ := at_T51 HR0.out (ji29) p239 q39
               obtain rfl : ad38 = ad39 := (by injection e239)
               replace hx39_0 := zx HB hx39_0
               replace hx39_1 := zx HB hx39_1
               replace hx39_2 := zx HB hx39_2
               replace hx39_3 := zx HB hx39_3
               replace p239 := eq_true p239
               replace q39 := eq_true q39
               have H := HX_.out
               clear HX_
               by_cases c33 : ((rd_T51 l0 x10_1).f1) ≥ ((rd_T51 l0 (ji29)).f1)
               ·rw [if_pos c33] at H
                have c33b0 : decide (((rd_T51 l0 (ji29)).f1) ≤ ((rd_T51 l0 x10_1).f1)) = true := decide_eq_true c33
                clear c33
                obtain rfl := Option.some.inj H
                go_wp2
                repeat (go_quiet (fail); try go_wp2)
                go_ret
                exact ⟨by first | rfl | (simp [errW_none, errW_some] <;> rfl) | (simp only [← hji29]; first | rfl | (simp [errW_none, errW_some] <;> rfl)) | (simp [*, errW_none, errW_some] <;> rfl), zb⟩
               rw [if_neg c33] at H
               have c33b0 : decide (((rd_T51 l0 (ji29)).f1) ≤ ((rd_T51 l0 x10_1).f1)) = false := decide_eq_false c33
               clear c33
               have H' := Aside0.mk H
               clear H
               go_wp2
               repeat (go_quiet (fail); try go_wp2)
               go_roundg kj22
               case measure => have := HK1.out; have := HJ5.out; have := HJ17.out; have := HJ22.out; omega
               case rel => exact ⟨(wrap64 (x10_1 + 1)), zs, H', ⟨by have := HK1.out; have := HJ5.out; have := HJ17.out; have := HJ22.out; omega⟩, ⟨zb⟩⟩
              rw [if_neg c31] at H
              exact absurd H (by simp)
             rw [if_neg c30] at H
             exact absurd H (by simp)
            rw [if_neg c28] at H
            have c28b0 : decide (0 < x10_1) = false := decide_eq_false c28
            clear c28
            have H' := Aside0.mk H
            clear H
            go_wp2
            repeat (go_quiet (fail); try go_wp2)
            go_roundg kj22
            case measure => have := HK1.out; have := HJ5.out; have := HJ17.out; have := HJ22.out; omega
            case rel => exact ⟨(wrap64 (x10_1 + 1)), zs, H', ⟨by have := HK1.out; have := HJ5.out; have := HJ17.out; have := HJ22.out; omega⟩, ⟨zb⟩⟩
     rw [if_neg c5] at H
     exact absurd H (by simp)
    rw [if_neg c4] at H
    exact absurd H (by simp)
   rw [if_neg c3] at H
   have c3b0 : decide (x10_1 < (l0.length : Int)) = false := decide_eq_false c3
   clear c3
   obtain rfl := Option.some.inj H
   go_wp2
   repeat (go_quiet (fail); try go_wp2)
   go_ret
   exact ⟨ze, zb⟩
-- PROOF --
set_option maxHeartbeats 8000000 in
set_option maxRecDepth 100000 in
theorem slices_IndexFunc_impl_Version.calls (g : Nat) (lb : Array Value) (p : S51 → Bool) (A0 : Option Addr) (c0 : Nat) (l0 : List (S51)) (w : World) (hr0 : Kd.C k51 w A0 l0.length l0)
 (hp : ∀ (W : World) (x : S51), x ∈ l0 → Below w.heap.size w W → Calls Tryd.prog g (#[.agg #[.int .i64 x.f0, .int .i64 x.f1, .bool x.f2, .int .i64 x.f3]] ++ lb) W fun e w' => e = .returned (.bool (p x)) ∧ Below W.heap.size W w')
 (eg : ∀ args w, (callFunc g args).run Tryd.prog w = .ok (.enter g args) w) :
 Calls Tryd.prog 60 #[.slice A0 l0.length c0, .func (.func g) #[] lb] w fun e w' => e = .returned (.int .i64 (Go.Proofs.YtldlnafakfigeaaDoor.Lb.idx p l0)) ∧ Below w.heap.size w w' := by
 have hu51 := Tryd.underlying51
 have hn := hr0.2.1
 have HR0 := Aside0.mk hr0
 clear hr0
 go_enter Tryd.func60, Tryd.ntmps60
 go_wp2
 go_loopg [5, 8] (l0.length + 1) (fun gg _ s8 wr => ∃ x : Int, 0 ≤ x ∧ x ≤ (l0.length : Int) ∧ Aside0 (l0.length + 1 - x.toNat ≤ gg) ∧ s8 = .int .i64 x ∧ Aside0 (Below w.heap.size w wr) ∧ Aside0 (∀ j : Nat, j < x.toNat → p (l0.getD j z51) = false))
 case atStart => exact ⟨0, by omega, by omega, ⟨by simp⟩, rfl, ⟨Below.refl _ _⟩, ⟨fun j hj => by simp at hj⟩⟩
 case round =>
  obtain ⟨x, hx0, hx1, HG, rfl, HB, HA⟩ := hrel
  by_cases c3 : x < (l0.length : Int)
  ·have c3b0 : decide (x < (l0.length : Int)) = true := decide_eq_true c3
   have c4b0 : decide (0 ≤ x) = true := decide_eq_true hx0
   obtain ⟨ad, e1, q0, q1, q2, q3⟩ := at_T51 HR0.out x hx0 c3
   cases e1
   replace q0 := zx HB q0
   replace q1 := zx HB q1
   replace q2 := zx HB q2
   replace q3 := zx HB q3
   have hx : x.toNat < l0.length := by omega
   have hrd : rd_T51 l0 x = l0.getD x.toNat z51 := rfl
   have hcall := hp wr (rd_T51 l0 x) (by rw [hrd, List.getD_eq_getElem?_getD, List.getElem?_eq_getElem hx]; exact List.getElem_mem hx) HB.out
   clear hp hrd
   cases hq : p (rd_T51 l0 x) with
   | true =>
    rw [hq] at hcall
    have HQ := Aside0.mk hq
    clear hq
    go_wp2_with (go_at_fn g; refine hcall.mono ?_; rintro e w' ⟨rfl, hb'⟩)
    go_ret
    refine ⟨?_, HB.out.trans (hb'.mono HB.out.size)⟩
    unfold Go.Proofs.YtldlnafakfigeaaDoor.Lb.idx
    rw [Go.Proofs.YtldlnafakfigeaaDoor.Lb.idx_hit p z51 l0 x.toNat 0 hx HA.out HQ.out]
    rw [show (0 : Int) + (x.toNat : Int) = x by omega]
    rfl
   | false =>
    rw [hq] at hcall
    have HQ := Aside0.mk hq
    clear hq
    go_wp2_with (go_at_fn g; refine hcall.mono ?_; rintro e w' ⟨rfl, hb'⟩)
    go_roundg (l0.length + 1 - (x + 1).toNat)
    case measure => have := HG.out; omega
    case rel => exact ⟨x + 1, by omega, by omega, ⟨by omega⟩, by first | rfl | go_num, ⟨HB.out.trans (hb'.mono HB.out.size)⟩, ⟨fun j hj => by
     by_cases e : j = x.toNat
     ·subst e; exact HQ.out
     exact HA.out j (by omega)⟩⟩
  have hxx : x = (l0.length : Int) := by omega
  have c3b0 : decide (x < (l0.length : Int)) = false := decide_eq_false c3
  have hm : Go.Proofs.YtldlnafakfigeaaDoor.Lb.idx p l0 = -1 := by
   unfold Go.Proofs.YtldlnafakfigeaaDoor.Lb.idx
   exact Go.Proofs.YtldlnafakfigeaaDoor.Lb.idx_miss p z51 l0 0 (fun j hj => HA.out j (by omega))
  have HM := Aside0.mk hm
  clear hm
  have HX := Aside0.mk hxx
  clear hxx
  go_wp2
  go_ret
  exact ⟨by rw [HM.out]; rfl, HB.out⟩
-- PROOF --
set_option maxHeartbeats 8000000 in
set_option maxRecDepth 100000 in
theorem slices_ContainsFunc_impl_Version.calls (g : Nat) (lb : Array Value) (p : S51 → Bool) (A0 : Option Addr) (c0 : Nat) (l0 : List (S51)) (w : World) (hr0 : Kd.C k51 w A0 l0.length l0)
 (hp : ∀ (W : World) (x : S51), x ∈ l0 → Below w.heap.size w W → Calls Tryd.prog g (#[.agg #[.int .i64 x.f0, .int .i64 x.f1, .bool x.f2, .int .i64 x.f3]] ++ lb) W fun e w' => e = .returned (.bool (p x)) ∧ Below W.heap.size W w')
 (eg : ∀ args w, (callFunc g args).run Tryd.prog w = .ok (.enter g args) w) :
 Calls Tryd.prog 36 #[.slice A0 l0.length c0, .func (.func g) #[] lb] w fun e w' => e = .returned (.bool (l0.any p)) ∧ Below w.heap.size w w' := by
 have hcon := slices_IndexFunc_impl_Version.calls g lb p A0 c0 l0 w hr0 hp eg
 rw [← Go.Proofs.YtldlnafakfigeaaDoor.Lb.idx_any p l0]
 clear hr0 hp
 generalize Go.Proofs.YtldlnafakfigeaaDoor.Lb.idx p l0 = r at hcon ⊢
 have HC := Aside0.mk hcon
 clear hcon
 go_enter Tryd.func36, Tryd.ntmps36
 go_wp2_with (go_at_call 60; refine HC.out.mono ?_; rintro e w' ⟨rfl, hb'⟩)
 go_ret
 exact ⟨rfl, hb'⟩
end Go.Proofs.YtldlnafakfigeaaDoor.P
