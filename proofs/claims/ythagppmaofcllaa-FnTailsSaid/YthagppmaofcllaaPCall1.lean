import Derived.Test.YthagppmaofcllaaZz
import Derived.Test.YthagppmaofcllaaP0
import Derived.Test.YthagppmaofcllaaPCall0
import Derived.Test.YthagppmaofcllaaPDall0
import Derived.Test.YthagppmaofcllaaWRepsOne
import Derived.Test.YthagppmaofcllaaLv
namespace Go.Proofs.Ythagppmaofcllaa.P
open Go.RowKit Go.Proofs.YthagppmaofcllaaW.PrintWords Go.Proofs.YthagppmaofcllaaW.PrintLast Go.Proofs.YthagppmaofcllaaW.PrintMore
attribute [local go_sem] max2_int min2_int max_two min_two max_three min_three max_four min_four   -- for this text's walks alone
set_option linter.unusedVariables false
set_option linter.unusedSimpArgs false
set_option maxHeartbeats 8000000 in
set_option maxRecDepth 100000 in
theorem ZsRecFault.calls (k : Nat) (a0_0 : Int) (a0_1 : Int) (a0_2 : Int) (a0_3 : Bool) (a0_4 : Int) (a0_5 : Bool) (a0_6 : Int) (a0_7 : Int) (r : Int) (w : World) (h : ZsRecFault.f k a0_0 a0_1 a0_2 a0_3 a0_4 a0_5 a0_6 a0_7 = some r) :
 Calls Try.prog 52 #[.agg #[.int .i64 a0_0, .int .i64 a0_1, .int .i64 a0_2, .bool a0_3, .int .i64 a0_4, .bool a0_5, .int .i64 a0_6, .int .i64 a0_7]] w fun e w' => e = .returned (.int .i64 r) ∧ Below w.heap.size w w' := by
 have hu48 := Try.underlying48
 have HB := Qz.mk (Below.refl w.heap.size w)
 have H : ((Zsl1In.f a0_0 1 6).bind fun t118 => (if t118 = true then (if a0_0 = 6 then (if a0_1 = 0 then ((Zsl1Key.f a0_2).bind fun t99 => (if t99 = true then ((Zsl1Value.f a0_4).bind fun t97 => (if t97 = true then ((Zsl1Value.f a0_6).bind fun t95 => (if t95 = true then ((Zsl1In.f a0_7 0 1000).bind fun t93 => (ZsRecFault.j0 k (!t93) a0_0 a0_1 a0_2 a0_3 a0_4 a0_5 a0_6 a0_7)) else (ZsRecFault.j0 k true a0_0 a0_1 a0_2 a0_3 a0_4 a0_5 a0_6 a0_7))) else (ZsRecFault.j0 k true a0_0 a0_1 a0_2 a0_3 a0_4 a0_5 a0_6 a0_7))) else (ZsRecFault.j0 k true a0_0 a0_1 a0_2 a0_3 a0_4 a0_5 a0_6 a0_7))) else (ZsRecFault.j0 k true a0_0 a0_1 a0_2 a0_3 a0_4 a0_5 a0_6 a0_7)) else (if a0_1 = 0 then (ZsRecFault.j0 k true a0_0 a0_1 a0_2 a0_3 a0_4 a0_5 a0_6 a0_7) else ((Zsl3Txn.f a0_1).bind fun t123 => (if t123 = true then ((Zsl1Key.f a0_2).bind fun t98 => (if t98 = true then ((Zsl1Value.f a0_4).bind fun t96 => (if t96 = true then ((Zsl1Value.f a0_6).bind fun t94 => (if t94 = true then ((Zsl1In.f a0_7 0 1000).bind fun t92 => (ZsRecFault.j0 k (!t92) a0_0 a0_1 a0_2 a0_3 a0_4 a0_5 a0_6 a0_7)) else (ZsRecFault.j0 k true a0_0 a0_1 a0_2 a0_3 a0_4 a0_5 a0_6 a0_7))) else (ZsRecFault.j0 k true a0_0 a0_1 a0_2 a0_3 a0_4 a0_5 a0_6 a0_7))) else (ZsRecFault.j0 k true a0_0 a0_1 a0_2 a0_3 a0_4 a0_5 a0_6 a0_7))) else (ZsRecFault.j0 k true a0_0 a0_1 a0_2 a0_3 a0_4 a0_5 a0_6 a0_7))))) else (ZsRecFault.j0 k true a0_0 a0_1 a0_2 a0_3 a0_4 a0_5 a0_6 a0_7))) = some r := h
 clear h
 have HC2 := Qz.mk H
 clear H
 go_enter Try.func52, Try.ntmps52
 go_upto_region 1 with (first | ((with_reducible refine gate_dst (N := 1) rfl ?_); refine box_event ?hg (N := 1) ?hd (cs := #[.int .i64 a0_0, .int .i64 a0_1, .int .i64 a0_2, .bool a0_3, .int .i64 a0_4, .bool a0_5, .int .i64 a0_6, .int .i64 a0_7]) (t := 48) ?hr ?_; (case hd => rfl); (case hg => rfl); (case hr => first | (go_simp; done) | (go_simp; rfl)); intro gb91 hg w3 hbox hb; have n0_ := Qz.mk (Qq zb hb); have n1_ := Qz.mk (hbox); have n2_ := Qz.mk ((zh hg : w.heap.size ≤ gb91)); have n3_ := n2_; clear HB; have HB := n0_; have BK91 := n1_; have GW91 := n2_; have GE91 := n3_; clear n0_ n1_ n2_ n3_; clear hb hbox hg))
 (try simp only [Act.put, List.setIfInBounds_toArray, List.set_cons_zero, List.set_cons_succ])
 go_cut [51] (fun v51 wc => ∃ (kq : Nat) (x51_1 : Bool), v51 = .bool x51_1 ∧ Qz (ZsRecFault.j0 kq x51_1 a0_0 a0_1 a0_2 a0_3 a0_4 a0_5 a0_6 a0_7 = some r) ∧ Qz (kq ≤ k) ∧ Qz (wc.heap[gb91]? = some (.cells #[.int .i64 a0_0, .int .i64 a0_1, .int .i64 a0_2, .bool a0_3, .int .i64 a0_4, .bool a0_5, .int .i64 a0_6, .int .i64 a0_7] 48 (0, 0))) ∧ Qz (Below w.heap.size w wc))
 case first =>
  have H := HC2.out
  clear HC2
  replace H := Option.bind_eq_some_iff.mp H
  obtain ⟨t118, A40, H⟩ := H
  replace H : (if t118 = true then (if a0_0 = 6 then (if a0_1 = 0 then ((Zsl1Key.f a0_2).bind fun t99 => (if t99 = true then ((Zsl1Value.f a0_4).bind fun t97 => (if t97 = true then ((Zsl1Value.f a0_6).bind fun t95 => (if t95 = true then ((Zsl1In.f a0_7 0 1000).bind fun t93 => (ZsRecFault.j0 k (!t93) a0_0 a0_1 a0_2 a0_3 a0_4 a0_5 a0_6 a0_7)) else (ZsRecFault.j0 k true a0_0 a0_1 a0_2 a0_3 a0_4 a0_5 a0_6 a0_7))) else (ZsRecFault.j0 k true a0_0 a0_1 a0_2 a0_3 a0_4 a0_5 a0_6 a0_7))) else (ZsRecFault.j0 k true a0_0 a0_1 a0_2 a0_3 a0_4 a0_5 a0_6 a0_7))) else (ZsRecFault.j0 k true a0_0 a0_1 a0_2 a0_3 a0_4 a0_5 a0_6 a0_7)) else (if a0_1 = 0 then (ZsRecFault.j0 k true a0_0 a0_1 a0_2 a0_3 a0_4 a0_5 a0_6 a0_7) else ((Zsl3Txn.f a0_1).bind fun t123 => (if t123 = true then ((Zsl1Key.f a0_2).bind fun t98 => (if t98 = true then ((Zsl1Value.f a0_4).bind fun t96 => (if t96 = true then ((Zsl1Value.f a0_6).bind fun t94 => (if t94 = true then ((Zsl1In.f a0_7 0 1000).bind fun t92 => (ZsRecFault.j0 k (!t92) a0_0 a0_1 a0_2 a0_3 a0_4 a0_5 a0_6 a0_7)) else (ZsRecFault.j0 k true a0_0 a0_1 a0_2 a0_3 a0_4 a0_5 a0_6 a0_7))) else (ZsRecFault.j0 k true a0_0 a0_1 a0_2 a0_3 a0_4 a0_5 a0_6 a0_7))) else (ZsRecFault.j0 k true a0_0 a0_1 a0_2 a0_3 a0_4 a0_5 a0_6 a0_7))) else (ZsRecFault.j0 k true a0_0 a0_1 a0_2 a0_3 a0_4 a0_5 a0_6 a0_7))))) else (ZsRecFault.j0 k true a0_0 a0_1 a0_2 a0_3 a0_4 a0_5 a0_6 a0_7)) = some r := H
  have A4 := Qz.mk A40
  clear A40
  by_cases c5 : t118 = true
  ·subst c5
   have H1 : (if a0_0 = 6 then (if a0_1 = 0 then ((Zsl1Key.f a0_2).bind fun t99 => (if t99 = true then ((Zsl1Value.f a0_4).bind fun t97 => (if t97 = true then ((Zsl1Value.f a0_6).bind fun t95 => (if t95 = true then ((Zsl1In.f a0_7 0 1000).bind fun t93 => (ZsRecFault.j0 k (!t93) a0_0 a0_1 a0_2 a0_3 a0_4 a0_5 a0_6 a0_7)) else (ZsRecFault.j0 k true a0_0 a0_1 a0_2 a0_3 a0_4 a0_5 a0_6 a0_7))) else (ZsRecFault.j0 k true a0_0 a0_1 a0_2 a0_3 a0_4 a0_5 a0_6 a0_7))) else (ZsRecFault.j0 k true a0_0 a0_1 a0_2 a0_3 a0_4 a0_5 a0_6 a0_7))) else (ZsRecFault.j0 k true a0_0 a0_1 a0_2 a0_3 a0_4 a0_5 a0_6 a0_7)) else (if a0_1 = 0 then (ZsRecFault.j0 k true a0_0 a0_1 a0_2 a0_3 a0_4 a0_5 a0_6 a0_7) else ((Zsl3Txn.f a0_1).bind fun t123 => (if t123 = true then ((Zsl1Key.f a0_2).bind fun t98 => (if t98 = true then ((Zsl1Value.f a0_4).bind fun t96 => (if t96 = true then ((Zsl1Value.f a0_6).bind fun t94 => (if t94 = true then ((Zsl1In.f a0_7 0 1000).bind fun t92 => (ZsRecFault.j0 k (!t92) a0_0 a0_1 a0_2 a0_3 a0_4 a0_5 a0_6 a0_7)) else (ZsRecFault.j0 k true a0_0 a0_1 a0_2 a0_3 a0_4 a0_5 a0_6 a0_7))) else (ZsRecFault.j0 k true a0_0 a0_1 a0_2 a0_3 a0_4 a0_5 a0_6 a0_7))) else (ZsRecFault.j0 k true a0_0 a0_1 a0_2 a0_3 a0_4 a0_5 a0_6 a0_7))) else (ZsRecFault.j0 k true a0_0 a0_1 a0_2 a0_3 a0_4 a0_5 a0_6 a0_7))))) = some r := by rw [if_pos rfl] at H; exact H
   clear H
   have H := H1
   clear H1
   by_cases c6 : a0_0 = 6
   ·rw [if_pos c6] at H
    have c6b0 : (a0_0 == 6) = true := beq_iff_eq.mpr c6
    have c6b1 : (a0_0 != 6) = false := bne_eq_false_iff_eq.mpr c6
    clear c6
    (first | rw [c6b0] | (simp only [Qar, Qas]; rw [c6b0]) | skip)
    by_cases c7 : a0_1 = 0
    ·rw [if_pos c7] at H
     have c7b0 : (a0_1 == 0) = true := beq_iff_eq.mpr c7
     have c7b1 : (a0_1 != 0) = false := bne_eq_false_iff_eq.mpr c7
     clear c7
     replace H := Option.bind_eq_some_iff.mp H
     obtain ⟨t99, A80, H⟩ := H
     replace H : (if t99 = true then ((Zsl1Value.f a0_4).bind fun t97 => (if t97 = true then ((Zsl1Value.f a0_6).bind fun t95 => (if t95 = true then ((Zsl1In.f a0_7 0 1000).bind fun t93 => (ZsRecFault.j0 k (!t93) a0_0 a0_1 a0_2 a0_3 a0_4 a0_5 a0_6 a0_7)) else (ZsRecFault.j0 k true a0_0 a0_1 a0_2 a0_3 a0_4 a0_5 a0_6 a0_7))) else (ZsRecFault.j0 k true a0_0 a0_1 a0_2 a0_3 a0_4 a0_5 a0_6 a0_7))) else (ZsRecFault.j0 k true a0_0 a0_1 a0_2 a0_3 a0_4 a0_5 a0_6 a0_7)) = some r := H
     have A8 := Qz.mk A80
     clear A80
     by_cases c9 : t99 = true
     ·subst c9
      have H1 : ((Zsl1Value.f a0_4).bind fun t97 => (if t97 = true then ((Zsl1Value.f a0_6).bind fun t95 => (if t95 = true then ((Zsl1In.f a0_7 0 1000).bind fun t93 => (ZsRecFault.j0 k (!t93) a0_0 a0_1 a0_2 a0_3 a0_4 a0_5 a0_6 a0_7)) else (ZsRecFault.j0 k true a0_0 a0_1 a0_2 a0_3 a0_4 a0_5 a0_6 a0_7))) else (ZsRecFault.j0 k true a0_0 a0_1 a0_2 a0_3 a0_4 a0_5 a0_6 a0_7))) = some r := by rw [if_pos rfl] at H; exact H
      clear H
      have H := H1
      clear H1
      replace H := Option.bind_eq_some_iff.mp H
      obtain ⟨t97, A100, H⟩ := H
      replace H : (if t97 = true then ((Zsl1Value.f a0_6).bind fun t95 => (if t95 = true then ((Zsl1In.f a0_7 0 1000).bind fun t93 => (ZsRecFault.j0 k (!t93) a0_0 a0_1 a0_2 a0_3 a0_4 a0_5 a0_6 a0_7)) else (ZsRecFault.j0 k true a0_0 a0_1 a0_2 a0_3 a0_4 a0_5 a0_6 a0_7))) else (ZsRecFault.j0 k true a0_0 a0_1 a0_2 a0_3 a0_4 a0_5 a0_6 a0_7)) = some r := H
      have A10 := Qz.mk A100
      clear A100
      by_cases c11 : t97 = true
      ·subst c11
       have H1 : ((Zsl1Value.f a0_6).bind fun t95 => (if t95 = true then ((Zsl1In.f a0_7 0 1000).bind fun t93 => (ZsRecFault.j0 k (!t93) a0_0 a0_1 a0_2 a0_3 a0_4 a0_5 a0_6 a0_7)) else (ZsRecFault.j0 k true a0_0 a0_1 a0_2 a0_3 a0_4 a0_5 a0_6 a0_7))) = some r := by rw [if_pos rfl] at H; exact H
       clear H
       have H := H1
       clear H1
       replace H := Option.bind_eq_some_iff.mp H
       obtain ⟨t95, A97, H⟩ := H
       replace H : (if t95 = true then ((Zsl1In.f a0_7 0 1000).bind fun t93 => (ZsRecFault.j0 k (!t93) a0_0 a0_1 a0_2 a0_3 a0_4 a0_5 a0_6 a0_7)) else (ZsRecFault.j0 k true a0_0 a0_1 a0_2 a0_3 a0_4 a0_5 a0_6 a0_7)) = some r := H
       have A12 := Qz.mk A97
       clear A97
       by_cases c13 : t95 = true
       ·subst c13
        have H1 : ((Zsl1In.f a0_7 0 1000).bind fun t93 => (ZsRecFault.j0 k (!t93) a0_0 a0_1 a0_2 a0_3 a0_4 a0_5 a0_6 a0_7)) = some r := by rw [if_pos rfl] at H; exact H
        clear H
        have H := H1
        clear H1
        replace H := Option.bind_eq_some_iff.mp H
        obtain ⟨t93, A140, H⟩ := H
        replace H : (ZsRecFault.j0 k (!t93) a0_0 a0_1 a0_2 a0_3 a0_4 a0_5 a0_6 a0_7) = some r := H
        have A14 := Qz.mk A140
        clear A140
        have H' := Qz.mk H
        clear H
        obtain ⟨z15_0, z15_1, z15_2, z15_3, z15_4, z15_5, z15_6, z15_7, j15_0, j15_1, j15_2, j15_3, j15_4, j15_5, j15_6, j15_7⟩ := Lv.blks8 BK91.out
        go_wp2_with (first | ((with_reducible refine gate_callee (f := 74) rfl ?_); refine Qat (some 6) rfl rfl Try.func74 (by kernel_rfl) rfl #[.int .i64 a0_0, .int .i64 1, .int .i64 6] rfl zm ?_; (with_reducible refine (Zsl1In.calls a0_0 1 6 true _ A4.out).mono ?_); rintro e w' ⟨rfl, ⟨nd, rfl⟩⟩; refine ⟨_, rfl, ?_⟩) | (go_at_call 85; (with_reducible refine (Zsl1Key.calls a0_2 true _ A8.out).mono ?_); rintro e w' ⟨rfl, ⟨nd, rfl⟩⟩) | (go_at_call 86; (with_reducible refine (Zsl1Value.calls a0_4 true _ A10.out).mono ?_); rintro e w' ⟨rfl, ⟨nd, rfl⟩⟩) | (go_at_call 86; (with_reducible refine (Zsl1Value.calls a0_6 true _ A12.out).mono ?_); rintro e w' ⟨rfl, ⟨nd, rfl⟩⟩) | (go_at_call 74; (with_reducible refine (Zsl1In.calls a0_7 0 1000 t93 _ A14.out).mono ?_); rintro e w' ⟨rfl, ⟨nd, rfl⟩⟩))
        go_meet
        case rel => exact ⟨_, (!t93), zs, H', ⟨by first | omega | exact Nat.le_refl _⟩, ⟨zq BK91⟩, ⟨zb⟩⟩
       replace c13 := Bool.eq_false_iff.mpr c13
       subst c13
       have H1 : (ZsRecFault.j0 k true a0_0 a0_1 a0_2 a0_3 a0_4 a0_5 a0_6 a0_7) = some r := by rw [if_neg (show ¬ (false = true) by decide)] at H; exact H
       clear H
       have H := H1
       clear H1
       have H' := Qz.mk H
       clear H
       obtain ⟨z16_0, z16_1, z16_2, z16_3, z16_4, z16_5, z16_6, z16_7, j16_0, j16_1, j16_2, j16_3, j16_4, j16_5, j16_6, j16_7⟩ := Lv.blks8 BK91.out
       go_wp2_with (first | ((with_reducible refine gate_callee (f := 74) rfl ?_); refine Qat (some 6) rfl rfl Try.func74 (by kernel_rfl) rfl #[.int .i64 a0_0, .int .i64 1, .int .i64 6] rfl zm ?_; (with_reducible refine (Zsl1In.calls a0_0 1 6 true _ A4.out).mono ?_); rintro e w' ⟨rfl, ⟨nd, rfl⟩⟩; refine ⟨_, rfl, ?_⟩) | (go_at_call 85; (with_reducible refine (Zsl1Key.calls a0_2 true _ A8.out).mono ?_); rintro e w' ⟨rfl, ⟨nd, rfl⟩⟩) | (go_at_call 86; (with_reducible refine (Zsl1Value.calls a0_4 true _ A10.out).mono ?_); rintro e w' ⟨rfl, ⟨nd, rfl⟩⟩) | (go_at_call 86; (with_reducible refine (Zsl1Value.calls a0_6 false _ A12.out).mono ?_); rintro e w' ⟨rfl, ⟨nd, rfl⟩⟩))
       go_meet
       case rel => exact ⟨_, (true), zs, H', ⟨by first | omega | exact Nat.le_refl _⟩, ⟨zq BK91⟩, ⟨zb⟩⟩
      replace c11 := Bool.eq_false_iff.mpr c11
      subst c11
      have H1 : (ZsRecFault.j0 k true a0_0 a0_1 a0_2 a0_3 a0_4 a0_5 a0_6 a0_7) = some r := by rw [if_neg (show ¬ (false = true) by decide)] at H; exact H
      clear H
      have H := H1
      clear H1
      have H' := Qz.mk H
      clear H
      obtain ⟨z17_0, z17_1, z17_2, z17_3, z17_4, z17_5, z17_6, z17_7, j17_0, j17_1, j17_2, j17_3, j17_4, j17_5, j17_6, j17_7⟩ := Lv.blks8 BK91.out
      go_wp2_with (first | ((with_reducible refine gate_callee (f := 74) rfl ?_); refine Qat (some 6) rfl rfl Try.func74 (by kernel_rfl) rfl #[.int .i64 a0_0, .int .i64 1, .int .i64 6] rfl zm ?_; (with_reducible refine (Zsl1In.calls a0_0 1 6 true _ A4.out).mono ?_); rintro e w' ⟨rfl, ⟨nd, rfl⟩⟩; refine ⟨_, rfl, ?_⟩) | (go_at_call 85; (with_reducible refine (Zsl1Key.calls a0_2 true _ A8.out).mono ?_); rintro e w' ⟨rfl, ⟨nd, rfl⟩⟩) | (go_at_call 86; (with_reducible refine (Zsl1Value.calls a0_4 false _ A10.out).mono ?_); rintro e w' ⟨rfl, ⟨nd, rfl⟩⟩))
      go_meet
      case rel => exact ⟨_, (true), zs, H', ⟨by first | omega | exact Nat.le_refl _⟩, ⟨zq BK91⟩, ⟨zb⟩⟩
     replace c9 := Bool.eq_false_iff.mpr c9
     subst c9
     have H1 : (ZsRecFault.j0 k true a0_0 a0_1 a0_2 a0_3 a0_4 a0_5 a0_6 a0_7) = some r := by rw [if_neg (show ¬ (false = true) by decide)] at H; exact H
     clear H
     have H := H1
     clear H1
     have H' := Qz.mk H
     clear H
     obtain ⟨z18_0, z18_1, z18_2, z18_3, z18_4, z18_5, z18_6, z18_7, j18_0, j18_1, j18_2, j18_3, j18_4, j18_5, j18_6, j18_7⟩ := Lv.blks8 BK91.out
     go_wp2_with (first | ((with_reducible refine gate_callee (f := 74) rfl ?_); refine Qat (some 6) rfl rfl Try.func74 (by kernel_rfl) rfl #[.int .i64 a0_0, .int .i64 1, .int .i64 6] rfl zm ?_; (with_reducible refine (Zsl1In.calls a0_0 1 6 true _ A4.out).mono ?_); rintro e w' ⟨rfl, ⟨nd, rfl⟩⟩; refine ⟨_, rfl, ?_⟩) | (go_at_call 85; (with_reducible refine (Zsl1Key.calls a0_2 false _ A8.out).mono ?_); rintro e w' ⟨rfl, ⟨nd, rfl⟩⟩))
     go_meet
     case rel => exact ⟨_, (true), zs, H', ⟨by first | omega | exact Nat.le_refl _⟩, ⟨zq BK91⟩, ⟨zb⟩⟩
    rw [if_neg c7] at H
    have c7b0 : (a0_1 == 0) = false := beq_eq_false_iff_ne.mpr c7
    have c7b1 : (a0_1 != 0) = true := bne_iff_ne.mpr c7
    have H' := Qz.mk H
    clear H
    obtain ⟨z19_0, z19_1, z19_2, z19_3, z19_4, z19_5, z19_6, z19_7, j19_0, j19_1, j19_2, j19_3, j19_4, j19_5, j19_6, j19_7⟩ := Lv.blks8 BK91.out
    go_wp2_with (first | ((with_reducible refine gate_callee (f := 74) rfl ?_); refine Qat (some 6) rfl rfl Try.func74 (by kernel_rfl) rfl #[.int .i64 a0_0, .int .i64 1, .int .i64 6] rfl zm ?_; (with_reducible refine (Zsl1In.calls a0_0 1 6 true _ A4.out).mono ?_); rintro e w' ⟨rfl, ⟨nd, rfl⟩⟩; refine ⟨_, rfl, ?_⟩))
    go_meet
    case rel => exact ⟨_, (true), zs, H', ⟨by first | omega | exact Nat.le_refl _⟩, ⟨zq BK91⟩, ⟨zb⟩⟩
   rw [if_neg c6] at H
   have c6b0 : (a0_0 == 6) = false := beq_eq_false_iff_ne.mpr c6
   have c6b1 : (a0_0 != 6) = true := bne_iff_ne.mpr c6
   (first | rw [c6b0] | (simp only [Qar, Qas]; rw [c6b0]) | skip)
   by_cases c20 : a0_1 = 0
   ·rw [if_pos c20] at H
    have c20b0 : (a0_1 == 0) = true := beq_iff_eq.mpr c20
    have c20b1 : (a0_1 != 0) = false := bne_eq_false_iff_eq.mpr c20
    clear c20
    have H' := Qz.mk H
    clear H
    obtain ⟨z21_0, z21_1, z21_2, z21_3, z21_4, z21_5, z21_6, z21_7, j21_0, j21_1, j21_2, j21_3, j21_4, j21_5, j21_6, j21_7⟩ := Lv.blks8 BK91.out
    go_wp2_with (first | ((with_reducible refine gate_callee (f := 74) rfl ?_); refine Qat (some 6) rfl rfl Try.func74 (by kernel_rfl) rfl #[.int .i64 a0_0, .int .i64 1, .int .i64 6] rfl zm ?_; (with_reducible refine (Zsl1In.calls a0_0 1 6 true _ A4.out).mono ?_); rintro e w' ⟨rfl, ⟨nd, rfl⟩⟩; refine ⟨_, rfl, ?_⟩))
    go_meet
    case rel => exact ⟨_, (true), zs, H', ⟨by first | omega | exact Nat.le_refl _⟩, ⟨zq BK91⟩, ⟨zb⟩⟩
   rw [if_neg c20] at H
   have c20b0 : (a0_1 == 0) = false := beq_eq_false_iff_ne.mpr c20
   have c20b1 : (a0_1 != 0) = true := bne_iff_ne.mpr c20
   replace H := Option.bind_eq_some_iff.mp H
   obtain ⟨t123, A220, H⟩ := H
   replace H : (if t123 = true then ((Zsl1Key.f a0_2).bind fun t98 => (if t98 = true then ((Zsl1Value.f a0_4).bind fun t96 => (if t96 = true then ((Zsl1Value.f a0_6).bind fun t94 => (if t94 = true then ((Zsl1In.f a0_7 0 1000).bind fun t92 => (ZsRecFault.j0 k (!t92) a0_0 a0_1 a0_2 a0_3 a0_4 a0_5 a0_6 a0_7)) else (ZsRecFault.j0 k true a0_0 a0_1 a0_2 a0_3 a0_4 a0_5 a0_6 a0_7))) else (ZsRecFault.j0 k true a0_0 a0_1 a0_2 a0_3 a0_4 a0_5 a0_6 a0_7))) else (ZsRecFault.j0 k true a0_0 a0_1 a0_2 a0_3 a0_4 a0_5 a0_6 a0_7))) else (ZsRecFault.j0 k true a0_0 a0_1 a0_2 a0_3 a0_4 a0_5 a0_6 a0_7)) = some r := H
   have A22 := Qz.mk A220
   clear A220
   by_cases c23 : t123 = true
   ·subst c23
    have H1 : ((Zsl1Key.f a0_2).bind fun t98 => (if t98 = true then ((Zsl1Value.f a0_4).bind fun t96 => (if t96 = true then ((Zsl1Value.f a0_6).bind fun t94 => (if t94 = true then ((Zsl1In.f a0_7 0 1000).bind fun t92 => (ZsRecFault.j0 k (!t92) a0_0 a0_1 a0_2 a0_3 a0_4 a0_5 a0_6 a0_7)) else (ZsRecFault.j0 k true a0_0 a0_1 a0_2 a0_3 a0_4 a0_5 a0_6 a0_7))) else (ZsRecFault.j0 k true a0_0 a0_1 a0_2 a0_3 a0_4 a0_5 a0_6 a0_7))) else (ZsRecFault.j0 k true a0_0 a0_1 a0_2 a0_3 a0_4 a0_5 a0_6 a0_7))) = some r := by rw [if_pos rfl] at H; exact H
    clear H
    have H := H1
    clear H1
    replace H := Option.bind_eq_some_iff.mp H
    obtain ⟨t98, A240, H⟩ := H
    replace H : (if t98 = true then ((Zsl1Value.f a0_4).bind fun t96 => (if t96 = true then ((Zsl1Value.f a0_6).bind fun t94 => (if t94 = true then ((Zsl1In.f a0_7 0 1000).bind fun t92 => (ZsRecFault.j0 k (!t92) a0_0 a0_1 a0_2 a0_3 a0_4 a0_5 a0_6 a0_7)) else (ZsRecFault.j0 k true a0_0 a0_1 a0_2 a0_3 a0_4 a0_5 a0_6 a0_7))) else (ZsRecFault.j0 k true a0_0 a0_1 a0_2 a0_3 a0_4 a0_5 a0_6 a0_7))) else (ZsRecFault.j0 k true a0_0 a0_1 a0_2 a0_3 a0_4 a0_5 a0_6 a0_7)) = some r := H
    have A24 := Qz.mk A240
    clear A240
    by_cases c25 : t98 = true
    ·subst c25
     have H1 : ((Zsl1Value.f a0_4).bind fun t96 => (if t96 = true then ((Zsl1Value.f a0_6).bind fun t94 => (if t94 = true then ((Zsl1In.f a0_7 0 1000).bind fun t92 => (ZsRecFault.j0 k (!t92) a0_0 a0_1 a0_2 a0_3 a0_4 a0_5 a0_6 a0_7)) else (ZsRecFault.j0 k true a0_0 a0_1 a0_2 a0_3 a0_4 a0_5 a0_6 a0_7))) else (ZsRecFault.j0 k true a0_0 a0_1 a0_2 a0_3 a0_4 a0_5 a0_6 a0_7))) = some r := by rw [if_pos rfl] at H; exact H
     clear H
     have H := H1
     clear H1
     replace H := Option.bind_eq_some_iff.mp H
     obtain ⟨t96, A260, H⟩ := H
     replace H : (if t96 = true then ((Zsl1Value.f a0_6).bind fun t94 => (if t94 = true then ((Zsl1In.f a0_7 0 1000).bind fun t92 => (ZsRecFault.j0 k (!t92) a0_0 a0_1 a0_2 a0_3 a0_4 a0_5 a0_6 a0_7)) else (ZsRecFault.j0 k true a0_0 a0_1 a0_2 a0_3 a0_4 a0_5 a0_6 a0_7))) else (ZsRecFault.j0 k true a0_0 a0_1 a0_2 a0_3 a0_4 a0_5 a0_6 a0_7)) = some r := H
     have A26 := Qz.mk A260
     clear A260
     by_cases c27 : t96 = true
     ·subst c27
      have H1 : ((Zsl1Value.f a0_6).bind fun t94 => (if t94 = true then ((Zsl1In.f a0_7 0 1000).bind fun t92 => (ZsRecFault.j0 k (!t92) a0_0 a0_1 a0_2 a0_3 a0_4 a0_5 a0_6 a0_7)) else (ZsRecFault.j0 k true a0_0 a0_1 a0_2 a0_3 a0_4 a0_5 a0_6 a0_7))) = some r := by rw [if_pos rfl] at H; exact H
      clear H
      have H := H1
      clear H1
      replace H := Option.bind_eq_some_iff.mp H
      obtain ⟨t94, A280, H⟩ := H
      replace H : (if t94 = true then ((Zsl1In.f a0_7 0 1000).bind fun t92 => (ZsRecFault.j0 k (!t92) a0_0 a0_1 a0_2 a0_3 a0_4 a0_5 a0_6 a0_7)) else (ZsRecFault.j0 k true a0_0 a0_1 a0_2 a0_3 a0_4 a0_5 a0_6 a0_7)) = some r := H
      have A28 := Qz.mk A280
      clear A280
      by_cases c29 : t94 = true
      ·subst c29
       have H1 : ((Zsl1In.f a0_7 0 1000).bind fun t92 => (ZsRecFault.j0 k (!t92) a0_0 a0_1 a0_2 a0_3 a0_4 a0_5 a0_6 a0_7)) = some r := by rw [if_pos rfl] at H; exact H
       clear H
       have H := H1
       clear H1
       replace H := Option.bind_eq_some_iff.mp H
       obtain ⟨t92, A300, H⟩ := H
       replace H : (ZsRecFault.j0 k (!t92) a0_0 a0_1 a0_2 a0_3 a0_4 a0_5 a0_6 a0_7) = some r := H
       have A30 := Qz.mk A300
       clear A300
       have H' := Qz.mk H
       clear H
       obtain ⟨z31_0, z31_1, z31_2, z31_3, z31_4, z31_5, z31_6, z31_7, j31_0, j31_1, j31_2, j31_3, j31_4, j31_5, j31_6, j31_7⟩ := Lv.blks8 BK91.out
       go_wp2_with (first | ((with_reducible refine gate_callee (f := 74) rfl ?_); refine Qat (some 6) rfl rfl Try.func74 (by kernel_rfl) rfl #[.int .i64 a0_0, .int .i64 1, .int .i64 6] rfl zm ?_; (with_reducible refine (Zsl1In.calls a0_0 1 6 true _ A4.out).mono ?_); rintro e w' ⟨rfl, ⟨nd, rfl⟩⟩; refine ⟨_, rfl, ?_⟩) | (go_at_call 53; (with_reducible refine (Zsl3Txn.calls a0_1 true _ A22.out).mono ?_); rintro e w' ⟨rfl, ⟨nd, rfl⟩⟩) | (go_at_call 85; (with_reducible refine (Zsl1Key.calls a0_2 true _ A24.out).mono ?_); rintro e w' ⟨rfl, ⟨nd, rfl⟩⟩) | (go_at_call 86; (with_reducible refine (Zsl1Value.calls a0_4 true _ A26.out).mono ?_); rintro e w' ⟨rfl, ⟨nd, rfl⟩⟩) | (go_at_call 86; (with_reducible refine (Zsl1Value.calls a0_6 true _ A28.out).mono ?_); rintro e w' ⟨rfl, ⟨nd, rfl⟩⟩) | (go_at_call 74; (with_reducible refine (Zsl1In.calls a0_7 0 1000 t92 _ A30.out).mono ?_); rintro e w' ⟨rfl, ⟨nd, rfl⟩⟩))
       go_meet
       case rel => exact ⟨_, (!t92), zs, H', ⟨by first | omega | exact Nat.le_refl _⟩, ⟨zq BK91⟩, ⟨zb⟩⟩
      replace c29 := Bool.eq_false_iff.mpr c29
      subst c29
      have H1 : (ZsRecFault.j0 k true a0_0 a0_1 a0_2 a0_3 a0_4 a0_5 a0_6 a0_7) = some r := by rw [if_neg (show ¬ (false = true) by decide)] at H; exact H
      clear H
      have H := H1
      clear H1
      have H' := Qz.mk H
      clear H
      obtain ⟨z32_0, z32_1, z32_2, z32_3, z32_4, z32_5, z32_6, z32_7, j32_0, j32_1, j32_2, j32_3, j32_4, j32_5, j32_6, j32_7⟩ := Lv.blks8 BK91.out
      go_wp2_with (first | ((with_reducible refine gate_callee (f := 74) rfl ?_); refine Qat (some 6) rfl rfl Try.func74 (by kernel_rfl) rfl #[.int .i64 a0_0, .int .i64 1, .int .i64 6] rfl zm ?_; (with_reducible refine (Zsl1In.calls a0_0 1 6 true _ A4.out).mono ?_); rintro e w' ⟨rfl, ⟨nd, rfl⟩⟩; refine ⟨_, rfl, ?_⟩) | (go_at_call 53; (with_reducible refine (Zsl3Txn.calls a0_1 true _ A22.out).mono ?_); rintro e w' ⟨rfl, ⟨nd, rfl⟩⟩) | (go_at_call 85; (with_reducible refine (Zsl1Key.calls a0_2 true _ A24.out).mono ?_); rintro e w' ⟨rfl, ⟨nd, rfl⟩⟩) | (go_at_call 86; (with_reducible refine (Zsl1Value.calls a0_4 true _ A26.out).mono ?_); rintro e w' ⟨rfl, ⟨nd, rfl⟩⟩) | (go_at_call 86; (with_reducible refine (Zsl1Value.calls a0_6 false _ A28.out).mono ?_); rintro e w' ⟨rfl, ⟨nd, rfl⟩⟩))
      go_meet
      case rel => exact ⟨_, (true), zs, H', ⟨by first | omega | exact Nat.le_refl _⟩, ⟨zq BK91⟩, ⟨zb⟩⟩
     replace c27 := Bool.eq_false_iff.mpr c27
     subst c27
     have H1 : (ZsRecFault.j0 k true a0_0 a0_1 a0_2 a0_3 a0_4 a0_5 a0_6 a0_7) = some r := by rw [if_neg (show ¬ (false = true) by decide)] at H; exact H
     clear H
     have H := H1
     clear H1
     have H' := Qz.mk H
     clear H
     obtain ⟨z33_0, z33_1, z33_2, z33_3, z33_4, z33_5, z33_6, z33_7, j33_0, j33_1, j33_2, j33_3, j33_4, j33_5, j33_6, j33_7⟩ := Lv.blks8 BK91.out
     go_wp2_with (first | ((with_reducible refine gate_callee (f := 74) rfl ?_); refine Qat (some 6) rfl rfl Try.func74 (by kernel_rfl) rfl #[.int .i64 a0_0, .int .i64 1, .int .i64 6] rfl zm ?_; (with_reducible refine (Zsl1In.calls a0_0 1 6 true _ A4.out).mono ?_); rintro e w' ⟨rfl, ⟨nd, rfl⟩⟩; refine ⟨_, rfl, ?_⟩) | (go_at_call 53; (with_reducible refine (Zsl3Txn.calls a0_1 true _ A22.out).mono ?_); rintro e w' ⟨rfl, ⟨nd, rfl⟩⟩) | (go_at_call 85; (with_reducible refine (Zsl1Key.calls a0_2 true _ A24.out).mono ?_); rintro e w' ⟨rfl, ⟨nd, rfl⟩⟩) | (go_at_call 86; (with_reducible refine (Zsl1Value.calls a0_4 false _ A26.out).mono ?_); rintro e w' ⟨rfl, ⟨nd, rfl⟩⟩))
     go_meet
     case rel => exact ⟨_, (true), zs, H', ⟨by first | omega | exact Nat.le_refl _⟩, ⟨zq BK91⟩, ⟨zb⟩⟩
    replace c25 := Bool.eq_false_iff.mpr c25
    subst c25
    have H1 : (ZsRecFault.j0 k true a0_0 a0_1 a0_2 a0_3 a0_4 a0_5 a0_6 a0_7) = some r := by rw [if_neg (show ¬ (false = true) by decide)] at H; exact H
    clear H
    have H := H1
    clear H1
    have H' := Qz.mk H
    clear H
    obtain ⟨z34_0, z34_1, z34_2, z34_3, z34_4, z34_5, z34_6, z34_7, j34_0, j34_1, j34_2, j34_3, j34_4, j34_5, j34_6, j34_7⟩ := Lv.blks8 BK91.out
    go_wp2_with (first | ((with_reducible refine gate_callee (f := 74) rfl ?_); refine Qat (some 6) rfl rfl Try.func74 (by kernel_rfl) rfl #[.int .i64 a0_0, .int .i64 1, .int .i64 6] rfl zm ?_; (with_reducible refine (Zsl1In.calls a0_0 1 6 true _ A4.out).mono ?_); rintro e w' ⟨rfl, ⟨nd, rfl⟩⟩; refine ⟨_, rfl, ?_⟩) | (go_at_call 53; (with_reducible refine (Zsl3Txn.calls a0_1 true _ A22.out).mono ?_); rintro e w' ⟨rfl, ⟨nd, rfl⟩⟩) | (go_at_call 85; (with_reducible refine (Zsl1Key.calls a0_2 false _ A24.out).mono ?_); rintro e w' ⟨rfl, ⟨nd, rfl⟩⟩))
    go_meet
    case rel => exact ⟨_, (true), zs, H', ⟨by first | omega | exact Nat.le_refl _⟩, ⟨zq BK91⟩, ⟨zb⟩⟩
   replace c23 := Bool.eq_false_iff.mpr c23
   subst c23
   have H1 : (ZsRecFault.j0 k true a0_0 a0_1 a0_2 a0_3 a0_4 a0_5 a0_6 a0_7) = some r := by rw [if_neg (show ¬ (false = true) by decide)] at H; exact H
   clear H
   have H := H1
   clear H1
   have H' := Qz.mk H
   clear H
   obtain ⟨z35_0, z35_1, z35_2, z35_3, z35_4, z35_5, z35_6, z35_7, j35_0, j35_1, j35_2, j35_3, j35_4, j35_5, j35_6, j35_7⟩ := Lv.blks8 BK91.out
   go_wp2_with (first | ((with_reducible refine gate_callee (f := 74) rfl ?_); refine Qat (some 6) rfl rfl Try.func74 (by kernel_rfl) rfl #[.int .i64 a0_0, .int .i64 1, .int .i64 6] rfl zm ?_; (with_reducible refine (Zsl1In.calls a0_0 1 6 true _ A4.out).mono ?_); rintro e w' ⟨rfl, ⟨nd, rfl⟩⟩; refine ⟨_, rfl, ?_⟩) | (go_at_call 53; (with_reducible refine (Zsl3Txn.calls a0_1 false _ A22.out).mono ?_); rintro e w' ⟨rfl, ⟨nd, rfl⟩⟩))
   go_meet
   case rel => exact ⟨_, (true), zs, H', ⟨by first | omega | exact Nat.le_refl _⟩, ⟨zq BK91⟩, ⟨zb⟩⟩
  replace c5 := Bool.eq_false_iff.mpr c5
  subst c5
  have H1 : (ZsRecFault.j0 k true a0_0 a0_1 a0_2 a0_3 a0_4 a0_5 a0_6 a0_7) = some r := by rw [if_neg (show ¬ (false = true) by decide)] at H; exact H
  clear H
  have H := H1
  clear H1
  have H' := Qz.mk H
  clear H
  obtain ⟨z36_0, z36_1, z36_2, z36_3, z36_4, z36_5, z36_6, z36_7, j36_0, j36_1, j36_2, j36_3, j36_4, j36_5, j36_6, j36_7⟩ := Lv.blks8 BK91.out
  go_wp2_with (first | ((with_reducible refine gate_callee (f := 74) rfl ?_); refine Qat (some 6) rfl rfl Try.func74 (by kernel_rfl) rfl #[.int .i64 a0_0, .int .i64 1, .int .i64 6] rfl zm ?_; (with_reducible refine (Zsl1In.calls a0_0 1 6 false _ A4.out).mono ?_); rintro e w' ⟨rfl, ⟨nd, rfl⟩⟩; refine ⟨_, rfl, ?_⟩))
  go_meet
  case rel => exact ⟨_, (true), zs, H', ⟨by first | omega | exact Nat.le_refl _⟩, ⟨zq BK91⟩, ⟨zb⟩⟩
 case rest =>
  clear HC2
  try clear c1
  try clear c2
  try clear p2
  try clear c5
  try clear c6
  try clear c6b0
  try clear c6b1
  try clear c7
  try clear c7b0
  try clear c7b1
  try clear c9
  try clear c11
  try clear c13
  try clear c20
  try clear c20b0
  try clear c20b1
  try clear c23
  try clear c25
  try clear c27
  try clear c29
  try clear z15_0 z15_1 z15_2 z15_3 z15_4 z15_5 z15_6 z15_7
  try clear z16_0 z16_1 z16_2 z16_3 z16_4 z16_5 z16_6 z16_7
  try clear z17_0 z17_1 z17_2 z17_3 z17_4 z17_5 z17_6 z17_7
  try clear z18_0 z18_1 z18_2 z18_3 z18_4 z18_5 z18_6 z18_7
  try clear z19_0 z19_1 z19_2 z19_3 z19_4 z19_5 z19_6 z19_7
  try clear z21_0 z21_1 z21_2 z21_3 z21_4 z21_5 z21_6 z21_7
  try clear z31_0 z31_1 z31_2 z31_3 z31_4 z31_5 z31_6 z31_7
  try clear z32_0 z32_1 z32_2 z32_3 z32_4 z32_5 z32_6 z32_7
  try clear z33_0 z33_1 z33_2 z33_3 z33_4 z33_5 z33_6 z33_7
  try clear z34_0 z34_1 z34_2 z34_3 z34_4 z34_5 z34_6 z34_7
  try clear z35_0 z35_1 z35_2 z35_3 z35_4 z35_5 z35_6 z35_7
  try clear z36_0 z36_1 z36_2 z36_3 z36_4 z36_5 z36_6 z36_7
  try clear j15_0 j15_1 j15_2 j15_3 j15_4 j15_5 j15_6 j15_7
  try clear j16_0 j16_1 j16_2 j16_3 j16_4 j16_5 j16_6 j16_7
  try clear j17_0 j17_1 j17_2 j17_3 j17_4 j17_5 j17_6 j17_7
  try clear j18_0 j18_1 j18_2 j18_3 j18_4 j18_5 j18_6 j18_7
  try clear j19_0 j19_1 j19_2 j19_3 j19_4 j19_5 j19_6 j19_7
  try clear j21_0 j21_1 j21_2 j21_3 j21_4 j21_5 j21_6 j21_7
  try clear j31_0 j31_1 j31_2 j31_3 j31_4 j31_5 j31_6 j31_7
  try clear j32_0 j32_1 j32_2 j32_3 j32_4 j32_5 j32_6 j32_7
  try clear j33_0 j33_1 j33_2 j33_3 j33_4 j33_5 j33_6 j33_7
  try clear j34_0 j34_1 j34_2 j34_3 j34_4 j34_5 j34_6 j34_7
  try clear j35_0 j35_1 j35_2 j35_3 j35_4 j35_5 j35_6 j35_7
  try clear j36_0 j36_1 j36_2 j36_3 j36_4 j36_5 j36_6 j36_7
  obtain ⟨kq, x51_1, rfl, HA, HJ1, BK91, HB⟩ := hcut
  cases kq with
  | zero => exact absurd HA.out (by simp [ZsRecFault.j0])
  | succ kj1 =>
   have H := HA.out
   clear HA
   simp only [ZsRecFault.j0] at H
   by_cases c37 : x51_1 = true
   ·subst c37
    have H1 : (some 3) = some r := by rw [if_pos rfl] at H; exact H
    clear H
    have H := H1
    clear H1
    obtain rfl := Option.some.inj H
    go_wp2
    go_ret
    exact ⟨ze, zb⟩
   replace c37 := Bool.eq_false_iff.mpr c37
   subst c37
   have H1 : (if a0_0 = 2 then (ZsRecFault.j1 kj1 true a0_0 a0_1 a0_2 a0_3 a0_4 a0_5 a0_6 a0_7) else (ZsRecFault.j1 kj1 (a0_0 == 5) a0_0 a0_1 a0_2 a0_3 a0_4 a0_5 a0_6 a0_7)) = some r := by rw [if_neg (show ¬ (false = true) by decide)] at H; exact H
   clear H
   have H := H1
   clear H1
   have HC38 := Qz.mk H
   clear H
   go_upto_region 3 with (fail)
   go_cut [3] (fun v3 wc => ∃ (kq : Nat) (x3_37 : Bool), v3 = .bool x3_37 ∧ Qz (ZsRecFault.j1 kq x3_37 a0_0 a0_1 a0_2 a0_3 a0_4 a0_5 a0_6 a0_7 = some r) ∧ Qz (kq ≤ kj1) ∧ Qz (wc.heap[gb91]? = some (.cells #[.int .i64 a0_0, .int .i64 a0_1, .int .i64 a0_2, .bool a0_3, .int .i64 a0_4, .bool a0_5, .int .i64 a0_6, .int .i64 a0_7] 48 (0, 0))) ∧ Qz (Below w.heap.size w wc))
   case first =>
    have H := HC38.out
    clear HC38
    by_cases c39 : a0_0 = 2
    ·rw [if_pos c39] at H
     have c39b0 : (a0_0 == 2) = true := beq_iff_eq.mpr c39
     have c39b1 : (a0_0 != 2) = false := bne_eq_false_iff_eq.mpr c39
     clear c39
     (first | rw [c39b0] | (simp only [Qar, Qas]; rw [c39b0]) | skip)
     have H' := Qz.mk H
     clear H
     obtain ⟨z40_0, z40_1, z40_2, z40_3, z40_4, z40_5, z40_6, z40_7, j40_0, j40_1, j40_2, j40_3, j40_4, j40_5, j40_6, j40_7⟩ := Lv.blks8 BK91.out
     go_wp2
     go_meet
     case rel => exact ⟨_, (true), zs, H', ⟨by have := HJ1.out; first | omega | exact Nat.le_refl _⟩, ⟨zq BK91⟩, ⟨zb⟩⟩
    rw [if_neg c39] at H
    have c39b0 : (a0_0 == 2) = false := beq_eq_false_iff_ne.mpr c39
    have c39b1 : (a0_0 != 2) = true := bne_iff_ne.mpr c39
    (first | rw [c39b0] | (simp only [Qar, Qas]; rw [c39b0]) | skip)
    have H' := Qz.mk H
    clear H
    obtain ⟨z41_0, z41_1, z41_2, z41_3, z41_4, z41_5, z41_6, z41_7, j41_0, j41_1, j41_2, j41_3, j41_4, j41_5, j41_6, j41_7⟩ := Lv.blks8 BK91.out
    go_wp2
    go_meet
    case rel => exact ⟨_, ((a0_0 == 5)), zs, H', ⟨by have := HJ1.out; first | omega | exact Nat.le_refl _⟩, ⟨zq BK91⟩, ⟨zb⟩⟩
   case rest =>
    clear HC38
    try clear c1
    try clear c2
    try clear p2
    try clear c3
    try clear c5
    try clear c6
    try clear c6b0
    try clear c6b1
    try clear c7
    try clear c7b0
    try clear c7b1
    try clear c9
    try clear c11
    try clear c13
    try clear c20
    try clear c20b0
    try clear c20b1
    try clear c23
    try clear c25
    try clear c27
    try clear c29
    try clear c37
    try clear c39
    try clear c39b0
    try clear c39b1
    try clear z15_0 z15_1 z15_2 z15_3 z15_4 z15_5 z15_6 z15_7
    try clear z16_0 z16_1 z16_2 z16_3 z16_4 z16_5 z16_6 z16_7
    try clear z17_0 z17_1 z17_2 z17_3 z17_4 z17_5 z17_6 z17_7
    try clear z18_0 z18_1 z18_2 z18_3 z18_4 z18_5 z18_6 z18_7
    try clear z19_0 z19_1 z19_2 z19_3 z19_4 z19_5 z19_6 z19_7
    try clear z21_0 z21_1 z21_2 z21_3 z21_4 z21_5 z21_6 z21_7
    try clear z31_0 z31_1 z31_2 z31_3 z31_4 z31_5 z31_6 z31_7
    try clear z32_0 z32_1 z32_2 z32_3 z32_4 z32_5 z32_6 z32_7
    try clear z33_0 z33_1 z33_2 z33_3 z33_4 z33_5 z33_6 z33_7
    try clear z34_0 z34_1 z34_2 z34_3 z34_4 z34_5 z34_6 z34_7
    try clear z35_0 z35_1 z35_2 z35_3 z35_4 z35_5 z35_6 z35_7
    try clear z36_0 z36_1 z36_2 z36_3 z36_4 z36_5 z36_6 z36_7
    try clear z40_0 z40_1 z40_2 z40_3 z40_4 z40_5 z40_6 z40_7
    try clear z41_0 z41_1 z41_2 z41_3 z41_4 z41_5 z41_6 z41_7
    try clear j15_0 j15_1 j15_2 j15_3 j15_4 j15_5 j15_6 j15_7
    try clear j16_0 j16_1 j16_2 j16_3 j16_4 j16_5 j16_6 j16_7
    try clear j17_0 j17_1 j17_2 j17_3 j17_4 j17_5 j17_6 j17_7
    try clear j18_0 j18_1 j18_2 j18_3 j18_4 j18_5 j18_6 j18_7
    try clear j19_0 j19_1 j19_2 j19_3 j19_4 j19_5 j19_6 j19_7
    try clear j21_0 j21_1 j21_2 j21_3 j21_4 j21_5 j21_6 j21_7
    try clear j31_0 j31_1 j31_2 j31_3 j31_4 j31_5 j31_6 j31_7
    try clear j32_0 j32_1 j32_2 j32_3 j32_4 j32_5 j32_6 j32_7
    try clear j33_0 j33_1 j33_2 j33_3 j33_4 j33_5 j33_6 j33_7
    try clear j34_0 j34_1 j34_2 j34_3 j34_4 j34_5 j34_6 j34_7
    try clear j35_0 j35_1 j35_2 j35_3 j35_4 j35_5 j35_6 j35_7
    try clear j36_0 j36_1 j36_2 j36_3 j36_4 j36_5 j36_6 j36_7
    try clear j40_0 j40_1 j40_2 j40_3 j40_4 j40_5 j40_6 j40_7
    try clear j41_0 j41_1 j41_2 j41_3 j41_4 j41_5 j41_6 j41_7
    try clear p2
    obtain ⟨kq, x3_37, rfl, HA, HJ37, BK91, HB⟩ := hcut
    cases kq with
    | zero => exact absurd HA.out (by simp [ZsRecFault.j1])
    | succ kj37 =>
     have H := HA.out
     clear HA
     simp only [ZsRecFault.j1] at H
     have HC42 := Qz.mk H
     clear H
     go_upto_region 4 with (fail)
     go_cut [84] (fun v84 wc => ∃ (kq : Nat) (x84_41 : Bool), v84 = .bool x84_41 ∧ Qz (ZsRecFault.j2 kq x84_41 a0_0 a0_1 a0_2 a0_3 a0_4 a0_5 a0_6 a0_7 = some r) ∧ Qz (kq ≤ kj37) ∧ Qz (wc.heap[gb91]? = some (.cells #[.int .i64 a0_0, .int .i64 a0_1, .int .i64 a0_2, .bool a0_3, .int .i64 a0_4, .bool a0_5, .int .i64 a0_6, .int .i64 a0_7] 48 (0, 0))) ∧ Qz (Below w.heap.size w wc))
     case first =>
      have H := HC42.out
      clear HC42
      by_cases c43 : x3_37 = true
      ·subst c43
       have H1 : (ZsRecFault.j2 kj37 false a0_0 a0_1 a0_2 a0_3 a0_4 a0_5 a0_6 a0_7) = some r := by rw [if_pos rfl] at H; exact H
       clear H
       have H := H1
       clear H1
       have H' := Qz.mk H
       clear H
       go_wp2
       go_meet
       case rel => exact ⟨_, (false), zs, H', ⟨by have := HJ1.out; have := HJ37.out; first | omega | exact Nat.le_refl _⟩, ⟨zq BK91⟩, ⟨zb⟩⟩
      replace c43 := Bool.eq_false_iff.mpr c43
      subst c43
      have H1 : (if a0_2 = 0 then (if a0_3 = true then (ZsRecFault.j2 kj37 true a0_0 a0_1 a0_2 a0_3 a0_4 a0_5 a0_6 a0_7) else (if a0_4 = 0 then (if a0_5 = true then (ZsRecFault.j2 kj37 true a0_0 a0_1 a0_2 a0_3 a0_4 a0_5 a0_6 a0_7) else (ZsRecFault.j2 kj37 (a0_6 != 0) a0_0 a0_1 a0_2 a0_3 a0_4 a0_5 a0_6 a0_7)) else (ZsRecFault.j2 kj37 true a0_0 a0_1 a0_2 a0_3 a0_4 a0_5 a0_6 a0_7))) else (ZsRecFault.j2 kj37 true a0_0 a0_1 a0_2 a0_3 a0_4 a0_5 a0_6 a0_7)) = some r := by rw [if_neg (show ¬ (false = true) by decide)] at H; exact H
      clear H
      have H := H1
      clear H1
      by_cases c44 : a0_2 = 0
      ·rw [if_pos c44] at H
       have c44b0 : (a0_2 == 0) = true := beq_iff_eq.mpr c44
       have c44b1 : (a0_2 != 0) = false := bne_eq_false_iff_eq.mpr c44
       clear c44
       (first | rw [c44b0] | (simp only [Qar, Qas]; rw [c44b0]) | skip)
       by_cases c45 : a0_3 = true
       ·subst c45
        have H1 : (ZsRecFault.j2 kj37 true a0_0 a0_1 a0_2 true a0_4 a0_5 a0_6 a0_7) = some r := by rw [if_pos rfl] at H; exact H
        clear H
        have H := H1
        clear H1
        have H' := Qz.mk H
        clear H
        obtain ⟨z46_0, z46_1, z46_2, z46_3, z46_4, z46_5, z46_6, z46_7, j46_0, j46_1, j46_2, j46_3, j46_4, j46_5, j46_6, j46_7⟩ := Lv.blks8 BK91.out
        go_wp2
        go_meet
        case rel => exact ⟨_, (true), zs, H', ⟨by have := HJ1.out; have := HJ37.out; first | omega | exact Nat.le_refl _⟩, ⟨zq BK91⟩, ⟨zb⟩⟩
       replace c45 := Bool.eq_false_iff.mpr c45
       subst c45
       have H1 : (if a0_4 = 0 then (if a0_5 = true then (ZsRecFault.j2 kj37 true a0_0 a0_1 a0_2 false a0_4 a0_5 a0_6 a0_7) else (ZsRecFault.j2 kj37 (a0_6 != 0) a0_0 a0_1 a0_2 false a0_4 a0_5 a0_6 a0_7)) else (ZsRecFault.j2 kj37 true a0_0 a0_1 a0_2 false a0_4 a0_5 a0_6 a0_7)) = some r := by rw [if_neg (show ¬ (false = true) by decide)] at H; exact H
       clear H
       have H := H1
       clear H1
       by_cases c47 : a0_4 = 0
       ·rw [if_pos c47] at H
        have c47b0 : (a0_4 == 0) = true := beq_iff_eq.mpr c47
        have c47b1 : (a0_4 != 0) = false := bne_eq_false_iff_eq.mpr c47
        clear c47
        by_cases c48 : a0_5 = true
        ·subst c48
         have H1 : (ZsRecFault.j2 kj37 true a0_0 a0_1 a0_2 false a0_4 true a0_6 a0_7) = some r := by rw [if_pos rfl] at H; exact H
         clear H
         have H := H1
         clear H1
         have H' := Qz.mk H
         clear H
         obtain ⟨z49_0, z49_1, z49_2, z49_3, z49_4, z49_5, z49_6, z49_7, j49_0, j49_1, j49_2, j49_3, j49_4, j49_5, j49_6, j49_7⟩ := Lv.blks8 BK91.out
         go_wp2
         go_meet
         case rel => exact ⟨_, (true), zs, H', ⟨by have := HJ1.out; have := HJ37.out; first | omega | exact Nat.le_refl _⟩, ⟨zq BK91⟩, ⟨zb⟩⟩
        replace c48 := Bool.eq_false_iff.mpr c48
        subst c48
        have H1 : (ZsRecFault.j2 kj37 (a0_6 != 0) a0_0 a0_1 a0_2 false a0_4 false a0_6 a0_7) = some r := by rw [if_neg (show ¬ (false = true) by decide)] at H; exact H
        clear H
        have H := H1
        clear H1
        have H' := Qz.mk H
        clear H
        obtain ⟨z50_0, z50_1, z50_2, z50_3, z50_4, z50_5, z50_6, z50_7, j50_0, j50_1, j50_2, j50_3, j50_4, j50_5, j50_6, j50_7⟩ := Lv.blks8 BK91.out
        go_wp2
        go_meet
        case rel => exact ⟨_, ((a0_6 != 0)), zs, H', ⟨by have := HJ1.out; have := HJ37.out; first | omega | exact Nat.le_refl _⟩, ⟨zq BK91⟩, ⟨zb⟩⟩
       rw [if_neg c47] at H
       have c47b0 : (a0_4 == 0) = false := beq_eq_false_iff_ne.mpr c47
       have c47b1 : (a0_4 != 0) = true := bne_iff_ne.mpr c47
       have H' := Qz.mk H
       clear H
       obtain ⟨z51_0, z51_1, z51_2, z51_3, z51_4, z51_5, z51_6, z51_7, j51_0, j51_1, j51_2, j51_3, j51_4, j51_5, j51_6, j51_7⟩ := Lv.blks8 BK91.out
       go_wp2
       go_meet
       case rel => exact ⟨_, (true), zs, H', ⟨by have := HJ1.out; have := HJ37.out; first | omega | exact Nat.le_refl _⟩, ⟨zq BK91⟩, ⟨zb⟩⟩
      rw [if_neg c44] at H
      have c44b0 : (a0_2 == 0) = false := beq_eq_false_iff_ne.mpr c44
      have c44b1 : (a0_2 != 0) = true := bne_iff_ne.mpr c44
      (first | rw [c44b0] | (simp only [Qar, Qas]; rw [c44b0]) | skip)
      have H' := Qz.mk H
      clear H
      obtain ⟨z52_0, z52_1, z52_2, z52_3, z52_4, z52_5, z52_6, z52_7, j52_0, j52_1, j52_2, j52_3, j52_4, j52_5, j52_6, j52_7⟩ := Lv.blks8 BK91.out
      go_wp2
      go_meet
      case rel => exact ⟨_, (true), zs, H', ⟨by have := HJ1.out; have := HJ37.out; first | omega | exact Nat.le_refl _⟩, ⟨zq BK91⟩, ⟨zb⟩⟩
     case rest =>
      clear HC42
      try clear c1
      try clear c2
      try clear p2
      try clear c3
      try clear c4
      try clear c5
      try clear c6
      try clear c6b0
      try clear c6b1
      try clear c7
      try clear c7b0
      try clear c7b1
      try clear c9
      try clear c11
      try clear c13
      try clear c20
      try clear c20b0
      try clear c20b1
      try clear c23
      try clear c25
      try clear c27
      try clear c29
      try clear c37
      try clear c39
      try clear c39b0
      try clear c39b1
      try clear c43
      try clear c44
      try clear c44b0
      try clear c44b1
      try clear c45
      try clear c47
      try clear c47b0
      try clear c47b1
      try clear c48
      try clear z15_0 z15_1 z15_2 z15_3 z15_4 z15_5 z15_6 z15_7
      try clear z16_0 z16_1 z16_2 z16_3 z16_4 z16_5 z16_6 z16_7
      try clear z17_0 z17_1 z17_2 z17_3 z17_4 z17_5 z17_6 z17_7
      try clear z18_0 z18_1 z18_2 z18_3 z18_4 z18_5 z18_6 z18_7
      try clear z19_0 z19_1 z19_2 z19_3 z19_4 z19_5 z19_6 z19_7
      try clear z21_0 z21_1 z21_2 z21_3 z21_4 z21_5 z21_6 z21_7
      try clear z31_0 z31_1 z31_2 z31_3 z31_4 z31_5 z31_6 z31_7
      try clear z32_0 z32_1 z32_2 z32_3 z32_4 z32_5 z32_6 z32_7
      try clear z33_0 z33_1 z33_2 z33_3 z33_4 z33_5 z33_6 z33_7
      try clear z34_0 z34_1 z34_2 z34_3 z34_4 z34_5 z34_6 z34_7
      try clear z35_0 z35_1 z35_2 z35_3 z35_4 z35_5 z35_6 z35_7
      try clear z36_0 z36_1 z36_2 z36_3 z36_4 z36_5 z36_6 z36_7
      try clear z40_0 z40_1 z40_2 z40_3 z40_4 z40_5 z40_6 z40_7
      try clear z41_0 z41_1 z41_2 z41_3 z41_4 z41_5 z41_6 z41_7
      try clear z46_0 z46_1 z46_2 z46_3 z46_4 z46_5 z46_6 z46_7
      try clear z49_0 z49_1 z49_2 z49_3 z49_4 z49_5 z49_6 z49_7
      try clear z50_0 z50_1 z50_2 z50_3 z50_4 z50_5 z50_6 z50_7
      try clear z51_0 z51_1 z51_2 z51_3 z51_4 z51_5 z51_6 z51_7
      try clear z52_0 z52_1 z52_2 z52_3 z52_4 z52_5 z52_6 z52_7
      try clear j15_0 j15_1 j15_2 j15_3 j15_4 j15_5 j15_6 j15_7
      try clear j16_0 j16_1 j16_2 j16_3 j16_4 j16_5 j16_6 j16_7
      try clear j17_0 j17_1 j17_2 j17_3 j17_4 j17_5 j17_6 j17_7
      try clear j18_0 j18_1 j18_2 j18_3 j18_4 j18_5 j18_6 j18_7
      try clear j19_0 j19_1 j19_2 j19_3 j19_4 j19_5 j19_6 j19_7
      try clear j21_0 j21_1 j21_2 j21_3 j21_4 j21_5 j21_6 j21_7
      try clear j31_0 j31_1 j31_2 j31_3 j31_4 j31_5 j31_6 j31_7
      try clear j32_0 j32_1 j32_2 j32_3 j32_4 j32_5 j32_6 j32_7
      try clear j33_0 j33_1 j33_2 j33_3 j33_4 j33_5 j33_6 j33_7
      try clear j34_0 j34_1 j34_2 j34_3 j34_4 j34_5 j34_6 j34_7
      try clear j35_0 j35_1 j35_2 j35_3 j35_4 j35_5 j35_6 j35_7
      try clear j36_0 j36_1 j36_2 j36_3 j36_4 j36_5 j36_6 j36_7
      try clear j40_0 j40_1 j40_2 j40_3 j40_4 j40_5 j40_6 j40_7
      try clear j41_0 j41_1 j41_2 j41_3 j41_4 j41_5 j41_6 j41_7
      try clear j46_0 j46_1 j46_2 j46_3 j46_4 j46_5 j46_6 j46_7
      try clear j49_0 j49_1 j49_2 j49_3 j49_4 j49_5 j49_6 j49_7
      try clear j50_0 j50_1 j50_2 j50_3 j50_4 j50_5 j50_6 j50_7
      try clear j51_0 j51_1 j51_2 j51_3 j51_4 j51_5 j51_6 j51_7
      try clear j52_0 j52_1 j52_2 j52_3 j52_4 j52_5 j52_6 j52_7
      try clear p2
      obtain ⟨kq, x84_41, rfl, HA, HJ41, BK91, HB⟩ := hcut
      cases kq with
      | zero => exact absurd HA.out (by simp [ZsRecFault.j2])
      | succ kj41 =>
       have H := HA.out
       clear HA
       simp only [ZsRecFault.j2] at H
       by_cases c53 : x84_41 = true
       ·subst c53
        have H1 : (some 1) = some r := by rw [if_pos rfl] at H; exact H
        clear H
        have H := H1
        clear H1
        obtain rfl := Option.some.inj H
        go_wp2
        go_ret
        exact ⟨ze, zb⟩
       replace c53 := Bool.eq_false_iff.mpr c53
       subst c53
       have H1 : (if a0_3 = true then (if a0_5 = true then (if a0_0 = 5 then (if a0_7 = 0 then (some 1) else (some 0)) else (if a0_7 = 0 then (some 0) else (some 1))) else (if a0_6 = 0 then (if a0_0 = 5 then (if a0_7 = 0 then (some 1) else (some 0)) else (if a0_7 = 0 then (some 0) else (some 1))) else (some 1))) else (if a0_4 = 0 then (if a0_5 = true then (if a0_0 = 5 then (if a0_7 = 0 then (some 1) else (some 0)) else (if a0_7 = 0 then (some 0) else (some 1))) else (if a0_6 = 0 then (if a0_0 = 5 then (if a0_7 = 0 then (some 1) else (some 0)) else (if a0_7 = 0 then (some 0) else (some 1))) else (some 1))) else (some 1))) = some r := by rw [if_neg (show ¬ (false = true) by decide)] at H; exact H
       clear H
       have H := H1
       clear H1
       by_cases c54 : a0_3 = true
       ·subst c54
        have H1 : (if a0_5 = true then (if a0_0 = 5 then (if a0_7 = 0 then (some 1) else (some 0)) else (if a0_7 = 0 then (some 0) else (some 1))) else (if a0_6 = 0 then (if a0_0 = 5 then (if a0_7 = 0 then (some 1) else (some 0)) else (if a0_7 = 0 then (some 0) else (some 1))) else (some 1))) = some r := by rw [if_pos rfl] at H; exact H
        clear H
        have H := H1
        clear H1
        by_cases c55 : a0_5 = true
        ·subst c55
         have H1 : (if a0_0 = 5 then (if a0_7 = 0 then (some 1) else (some 0)) else (if a0_7 = 0 then (some 0) else (some 1))) = some r := by rw [if_pos rfl] at H; exact H
         clear H
         have H := H1
         clear H1
         by_cases c56 : a0_0 = 5
         ·rw [if_pos c56] at H
          have c56b0 : (a0_0 == 5) = true := beq_iff_eq.mpr c56
          have c56b1 : (a0_0 != 5) = false := bne_eq_false_iff_eq.mpr c56
          clear c56
          by_cases c57 : a0_7 = 0
          ·rw [if_pos c57] at H
           have c57b0 : (a0_7 == 0) = true := beq_iff_eq.mpr c57
           have c57b1 : (a0_7 != 0) = false := bne_eq_false_iff_eq.mpr c57
           clear c57
           obtain rfl := Option.some.inj H
           obtain ⟨z58_0, z58_1, z58_2, z58_3, z58_4, z58_5, z58_6, z58_7, j58_0, j58_1, j58_2, j58_3, j58_4, j58_5, j58_6, j58_7⟩ := Lv.blks8 BK91.out
           go_wp2
           go_ret
           exact ⟨ze, zb⟩
          rw [if_neg c57] at H
          have c57b0 : (a0_7 == 0) = false := beq_eq_false_iff_ne.mpr c57
          have c57b1 : (a0_7 != 0) = true := bne_iff_ne.mpr c57
          obtain rfl := Option.some.inj H
          obtain ⟨z59_0, z59_1, z59_2, z59_3, z59_4, z59_5, z59_6, z59_7, j59_0, j59_1, j59_2, j59_3, j59_4, j59_5, j59_6, j59_7⟩ := Lv.blks8 BK91.out
          go_wp2
          go_ret
          exact ⟨ze, zb⟩
         rw [if_neg c56] at H
         have c56b0 : (a0_0 == 5) = false := beq_eq_false_iff_ne.mpr c56
         have c56b1 : (a0_0 != 5) = true := bne_iff_ne.mpr c56
         by_cases c60 : a0_7 = 0
         ·rw [if_pos c60] at H
          have c60b0 : (a0_7 == 0) = true := beq_iff_eq.mpr c60
          have c60b1 : (a0_7 != 0) = false := bne_eq_false_iff_eq.mpr c60
          clear c60
          obtain rfl := Option.some.inj H
          obtain ⟨z61_0, z61_1, z61_2, z61_3, z61_4, z61_5, z61_6, z61_7, j61_0, j61_1, j61_2, j61_3, j61_4, j61_5, j61_6, j61_7⟩ := Lv.blks8 BK91.out
          go_wp2
          go_ret
          exact ⟨ze, zb⟩
         rw [if_neg c60] at H
         have c60b0 : (a0_7 == 0) = false := beq_eq_false_iff_ne.mpr c60
         have c60b1 : (a0_7 != 0) = true := bne_iff_ne.mpr c60
         obtain rfl := Option.some.inj H
         obtain ⟨z62_0, z62_1, z62_2, z62_3, z62_4, z62_5, z62_6, z62_7, j62_0, j62_1, j62_2, j62_3, j62_4, j62_5, j62_6, j62_7⟩ := Lv.blks8 BK91.out
         go_wp2
         go_ret
         exact ⟨ze, zb⟩
        replace c55 := Bool.eq_false_iff.mpr c55
        subst c55
        have H1 : (if a0_6 = 0 then (if a0_0 = 5 then (if a0_7 = 0 then (some 1) else (some 0)) else (if a0_7 = 0 then (some 0) else (some 1))) else (some 1)) = some r := by rw [if_neg (show ¬ (false = true) by decide)] at H; exact H
        clear H
        have H := H1
        clear H1
        by_cases c63 : a0_6 = 0
        ·rw [if_pos c63] at H
         have c63b0 : (a0_6 == 0) = true := beq_iff_eq.mpr c63
         have c63b1 : (a0_6 != 0) = false := bne_eq_false_iff_eq.mpr c63
         clear c63
         by_cases c64 : a0_0 = 5
         ·rw [if_pos c64] at H
          have c64b0 : (a0_0 == 5) = true := beq_iff_eq.mpr c64
          have c64b1 : (a0_0 != 5) = false := bne_eq_false_iff_eq.mpr c64
          clear c64
          by_cases c65 : a0_7 = 0
          ·rw [if_pos c65] at H
           have c65b0 : (a0_7 == 0) = true := beq_iff_eq.mpr c65
           have c65b1 : (a0_7 != 0) = false := bne_eq_false_iff_eq.mpr c65
           clear c65
           obtain rfl := Option.some.inj H
           obtain ⟨z66_0, z66_1, z66_2, z66_3, z66_4, z66_5, z66_6, z66_7, j66_0, j66_1, j66_2, j66_3, j66_4, j66_5, j66_6, j66_7⟩ := Lv.blks8 BK91.out
           go_wp2
           go_ret
           exact ⟨ze, zb⟩
          rw [if_neg c65] at H
          have c65b0 : (a0_7 == 0) = false := beq_eq_false_iff_ne.mpr c65
          have c65b1 : (a0_7 != 0) = true := bne_iff_ne.mpr c65
          obtain rfl := Option.some.inj H
          obtain ⟨z67_0, z67_1, z67_2, z67_3, z67_4, z67_5, z67_6, z67_7, j67_0, j67_1, j67_2, j67_3, j67_4, j67_5, j67_6, j67_7⟩ := Lv.blks8 BK91.out
          go_wp2
          go_ret
          exact ⟨ze, zb⟩
         rw [if_neg c64] at H
         have c64b0 : (a0_0 == 5) = false := beq_eq_false_iff_ne.mpr c64
         have c64b1 : (a0_0 != 5) = true := bne_iff_ne.mpr c64
         by_cases c68 : a0_7 = 0
         ·rw [if_pos c68] at H
          have c68b0 : (a0_7 == 0) = true := beq_iff_eq.mpr c68
          have c68b1 : (a0_7 != 0) = false := bne_eq_false_iff_eq.mpr c68
          clear c68
          obtain rfl := Option.some.inj H
          obtain ⟨z69_0, z69_1, z69_2, z69_3, z69_4, z69_5, z69_6, z69_7, j69_0, j69_1, j69_2, j69_3, j69_4, j69_5, j69_6, j69_7⟩ := Lv.blks8 BK91.out
          go_wp2
          go_ret
          exact ⟨ze, zb⟩
         rw [if_neg c68] at H
         have c68b0 : (a0_7 == 0) = false := beq_eq_false_iff_ne.mpr c68
         have c68b1 : (a0_7 != 0) = true := bne_iff_ne.mpr c68
         obtain rfl := Option.some.inj H
         obtain ⟨z70_0, z70_1, z70_2, z70_3, z70_4, z70_5, z70_6, z70_7, j70_0, j70_1, j70_2, j70_3, j70_4, j70_5, j70_6, j70_7⟩ := Lv.blks8 BK91.out
         go_wp2
         go_ret
         exact ⟨ze, zb⟩
        rw [if_neg c63] at H
        have c63b0 : (a0_6 == 0) = false := beq_eq_false_iff_ne.mpr c63
        have c63b1 : (a0_6 != 0) = true := bne_iff_ne.mpr c63
        obtain rfl := Option.some.inj H
        obtain ⟨z71_0, z71_1, z71_2, z71_3, z71_4, z71_5, z71_6, z71_7, j71_0, j71_1, j71_2, j71_3, j71_4, j71_5, j71_6, j71_7⟩ := Lv.blks8 BK91.out
        go_wp2
        go_ret
        exact ⟨ze, zb⟩
       replace c54 := Bool.eq_false_iff.mpr c54
       subst c54
       have H1 : (if a0_4 = 0 then (if a0_5 = true then (if a0_0 = 5 then (if a0_7 = 0 then (some 1) else (some 0)) else (if a0_7 = 0 then (some 0) else (some 1))) else (if a0_6 = 0 then (if a0_0 = 5 then (if a0_7 = 0 then (some 1) else (some 0)) else (if a0_7 = 0 then (some 0) else (some 1))) else (some 1))) else (some 1)) = some r := by rw [if_neg (show ¬ (false = true) by decide)] at H; exact H
       clear H
       have H := H1
       clear H1
       by_cases c72 : a0_4 = 0
       ·rw [if_pos c72] at H
        have c72b0 : (a0_4 == 0) = true := beq_iff_eq.mpr c72
        have c72b1 : (a0_4 != 0) = false := bne_eq_false_iff_eq.mpr c72
        clear c72
        by_cases c73 : a0_5 = true
        ·subst c73
         have H1 : (if a0_0 = 5 then (if a0_7 = 0 then (some 1) else (some 0)) else (if a0_7 = 0 then (some 0) else (some 1))) = some r := by rw [if_pos rfl] at H; exact H
         clear H
         have H := H1
         clear H1
         by_cases c74 : a0_0 = 5
         ·rw [if_pos c74] at H
          have c74b0 : (a0_0 == 5) = true := beq_iff_eq.mpr c74
          have c74b1 : (a0_0 != 5) = false := bne_eq_false_iff_eq.mpr c74
          clear c74
          by_cases c75 : a0_7 = 0
          ·rw [if_pos c75] at H
           have c75b0 : (a0_7 == 0) = true := beq_iff_eq.mpr c75
           have c75b1 : (a0_7 != 0) = false := bne_eq_false_iff_eq.mpr c75
           clear c75
           obtain rfl := Option.some.inj H
           obtain ⟨z76_0, z76_1, z76_2, z76_3, z76_4, z76_5, z76_6, z76_7, j76_0, j76_1, j76_2, j76_3, j76_4, j76_5, j76_6, j76_7⟩ := Lv.blks8 BK91.out
           go_wp2
           go_ret
           exact ⟨ze, zb⟩
          rw [if_neg c75] at H
          have c75b0 : (a0_7 == 0) = false := beq_eq_false_iff_ne.mpr c75
          have c75b1 : (a0_7 != 0) = true := bne_iff_ne.mpr c75
          obtain rfl := Option.some.inj H
          obtain ⟨z77_0, z77_1, z77_2, z77_3, z77_4, z77_5, z77_6, z77_7, j77_0, j77_1, j77_2, j77_3, j77_4, j77_5, j77_6, j77_7⟩ := Lv.blks8 BK91.out
          go_wp2
          go_ret
          exact ⟨ze, zb⟩
         rw [if_neg c74] at H
         have c74b0 : (a0_0 == 5) = false := beq_eq_false_iff_ne.mpr c74
         have c74b1 : (a0_0 != 5) = true := bne_iff_ne.mpr c74
         by_cases c78 : a0_7 = 0
         ·rw [if_pos c78] at H
          have c78b0 : (a0_7 == 0) = true := beq_iff_eq.mpr c78
          have c78b1 : (a0_7 != 0) = false := bne_eq_false_iff_eq.mpr c78
          clear c78
          obtain rfl := Option.some.inj H
          obtain ⟨z79_0, z79_1, z79_2, z79_3, z79_4, z79_5, z79_6, z79_7, j79_0, j79_1, j79_2, j79_3, j79_4, j79_5, j79_6, j79_7⟩ := Lv.blks8 BK91.out
          go_wp2
          go_ret
          exact ⟨ze, zb⟩
         rw [if_neg c78] at H
         have c78b0 : (a0_7 == 0) = false := beq_eq_false_iff_ne.mpr c78
         have c78b1 : (a0_7 != 0) = true := bne_iff_ne.mpr c78
         obtain rfl := Option.some.inj H
         obtain ⟨z80_0, z80_1, z80_2, z80_3, z80_4, z80_5, z80_6, z80_7, j80_0, j80_1, j80_2, j80_3, j80_4, j80_5, j80_6, j80_7⟩ := Lv.blks8 BK91.out
         go_wp2
         go_ret
         exact ⟨ze, zb⟩
        replace c73 := Bool.eq_false_iff.mpr c73
        subst c73
        have H1 : (if a0_6 = 0 then (if a0_0 = 5 then (if a0_7 = 0 then (some 1) else (some 0)) else (if a0_7 = 0 then (some 0) else (some 1))) else (some 1)) = some r := by rw [if_neg (show ¬ (false = true) by decide)] at H; exact H
        clear H
        have H := H1
        clear H1
        by_cases c81 : a0_6 = 0
        ·rw [if_pos c81] at H
         have c81b0 : (a0_6 == 0) = true := beq_iff_eq.mpr c81
         have c81b1 : (a0_6 != 0) = false := bne_eq_false_iff_eq.mpr c81
         clear c81
         by_cases c82 : a0_0 = 5
         ·rw [if_pos c82] at H
          have c82b0 : (a0_0 == 5) = true := beq_iff_eq.mpr c82
          have c82b1 : (a0_0 != 5) = false := bne_eq_false_iff_eq.mpr c82
          clear c82
          by_cases c83 : a0_7 = 0
          ·rw [if_pos c83] at H
           have c83b0 : (a0_7 == 0) = true := beq_iff_eq.mpr c83
           have c83b1 : (a0_7 != 0) = false := bne_eq_false_iff_eq.mpr c83
           clear c83
           obtain rfl := Option.some.inj H
           obtain ⟨z84_0, z84_1, z84_2, z84_3, z84_4, z84_5, z84_6, z84_7, j84_0, j84_1, j84_2, j84_3, j84_4, j84_5, j84_6, j84_7⟩ := Lv.blks8 BK91.out
           go_wp2
           go_ret
           exact ⟨ze, zb⟩
          rw [if_neg c83] at H
          have c83b0 : (a0_7 == 0) = false := beq_eq_false_iff_ne.mpr c83
          have c83b1 : (a0_7 != 0) = true := bne_iff_ne.mpr c83
          obtain rfl := Option.some.inj H
          obtain ⟨z85_0, z85_1, z85_2, z85_3, z85_4, z85_5, z85_6, z85_7, j85_0, j85_1, j85_2, j85_3, j85_4, j85_5, j85_6, j85_7⟩ := Lv.blks8 BK91.out
          go_wp2
          go_ret
          exact ⟨ze, zb⟩
         rw [if_neg c82] at H
         have c82b0 : (a0_0 == 5) = false := beq_eq_false_iff_ne.mpr c82
         have c82b1 : (a0_0 != 5) = true := bne_iff_ne.mpr c82
         by_cases c86 : a0_7 = 0
         ·rw [if_pos c86] at H
          have c86b0 : (a0_7 == 0) = true := beq_iff_eq.mpr c86
          have c86b1 : (a0_7 != 0) = false := bne_eq_false_iff_eq.mpr c86
          clear c86
          obtain rfl := Option.some.inj H
          obtain ⟨z87_0, z87_1, z87_2, z87_3, z87_4, z87_5, z87_6, z87_7, j87_0, j87_1, j87_2, j87_3, j87_4, j87_5, j87_6, j87_7⟩ := Lv.blks8 BK91.out
          go_wp2
          go_ret
          exact ⟨ze, zb⟩
         rw [if_neg c86] at H
         have c86b0 : (a0_7 == 0) = false := beq_eq_false_iff_ne.mpr c86
         have c86b1 : (a0_7 != 0) = true := bne_iff_ne.mpr c86
         obtain rfl := Option.some.inj H
         obtain ⟨z88_0, z88_1, z88_2, z88_3, z88_4, z88_5, z88_6, z88_7, j88_0, j88_1, j88_2, j88_3, j88_4, j88_5, j88_6, j88_7⟩ := Lv.blks8 BK91.out
         go_wp2
         go_ret
         exact ⟨ze, zb⟩
        rw [if_neg c81] at H
        have c81b0 : (a0_6 == 0) = false := beq_eq_false_iff_ne.mpr c81
        have c81b1 : (a0_6 != 0) = true := bne_iff_ne.mpr c81
        obtain rfl := Option.some.inj H
        obtain ⟨z89_0, z89_1, z89_2, z89_3, z89_4, z89_5, z89_6, z89_7, j89_0, j89_1, j89_2, j89_3, j89_4, j89_5, j89_6, j89_7⟩ := Lv.blks8 BK91.out
        go_wp2
        go_ret
        exact ⟨ze, zb⟩
       rw [if_neg c72] at H
       have c72b0 : (a0_4 == 0) = false := beq_eq_false_iff_ne.mpr c72
       have c72b1 : (a0_4 != 0) = true := bne_iff_ne.mpr c72
       obtain rfl := Option.some.inj H
       obtain ⟨z90_0, z90_1, z90_2, z90_3, z90_4, z90_5, z90_6, z90_7, j90_0, j90_1, j90_2, j90_3, j90_4, j90_5, j90_6, j90_7⟩ := Lv.blks8 BK91.out
       go_wp2
       go_ret
       exact ⟨ze, zb⟩
set_option maxHeartbeats 8000000 in
set_option maxRecDepth 100000 in
theorem Ziwithin.calls (a0 : Int) (a1 : Int) (a2 : Int) (r : Bool) (w : World) (h : Ziwithin.f a0 a1 a2 = some r) :
 Calls Try.prog 76 #[.int .i64 a0, .int .i64 a1, .int .i64 a2] w fun e w' => e = .returned (.bool r) ∧ Drawn0 w w' := by
 have H : (if a1 ≤ a0 then (some (decide (a0 ≤ a2))) else (some false)) = some r := h
 clear h
 by_cases c4 : a1 ≤ a0
 ·rw [if_pos c4] at H
  have c4b0 : decide (a1 ≤ a0) = true := decide_eq_true c4
  clear c4
  obtain rfl := Option.some.inj H
  go_enter Try.func76, Try.ntmps76
  go_wp2
  go_ret
  exact ⟨zs, zd⟩
 rw [if_neg c4] at H
 have c4b0 : decide (a1 ≤ a0) = false := decide_eq_false c4
 clear c4
 obtain rfl := Option.some.inj H
 go_enter Try.func76, Try.ntmps76
 go_wp2
 go_ret
 exact ⟨zs, zd⟩
end Go.Proofs.Ythagppmaofcllaa.P
