import Derived.Test.YthagppmaofcllaaZz
import Derived.Test.YthagppmaofcllaaP0
import Derived.Test.YthagppmaofcllaaPCall1
import Derived.Test.YthagppmaofcllaaPDall0
import Derived.Test.YthagppmaofcllaaWRepsOne
import Derived.Test.YthagppmaofcllaaLv
import Derived.Test.YthagppmaofcllaaLv
namespace Go.Proofs.Ythagppmaofcllaa.P
open Go.RowKit Go.Proofs.YthagppmaofcllaaW.PrintWords Go.Proofs.YthagppmaofcllaaW.PrintLast Go.Proofs.YthagppmaofcllaaW.PrintMore
attribute [local go_sem] max2_int min2_int max_two min_two max_three min_three max_four min_four   -- for this text's walks alone
set_option linter.unusedVariables false
set_option linter.unusedSimpArgs false
set_option maxHeartbeats 8000000 in
set_option maxRecDepth 100000 in
theorem ZiisTxn.calls (a0 : Int) (r : Bool) (w : World) (h : ZiisTxn.f a0 = some r) :
 Calls Try.prog 57 #[.int .i64 a0] w fun e w' => e = .returned (.bool r) ∧ Drawn0 w w' := by
 have H : ((Ziwithin.f a0 1 999).bind fun t3 => (some t3)) = some r := h
 clear h
 replace H := Option.bind_eq_some_iff.mp H
 obtain ⟨t3, A20, H⟩ := H
 replace H : (some t3) = some r := H
 have A2 := Qz.mk A20
 clear A20
 obtain rfl := Option.some.inj H
 go_enter Try.func57, Try.ntmps57
 go_wp2_with (first | ((with_reducible refine gate_callee (f := 76) rfl ?_); refine Qat (some 4) rfl rfl Try.func76 (by kernel_rfl) rfl #[.int .i64 a0, .int .i64 1, .int .i64 999] rfl zm ?_; (with_reducible refine (Ziwithin.calls a0 1 999 t3 _ A2.out).mono ?_); rintro e w' ⟨rfl, ⟨nd, rfl⟩⟩; refine ⟨_, rfl, ?_⟩))
 go_ret
 exact ⟨zs, zd⟩
set_option maxHeartbeats 8000000 in
set_option maxRecDepth 100000 in
theorem ZiisKey.calls (a0 : Int) (r : Bool) (w : World) (h : ZiisKey.f a0 = some r) :
 Calls Try.prog 96 #[.int .i64 a0] w fun e w' => e = .returned (.bool r) ∧ Drawn0 w w' := by
 have H : ((Ziwithin.f a0 0 31).bind fun t1 => (some t1)) = some r := h
 clear h
 replace H := Option.bind_eq_some_iff.mp H
 obtain ⟨t1, A20, H⟩ := H
 replace H : (some t1) = some r := H
 have A2 := Qz.mk A20
 clear A20
 obtain rfl := Option.some.inj H
 go_enter Try.func96, Try.ntmps96
 go_wp2_with (first | ((with_reducible refine gate_callee (f := 76) rfl ?_); refine Qat (some 4) rfl rfl Try.func76 (by kernel_rfl) rfl #[.int .i64 a0, .int .i64 0, .int .i64 31] rfl zm ?_; (with_reducible refine (Ziwithin.calls a0 0 31 t1 _ A2.out).mono ?_); rintro e w' ⟨rfl, ⟨nd, rfl⟩⟩; refine ⟨_, rfl, ?_⟩))
 go_ret
 exact ⟨zs, zd⟩
set_option maxHeartbeats 8000000 in
set_option maxRecDepth 100000 in
theorem ZiisValue.calls (a0 : Int) (r : Bool) (w : World) (h : ZiisValue.f a0 = some r) :
 Calls Try.prog 97 #[.int .i64 a0] w fun e w' => e = .returned (.bool r) ∧ Drawn0 w w' := by
 have H : ((Ziwithin.f a0 0 9999).bind fun t1 => (some t1)) = some r := h
 clear h
 replace H := Option.bind_eq_some_iff.mp H
 obtain ⟨t1, A20, H⟩ := H
 replace H : (some t1) = some r := H
 have A2 := Qz.mk A20
 clear A20
 obtain rfl := Option.some.inj H
 go_enter Try.func97, Try.ntmps97
 go_wp2_with (first | ((with_reducible refine gate_callee (f := 76) rfl ?_); refine Qat (some 4) rfl rfl Try.func76 (by kernel_rfl) rfl #[.int .i64 a0, .int .i64 0, .int .i64 9999] rfl zm ?_; (with_reducible refine (Ziwithin.calls a0 0 9999 t1 _ A2.out).mono ?_); rintro e w' ⟨rfl, ⟨nd, rfl⟩⟩; refine ⟨_, rfl, ?_⟩))
 go_ret
 exact ⟨zs, zd⟩
set_option maxHeartbeats 8000000 in
set_option maxRecDepth 100000 in
theorem ZiRec_turns.calls (a0_0 : Int) (a0_1 : Int) (a0_2 : Int) (a0_3 : Bool) (a0_4 : Int) (a0_5 : Bool) (a0_6 : Int) (a0_7 : Int) (r : Bool) (w : World) (h : ZiRec_turns.f a0_0 a0_1 a0_2 a0_3 a0_4 a0_5 a0_6 a0_7 = some r) :
 Calls Try.prog 98 #[.agg #[.int .i64 a0_0, .int .i64 a0_1, .int .i64 a0_2, .bool a0_3, .int .i64 a0_4, .bool a0_5, .int .i64 a0_6, .int .i64 a0_7]] w fun e w' => e = .returned (.bool r) ∧ Below w.heap.size w w' := by
 have hu48 := Try.underlying48
 have HB := Qz.mk (Below.refl w.heap.size w)
 have H : (if a0_0 = 2 then (some true) else (some (a0_0 == 5))) = some r := h
 clear h
 by_cases c2 : a0_0 = 2
 ·rw [if_pos c2] at H
  have c2b0 : (a0_0 == 2) = true := beq_iff_eq.mpr c2
  have c2b1 : (a0_0 != 2) = false := bne_eq_false_iff_eq.mpr c2
  clear c2
  obtain rfl := Option.some.inj H
  go_enter Try.func98, Try.ntmps98
  go_wp2_with (first | ((with_reducible refine gate_dst (N := 1) rfl ?_); refine box_event ?hg (N := 1) ?hd (cs := #[.int .i64 a0_0, .int .i64 a0_1, .int .i64 a0_2, .bool a0_3, .int .i64 a0_4, .bool a0_5, .int .i64 a0_6, .int .i64 a0_7]) (t := 48) ?hr ?_; (case hd => rfl); (case hg => rfl); (case hr => first | (go_simp; done) | (go_simp; rfl)); intro gb9 hg w3 hbox hb; have n0_ := Qz.mk (Qq zb hb); have n1_ := Qz.mk (hbox); have n2_ := Qz.mk ((zh hg : w.heap.size ≤ gb9)); have n3_ := n2_; clear HB; have HB := n0_; have BK9 := n1_; have GW9 := n2_; have GE9 := n3_; clear n0_ n1_ n2_ n3_; clear hb hbox hg; obtain ⟨z4_0, z4_1, z4_2, z4_3, z4_4, z4_5, z4_6, z4_7, j4_0, j4_1, j4_2, j4_3, j4_4, j4_5, j4_6, j4_7⟩ := Lv.blks8 BK9.out))
  go_ret
  exact ⟨ze, zb⟩
 rw [if_neg c2] at H
 have c2b0 : (a0_0 == 2) = false := beq_eq_false_iff_ne.mpr c2
 have c2b1 : (a0_0 != 2) = true := bne_iff_ne.mpr c2
 obtain rfl := Option.some.inj H
 go_enter Try.func98, Try.ntmps98
 go_wp2_with (first | ((with_reducible refine gate_dst (N := 1) rfl ?_); refine box_event ?hg (N := 1) ?hd (cs := #[.int .i64 a0_0, .int .i64 a0_1, .int .i64 a0_2, .bool a0_3, .int .i64 a0_4, .bool a0_5, .int .i64 a0_6, .int .i64 a0_7]) (t := 48) ?hr ?_; (case hd => rfl); (case hg => rfl); (case hr => first | (go_simp; done) | (go_simp; rfl)); intro gb9 hg w5 hbox hb; have n0_ := Qz.mk (Qq zb hb); have n1_ := Qz.mk (hbox); have n2_ := Qz.mk ((zh hg : w.heap.size ≤ gb9)); have n3_ := n2_; clear HB; have HB := n0_; have BK9 := n1_; have GW9 := n2_; have GE9 := n3_; clear n0_ n1_ n2_ n3_; clear hb hbox hg; obtain ⟨z6_0, z6_1, z6_2, z6_3, z6_4, z6_5, z6_6, z6_7, j6_0, j6_1, j6_2, j6_3, j6_4, j6_5, j6_6, j6_7⟩ := Lv.blks8 BK9.out))
 go_ret
 exact ⟨ze, zb⟩
set_option maxHeartbeats 8000000 in
set_option maxRecDepth 100000 in
theorem ZiRecFault.calls (k : Nat) (a0_0 : Int) (a0_1 : Int) (a0_2 : Int) (a0_3 : Bool) (a0_4 : Int) (a0_5 : Bool) (a0_6 : Int) (a0_7 : Int) (r : Int) (w : World) (h : ZiRecFault.f k a0_0 a0_1 a0_2 a0_3 a0_4 a0_5 a0_6 a0_7 = some r) :
 Calls Try.prog 82 #[.agg #[.int .i64 a0_0, .int .i64 a0_1, .int .i64 a0_2, .bool a0_3, .int .i64 a0_4, .bool a0_5, .int .i64 a0_6, .int .i64 a0_7]] w fun e w' => e = .returned (.int .i64 r) ∧ Below w.heap.size w w' := by
 have hu48 := Try.underlying48
 have HB := Qz.mk (Below.refl w.heap.size w)
 have H : ((ZiisTxn.f a0_1).bind fun t73 => (if a0_0 = 6 then (ZiRecFault.j0 k (a0_1 == 0) a0_0 a0_1 a0_2 a0_3 a0_4 a0_5 a0_6 a0_7) else (ZiRecFault.j0 k t73 a0_0 a0_1 a0_2 a0_3 a0_4 a0_5 a0_6 a0_7))) = some r := h
 clear h
 replace H := Option.bind_eq_some_iff.mp H
 obtain ⟨t73, A20, H⟩ := H
 replace H : (if a0_0 = 6 then (ZiRecFault.j0 k (a0_1 == 0) a0_0 a0_1 a0_2 a0_3 a0_4 a0_5 a0_6 a0_7) else (ZiRecFault.j0 k t73 a0_0 a0_1 a0_2 a0_3 a0_4 a0_5 a0_6 a0_7)) = some r := H
 have A2 := Qz.mk A20
 clear A20
 have HC3 := Qz.mk H
 clear H
 go_enter Try.func82, Try.ntmps82
 go_upto_if 9 with (first | ((with_reducible refine gate_dst (N := 1) rfl ?_); refine box_event ?hg (N := 1) ?hd (cs := #[.int .i64 a0_0, .int .i64 a0_1, .int .i64 a0_2, .bool a0_3, .int .i64 a0_4, .bool a0_5, .int .i64 a0_6, .int .i64 a0_7]) (t := 48) ?hr ?_; (case hd => rfl); (case hg => rfl); (case hr => first | (go_simp; done) | (go_simp; rfl)); intro gb68 hg w4 hbox hb; have n0_ := Qz.mk (Qq zb hb); have n1_ := Qz.mk (hbox); have n2_ := Qz.mk ((zh hg : w.heap.size ≤ gb68)); have n3_ := n2_; clear HB; have HB := n0_; have BK68 := n1_; have GW68 := n2_; have GE68 := n3_; clear n0_ n1_ n2_ n3_; clear hb hbox hg; obtain ⟨z5_0, z5_1, z5_2, z5_3, z5_4, z5_5, z5_6, z5_7, j5_0, j5_1, j5_2, j5_3, j5_4, j5_5, j5_6, j5_7⟩ := Lv.blks8 BK68.out) | ((with_reducible refine gate_callee (f := 57) rfl ?_); refine Qat (some 6) rfl rfl Try.func57 (by kernel_rfl) rfl #[.int .i64 a0_1] rfl zm ?_; (with_reducible refine (ZiisTxn.calls a0_1 t73 _ A2.out).mono ?_); rintro e w' ⟨rfl, ⟨nd, rfl⟩⟩; refine ⟨_, rfl, ?_⟩))
 (try simp only [Act.put, List.setIfInBounds_toArray, List.set_cons_zero, List.set_cons_succ])
 go_cut [3] (fun v3 wc => ∃ (kq : Nat) (x3_2 : Bool), v3 = .bool x3_2 ∧ Qz (ZiRecFault.j0 kq x3_2 a0_0 a0_1 a0_2 a0_3 a0_4 a0_5 a0_6 a0_7 = some r) ∧ Qz (kq ≤ k) ∧ Qz (wc.heap[gb68]? = some (.cells #[.int .i64 a0_0, .int .i64 a0_1, .int .i64 a0_2, .bool a0_3, .int .i64 a0_4, .bool a0_5, .int .i64 a0_6, .int .i64 a0_7] 48 (0, 0))) ∧ Qz (Below w.heap.size w wc))
 case first =>
  have H := HC3.out
  clear HC3
  by_cases c6 : a0_0 = 6
  ·rw [if_pos c6] at H
   have c6b0 : (a0_0 == 6) = true := beq_iff_eq.mpr c6
   have c6b1 : (a0_0 != 6) = false := bne_eq_false_iff_eq.mpr c6
   clear c6
   (first | rw [c6b0] | (simp only [Qar, Qas]; rw [c6b0]) | skip)
   have H' := Qz.mk H
   clear H
   obtain ⟨z7_0, z7_1, z7_2, z7_3, z7_4, z7_5, z7_6, z7_7, j7_0, j7_1, j7_2, j7_3, j7_4, j7_5, j7_6, j7_7⟩ := Lv.blks8 BK68.out
   go_wp2
   go_meet
   case rel => exact ⟨_, ((a0_1 == 0)), zs, H', ⟨by first | omega | exact Nat.le_refl _⟩, ⟨zq BK68⟩, ⟨zb⟩⟩
  rw [if_neg c6] at H
  have c6b0 : (a0_0 == 6) = false := beq_eq_false_iff_ne.mpr c6
  have c6b1 : (a0_0 != 6) = true := bne_iff_ne.mpr c6
  (first | rw [c6b0] | (simp only [Qar, Qas]; rw [c6b0]) | skip)
  have H' := Qz.mk H
  clear H
  go_wp2
  go_meet
  case rel => exact ⟨_, (t73), zs, H', ⟨by first | omega | exact Nat.le_refl _⟩, ⟨zq BK68⟩, ⟨zb⟩⟩
 case rest =>
  clear HC3
  try clear p2
  try clear c5
  try clear c6
  try clear c6b0
  try clear c6b1
  try clear z5_0 z5_1 z5_2 z5_3 z5_4 z5_5 z5_6 z5_7
  try clear z7_0 z7_1 z7_2 z7_3 z7_4 z7_5 z7_6 z7_7
  try clear j5_0 j5_1 j5_2 j5_3 j5_4 j5_5 j5_6 j5_7
  try clear j7_0 j7_1 j7_2 j7_3 j7_4 j7_5 j7_6 j7_7
  obtain ⟨kq, x3_2, rfl, HA, HJ2, BK68, HB⟩ := hcut
  cases kq with
  | zero => exact absurd HA.out (by simp [ZiRecFault.j0])
  | succ kj2 =>
   have H := HA.out
   clear HA
   simp only [ZiRecFault.j0] at H
   have HC8 := Qz.mk H
   clear H
   go_upto_region 4 with (fail)
   go_cut [13] (fun v13 wc => ∃ (kq : Nat) (x13_7 : Bool), v13 = .bool x13_7 ∧ Qz (ZiRecFault.j1 kq x13_7 a0_0 a0_1 a0_2 a0_3 a0_4 a0_5 a0_6 a0_7 = some r) ∧ Qz (kq ≤ kj2) ∧ Qz (wc.heap[gb68]? = some (.cells #[.int .i64 a0_0, .int .i64 a0_1, .int .i64 a0_2, .bool a0_3, .int .i64 a0_4, .bool a0_5, .int .i64 a0_6, .int .i64 a0_7] 48 (0, 0))) ∧ Qz (Below w.heap.size w wc))
   case first =>
    have H := HC8.out
    clear HC8
    replace H := Option.bind_eq_some_iff.mp H
    obtain ⟨t75, A90, H⟩ := H
    replace H : (if t75 = true then (if x3_2 = true then ((ZiisKey.f a0_2).bind fun t72 => (if t72 = true then ((ZiisValue.f a0_4).bind fun t71 => (if t71 = true then ((ZiisValue.f a0_6).bind fun t70 => (if t70 = true then ((Ziwithin.f a0_7 0 1000).bind fun t69 => (ZiRecFault.j1 kj2 (!t69) a0_0 a0_1 a0_2 a0_3 a0_4 a0_5 a0_6 a0_7)) else (ZiRecFault.j1 kj2 true a0_0 a0_1 a0_2 a0_3 a0_4 a0_5 a0_6 a0_7))) else (ZiRecFault.j1 kj2 true a0_0 a0_1 a0_2 a0_3 a0_4 a0_5 a0_6 a0_7))) else (ZiRecFault.j1 kj2 true a0_0 a0_1 a0_2 a0_3 a0_4 a0_5 a0_6 a0_7))) else (ZiRecFault.j1 kj2 true a0_0 a0_1 a0_2 a0_3 a0_4 a0_5 a0_6 a0_7)) else (ZiRecFault.j1 kj2 true a0_0 a0_1 a0_2 a0_3 a0_4 a0_5 a0_6 a0_7)) = some r := H
    have A9 := Qz.mk A90
    clear A90
    by_cases c10 : t75 = true
    ·subst c10
     have H1 : (if x3_2 = true then ((ZiisKey.f a0_2).bind fun t72 => (if t72 = true then ((ZiisValue.f a0_4).bind fun t71 => (if t71 = true then ((ZiisValue.f a0_6).bind fun t70 => (if t70 = true then ((Ziwithin.f a0_7 0 1000).bind fun t69 => (ZiRecFault.j1 kj2 (!t69) a0_0 a0_1 a0_2 a0_3 a0_4 a0_5 a0_6 a0_7)) else (ZiRecFault.j1 kj2 true a0_0 a0_1 a0_2 a0_3 a0_4 a0_5 a0_6 a0_7))) else (ZiRecFault.j1 kj2 true a0_0 a0_1 a0_2 a0_3 a0_4 a0_5 a0_6 a0_7))) else (ZiRecFault.j1 kj2 true a0_0 a0_1 a0_2 a0_3 a0_4 a0_5 a0_6 a0_7))) else (ZiRecFault.j1 kj2 true a0_0 a0_1 a0_2 a0_3 a0_4 a0_5 a0_6 a0_7)) = some r := by rw [if_pos rfl] at H; exact H
     clear H
     have H := H1
     clear H1
     by_cases c11 : x3_2 = true
     ·subst c11
      have H1 : ((ZiisKey.f a0_2).bind fun t72 => (if t72 = true then ((ZiisValue.f a0_4).bind fun t71 => (if t71 = true then ((ZiisValue.f a0_6).bind fun t70 => (if t70 = true then ((Ziwithin.f a0_7 0 1000).bind fun t69 => (ZiRecFault.j1 kj2 (!t69) a0_0 a0_1 a0_2 a0_3 a0_4 a0_5 a0_6 a0_7)) else (ZiRecFault.j1 kj2 true a0_0 a0_1 a0_2 a0_3 a0_4 a0_5 a0_6 a0_7))) else (ZiRecFault.j1 kj2 true a0_0 a0_1 a0_2 a0_3 a0_4 a0_5 a0_6 a0_7))) else (ZiRecFault.j1 kj2 true a0_0 a0_1 a0_2 a0_3 a0_4 a0_5 a0_6 a0_7))) = some r := by rw [if_pos rfl] at H; exact H
      clear H
      have H := H1
      clear H1
      replace H := Option.bind_eq_some_iff.mp H
      obtain ⟨t72, A77, H⟩ := H
      replace H : (if t72 = true then ((ZiisValue.f a0_4).bind fun t71 => (if t71 = true then ((ZiisValue.f a0_6).bind fun t70 => (if t70 = true then ((Ziwithin.f a0_7 0 1000).bind fun t69 => (ZiRecFault.j1 kj2 (!t69) a0_0 a0_1 a0_2 a0_3 a0_4 a0_5 a0_6 a0_7)) else (ZiRecFault.j1 kj2 true a0_0 a0_1 a0_2 a0_3 a0_4 a0_5 a0_6 a0_7))) else (ZiRecFault.j1 kj2 true a0_0 a0_1 a0_2 a0_3 a0_4 a0_5 a0_6 a0_7))) else (ZiRecFault.j1 kj2 true a0_0 a0_1 a0_2 a0_3 a0_4 a0_5 a0_6 a0_7)) = some r := H
      have A12 := Qz.mk A77
      clear A77
      by_cases c13 : t72 = true
      ·subst c13
       have H1 : ((ZiisValue.f a0_4).bind fun t71 => (if t71 = true then ((ZiisValue.f a0_6).bind fun t70 => (if t70 = true then ((Ziwithin.f a0_7 0 1000).bind fun t69 => (ZiRecFault.j1 kj2 (!t69) a0_0 a0_1 a0_2 a0_3 a0_4 a0_5 a0_6 a0_7)) else (ZiRecFault.j1 kj2 true a0_0 a0_1 a0_2 a0_3 a0_4 a0_5 a0_6 a0_7))) else (ZiRecFault.j1 kj2 true a0_0 a0_1 a0_2 a0_3 a0_4 a0_5 a0_6 a0_7))) = some r := by rw [if_pos rfl] at H; exact H
       clear H
       have H := H1
       clear H1
       replace H := Option.bind_eq_some_iff.mp H
       obtain ⟨t71, A78, H⟩ := H
       replace H : (if t71 = true then ((ZiisValue.f a0_6).bind fun t70 => (if t70 = true then ((Ziwithin.f a0_7 0 1000).bind fun t69 => (ZiRecFault.j1 kj2 (!t69) a0_0 a0_1 a0_2 a0_3 a0_4 a0_5 a0_6 a0_7)) else (ZiRecFault.j1 kj2 true a0_0 a0_1 a0_2 a0_3 a0_4 a0_5 a0_6 a0_7))) else (ZiRecFault.j1 kj2 true a0_0 a0_1 a0_2 a0_3 a0_4 a0_5 a0_6 a0_7)) = some r := H
       have A14 := Qz.mk A78
       clear A78
       by_cases c15 : t71 = true
       ·subst c15
        have H1 : ((ZiisValue.f a0_6).bind fun t70 => (if t70 = true then ((Ziwithin.f a0_7 0 1000).bind fun t69 => (ZiRecFault.j1 kj2 (!t69) a0_0 a0_1 a0_2 a0_3 a0_4 a0_5 a0_6 a0_7)) else (ZiRecFault.j1 kj2 true a0_0 a0_1 a0_2 a0_3 a0_4 a0_5 a0_6 a0_7))) = some r := by rw [if_pos rfl] at H; exact H
        clear H
        have H := H1
        clear H1
        replace H := Option.bind_eq_some_iff.mp H
        obtain ⟨t70, A79, H⟩ := H
        replace H : (if t70 = true then ((Ziwithin.f a0_7 0 1000).bind fun t69 => (ZiRecFault.j1 kj2 (!t69) a0_0 a0_1 a0_2 a0_3 a0_4 a0_5 a0_6 a0_7)) else (ZiRecFault.j1 kj2 true a0_0 a0_1 a0_2 a0_3 a0_4 a0_5 a0_6 a0_7)) = some r := H
        have A16 := Qz.mk A79
        clear A79
        by_cases c17 : t70 = true
        ·subst c17
         have H1 : ((Ziwithin.f a0_7 0 1000).bind fun t69 => (ZiRecFault.j1 kj2 (!t69) a0_0 a0_1 a0_2 a0_3 a0_4 a0_5 a0_6 a0_7)) = some r := by rw [if_pos rfl] at H; exact H
         clear H
         have H := H1
         clear H1
         replace H := Option.bind_eq_some_iff.mp H
         obtain ⟨t69, A80, H⟩ := H
         replace H : (ZiRecFault.j1 kj2 (!t69) a0_0 a0_1 a0_2 a0_3 a0_4 a0_5 a0_6 a0_7) = some r := H
         have A18 := Qz.mk A80
         clear A80
         have H' := Qz.mk H
         clear H
         obtain ⟨z19_0, z19_1, z19_2, z19_3, z19_4, z19_5, z19_6, z19_7, j19_0, j19_1, j19_2, j19_3, j19_4, j19_5, j19_6, j19_7⟩ := Lv.blks8 BK68.out
         go_wp2_with (first | ((with_reducible refine gate_callee (f := 76) rfl ?_); refine Qat (some 16) rfl rfl Try.func76 (by kernel_rfl) rfl #[.int .i64 a0_0, .int .i64 1, .int .i64 6] rfl zm ?_; (with_reducible refine (Ziwithin.calls a0_0 1 6 true _ A9.out).mono ?_); rintro e w' ⟨rfl, ⟨nd, rfl⟩⟩; refine ⟨_, rfl, ?_⟩) | (go_at_call 96; (with_reducible refine (ZiisKey.calls a0_2 true _ A12.out).mono ?_); rintro e w' ⟨rfl, ⟨nd, rfl⟩⟩) | (go_at_call 97; (with_reducible refine (ZiisValue.calls a0_4 true _ A14.out).mono ?_); rintro e w' ⟨rfl, ⟨nd, rfl⟩⟩) | (go_at_call 97; (with_reducible refine (ZiisValue.calls a0_6 true _ A16.out).mono ?_); rintro e w' ⟨rfl, ⟨nd, rfl⟩⟩) | (go_at_call 76; (with_reducible refine (Ziwithin.calls a0_7 0 1000 t69 _ A18.out).mono ?_); rintro e w' ⟨rfl, ⟨nd, rfl⟩⟩))
         go_meet
         case rel => exact ⟨_, (!t69), zs, H', ⟨by have := HJ2.out; first | omega | exact Nat.le_refl _⟩, ⟨zq BK68⟩, ⟨zb⟩⟩
        replace c17 := Bool.eq_false_iff.mpr c17
        subst c17
        have H1 : (ZiRecFault.j1 kj2 true a0_0 a0_1 a0_2 a0_3 a0_4 a0_5 a0_6 a0_7) = some r := by rw [if_neg (show ¬ (false = true) by decide)] at H; exact H
        clear H
        have H := H1
        clear H1
        have H' := Qz.mk H
        clear H
        obtain ⟨z20_0, z20_1, z20_2, z20_3, z20_4, z20_5, z20_6, z20_7, j20_0, j20_1, j20_2, j20_3, j20_4, j20_5, j20_6, j20_7⟩ := Lv.blks8 BK68.out
        go_wp2_with (first | ((with_reducible refine gate_callee (f := 76) rfl ?_); refine Qat (some 16) rfl rfl Try.func76 (by kernel_rfl) rfl #[.int .i64 a0_0, .int .i64 1, .int .i64 6] rfl zm ?_; (with_reducible refine (Ziwithin.calls a0_0 1 6 true _ A9.out).mono ?_); rintro e w' ⟨rfl, ⟨nd, rfl⟩⟩; refine ⟨_, rfl, ?_⟩) | (go_at_call 96; (with_reducible refine (ZiisKey.calls a0_2 true _ A12.out).mono ?_); rintro e w' ⟨rfl, ⟨nd, rfl⟩⟩) | (go_at_call 97; (with_reducible refine (ZiisValue.calls a0_4 true _ A14.out).mono ?_); rintro e w' ⟨rfl, ⟨nd, rfl⟩⟩) | (go_at_call 97; (with_reducible refine (ZiisValue.calls a0_6 false _ A16.out).mono ?_); rintro e w' ⟨rfl, ⟨nd, rfl⟩⟩))
        go_meet
        case rel => exact ⟨_, (true), zs, H', ⟨by have := HJ2.out; first | omega | exact Nat.le_refl _⟩, ⟨zq BK68⟩, ⟨zb⟩⟩
       replace c15 := Bool.eq_false_iff.mpr c15
       subst c15
       have H1 : (ZiRecFault.j1 kj2 true a0_0 a0_1 a0_2 a0_3 a0_4 a0_5 a0_6 a0_7) = some r := by rw [if_neg (show ¬ (false = true) by decide)] at H; exact H
       clear H
       have H := H1
       clear H1
       have H' := Qz.mk H
       clear H
       obtain ⟨z21_0, z21_1, z21_2, z21_3, z21_4, z21_5, z21_6, z21_7, j21_0, j21_1, j21_2, j21_3, j21_4, j21_5, j21_6, j21_7⟩ := Lv.blks8 BK68.out
       go_wp2_with (first | ((with_reducible refine gate_callee (f := 76) rfl ?_); refine Qat (some 16) rfl rfl Try.func76 (by kernel_rfl) rfl #[.int .i64 a0_0, .int .i64 1, .int .i64 6] rfl zm ?_; (with_reducible refine (Ziwithin.calls a0_0 1 6 true _ A9.out).mono ?_); rintro e w' ⟨rfl, ⟨nd, rfl⟩⟩; refine ⟨_, rfl, ?_⟩) | (go_at_call 96; (with_reducible refine (ZiisKey.calls a0_2 true _ A12.out).mono ?_); rintro e w' ⟨rfl, ⟨nd, rfl⟩⟩) | (go_at_call 97; (with_reducible refine (ZiisValue.calls a0_4 false _ A14.out).mono ?_); rintro e w' ⟨rfl, ⟨nd, rfl⟩⟩))
       go_meet
       case rel => exact ⟨_, (true), zs, H', ⟨by have := HJ2.out; first | omega | exact Nat.le_refl _⟩, ⟨zq BK68⟩, ⟨zb⟩⟩
      replace c13 := Bool.eq_false_iff.mpr c13
      subst c13
      have H1 : (ZiRecFault.j1 kj2 true a0_0 a0_1 a0_2 a0_3 a0_4 a0_5 a0_6 a0_7) = some r := by rw [if_neg (show ¬ (false = true) by decide)] at H; exact H
      clear H
      have H := H1
      clear H1
      have H' := Qz.mk H
      clear H
      obtain ⟨z22_0, z22_1, z22_2, z22_3, z22_4, z22_5, z22_6, z22_7, j22_0, j22_1, j22_2, j22_3, j22_4, j22_5, j22_6, j22_7⟩ := Lv.blks8 BK68.out
      go_wp2_with (first | ((with_reducible refine gate_callee (f := 76) rfl ?_); refine Qat (some 16) rfl rfl Try.func76 (by kernel_rfl) rfl #[.int .i64 a0_0, .int .i64 1, .int .i64 6] rfl zm ?_; (with_reducible refine (Ziwithin.calls a0_0 1 6 true _ A9.out).mono ?_); rintro e w' ⟨rfl, ⟨nd, rfl⟩⟩; refine ⟨_, rfl, ?_⟩) | (go_at_call 96; (with_reducible refine (ZiisKey.calls a0_2 false _ A12.out).mono ?_); rintro e w' ⟨rfl, ⟨nd, rfl⟩⟩))
      go_meet
      case rel => exact ⟨_, (true), zs, H', ⟨by have := HJ2.out; first | omega | exact Nat.le_refl _⟩, ⟨zq BK68⟩, ⟨zb⟩⟩
     replace c11 := Bool.eq_false_iff.mpr c11
     subst c11
     have H1 : (ZiRecFault.j1 kj2 true a0_0 a0_1 a0_2 a0_3 a0_4 a0_5 a0_6 a0_7) = some r := by rw [if_neg (show ¬ (false = true) by decide)] at H; exact H
     clear H
     have H := H1
     clear H1
     have H' := Qz.mk H
     clear H
     obtain ⟨z23_0, z23_1, z23_2, z23_3, z23_4, z23_5, z23_6, z23_7, j23_0, j23_1, j23_2, j23_3, j23_4, j23_5, j23_6, j23_7⟩ := Lv.blks8 BK68.out
     go_wp2_with (first | ((with_reducible refine gate_callee (f := 76) rfl ?_); refine Qat (some 16) rfl rfl Try.func76 (by kernel_rfl) rfl #[.int .i64 a0_0, .int .i64 1, .int .i64 6] rfl zm ?_; (with_reducible refine (Ziwithin.calls a0_0 1 6 true _ A9.out).mono ?_); rintro e w' ⟨rfl, ⟨nd, rfl⟩⟩; refine ⟨_, rfl, ?_⟩))
     go_meet
     case rel => exact ⟨_, (true), zs, H', ⟨by have := HJ2.out; first | omega | exact Nat.le_refl _⟩, ⟨zq BK68⟩, ⟨zb⟩⟩
    replace c10 := Bool.eq_false_iff.mpr c10
    subst c10
    have H1 : (ZiRecFault.j1 kj2 true a0_0 a0_1 a0_2 a0_3 a0_4 a0_5 a0_6 a0_7) = some r := by rw [if_neg (show ¬ (false = true) by decide)] at H; exact H
    clear H
    have H := H1
    clear H1
    have H' := Qz.mk H
    clear H
    obtain ⟨z24_0, z24_1, z24_2, z24_3, z24_4, z24_5, z24_6, z24_7, j24_0, j24_1, j24_2, j24_3, j24_4, j24_5, j24_6, j24_7⟩ := Lv.blks8 BK68.out
    go_wp2_with (first | ((with_reducible refine gate_callee (f := 76) rfl ?_); refine Qat (some 16) rfl rfl Try.func76 (by kernel_rfl) rfl #[.int .i64 a0_0, .int .i64 1, .int .i64 6] rfl zm ?_; (with_reducible refine (Ziwithin.calls a0_0 1 6 false _ A9.out).mono ?_); rintro e w' ⟨rfl, ⟨nd, rfl⟩⟩; refine ⟨_, rfl, ?_⟩))
    go_meet
    case rel => exact ⟨_, (true), zs, H', ⟨by have := HJ2.out; first | omega | exact Nat.le_refl _⟩, ⟨zq BK68⟩, ⟨zb⟩⟩
   case rest =>
    clear HC8
    try clear c1
    try clear p2
    try clear c5
    try clear c6
    try clear c6b0
    try clear c6b1
    try clear c7
    try clear c8
    try clear c10
    try clear c11
    try clear c13
    try clear c15
    try clear c17
    try clear z19_0 z19_1 z19_2 z19_3 z19_4 z19_5 z19_6 z19_7
    try clear z20_0 z20_1 z20_2 z20_3 z20_4 z20_5 z20_6 z20_7
    try clear z21_0 z21_1 z21_2 z21_3 z21_4 z21_5 z21_6 z21_7
    try clear z22_0 z22_1 z22_2 z22_3 z22_4 z22_5 z22_6 z22_7
    try clear z23_0 z23_1 z23_2 z23_3 z23_4 z23_5 z23_6 z23_7
    try clear z24_0 z24_1 z24_2 z24_3 z24_4 z24_5 z24_6 z24_7
    try clear z5_0 z5_1 z5_2 z5_3 z5_4 z5_5 z5_6 z5_7
    try clear z7_0 z7_1 z7_2 z7_3 z7_4 z7_5 z7_6 z7_7
    try clear j19_0 j19_1 j19_2 j19_3 j19_4 j19_5 j19_6 j19_7
    try clear j20_0 j20_1 j20_2 j20_3 j20_4 j20_5 j20_6 j20_7
    try clear j21_0 j21_1 j21_2 j21_3 j21_4 j21_5 j21_6 j21_7
    try clear j22_0 j22_1 j22_2 j22_3 j22_4 j22_5 j22_6 j22_7
    try clear j23_0 j23_1 j23_2 j23_3 j23_4 j23_5 j23_6 j23_7
    try clear j24_0 j24_1 j24_2 j24_3 j24_4 j24_5 j24_6 j24_7
    try clear j5_0 j5_1 j5_2 j5_3 j5_4 j5_5 j5_6 j5_7
    try clear j7_0 j7_1 j7_2 j7_3 j7_4 j7_5 j7_6 j7_7
    try clear p2
    obtain ⟨kq, x13_7, rfl, HA, HJ7, BK68, HB⟩ := hcut
    cases kq with
    | zero => exact absurd HA.out (by simp [ZiRecFault.j1])
    | succ kj7 =>
     have H := HA.out
     clear HA
     simp only [ZiRecFault.j1] at H
     by_cases c25 : x13_7 = true
     ·subst c25
      have H1 : (some 3) = some r := by rw [if_pos rfl] at H; exact H
      clear H
      have H := H1
      clear H1
      obtain rfl := Option.some.inj H
      go_wp2
      go_ret
      exact ⟨ze, zb⟩
     replace c25 := Bool.eq_false_iff.mpr c25
     subst c25
     have H1 : ((ZiRec_turns.f a0_0 a0_1 a0_2 a0_3 a0_4 a0_5 a0_6 a0_7).bind fun t74 => (if t74 = true then (ZiRecFault.j2 kj7 false a0_0 a0_1 a0_2 a0_3 a0_4 a0_5 a0_6 a0_7) else (if a0_2 = 0 then (if a0_3 = true then (ZiRecFault.j2 kj7 true a0_0 a0_1 a0_2 a0_3 a0_4 a0_5 a0_6 a0_7) else (if a0_4 = 0 then (if a0_5 = true then (ZiRecFault.j2 kj7 true a0_0 a0_1 a0_2 a0_3 a0_4 a0_5 a0_6 a0_7) else (ZiRecFault.j2 kj7 (a0_6 != 0) a0_0 a0_1 a0_2 a0_3 a0_4 a0_5 a0_6 a0_7)) else (ZiRecFault.j2 kj7 true a0_0 a0_1 a0_2 a0_3 a0_4 a0_5 a0_6 a0_7))) else (ZiRecFault.j2 kj7 true a0_0 a0_1 a0_2 a0_3 a0_4 a0_5 a0_6 a0_7)))) = some r := by rw [if_neg (show ¬ (false = true) by decide)] at H; exact H
     clear H
     have H := H1
     clear H1
     have HC26 := Qz.mk H
     clear H
     go_upto_region 6 with (fail)
     go_cut [46] (fun v46 wc => ∃ (kq : Nat) (x46_25 : Bool), v46 = .bool x46_25 ∧ Qz (ZiRecFault.j2 kq x46_25 a0_0 a0_1 a0_2 a0_3 a0_4 a0_5 a0_6 a0_7 = some r) ∧ Qz (kq ≤ kj7) ∧ Qz (wc.heap[gb68]? = some (.cells #[.int .i64 a0_0, .int .i64 a0_1, .int .i64 a0_2, .bool a0_3, .int .i64 a0_4, .bool a0_5, .int .i64 a0_6, .int .i64 a0_7] 48 (0, 0))) ∧ Qz (Below w.heap.size w wc))
     case first =>
      have H := HC26.out
      clear HC26
      replace H := Option.bind_eq_some_iff.mp H
      obtain ⟨t74, A81, H⟩ := H
      replace H : (if t74 = true then (ZiRecFault.j2 kj7 false a0_0 a0_1 a0_2 a0_3 a0_4 a0_5 a0_6 a0_7) else (if a0_2 = 0 then (if a0_3 = true then (ZiRecFault.j2 kj7 true a0_0 a0_1 a0_2 a0_3 a0_4 a0_5 a0_6 a0_7) else (if a0_4 = 0 then (if a0_5 = true then (ZiRecFault.j2 kj7 true a0_0 a0_1 a0_2 a0_3 a0_4 a0_5 a0_6 a0_7) else (ZiRecFault.j2 kj7 (a0_6 != 0) a0_0 a0_1 a0_2 a0_3 a0_4 a0_5 a0_6 a0_7)) else (ZiRecFault.j2 kj7 true a0_0 a0_1 a0_2 a0_3 a0_4 a0_5 a0_6 a0_7))) else (ZiRecFault.j2 kj7 true a0_0 a0_1 a0_2 a0_3 a0_4 a0_5 a0_6 a0_7))) = some r := H
      have A27 := Qz.mk A81
      clear A81
      by_cases c28 : t74 = true
      ·subst c28
       have H1 : (ZiRecFault.j2 kj7 false a0_0 a0_1 a0_2 a0_3 a0_4 a0_5 a0_6 a0_7) = some r := by rw [if_pos rfl] at H; exact H
       clear H
       have H := H1
       clear H1
       have H' := Qz.mk H
       clear H
       obtain ⟨z29_0, z29_1, z29_2, z29_3, z29_4, z29_5, z29_6, z29_7, j29_0, j29_1, j29_2, j29_3, j29_4, j29_5, j29_6, j29_7⟩ := Lv.blks8 BK68.out
       go_wp2_with (first | ((with_reducible refine gate_callee (f := 98) rfl ?_); refine Qat (some 48) rfl rfl Try.func98 (by kernel_rfl) rfl #[.agg #[.int .i64 a0_0, .int .i64 a0_1, .int .i64 a0_2, .bool a0_3, .int .i64 a0_4, .bool a0_5, .int .i64 a0_6, .int .i64 a0_7]] rfl zm ?_; (with_reducible refine (ZiRec_turns.calls a0_0 a0_1 a0_2 a0_3 a0_4 a0_5 a0_6 a0_7 true _ A27.out).mono ?_); rintro e w30 ⟨rfl, hb⟩; refine ⟨_, rfl, ?_⟩; have n0_ := Qz.mk (Qi (g := gb68) (o := .cells #[.int .i64 a0_0, .int .i64 a0_1, .int .i64 a0_2, .bool a0_3, .int .i64 a0_4, .bool a0_5, .int .i64 a0_6, .int .i64 a0_7] 48 (0, 0)) zk hb); have n1_ := Qz.mk (Qq zb hb); clear BK68; clear HB; have BK68 := n0_; have HB := n1_; clear n0_ n1_; (try clear hb); (try clear hb2); (try clear hk); (try clear hi)))
       go_meet
       case rel => exact ⟨_, (false), zs, H', ⟨by have := HJ2.out; have := HJ7.out; first | omega | exact Nat.le_refl _⟩, ⟨zq BK68⟩, ⟨zb⟩⟩
      replace c28 := Bool.eq_false_iff.mpr c28
      subst c28
      have H1 : (if a0_2 = 0 then (if a0_3 = true then (ZiRecFault.j2 kj7 true a0_0 a0_1 a0_2 a0_3 a0_4 a0_5 a0_6 a0_7) else (if a0_4 = 0 then (if a0_5 = true then (ZiRecFault.j2 kj7 true a0_0 a0_1 a0_2 a0_3 a0_4 a0_5 a0_6 a0_7) else (ZiRecFault.j2 kj7 (a0_6 != 0) a0_0 a0_1 a0_2 a0_3 a0_4 a0_5 a0_6 a0_7)) else (ZiRecFault.j2 kj7 true a0_0 a0_1 a0_2 a0_3 a0_4 a0_5 a0_6 a0_7))) else (ZiRecFault.j2 kj7 true a0_0 a0_1 a0_2 a0_3 a0_4 a0_5 a0_6 a0_7)) = some r := by rw [if_neg (show ¬ (false = true) by decide)] at H; exact H
      clear H
      have H := H1
      clear H1
      by_cases c31 : a0_2 = 0
      ·rw [if_pos c31] at H
       have c31b0 : (a0_2 == 0) = true := beq_iff_eq.mpr c31
       have c31b1 : (a0_2 != 0) = false := bne_eq_false_iff_eq.mpr c31
       clear c31
       (first | rw [c31b0] | (simp only [Qar, Qas]; rw [c31b0]) | skip)
       by_cases c32 : a0_3 = true
       ·subst c32
        have H1 : (ZiRecFault.j2 kj7 true a0_0 a0_1 a0_2 true a0_4 a0_5 a0_6 a0_7) = some r := by rw [if_pos rfl] at H; exact H
        clear H
        have H := H1
        clear H1
        have H' := Qz.mk H
        clear H
        obtain ⟨z33_0, z33_1, z33_2, z33_3, z33_4, z33_5, z33_6, z33_7, j33_0, j33_1, j33_2, j33_3, j33_4, j33_5, j33_6, j33_7⟩ := Lv.blks8 BK68.out
        go_wp2_with (first | ((with_reducible refine gate_callee (f := 98) rfl ?_); refine Qat (some 48) rfl rfl Try.func98 (by kernel_rfl) rfl #[.agg #[.int .i64 a0_0, .int .i64 a0_1, .int .i64 a0_2, .bool true, .int .i64 a0_4, .bool a0_5, .int .i64 a0_6, .int .i64 a0_7]] rfl zm ?_; (with_reducible refine (ZiRec_turns.calls a0_0 a0_1 a0_2 true a0_4 a0_5 a0_6 a0_7 false _ A27.out).mono ?_); rintro e w34 ⟨rfl, hb⟩; refine ⟨_, rfl, ?_⟩; have n0_ := Qz.mk (Qi (g := gb68) (o := .cells #[.int .i64 a0_0, .int .i64 a0_1, .int .i64 a0_2, .bool true, .int .i64 a0_4, .bool a0_5, .int .i64 a0_6, .int .i64 a0_7] 48 (0, 0)) zk hb); have n1_ := Qz.mk (Qq zb hb); clear BK68; clear HB; have BK68 := n0_; have HB := n1_; clear n0_ n1_; (try clear hb); (try clear hb2); (try clear hk); (try clear hi); obtain ⟨z35_0, z35_1, z35_2, z35_3, z35_4, z35_5, z35_6, z35_7, j35_0, j35_1, j35_2, j35_3, j35_4, j35_5, j35_6, j35_7⟩ := Lv.blks8 BK68.out))
        go_meet
        case rel => exact ⟨_, (true), zs, H', ⟨by have := HJ2.out; have := HJ7.out; first | omega | exact Nat.le_refl _⟩, ⟨zq BK68⟩, ⟨zb⟩⟩
       replace c32 := Bool.eq_false_iff.mpr c32
       subst c32
       have H1 : (if a0_4 = 0 then (if a0_5 = true then (ZiRecFault.j2 kj7 true a0_0 a0_1 a0_2 false a0_4 a0_5 a0_6 a0_7) else (ZiRecFault.j2 kj7 (a0_6 != 0) a0_0 a0_1 a0_2 false a0_4 a0_5 a0_6 a0_7)) else (ZiRecFault.j2 kj7 true a0_0 a0_1 a0_2 false a0_4 a0_5 a0_6 a0_7)) = some r := by rw [if_neg (show ¬ (false = true) by decide)] at H; exact H
       clear H
       have H := H1
       clear H1
       by_cases c36 : a0_4 = 0
       ·rw [if_pos c36] at H
        have c36b0 : (a0_4 == 0) = true := beq_iff_eq.mpr c36
        have c36b1 : (a0_4 != 0) = false := bne_eq_false_iff_eq.mpr c36
        clear c36
        by_cases c37 : a0_5 = true
        ·subst c37
         have H1 : (ZiRecFault.j2 kj7 true a0_0 a0_1 a0_2 false a0_4 true a0_6 a0_7) = some r := by rw [if_pos rfl] at H; exact H
         clear H
         have H := H1
         clear H1
         have H' := Qz.mk H
         clear H
         obtain ⟨z38_0, z38_1, z38_2, z38_3, z38_4, z38_5, z38_6, z38_7, j38_0, j38_1, j38_2, j38_3, j38_4, j38_5, j38_6, j38_7⟩ := Lv.blks8 BK68.out
         go_wp2_with (first | ((with_reducible refine gate_callee (f := 98) rfl ?_); refine Qat (some 48) rfl rfl Try.func98 (by kernel_rfl) rfl #[.agg #[.int .i64 a0_0, .int .i64 a0_1, .int .i64 a0_2, .bool false, .int .i64 a0_4, .bool true, .int .i64 a0_6, .int .i64 a0_7]] rfl zm ?_; (with_reducible refine (ZiRec_turns.calls a0_0 a0_1 a0_2 false a0_4 true a0_6 a0_7 false _ A27.out).mono ?_); rintro e w39 ⟨rfl, hb⟩; refine ⟨_, rfl, ?_⟩; have n0_ := Qz.mk (Qi (g := gb68) (o := .cells #[.int .i64 a0_0, .int .i64 a0_1, .int .i64 a0_2, .bool false, .int .i64 a0_4, .bool true, .int .i64 a0_6, .int .i64 a0_7] 48 (0, 0)) zk hb); have n1_ := Qz.mk (Qq zb hb); clear BK68; clear HB; have BK68 := n0_; have HB := n1_; clear n0_ n1_; (try clear hb); (try clear hb2); (try clear hk); (try clear hi); obtain ⟨z40_0, z40_1, z40_2, z40_3, z40_4, z40_5, z40_6, z40_7, j40_0, j40_1, j40_2, j40_3, j40_4, j40_5, j40_6, j40_7⟩ := Lv.blks8 BK68.out))
         go_meet
         case rel => exact ⟨_, (true), zs, H', ⟨by have := HJ2.out; have := HJ7.out; first | omega | exact Nat.le_refl _⟩, ⟨zq BK68⟩, ⟨zb⟩⟩
        replace c37 := Bool.eq_false_iff.mpr c37
        subst c37
        have H1 : (ZiRecFault.j2 kj7 (a0_6 != 0) a0_0 a0_1 a0_2 false a0_4 false a0_6 a0_7) = some r := by rw [if_neg (show ¬ (false = true) by decide)] at H; exact H
        clear H
        have H := H1
        clear H1
        have H' := Qz.mk H
        clear H
        obtain ⟨z41_0, z41_1, z41_2, z41_3, z41_4, z41_5, z41_6, z41_7, j41_0, j41_1, j41_2, j41_3, j41_4, j41_5, j41_6, j41_7⟩ := Lv.blks8 BK68.out
        go_wp2_with (first | ((with_reducible refine gate_callee (f := 98) rfl ?_); refine Qat (some 48) rfl rfl Try.func98 (by kernel_rfl) rfl #[.agg #[.int .i64 a0_0, .int .i64 a0_1, .int .i64 a0_2, .bool false, .int .i64 a0_4, .bool false, .int .i64 a0_6, .int .i64 a0_7]] rfl zm ?_; (with_reducible refine (ZiRec_turns.calls a0_0 a0_1 a0_2 false a0_4 false a0_6 a0_7 false _ A27.out).mono ?_); rintro e w42 ⟨rfl, hb⟩; refine ⟨_, rfl, ?_⟩; have n0_ := Qz.mk (Qi (g := gb68) (o := .cells #[.int .i64 a0_0, .int .i64 a0_1, .int .i64 a0_2, .bool false, .int .i64 a0_4, .bool false, .int .i64 a0_6, .int .i64 a0_7] 48 (0, 0)) zk hb); have n1_ := Qz.mk (Qq zb hb); clear BK68; clear HB; have BK68 := n0_; have HB := n1_; clear n0_ n1_; (try clear hb); (try clear hb2); (try clear hk); (try clear hi); obtain ⟨z43_0, z43_1, z43_2, z43_3, z43_4, z43_5, z43_6, z43_7, j43_0, j43_1, j43_2, j43_3, j43_4, j43_5, j43_6, j43_7⟩ := Lv.blks8 BK68.out))
        go_meet
        case rel => exact ⟨_, ((a0_6 != 0)), zs, H', ⟨by have := HJ2.out; have := HJ7.out; first | omega | exact Nat.le_refl _⟩, ⟨zq BK68⟩, ⟨zb⟩⟩
       rw [if_neg c36] at H
       have c36b0 : (a0_4 == 0) = false := beq_eq_false_iff_ne.mpr c36
       have c36b1 : (a0_4 != 0) = true := bne_iff_ne.mpr c36
       have H' := Qz.mk H
       clear H
       obtain ⟨z44_0, z44_1, z44_2, z44_3, z44_4, z44_5, z44_6, z44_7, j44_0, j44_1, j44_2, j44_3, j44_4, j44_5, j44_6, j44_7⟩ := Lv.blks8 BK68.out
       go_wp2_with (first | ((with_reducible refine gate_callee (f := 98) rfl ?_); refine Qat (some 48) rfl rfl Try.func98 (by kernel_rfl) rfl #[.agg #[.int .i64 a0_0, .int .i64 a0_1, .int .i64 a0_2, .bool false, .int .i64 a0_4, .bool a0_5, .int .i64 a0_6, .int .i64 a0_7]] rfl zm ?_; (with_reducible refine (ZiRec_turns.calls a0_0 a0_1 a0_2 false a0_4 a0_5 a0_6 a0_7 false _ A27.out).mono ?_); rintro e w45 ⟨rfl, hb⟩; refine ⟨_, rfl, ?_⟩; have n0_ := Qz.mk (Qi (g := gb68) (o := .cells #[.int .i64 a0_0, .int .i64 a0_1, .int .i64 a0_2, .bool false, .int .i64 a0_4, .bool a0_5, .int .i64 a0_6, .int .i64 a0_7] 48 (0, 0)) zk hb); have n1_ := Qz.mk (Qq zb hb); clear BK68; clear HB; have BK68 := n0_; have HB := n1_; clear n0_ n1_; (try clear hb); (try clear hb2); (try clear hk); (try clear hi); obtain ⟨z46_0, z46_1, z46_2, z46_3, z46_4, z46_5, z46_6, z46_7, j46_0, j46_1, j46_2, j46_3, j46_4, j46_5, j46_6, j46_7⟩ := Lv.blks8 BK68.out))
       go_meet
       case rel => exact ⟨_, (true), zs, H', ⟨by have := HJ2.out; have := HJ7.out; first | omega | exact Nat.le_refl _⟩, ⟨zq BK68⟩, ⟨zb⟩⟩
      rw [if_neg c31] at H
      have c31b0 : (a0_2 == 0) = false := beq_eq_false_iff_ne.mpr c31
      have c31b1 : (a0_2 != 0) = true := bne_iff_ne.mpr c31
      (first | rw [c31b0] | (simp only [Qar, Qas]; rw [c31b0]) | skip)
      have H' := Qz.mk H
      clear H
      obtain ⟨z47_0, z47_1, z47_2, z47_3, z47_4, z47_5, z47_6, z47_7, j47_0, j47_1, j47_2, j47_3, j47_4, j47_5, j47_6, j47_7⟩ := Lv.blks8 BK68.out
      go_wp2_with (first | ((with_reducible refine gate_callee (f := 98) rfl ?_); refine Qat (some 48) rfl rfl Try.func98 (by kernel_rfl) rfl #[.agg #[.int .i64 a0_0, .int .i64 a0_1, .int .i64 a0_2, .bool a0_3, .int .i64 a0_4, .bool a0_5, .int .i64 a0_6, .int .i64 a0_7]] rfl zm ?_; (with_reducible refine (ZiRec_turns.calls a0_0 a0_1 a0_2 a0_3 a0_4 a0_5 a0_6 a0_7 false _ A27.out).mono ?_); rintro e w48 ⟨rfl, hb⟩; refine ⟨_, rfl, ?_⟩; have n0_ := Qz.mk (Qi (g := gb68) (o := .cells #[.int .i64 a0_0, .int .i64 a0_1, .int .i64 a0_2, .bool a0_3, .int .i64 a0_4, .bool a0_5, .int .i64 a0_6, .int .i64 a0_7] 48 (0, 0)) zk hb); have n1_ := Qz.mk (Qq zb hb); clear BK68; clear HB; have BK68 := n0_; have HB := n1_; clear n0_ n1_; (try clear hb); (try clear hb2); (try clear hk); (try clear hi); obtain ⟨z49_0, z49_1, z49_2, z49_3, z49_4, z49_5, z49_6, z49_7, j49_0, j49_1, j49_2, j49_3, j49_4, j49_5, j49_6, j49_7⟩ := Lv.blks8 BK68.out))
      go_meet
      case rel => exact ⟨_, (true), zs, H', ⟨by have := HJ2.out; have := HJ7.out; first | omega | exact Nat.le_refl _⟩, ⟨zq BK68⟩, ⟨zb⟩⟩
     case rest =>
      clear HC26
      try clear c1
      try clear c2
      try clear p2
      try clear c3
      try clear c5
      try clear c6
      try clear c6b0
      try clear c6b1
      try clear c7
      try clear c8
      try clear c9
      try clear c10
      try clear c11
      try clear c13
      try clear c15
      try clear c17
      try clear c25
      try clear c28
      try clear c31
      try clear c31b0
      try clear c31b1
      try clear c32
      try clear c36
      try clear c36b0
      try clear c36b1
      try clear c37
      try clear z19_0 z19_1 z19_2 z19_3 z19_4 z19_5 z19_6 z19_7
      try clear z20_0 z20_1 z20_2 z20_3 z20_4 z20_5 z20_6 z20_7
      try clear z21_0 z21_1 z21_2 z21_3 z21_4 z21_5 z21_6 z21_7
      try clear z22_0 z22_1 z22_2 z22_3 z22_4 z22_5 z22_6 z22_7
      try clear z23_0 z23_1 z23_2 z23_3 z23_4 z23_5 z23_6 z23_7
      try clear z24_0 z24_1 z24_2 z24_3 z24_4 z24_5 z24_6 z24_7
      try clear z29_0 z29_1 z29_2 z29_3 z29_4 z29_5 z29_6 z29_7
      try clear z33_0 z33_1 z33_2 z33_3 z33_4 z33_5 z33_6 z33_7
      try clear z35_0 z35_1 z35_2 z35_3 z35_4 z35_5 z35_6 z35_7
      try clear z38_0 z38_1 z38_2 z38_3 z38_4 z38_5 z38_6 z38_7
      try clear z40_0 z40_1 z40_2 z40_3 z40_4 z40_5 z40_6 z40_7
      try clear z41_0 z41_1 z41_2 z41_3 z41_4 z41_5 z41_6 z41_7
      try clear z43_0 z43_1 z43_2 z43_3 z43_4 z43_5 z43_6 z43_7
      try clear z44_0 z44_1 z44_2 z44_3 z44_4 z44_5 z44_6 z44_7
      try clear z46_0 z46_1 z46_2 z46_3 z46_4 z46_5 z46_6 z46_7
      try clear z47_0 z47_1 z47_2 z47_3 z47_4 z47_5 z47_6 z47_7
      try clear z49_0 z49_1 z49_2 z49_3 z49_4 z49_5 z49_6 z49_7
      try clear z5_0 z5_1 z5_2 z5_3 z5_4 z5_5 z5_6 z5_7
      try clear z7_0 z7_1 z7_2 z7_3 z7_4 z7_5 z7_6 z7_7
      try clear j19_0 j19_1 j19_2 j19_3 j19_4 j19_5 j19_6 j19_7
      try clear j20_0 j20_1 j20_2 j20_3 j20_4 j20_5 j20_6 j20_7
      try clear j21_0 j21_1 j21_2 j21_3 j21_4 j21_5 j21_6 j21_7
      try clear j22_0 j22_1 j22_2 j22_3 j22_4 j22_5 j22_6 j22_7
      try clear j23_0 j23_1 j23_2 j23_3 j23_4 j23_5 j23_6 j23_7
      try clear j24_0 j24_1 j24_2 j24_3 j24_4 j24_5 j24_6 j24_7
      try clear j29_0 j29_1 j29_2 j29_3 j29_4 j29_5 j29_6 j29_7
      try clear j33_0 j33_1 j33_2 j33_3 j33_4 j33_5 j33_6 j33_7
      try clear j35_0 j35_1 j35_2 j35_3 j35_4 j35_5 j35_6 j35_7
      try clear j38_0 j38_1 j38_2 j38_3 j38_4 j38_5 j38_6 j38_7
      try clear j40_0 j40_1 j40_2 j40_3 j40_4 j40_5 j40_6 j40_7
      try clear j41_0 j41_1 j41_2 j41_3 j41_4 j41_5 j41_6 j41_7
      try clear j43_0 j43_1 j43_2 j43_3 j43_4 j43_5 j43_6 j43_7
      try clear j44_0 j44_1 j44_2 j44_3 j44_4 j44_5 j44_6 j44_7
      try clear j46_0 j46_1 j46_2 j46_3 j46_4 j46_5 j46_6 j46_7
      try clear j47_0 j47_1 j47_2 j47_3 j47_4 j47_5 j47_6 j47_7
      try clear j49_0 j49_1 j49_2 j49_3 j49_4 j49_5 j49_6 j49_7
      try clear j5_0 j5_1 j5_2 j5_3 j5_4 j5_5 j5_6 j5_7
      try clear j7_0 j7_1 j7_2 j7_3 j7_4 j7_5 j7_6 j7_7
      try clear p2
      obtain ⟨kq, x46_25, rfl, HA, HJ25, BK68, HB⟩ := hcut
      cases kq with
      | zero => exact absurd HA.out (by simp [ZiRecFault.j2])
      | succ kj25 =>
       have H := HA.out
       clear HA
       simp only [ZiRecFault.j2] at H
       by_cases c50 : x46_25 = true
       ·subst c50
        have H1 : (some 1) = some r := by rw [if_pos rfl] at H; exact H
        clear H
        have H := H1
        clear H1
        obtain rfl := Option.some.inj H
        go_wp2
        go_ret
        exact ⟨ze, zb⟩
       replace c50 := Bool.eq_false_iff.mpr c50
       subst c50
       have H1 : (if a0_3 = true then (ZiRecFault.j3 kj25 false a0_0 a0_1 a0_2 a0_3 a0_4 a0_5 a0_6 a0_7) else (ZiRecFault.j3 kj25 (a0_4 != 0) a0_0 a0_1 a0_2 a0_3 a0_4 a0_5 a0_6 a0_7)) = some r := by rw [if_neg (show ¬ (false = true) by decide)] at H; exact H
       clear H
       have H := H1
       clear H1
       have HC51 := Qz.mk H
       clear H
       go_upto_region 7 with (fail)
       go_cut [46] (fun v46 wc => ∃ (kq : Nat) (x46_50 : Bool), v46 = .bool x46_50 ∧ Qz (ZiRecFault.j3 kq x46_50 a0_0 a0_1 a0_2 a0_3 a0_4 a0_5 a0_6 a0_7 = some r) ∧ Qz (kq ≤ kj25) ∧ Qz (wc.heap[gb68]? = some (.cells #[.int .i64 a0_0, .int .i64 a0_1, .int .i64 a0_2, .bool a0_3, .int .i64 a0_4, .bool a0_5, .int .i64 a0_6, .int .i64 a0_7] 48 (0, 0))) ∧ Qz (Below w.heap.size w wc))
       case first =>
        have H := HC51.out
        clear HC51
        by_cases c52 : a0_3 = true
        ·subst c52
         have H1 : (ZiRecFault.j3 kj25 false a0_0 a0_1 a0_2 true a0_4 a0_5 a0_6 a0_7) = some r := by rw [if_pos rfl] at H; exact H
         clear H
         have H := H1
         clear H1
         have H' := Qz.mk H
         clear H
         obtain ⟨z53_0, z53_1, z53_2, z53_3, z53_4, z53_5, z53_6, z53_7, j53_0, j53_1, j53_2, j53_3, j53_4, j53_5, j53_6, j53_7⟩ := Lv.blks8 BK68.out
         go_wp2
         go_meet
         case rel => exact ⟨_, (false), zs, H', ⟨by have := HJ2.out; have := HJ7.out; have := HJ25.out; first | omega | exact Nat.le_refl _⟩, ⟨zq BK68⟩, ⟨zb⟩⟩
        replace c52 := Bool.eq_false_iff.mpr c52
        subst c52
        have H1 : (ZiRecFault.j3 kj25 (a0_4 != 0) a0_0 a0_1 a0_2 false a0_4 a0_5 a0_6 a0_7) = some r := by rw [if_neg (show ¬ (false = true) by decide)] at H; exact H
        clear H
        have H := H1
        clear H1
        have H' := Qz.mk H
        clear H
        obtain ⟨z54_0, z54_1, z54_2, z54_3, z54_4, z54_5, z54_6, z54_7, j54_0, j54_1, j54_2, j54_3, j54_4, j54_5, j54_6, j54_7⟩ := Lv.blks8 BK68.out
        go_wp2
        go_meet
        case rel => exact ⟨_, ((a0_4 != 0)), zs, H', ⟨by have := HJ2.out; have := HJ7.out; have := HJ25.out; first | omega | exact Nat.le_refl _⟩, ⟨zq BK68⟩, ⟨zb⟩⟩
       case rest =>
        clear HC51
        try clear c1
        try clear c2
        try clear p2
        try clear c3
        try clear c5
        try clear c6
        try clear c6b0
        try clear c6b1
        try clear c7
        try clear c8
        try clear c9
        try clear c10
        try clear c11
        try clear c13
        try clear c15
        try clear c17
        try clear c25
        try clear c28
        try clear c31
        try clear c31b0
        try clear c31b1
        try clear c32
        try clear c36
        try clear c36b0
        try clear c36b1
        try clear c37
        try clear c50
        try clear c52
        try clear z19_0 z19_1 z19_2 z19_3 z19_4 z19_5 z19_6 z19_7
        try clear z20_0 z20_1 z20_2 z20_3 z20_4 z20_5 z20_6 z20_7
        try clear z21_0 z21_1 z21_2 z21_3 z21_4 z21_5 z21_6 z21_7
        try clear z22_0 z22_1 z22_2 z22_3 z22_4 z22_5 z22_6 z22_7
        try clear z23_0 z23_1 z23_2 z23_3 z23_4 z23_5 z23_6 z23_7
        try clear z24_0 z24_1 z24_2 z24_3 z24_4 z24_5 z24_6 z24_7
        try clear z29_0 z29_1 z29_2 z29_3 z29_4 z29_5 z29_6 z29_7
        try clear z33_0 z33_1 z33_2 z33_3 z33_4 z33_5 z33_6 z33_7
        try clear z35_0 z35_1 z35_2 z35_3 z35_4 z35_5 z35_6 z35_7
        try clear z38_0 z38_1 z38_2 z38_3 z38_4 z38_5 z38_6 z38_7
        try clear z40_0 z40_1 z40_2 z40_3 z40_4 z40_5 z40_6 z40_7
        try clear z41_0 z41_1 z41_2 z41_3 z41_4 z41_5 z41_6 z41_7
        try clear z43_0 z43_1 z43_2 z43_3 z43_4 z43_5 z43_6 z43_7
        try clear z44_0 z44_1 z44_2 z44_3 z44_4 z44_5 z44_6 z44_7
        try clear z46_0 z46_1 z46_2 z46_3 z46_4 z46_5 z46_6 z46_7
        try clear z47_0 z47_1 z47_2 z47_3 z47_4 z47_5 z47_6 z47_7
        try clear z49_0 z49_1 z49_2 z49_3 z49_4 z49_5 z49_6 z49_7
        try clear z53_0 z53_1 z53_2 z53_3 z53_4 z53_5 z53_6 z53_7
        try clear z54_0 z54_1 z54_2 z54_3 z54_4 z54_5 z54_6 z54_7
        try clear z5_0 z5_1 z5_2 z5_3 z5_4 z5_5 z5_6 z5_7
        try clear z7_0 z7_1 z7_2 z7_3 z7_4 z7_5 z7_6 z7_7
        try clear j19_0 j19_1 j19_2 j19_3 j19_4 j19_5 j19_6 j19_7
        try clear j20_0 j20_1 j20_2 j20_3 j20_4 j20_5 j20_6 j20_7
        try clear j21_0 j21_1 j21_2 j21_3 j21_4 j21_5 j21_6 j21_7
        try clear j22_0 j22_1 j22_2 j22_3 j22_4 j22_5 j22_6 j22_7
        try clear j23_0 j23_1 j23_2 j23_3 j23_4 j23_5 j23_6 j23_7
        try clear j24_0 j24_1 j24_2 j24_3 j24_4 j24_5 j24_6 j24_7
        try clear j29_0 j29_1 j29_2 j29_3 j29_4 j29_5 j29_6 j29_7
        try clear j33_0 j33_1 j33_2 j33_3 j33_4 j33_5 j33_6 j33_7
        try clear j35_0 j35_1 j35_2 j35_3 j35_4 j35_5 j35_6 j35_7
        try clear j38_0 j38_1 j38_2 j38_3 j38_4 j38_5 j38_6 j38_7
        try clear j40_0 j40_1 j40_2 j40_3 j40_4 j40_5 j40_6 j40_7
        try clear j41_0 j41_1 j41_2 j41_3 j41_4 j41_5 j41_6 j41_7
        try clear j43_0 j43_1 j43_2 j43_3 j43_4 j43_5 j43_6 j43_7
        try clear j44_0 j44_1 j44_2 j44_3 j44_4 j44_5 j44_6 j44_7
        try clear j46_0 j46_1 j46_2 j46_3 j46_4 j46_5 j46_6 j46_7
        try clear j47_0 j47_1 j47_2 j47_3 j47_4 j47_5 j47_6 j47_7
        try clear j49_0 j49_1 j49_2 j49_3 j49_4 j49_5 j49_6 j49_7
        try clear j53_0 j53_1 j53_2 j53_3 j53_4 j53_5 j53_6 j53_7
        try clear j54_0 j54_1 j54_2 j54_3 j54_4 j54_5 j54_6 j54_7
        try clear j5_0 j5_1 j5_2 j5_3 j5_4 j5_5 j5_6 j5_7
        try clear j7_0 j7_1 j7_2 j7_3 j7_4 j7_5 j7_6 j7_7
        try clear p2
        obtain ⟨kq, x46_50, rfl, HA, HJ50, BK68, HB⟩ := hcut
        cases kq with
        | zero => exact absurd HA.out (by simp [ZiRecFault.j3])
        | succ kj50 =>
         have H := HA.out
         clear HA
         simp only [ZiRecFault.j3] at H
         by_cases c55 : x46_50 = true
         ·subst c55
          have H1 : (some 1) = some r := by rw [if_pos rfl] at H; exact H
          clear H
          have H := H1
          clear H1
          obtain rfl := Option.some.inj H
          go_wp2
          go_ret
          exact ⟨ze, zb⟩
         replace c55 := Bool.eq_false_iff.mpr c55
         subst c55
         have H1 : (if a0_5 = true then (ZiRecFault.j4 kj50 false a0_0 a0_1 a0_2 a0_3 a0_4 a0_5 a0_6 a0_7) else (ZiRecFault.j4 kj50 (a0_6 != 0) a0_0 a0_1 a0_2 a0_3 a0_4 a0_5 a0_6 a0_7)) = some r := by rw [if_neg (show ¬ (false = true) by decide)] at H; exact H
         clear H
         have H := H1
         clear H1
         have HC56 := Qz.mk H
         clear H
         go_upto_region 8 with (fail)
         go_cut [46] (fun v46 wc => ∃ (kq : Nat) (x46_55 : Bool), v46 = .bool x46_55 ∧ Qz (ZiRecFault.j4 kq x46_55 a0_0 a0_1 a0_2 a0_3 a0_4 a0_5 a0_6 a0_7 = some r) ∧ Qz (kq ≤ kj50) ∧ Qz (wc.heap[gb68]? = some (.cells #[.int .i64 a0_0, .int .i64 a0_1, .int .i64 a0_2, .bool a0_3, .int .i64 a0_4, .bool a0_5, .int .i64 a0_6, .int .i64 a0_7] 48 (0, 0))) ∧ Qz (Below w.heap.size w wc))
         case first =>
          have H := HC56.out
          clear HC56
          by_cases c57 : a0_5 = true
          ·subst c57
           have H1 : (ZiRecFault.j4 kj50 false a0_0 a0_1 a0_2 a0_3 a0_4 true a0_6 a0_7) = some r := by rw [if_pos rfl] at H; exact H
           clear H
           have H := H1
           clear H1
           have H' := Qz.mk H
           clear H
           obtain ⟨z58_0, z58_1, z58_2, z58_3, z58_4, z58_5, z58_6, z58_7, j58_0, j58_1, j58_2, j58_3, j58_4, j58_5, j58_6, j58_7⟩ := Lv.blks8 BK68.out
           go_wp2
           go_meet
           case rel => exact ⟨_, (false), zs, H', ⟨by have := HJ2.out; have := HJ7.out; have := HJ25.out; have := HJ50.out; first | omega | exact Nat.le_refl _⟩, ⟨zq BK68⟩, ⟨zb⟩⟩
          replace c57 := Bool.eq_false_iff.mpr c57
          subst c57
          have H1 : (ZiRecFault.j4 kj50 (a0_6 != 0) a0_0 a0_1 a0_2 a0_3 a0_4 false a0_6 a0_7) = some r := by rw [if_neg (show ¬ (false = true) by decide)] at H; exact H
          clear H
          have H := H1
          clear H1
          have H' := Qz.mk H
          clear H
          obtain ⟨z59_0, z59_1, z59_2, z59_3, z59_4, z59_5, z59_6, z59_7, j59_0, j59_1, j59_2, j59_3, j59_4, j59_5, j59_6, j59_7⟩ := Lv.blks8 BK68.out
          go_wp2
          go_meet
          case rel => exact ⟨_, ((a0_6 != 0)), zs, H', ⟨by have := HJ2.out; have := HJ7.out; have := HJ25.out; have := HJ50.out; first | omega | exact Nat.le_refl _⟩, ⟨zq BK68⟩, ⟨zb⟩⟩
         case rest =>
          clear HC56
          try clear c1
          try clear c2
          try clear p2
          try clear c3
          try clear c5
          try clear c6
          try clear c6b0
          try clear c6b1
          try clear c7
          try clear c8
          try clear c9
          try clear c10
          try clear c11
          try clear c13
          try clear c15
          try clear c17
          try clear c25
          try clear c28
          try clear c31
          try clear c31b0
          try clear c31b1
          try clear c32
          try clear c36
          try clear c36b0
          try clear c36b1
          try clear c37
          try clear c50
          try clear c52
          try clear c55
          try clear c57
          try clear z19_0 z19_1 z19_2 z19_3 z19_4 z19_5 z19_6 z19_7
          try clear z20_0 z20_1 z20_2 z20_3 z20_4 z20_5 z20_6 z20_7
          try clear z21_0 z21_1 z21_2 z21_3 z21_4 z21_5 z21_6 z21_7
          try clear z22_0 z22_1 z22_2 z22_3 z22_4 z22_5 z22_6 z22_7
          try clear z23_0 z23_1 z23_2 z23_3 z23_4 z23_5 z23_6 z23_7
          try clear z24_0 z24_1 z24_2 z24_3 z24_4 z24_5 z24_6 z24_7
          try clear z29_0 z29_1 z29_2 z29_3 z29_4 z29_5 z29_6 z29_7
          try clear z33_0 z33_1 z33_2 z33_3 z33_4 z33_5 z33_6 z33_7
          try clear z35_0 z35_1 z35_2 z35_3 z35_4 z35_5 z35_6 z35_7
          try clear z38_0 z38_1 z38_2 z38_3 z38_4 z38_5 z38_6 z38_7
          try clear z40_0 z40_1 z40_2 z40_3 z40_4 z40_5 z40_6 z40_7
          try clear z41_0 z41_1 z41_2 z41_3 z41_4 z41_5 z41_6 z41_7
          try clear z43_0 z43_1 z43_2 z43_3 z43_4 z43_5 z43_6 z43_7
          try clear z44_0 z44_1 z44_2 z44_3 z44_4 z44_5 z44_6 z44_7
          try clear z46_0 z46_1 z46_2 z46_3 z46_4 z46_5 z46_6 z46_7
          try clear z47_0 z47_1 z47_2 z47_3 z47_4 z47_5 z47_6 z47_7
          try clear z49_0 z49_1 z49_2 z49_3 z49_4 z49_5 z49_6 z49_7
          try clear z53_0 z53_1 z53_2 z53_3 z53_4 z53_5 z53_6 z53_7
          try clear z54_0 z54_1 z54_2 z54_3 z54_4 z54_5 z54_6 z54_7
          try clear z58_0 z58_1 z58_2 z58_3 z58_4 z58_5 z58_6 z58_7
          try clear z59_0 z59_1 z59_2 z59_3 z59_4 z59_5 z59_6 z59_7
          try clear z5_0 z5_1 z5_2 z5_3 z5_4 z5_5 z5_6 z5_7
          try clear z7_0 z7_1 z7_2 z7_3 z7_4 z7_5 z7_6 z7_7
          try clear j19_0 j19_1 j19_2 j19_3 j19_4 j19_5 j19_6 j19_7
          try clear j20_0 j20_1 j20_2 j20_3 j20_4 j20_5 j20_6 j20_7
          try clear j21_0 j21_1 j21_2 j21_3 j21_4 j21_5 j21_6 j21_7
          try clear j22_0 j22_1 j22_2 j22_3 j22_4 j22_5 j22_6 j22_7
          try clear j23_0 j23_1 j23_2 j23_3 j23_4 j23_5 j23_6 j23_7
          try clear j24_0 j24_1 j24_2 j24_3 j24_4 j24_5 j24_6 j24_7
          try clear j29_0 j29_1 j29_2 j29_3 j29_4 j29_5 j29_6 j29_7
          try clear j33_0 j33_1 j33_2 j33_3 j33_4 j33_5 j33_6 j33_7
          try clear j35_0 j35_1 j35_2 j35_3 j35_4 j35_5 j35_6 j35_7
          try clear j38_0 j38_1 j38_2 j38_3 j38_4 j38_5 j38_6 j38_7
          try clear j40_0 j40_1 j40_2 j40_3 j40_4 j40_5 j40_6 j40_7
          try clear j41_0 j41_1 j41_2 j41_3 j41_4 j41_5 j41_6 j41_7
          try clear j43_0 j43_1 j43_2 j43_3 j43_4 j43_5 j43_6 j43_7
          try clear j44_0 j44_1 j44_2 j44_3 j44_4 j44_5 j44_6 j44_7
          try clear j46_0 j46_1 j46_2 j46_3 j46_4 j46_5 j46_6 j46_7
          try clear j47_0 j47_1 j47_2 j47_3 j47_4 j47_5 j47_6 j47_7
          try clear j49_0 j49_1 j49_2 j49_3 j49_4 j49_5 j49_6 j49_7
          try clear j53_0 j53_1 j53_2 j53_3 j53_4 j53_5 j53_6 j53_7
          try clear j54_0 j54_1 j54_2 j54_3 j54_4 j54_5 j54_6 j54_7
          try clear j58_0 j58_1 j58_2 j58_3 j58_4 j58_5 j58_6 j58_7
          try clear j59_0 j59_1 j59_2 j59_3 j59_4 j59_5 j59_6 j59_7
          try clear j5_0 j5_1 j5_2 j5_3 j5_4 j5_5 j5_6 j5_7
          try clear j7_0 j7_1 j7_2 j7_3 j7_4 j7_5 j7_6 j7_7
          try clear p2
          obtain ⟨kq, x46_55, rfl, HA, HJ55, BK68, HB⟩ := hcut
          cases kq with
          | zero => exact absurd HA.out (by simp [ZiRecFault.j4])
          | succ kj55 =>
           have H := HA.out
           clear HA
           simp only [ZiRecFault.j4] at H
           by_cases c60 : x46_55 = true
           ·subst c60
            have H1 : (some 1) = some r := by rw [if_pos rfl] at H; exact H
            clear H
            have H := H1
            clear H1
            obtain rfl := Option.some.inj H
            go_wp2
            go_ret
            exact ⟨ze, zb⟩
           replace c60 := Bool.eq_false_iff.mpr c60
           subst c60
           have H1 : (if a0_0 = 5 then (if a0_7 = 0 then (some 1) else (some 0)) else (if a0_7 = 0 then (some 0) else (some 1))) = some r := by rw [if_neg (show ¬ (false = true) by decide)] at H; exact H
           clear H
           have H := H1
           clear H1
           by_cases c61 : a0_0 = 5
           ·rw [if_pos c61] at H
            have c61b0 : (a0_0 == 5) = true := beq_iff_eq.mpr c61
            have c61b1 : (a0_0 != 5) = false := bne_eq_false_iff_eq.mpr c61
            clear c61
            by_cases c62 : a0_7 = 0
            ·rw [if_pos c62] at H
             have c62b0 : (a0_7 == 0) = true := beq_iff_eq.mpr c62
             have c62b1 : (a0_7 != 0) = false := bne_eq_false_iff_eq.mpr c62
             clear c62
             obtain rfl := Option.some.inj H
             obtain ⟨z63_0, z63_1, z63_2, z63_3, z63_4, z63_5, z63_6, z63_7, j63_0, j63_1, j63_2, j63_3, j63_4, j63_5, j63_6, j63_7⟩ := Lv.blks8 BK68.out
             go_wp2
             go_ret
             exact ⟨ze, zb⟩
            rw [if_neg c62] at H
            have c62b0 : (a0_7 == 0) = false := beq_eq_false_iff_ne.mpr c62
            have c62b1 : (a0_7 != 0) = true := bne_iff_ne.mpr c62
            obtain rfl := Option.some.inj H
            obtain ⟨z64_0, z64_1, z64_2, z64_3, z64_4, z64_5, z64_6, z64_7, j64_0, j64_1, j64_2, j64_3, j64_4, j64_5, j64_6, j64_7⟩ := Lv.blks8 BK68.out
            go_wp2
            go_ret
            exact ⟨ze, zb⟩
           rw [if_neg c61] at H
           have c61b0 : (a0_0 == 5) = false := beq_eq_false_iff_ne.mpr c61
           have c61b1 : (a0_0 != 5) = true := bne_iff_ne.mpr c61
           by_cases c65 : a0_7 = 0
           ·rw [if_pos c65] at H
            have c65b0 : (a0_7 == 0) = true := beq_iff_eq.mpr c65
            have c65b1 : (a0_7 != 0) = false := bne_eq_false_iff_eq.mpr c65
            clear c65
            obtain rfl := Option.some.inj H
            obtain ⟨z66_0, z66_1, z66_2, z66_3, z66_4, z66_5, z66_6, z66_7, j66_0, j66_1, j66_2, j66_3, j66_4, j66_5, j66_6, j66_7⟩ := Lv.blks8 BK68.out
            go_wp2
            go_ret
            exact ⟨ze, zb⟩
           rw [if_neg c65] at H
           have c65b0 : (a0_7 == 0) = false := beq_eq_false_iff_ne.mpr c65
           have c65b1 : (a0_7 != 0) = true := bne_iff_ne.mpr c65
           obtain rfl := Option.some.inj H
           obtain ⟨z67_0, z67_1, z67_2, z67_3, z67_4, z67_5, z67_6, z67_7, j67_0, j67_1, j67_2, j67_3, j67_4, j67_5, j67_6, j67_7⟩ := Lv.blks8 BK68.out
           go_wp2
           go_ret
           exact ⟨ze, zb⟩
end Go.Proofs.Ythagppmaofcllaa.P
