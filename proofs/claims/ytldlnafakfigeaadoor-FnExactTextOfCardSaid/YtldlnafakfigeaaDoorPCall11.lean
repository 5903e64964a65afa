import Derived.Test.YtldlnafakfigeaaDoorZz
import Derived.Test.YtldlnafakfigeaaDoorP0
import Derived.Test.YtldlnafakfigeaaDoorPCall10
import Derived.Test.YtldlnafakfigeaaDoorPCall8
import Derived.Test.YtldlnafakfigeaaDoorPCall9
import Derived.Test.YtldlnafakfigeaaDoorPDall0
import Derived.Test.YtldlnafakfigeaaDoorWRepsOne
import Derived.Test.YtldlnafakfigeaaDoorWTab
import Derived.Test.YtldlnafakfigeaaDoorLv
import Derived.Test.YtldlnafakfigeaaDoorLv
import Derived.Test.YtldlnafakfigeaaDoorLv
import Derived.Test.YtldlnafakfigeaaDoorLv
namespace Go.Proofs.YtldlnafakfigeaaDoor.P
open Go.RowKit Go.Proofs.YtldlnafakfigeaaDoorW.PrintWords Go.Proofs.YtldlnafakfigeaaDoorW.PrintLast Go.Proofs.YtldlnafakfigeaaDoorW.PrintMore
attribute [local go_sem] max2_int min2_int max_two min_two max_three min_three max_four min_four   -- for this text's walks alone
set_option linter.unusedVariables false
set_option linter.unusedSimpArgs false
set_option maxHeartbeats 8000000 in
set_option maxRecDepth 100000 in
theorem impl_TextOf.calls (k : Nat) (a0_0 : Int) (a0_1 : Int) (A0_2 : Option Addr) (c0_2 : Nat) (l0_2 : List (S45)) (A0_3 : Option Addr) (c0_3 : Nat) (l0_3 : List (S49)) (r1 : Int) (r2 : ByteArray) (w : World) (hr0_2 : Kd.C k45 w A0_2 l0_2.length l0_2) (hc0_2 : l0_2.length ≤ c0_2) (hr0_3 : Kd.C k49 w A0_3 l0_3.length l0_3) (hc0_3 : l0_3.length ≤ c0_3) (h : impl_TextOf.f k a0_0 a0_1 l0_2 l0_3 = some (r1, r2)) (HTAB : Aside0 (TabAll w) := by exact TabAll.on HTAB (by repeat (first | (with_reducible first | exact HB.out | apply below_alloc | apply pw_below_drewN | apply below_drew1 | refine below_set ?_ (Aside0.out (by assumption))) | exact HB.out))) :
 Calls Tryd.prog 7 #[.agg #[.int .i64 a0_0, .int .i64 a0_1, .slice A0_2 l0_2.length c0_2, .slice A0_3 l0_3.length c0_3]] w fun e w' => e = .returned (.agg #[.int .i64 r1, .string r2]) ∧ Below w.heap.size w w' := by
 have hu33 := Tryd.underlying33
 have hu28 := Tryd.underlying28
 have HR0_2 := Aside0.mk hr0_2
 have HC0_2 := Aside0.mk hc0_2
 clear hr0_2 hc0_2
 have HR0_3 := Aside0.mk hr0_3
 have HC0_3 := Aside0.mk hc0_3
 clear hr0_3 hc0_3
 have HB := Aside0.mk (Below.refl w.heap.size w)
 have H : ((impl_EngineFault.f k a0_0 a0_1 l0_2 l0_3).bind fun t22 => (if t22 = 0 then ((impl_Engine_text.f k a0_0 a0_1 l0_2 l0_3).bind fun t23 => (some (0, t23))) else (some (t22, (⟨#[]⟩ : ByteArray))))) = some (r1, r2) := h
 clear h
 replace H := Option.bind_eq_some_iff.mp H
 obtain ⟨t22, A20, H⟩ := H
 replace H : (if t22 = 0 then ((impl_Engine_text.f k a0_0 a0_1 l0_2 l0_3).bind fun t23 => (some (0, t23))) else (some (t22, (⟨#[]⟩ : ByteArray)))) = some (r1, r2) := H
 have A2 := Aside0.mk A20
 clear A20
 by_cases c3 : t22 = 0
 ·rw [if_pos c3] at H
  have c3b0 : (t22 == 0) = true := beq_iff_eq.mpr c3
  have c3b1 : (t22 != 0) = false := bne_eq_false_iff_eq.mpr c3
  clear c3
  replace H := Option.bind_eq_some_iff.mp H
  obtain ⟨t23, A40, H⟩ := H
  replace H : (some (0, t23)) = some (r1, r2) := H
  have A4 := Aside0.mk A40
  clear A40
  simp only [Option.some.injEq, Prod.mk.injEq] at H
  obtain ⟨rfl, rfl⟩ := H
  go_enter Tryd.func7, Tryd.ntmps7
  go_wp2_with (first | ((with_reducible refine gate_dst (N := 1) rfl ?_); refine zE 1 33 #[.int .i64 a0_0, .int .i64 a0_1, .slice A0_2 l0_2.length c0_2, .slice A0_3 l0_3.length c0_3] ?_; intro gb19 hg w5 hbox hb; have BK19 := Aside0.mk hbox; have GW19 := Aside0.mk (zh hg : w.heap.size ≤ gb19); have GE19 := GW19; replace HB := Aside0.mk (below_step zb hb); clear hb hbox hg) | ((with_reducible refine gate_dst (N := 2) rfl ?_); refine zE 2 28 #[.int .i64 0, .string (⟨#[]⟩ : ByteArray)] ?_; intro gb21 hg w6 hbox hb; have BK21 := Aside0.mk hbox; have GW21 := Aside0.mk (zh hg : w.heap.size ≤ gb21); have NB278_279 := zl BK19 hg; have NB279_278 := zL BK19 hg; have GE21 := GW21; replace BK19 := zw BK19 hb; replace HB := Aside0.mk (below_step zb hb); clear hb hbox hg; have hnb7 := NB278_279.out; have hnc7 := NB279_278.out; obtain ⟨z8_0, z8_1, z8_2, z8_3, j8_0, j8_1, j8_2, j8_3⟩ := Go.Proofs.YtldlnafakfigeaaDoor.Lv.blks4 BK19.out) | ((with_reducible refine gate_callee (f := 17) rfl ?_); refine zj 5 Tryd.func17 #[.agg #[.int .i64 a0_0, .int .i64 a0_1, .slice A0_2 l0_2.length c0_2, .slice A0_3 l0_3.length c0_3]] ?_; (with_reducible refine (impl_EngineFault.calls k a0_0 a0_1 _ _ l0_2 _ _ l0_3 t22 _ ?side1 ?side2 ?side3 ?side4 A2.out).mono ?_); (case side1 => exact zc (Kd.C_below HR0_2.out HB.out)); (case side2 => exact HC0_2.out); (case side3 => exact zc (Kd.C_below HR0_3.out HB.out)); (case side4 => exact HC0_3.out); rintro e w9 ⟨rfl, hb⟩; refine ⟨_, rfl, ?_⟩; replace BK19 := zw BK19 hb; replace BK21 := zw BK21 hb; replace HB := Aside0.mk (below_step zb hb); (try clear hb); (try clear hb2); (try clear hk); (try clear hi); obtain ⟨z10_0, z10_1, z10_2, z10_3, j10_0, j10_1, j10_2, j10_3⟩ := Go.Proofs.YtldlnafakfigeaaDoor.Lv.blks4 BK19.out) | ((with_reducible refine gate_callee (f := 18) rfl ?_); refine zj 11 Tryd.func18 #[.agg #[.int .i64 a0_0, .int .i64 a0_1, .slice A0_2 l0_2.length c0_2, .slice A0_3 l0_3.length c0_3]] ?_; (with_reducible refine (impl_Engine_text.calls k a0_0 a0_1 _ _ l0_2 _ _ l0_3 t23 _ ?side1 ?side2 ?side3 ?side4 A4.out).mono ?_); (case side1 => exact zc (Kd.C_below HR0_2.out HB.out)); (case side2 => exact HC0_2.out); (case side3 => exact zc (Kd.C_below HR0_3.out HB.out)); (case side4 => exact HC0_3.out); rintro e w11 ⟨rfl, hb⟩; refine ⟨_, rfl, ?_⟩; replace BK19 := zw BK19 hb; replace BK21 := zw BK21 hb; replace HB := Aside0.mk (below_step zb hb); (try clear hb); (try clear hb2); (try clear hk); (try clear hi); obtain ⟨z12_0, z12_1, j12_0, j12_1⟩ := Go.Proofs.YtldlnafakfigeaaDoor.Lv.blks2 BK21.out))
  refine bodyPost_ret (results_cell_row rfl _ _ gb21 28 #[.int .i64 0, .string t23] (0, 0) _ rfl (by refine zQ ?_; refine blk_put (cs := #[.int .i64 0, .string (⟨#[]⟩ : ByteArray)]) ?_ 1 _ rfl; refine zQ ?_; refine blk_put (cs := #[.int .i64 0, .string (⟨#[]⟩ : ByteArray)]) ?_ 0 _ rfl; refine zQ ?_; exact BK21.out) Tryd.underlying28 rfl (by kernel_rfl)) rfl ?_
  exact ⟨ze, zb⟩
 rw [if_neg c3] at H
 have c3b0 : (t22 == 0) = false := beq_eq_false_iff_ne.mpr c3
 have c3b1 : (t22 != 0) = true := bne_iff_ne.mpr c3
 simp only [Option.some.injEq, Prod.mk.injEq] at H
 obtain ⟨rfl, rfl⟩ := H
 go_enter Tryd.func7, Tryd.ntmps7
 go_wp2_with (first | ((with_reducible refine gate_dst (N := 1) rfl ?_); refine zE 1 33 #[.int .i64 a0_0, .int .i64 a0_1, .slice A0_2 l0_2.length c0_2, .slice A0_3 l0_3.length c0_3] ?_; intro gb19 hg w13 hbox hb; have BK19 := Aside0.mk hbox; have GW19 := Aside0.mk (zh hg : w.heap.size ≤ gb19); have GE19 := GW19; replace HB := Aside0.mk (below_step zb hb); clear hb hbox hg) | ((with_reducible refine gate_dst (N := 2) rfl ?_); refine zE 2 28 #[.int .i64 0, .string (⟨#[]⟩ : ByteArray)] ?_; intro gb21 hg w14 hbox hb; have BK21 := Aside0.mk hbox; have GW21 := Aside0.mk (zh hg : w.heap.size ≤ gb21); have NB278_279 := zl BK19 hg; have NB279_278 := zL BK19 hg; have GE21 := GW21; replace BK19 := zw BK19 hb; replace HB := Aside0.mk (below_step zb hb); clear hb hbox hg; have hnb15 := NB278_279.out; have hnc15 := NB279_278.out; obtain ⟨z16_0, z16_1, z16_2, z16_3, j16_0, j16_1, j16_2, j16_3⟩ := Go.Proofs.YtldlnafakfigeaaDoor.Lv.blks4 BK19.out) | ((with_reducible refine gate_callee (f := 17) rfl ?_); refine zj 5 Tryd.func17 #[.agg #[.int .i64 a0_0, .int .i64 a0_1, .slice A0_2 l0_2.length c0_2, .slice A0_3 l0_3.length c0_3]] ?_; (with_reducible refine (impl_EngineFault.calls k a0_0 a0_1 _ _ l0_2 _ _ l0_3 t22 _ ?side1 ?side2 ?side3 ?side4 A2.out).mono ?_); (case side1 => exact zc (Kd.C_below HR0_2.out HB.out)); (case side2 => exact HC0_2.out); (case side3 => exact zc (Kd.C_below HR0_3.out HB.out)); (case side4 => exact HC0_3.out); rintro e w17 ⟨rfl, hb⟩; refine ⟨_, rfl, ?_⟩; replace BK19 := zw BK19 hb; replace BK21 := zw BK21 hb; replace HB := Aside0.mk (below_step zb hb); (try clear hb); (try clear hb2); (try clear hk); (try clear hi); obtain ⟨z18_0, z18_1, j18_0, j18_1⟩ := Go.Proofs.YtldlnafakfigeaaDoor.Lv.blks2 BK21.out))
 refine bodyPost_ret (results_cell_row rfl _ _ gb21 28 #[.int .i64 t22, .string (⟨#[]⟩ : ByteArray)] (0, 0) _ rfl (by refine zQ ?_; refine blk_put (cs := #[.int .i64 t22, .string (⟨#[]⟩ : ByteArray)]) ?_ 1 _ rfl; refine zQ ?_; refine blk_put (cs := #[.int .i64 0, .string (⟨#[]⟩ : ByteArray)]) ?_ 0 _ rfl; refine zQ ?_; exact BK21.out) Tryd.underlying28 rfl (by kernel_rfl)) rfl ?_
 exact ⟨ze, zb⟩
set_option maxHeartbeats 8000000 in
set_option maxRecDepth 100000 in
theorem laws_eqTextResult.calls (a0_0 : Int) (a0_1 : ByteArray) (a1_0 : Int) (a1_1 : ByteArray) (r : Bool) (w : World) (h : laws_eqTextResult.f a0_0 a0_1 a1_0 a1_1 = some r) :
 Calls Tryd.prog 8 #[.agg #[.int .i64 a0_0, .string a0_1], .agg #[.int .i64 a1_0, .string a1_1]] w fun e w' => e = .returned (.bool r) ∧ Below w.heap.size w w' := by
 have hu28 := Tryd.underlying28
 have HB := Aside0.mk (Below.refl w.heap.size w)
 have H : (if a0_0 = a1_0 then (if a0_1.toList = a1_1.toList then (some true) else (some false)) else (some false)) = some r := h
 clear h
 by_cases c3 : a0_0 = a1_0
 ·rw [if_pos c3] at H
  have c3b0 : (a0_0 == a1_0) = true := beq_iff_eq.mpr c3
  have c3b1 : (a0_0 != a1_0) = false := bne_eq_false_iff_eq.mpr c3
  clear c3
  by_cases c4 : a0_1.toList = a1_1.toList
  ·rw [if_pos c4] at H
   have c4b0 : (a0_1.toList == a1_1.toList) = true := beq_iff_eq.mpr c4
   have c4b1 : (a0_1.toList != a1_1.toList) = false := bne_eq_false_iff_eq.mpr c4
   clear c4
   obtain rfl := Option.some.inj H
   go_enter Tryd.func8, Tryd.ntmps8
   go_wp2_with (first | ((with_reducible refine gate_dst (N := 2) rfl ?_); refine zE 2 28 #[.int .i64 a0_0, .string a0_1] ?_; intro gb20 hg w5 hbox hb; have BK20 := Aside0.mk hbox; have GW20 := Aside0.mk (zh hg : w.heap.size ≤ gb20); have GE20 := GW20; replace HB := Aside0.mk (below_step zb hb); clear hb hbox hg) | ((with_reducible refine gate_dst (N := 3) rfl ?_); refine zE 3 28 #[.int .i64 a1_0, .string a1_1] ?_; intro gb21 hg w6 hbox hb; have BK21 := Aside0.mk hbox; have GW21 := Aside0.mk (zh hg : w.heap.size ≤ gb21); have NB282_283 := zl BK20 hg; have NB283_282 := zL BK20 hg; have GE21 := GW21; replace BK20 := zw BK20 hb; replace HB := Aside0.mk (below_step zb hb); clear hb hbox hg; have hnb7 := NB282_283.out; have hnc7 := NB283_282.out; obtain ⟨z8_0, z8_1, j8_0, j8_1⟩ := Go.Proofs.YtldlnafakfigeaaDoor.Lv.blks2 BK20.out; obtain ⟨z9_0, z9_1, j9_0, j9_1⟩ := Go.Proofs.YtldlnafakfigeaaDoor.Lv.blks2 BK21.out))
   go_ret
   exact ⟨ze, zb⟩
  rw [if_neg c4] at H
  have c4b0 : (a0_1.toList == a1_1.toList) = false := beq_eq_false_iff_ne.mpr c4
  have c4b1 : (a0_1.toList != a1_1.toList) = true := bne_iff_ne.mpr c4
  obtain rfl := Option.some.inj H
  go_enter Tryd.func8, Tryd.ntmps8
  go_wp2_with (first | ((with_reducible refine gate_dst (N := 2) rfl ?_); refine zE 2 28 #[.int .i64 a0_0, .string a0_1] ?_; intro gb20 hg w10 hbox hb; have BK20 := Aside0.mk hbox; have GW20 := Aside0.mk (zh hg : w.heap.size ≤ gb20); have GE20 := GW20; replace HB := Aside0.mk (below_step zb hb); clear hb hbox hg) | ((with_reducible refine gate_dst (N := 3) rfl ?_); refine zE 3 28 #[.int .i64 a1_0, .string a1_1] ?_; intro gb21 hg w11 hbox hb; have BK21 := Aside0.mk hbox; have GW21 := Aside0.mk (zh hg : w.heap.size ≤ gb21); have NB282_283 := zl BK20 hg; have NB283_282 := zL BK20 hg; have GE21 := GW21; replace BK20 := zw BK20 hb; replace HB := Aside0.mk (below_step zb hb); clear hb hbox hg; have hnb12 := NB282_283.out; have hnc12 := NB283_282.out; obtain ⟨z13_0, z13_1, j13_0, j13_1⟩ := Go.Proofs.YtldlnafakfigeaaDoor.Lv.blks2 BK20.out; obtain ⟨z14_0, z14_1, j14_0, j14_1⟩ := Go.Proofs.YtldlnafakfigeaaDoor.Lv.blks2 BK21.out))
  go_ret
  exact ⟨ze, zb⟩
 rw [if_neg c3] at H
 have c3b0 : (a0_0 == a1_0) = false := beq_eq_false_iff_ne.mpr c3
 have c3b1 : (a0_0 != a1_0) = true := bne_iff_ne.mpr c3
 obtain rfl := Option.some.inj H
 go_enter Tryd.func8, Tryd.ntmps8
 go_wp2_with (first | ((with_reducible refine gate_dst (N := 2) rfl ?_); refine zE 2 28 #[.int .i64 a0_0, .string a0_1] ?_; intro gb20 hg w15 hbox hb; have BK20 := Aside0.mk hbox; have GW20 := Aside0.mk (zh hg : w.heap.size ≤ gb20); have GE20 := GW20; replace HB := Aside0.mk (below_step zb hb); clear hb hbox hg) | ((with_reducible refine gate_dst (N := 3) rfl ?_); refine zE 3 28 #[.int .i64 a1_0, .string a1_1] ?_; intro gb21 hg w16 hbox hb; have BK21 := Aside0.mk hbox; have GW21 := Aside0.mk (zh hg : w.heap.size ≤ gb21); have NB282_283 := zl BK20 hg; have NB283_282 := zL BK20 hg; have GE21 := GW21; replace BK20 := zw BK20 hb; replace HB := Aside0.mk (below_step zb hb); clear hb hbox hg; have hnb17 := NB282_283.out; have hnc17 := NB283_282.out; obtain ⟨z18_0, z18_1, j18_0, j18_1⟩ := Go.Proofs.YtldlnafakfigeaaDoor.Lv.blks2 BK20.out; obtain ⟨z19_0, z19_1, j19_0, j19_1⟩ := Go.Proofs.YtldlnafakfigeaaDoor.Lv.blks2 BK21.out))
 go_ret
 exact ⟨ze, zb⟩
set_option maxHeartbeats 8000000 in
set_option maxRecDepth 100000 in
theorem laws_eqUndo.calls (a0_0 : Int) (a0_1 : Bool) (a0_2 : Bool) (a0_3 : Int) (a1_0 : Int) (a1_1 : Bool) (a1_2 : Bool) (a1_3 : Int) (r : Bool) (w : World) (h : laws_eqUndo.f a0_0 a0_1 a0_2 a0_3 a1_0 a1_1 a1_2 a1_3 = some r) :
 Calls Tryd.prog 81 #[.agg #[.int .i64 a0_0, .bool a0_1, .bool a0_2, .int .i64 a0_3], .agg #[.int .i64 a1_0, .bool a1_1, .bool a1_2, .int .i64 a1_3]] w fun e w' => e = .returned (.bool r) ∧ Below w.heap.size w w' := by
 have hu81 := Tryd.underlying81
 have HB := Aside0.mk (Below.refl w.heap.size w)
 have H : (if a0_0 = a1_0 then (if (a0_1 != a1_1) = true then (some false) else (if (a0_2 != a1_2) = true then (some false) else (if a0_3 = a1_3 then (some true) else (some false)))) else (some false)) = some r := h
 clear h
 by_cases c3 : a0_0 = a1_0
 ·rw [if_pos c3] at H
  have c3b0 : (a0_0 == a1_0) = true := beq_iff_eq.mpr c3
  have c3b1 : (a0_0 != a1_0) = false := bne_eq_false_iff_eq.mpr c3
  clear c3
  by_cases c4 : (a0_1 != a1_1) = true
  ·rw [if_pos c4] at H
   have c4b0 : (a0_1 != a1_1) = true := c4
   (try (have c4b1 : decide (a0_1 = a1_1) = false := by simpa using c4))
   (try (have c4b2 : (a0_1 == a1_1) = false := by simpa using c4))
   (try (have c4b3 : ¬ (a0_1 = a1_1) := by simpa using c4))
   clear c4
   obtain rfl := Option.some.inj H
   go_enter Tryd.func81, Tryd.ntmps81
   go_wp2_with (first | ((with_reducible refine gate_dst (N := 2) rfl ?_); refine zE 2 81 #[.int .i64 a0_0, .bool a0_1, .bool a0_2, .int .i64 a0_3] ?_; intro gb32 hg w5 hbox hb; have BK32 := Aside0.mk hbox; have GW32 := Aside0.mk (zh hg : w.heap.size ≤ gb32); have GE32 := GW32; replace HB := Aside0.mk (below_step zb hb); clear hb hbox hg) | ((with_reducible refine gate_dst (N := 3) rfl ?_); refine zE 3 81 #[.int .i64 a1_0, .bool a1_1, .bool a1_2, .int .i64 a1_3] ?_; intro gb33 hg w6 hbox hb; have BK33 := Aside0.mk hbox; have GW33 := Aside0.mk (zh hg : w.heap.size ≤ gb33); have NB284_285 := zl BK32 hg; have NB285_284 := zL BK32 hg; have GE33 := GW33; replace BK32 := zw BK32 hb; replace HB := Aside0.mk (below_step zb hb); clear hb hbox hg; have hnb7 := NB284_285.out; have hnc7 := NB285_284.out; obtain ⟨z8_0, z8_1, z8_2, z8_3, j8_0, j8_1, j8_2, j8_3⟩ := Go.Proofs.YtldlnafakfigeaaDoor.Lv.blks4 BK32.out; obtain ⟨z9_0, z9_1, z9_2, z9_3, j9_0, j9_1, j9_2, j9_3⟩ := Go.Proofs.YtldlnafakfigeaaDoor.Lv.blks4 BK33.out))
   go_ret
   exact ⟨ze, zb⟩
  rw [if_neg c4] at H
  have c4b0 : (a0_1 != a1_1) = false := by simpa using c4
  (try (have c4b1 : decide (a0_1 = a1_1) = true := by simpa using c4))
  (try (have c4b2 : (a0_1 == a1_1) = true := by simpa using c4))
  clear c4
  by_cases c10 : (a0_2 != a1_2) = true
  ·rw [if_pos c10] at H
   have c10b0 : (a0_2 != a1_2) = true := c10
   (try (have c10b1 : decide (a0_2 = a1_2) = false := by simpa using c10))
   (try (have c10b2 : (a0_2 == a1_2) = false := by simpa using c10))
   (try (have c10b3 : ¬ (a0_2 = a1_2) := by simpa using c10))
   clear c10
   obtain rfl := Option.some.inj H
   go_enter Tryd.func81, Tryd.ntmps81
   go_wp2_with (first | ((with_reducible refine gate_dst (N := 2) rfl ?_); refine zE 2 81 #[.int .i64 a0_0, .bool a0_1, .bool a0_2, .int .i64 a0_3] ?_; intro gb32 hg w11 hbox hb; have BK32 := Aside0.mk hbox; have GW32 := Aside0.mk (zh hg : w.heap.size ≤ gb32); have GE32 := GW32; replace HB := Aside0.mk (below_step zb hb); clear hb hbox hg) | ((with_reducible refine gate_dst (N := 3) rfl ?_); refine zE 3 81 #[.int .i64 a1_0, .bool a1_1, .bool a1_2, .int .i64 a1_3] ?_; intro gb33 hg w12 hbox hb; have BK33 := Aside0.mk hbox; have GW33 := Aside0.mk (zh hg : w.heap.size ≤ gb33); have NB284_285 := zl BK32 hg; have NB285_284 := zL BK32 hg; have GE33 := GW33; replace BK32 := zw BK32 hb; replace HB := Aside0.mk (below_step zb hb); clear hb hbox hg; have hnb13 := NB284_285.out; have hnc13 := NB285_284.out; obtain ⟨z14_0, z14_1, z14_2, z14_3, j14_0, j14_1, j14_2, j14_3⟩ := Go.Proofs.YtldlnafakfigeaaDoor.Lv.blks4 BK32.out; obtain ⟨z15_0, z15_1, z15_2, z15_3, j15_0, j15_1, j15_2, j15_3⟩ := Go.Proofs.YtldlnafakfigeaaDoor.Lv.blks4 BK33.out))
   go_ret
   exact ⟨ze, zb⟩
  rw [if_neg c10] at H
  have c10b0 : (a0_2 != a1_2) = false := by simpa using c10
  (try (have c10b1 : decide (a0_2 = a1_2) = true := by simpa using c10))
  (try (have c10b2 : (a0_2 == a1_2) = true := by simpa using c10))
  clear c10
  by_cases c16 : a0_3 = a1_3
  ·rw [if_pos c16] at H
   have c16b0 : (a0_3 == a1_3) = true := beq_iff_eq.mpr c16
   have c16b1 : (a0_3 != a1_3) = false := bne_eq_false_iff_eq.mpr c16
   clear c16
   obtain rfl := Option.some.inj H
   go_enter Tryd.func81, Tryd.ntmps81
   go_wp2_with (first | ((with_reducible refine gate_dst (N := 2) rfl ?_); refine zE 2 81 #[.int .i64 a0_0, .bool a0_1, .bool a0_2, .int .i64 a0_3] ?_; intro gb32 hg w17 hbox hb; have BK32 := Aside0.mk hbox; have GW32 := Aside0.mk (zh hg : w.heap.size ≤ gb32); have GE32 := GW32; replace HB := Aside0.mk (below_step zb hb); clear hb hbox hg) | ((with_reducible refine gate_dst (N := 3) rfl ?_); refine zE 3 81 #[.int .i64 a1_0, .bool a1_1, .bool a1_2, .int .i64 a1_3] ?_; intro gb33 hg w18 hbox hb; have BK33 := Aside0.mk hbox; have GW33 := Aside0.mk (zh hg : w.heap.size ≤ gb33); have NB284_285 := zl BK32 hg; have NB285_284 := zL BK32 hg; have GE33 := GW33; replace BK32 := zw BK32 hb; replace HB := Aside0.mk (below_step zb hb); clear hb hbox hg; have hnb19 := NB284_285.out; have hnc19 := NB285_284.out; obtain ⟨z20_0, z20_1, z20_2, z20_3, j20_0, j20_1, j20_2, j20_3⟩ := Go.Proofs.YtldlnafakfigeaaDoor.Lv.blks4 BK32.out; obtain ⟨z21_0, z21_1, z21_2, z21_3, j21_0, j21_1, j21_2, j21_3⟩ := Go.Proofs.YtldlnafakfigeaaDoor.Lv.blks4 BK33.out))
   go_ret
   exact ⟨ze, zb⟩
  rw [if_neg c16] at H
  have c16b0 : (a0_3 == a1_3) = false := beq_eq_false_iff_ne.mpr c16
  have c16b1 : (a0_3 != a1_3) = true := bne_iff_ne.mpr c16
  obtain rfl := Option.some.inj H
  go_enter Tryd.func81, Tryd.ntmps81
  go_wp2_with (first | ((with_reducible refine gate_dst (N := 2) rfl ?_); refine zE 2 81 #[.int .i64 a0_0, .bool a0_1, .bool a0_2, .int .i64 a0_3] ?_; intro gb32 hg w22 hbox hb; have BK32 := Aside0.mk hbox; have GW32 := Aside0.mk (zh hg : w.heap.size ≤ gb32); have GE32 := GW32; replace HB := Aside0.mk (below_step zb hb); clear hb hbox hg) | ((with_reducible refine gate_dst (N := 3) rfl ?_); refine zE 3 81 #[.int .i64 a1_0, .bool a1_1, .bool a1_2, .int .i64 a1_3] ?_; intro gb33 hg w23 hbox hb; have BK33 := Aside0.mk hbox; have GW33 := Aside0.mk (zh hg : w.heap.size ≤ gb33); have NB284_285 := zl BK32 hg; have NB285_284 := zL BK32 hg; have GE33 := GW33; replace BK32 := zw BK32 hb; replace HB := Aside0.mk (below_step zb hb); clear hb hbox hg; have hnb24 := NB284_285.out; have hnc24 := NB285_284.out; obtain ⟨z25_0, z25_1, z25_2, z25_3, j25_0, j25_1, j25_2, j25_3⟩ := Go.Proofs.YtldlnafakfigeaaDoor.Lv.blks4 BK32.out; obtain ⟨z26_0, z26_1, z26_2, z26_3, j26_0, j26_1, j26_2, j26_3⟩ := Go.Proofs.YtldlnafakfigeaaDoor.Lv.blks4 BK33.out))
  go_ret
  exact ⟨ze, zb⟩
 rw [if_neg c3] at H
 have c3b0 : (a0_0 == a1_0) = false := beq_eq_false_iff_ne.mpr c3
 have c3b1 : (a0_0 != a1_0) = true := bne_iff_ne.mpr c3
 obtain rfl := Option.some.inj H
 go_enter Tryd.func81, Tryd.ntmps81
 go_wp2_with (first | ((with_reducible refine gate_dst (N := 2) rfl ?_); refine zE 2 81 #[.int .i64 a0_0, .bool a0_1, .bool a0_2, .int .i64 a0_3] ?_; intro gb32 hg w27 hbox hb; have BK32 := Aside0.mk hbox; have GW32 := Aside0.mk (zh hg : w.heap.size ≤ gb32); have GE32 := GW32; replace HB := Aside0.mk (below_step zb hb); clear hb hbox hg) | ((with_reducible refine gate_dst (N := 3) rfl ?_); refine zE 3 81 #[.int .i64 a1_0, .bool a1_1, .bool a1_2, .int .i64 a1_3] ?_; intro gb33 hg w28 hbox hb; have BK33 := Aside0.mk hbox; have GW33 := Aside0.mk (zh hg : w.heap.size ≤ gb33); have NB284_285 := zl BK32 hg; have NB285_284 := zL BK32 hg; have GE33 := GW33; replace BK32 := zw BK32 hb; replace HB := Aside0.mk (below_step zb hb); clear hb hbox hg; have hnb29 := NB284_285.out; have hnc29 := NB285_284.out; obtain ⟨z30_0, z30_1, z30_2, z30_3, j30_0, j30_1, j30_2, j30_3⟩ := Go.Proofs.YtldlnafakfigeaaDoor.Lv.blks4 BK32.out; obtain ⟨z31_0, z31_1, z31_2, z31_3, j31_0, j31_1, j31_2, j31_3⟩ := Go.Proofs.YtldlnafakfigeaaDoor.Lv.blks4 BK33.out))
 go_ret
 exact ⟨ze, zb⟩
def laws_eqUndoS.T6 : Bool × List (List Nat × List Nat) := (true, [([], []), ([], []), ([0, 1], [0, 1]), ([2], [2]), ([], []), ([], []), ([4, 5], [4, 5]), ([6], [6]), ([3, 7], [3, 7]), ([8], [8])])
def laws_eqUndoS.B6 : List Nat := [0, 0, 3, 7, 0, 0, 48, 112, 255, 511]
theorem laws_eqUndoS.tab6 : rtab .any (opsOf Tryd.f67 6) = laws_eqUndoS.T6 := by kernel_rfl
theorem laws_eqUndoS.bits6 : waitsOk laws_eqUndoS.T6.2 laws_eqUndoS.B6 = true := by kernel_rfl
set_option maxHeartbeats 8000000 in
set_option maxRecDepth 100000 in
theorem laws_eqUndoS.calls (k : Nat) (A0 : Option Addr) (c0 : Nat) (l0 : List (S81)) (A1 : Option Addr) (c1 : Nat) (l1 : List (S81)) (r : Bool) (w : World) (hr0 : Kd.C k81 w A0 l0.length l0) (hc0 : l0.length ≤ c0) (hr1 : Kd.C k81 w A1 l1.length l1) (hc1 : l1.length ≤ c1) (h : laws_eqUndoS.f k l0 l1 = some r) :
 Calls Tryd.prog 67 #[.slice A0 l0.length c0, .slice A1 l1.length c1] w fun e w' => e = .returned (.bool r) ∧ Below w.heap.size w w' := by
 have hu81 := Tryd.underlying81
 have HR0 := Aside0.mk hr0
 have HC0 := Aside0.mk hc0
 clear hr0 hc0
 have HR1 := Aside0.mk hr1
 have HC1 := Aside0.mk hc1
 clear hr1 hc1
 have HB := Aside0.mk (Below.refl w.heap.size w)
 have H : (if (l0.length : Int) = (l1.length : Int) then (laws_eqUndoS.l0 k l0 l1 0) else (some false)) = some r := h
 clear h
 by_cases c3 : (l0.length : Int) = (l1.length : Int)
 ·rw [if_pos c3] at H
  have c3b0 : ((l0.length : Int) == (l1.length : Int)) = true := beq_iff_eq.mpr c3
  have c3b1 : ((l0.length : Int) != (l1.length : Int)) = false := bne_eq_false_iff_eq.mpr c3
  have c3b2 : (l0.length == l1.length) = true := by first | simpa using c3 | (simp at c3 ⊢; omega)
  clear c3
  have H' := Aside0.mk H
  clear H
  go_enter Tryd.func67, Tryd.ntmps67
  go_wp2
  go_loopg [5] k (fun kq v5 w' => ∃ (x5_1 : Int), v5 = .int .i64 x5_1 ∧ Aside0 (laws_eqUndoS.l0 kq l0 l1 x5_1 = some r) ∧ Aside0 (kq ≤ k) ∧ Aside0 (Below w.heap.size w w'))
  case atStart => exact ⟨(0), zs, H', ⟨Nat.le_refl _⟩, ⟨zb⟩⟩
  case round =>
   clear H'
   try clear c1
   try clear p2
   try clear c3
   try clear c3b0
   try clear c3b1
   try clear c3b2
   obtain ⟨x5_1, rfl, HA, HK1, HB⟩ := hrel
   cases gk with
   | zero => exact absurd HA.out (by simp [laws_eqUndoS.l0])
   | succ k1 =>
    have H := HA.out
    clear HA
    simp only [laws_eqUndoS.l0] at H
    by_cases c4 : x5_1 < (l0.length : Int)
    ·rw [if_pos c4] at H
     have c4b0 : decide (x5_1 < (l0.length : Int)) = true := decide_eq_true c4
     clear c4
     by_cases c5 : 0 ≤ x5_1
     ·rw [if_pos c5] at H
      have c5b0 : decide (0 ≤ x5_1) = true := decide_eq_true c5
      clear c5
      by_cases c6 : x5_1 < (l1.length : Int)
      ·rw [if_pos c6] at H
       have c6b0 : decide (x5_1 < (l1.length : Int)) = true := decide_eq_true c6
       clear c6
       replace H := Option.bind_eq_some_iff.mp H
       obtain ⟨t15, A70, H⟩ := H
       replace H : (if t15 = true then (laws_eqUndoS.l0 k1 l0 l1 (wrap64 (x5_1 + 1))) else (some false)) = some r := H
       have A7 := Aside0.mk A70
       clear A70
       by_cases c8 : t15 = true
       ·subst c8
        have H1 : (laws_eqUndoS.l0 k1 l0 l1 (wrap64 (x5_1 + 1))) = some r := by rw [if_pos rfl] at H; exact H
        clear H
        have H := H1
        clear H1
        have H' := Aside0.mk H
        clear H
        try go_wp2
        replace HB := Aside0.mk (below_drew1 HB.out)
        have p286 : 0 ≤ (x5_1 : Int) := of_decide_eq_true za
        have q13 : x5_1 < (l0.length : Int) := of_decide_eq_true za
        obtain ⟨ad13, e286, hx13_0, hx13_1, hx13_2, hx13_3⟩ := at_T81 HR0.out x5_1 p286 q13
        have hw13_3 := hx13_3
        have hw13_2 := hx13_2
        have hw13_1 := hx13_1
        have hw13_0 := hx13_0
        cases e286
        replace hx13_0 := zx HB hx13_0
        replace hx13_1 := zx HB hx13_1
        replace hx13_2 := zx HB hx13_2
        replace hx13_3 := zx HB hx13_3
        replace p286 := eq_true p286
        replace q13 := eq_true q13
        have p287 : 0 ≤ (x5_1 : Int) := of_decide_eq_true za
        have q14 : x5_1 < (l1.length : Int) := of_decide_eq_true za
        obtain ⟨ad14, e287, hx14_0, hx14_1, hx14_2, hx14_3⟩ := at_T81 HR1.out x5_1 p287 q14
        have hw14_3 := hx14_3
        have hw14_2 := hx14_2
        have hw14_1 := hx14_1
        have hw14_0 := hx14_0
        cases e287
        replace hx14_0 := zx HB hx14_0
        replace hx14_1 := zx HB hx14_1
        replace hx14_2 := zx HB hx14_2
        replace hx14_3 := zx HB hx14_3
        replace p287 := eq_true p287
        replace q14 := eq_true q14
        refine start_ (n := 10) (S := fun w' => w'.cell? (ad13.add ((x5_1).toNat * 4)) = some (.int .i64 ((rd_T81 l0 x5_1).f0)) ∧ w'.cell? ⟨(ad13.add ((x5_1).toNat * 4)).block, (ad13.add ((x5_1).toNat * 4)).off + 1, none⟩ = some (.bool ((rd_T81 l0 x5_1).f1)) ∧ w'.cell? ⟨(ad13.add ((x5_1).toNat * 4)).block, (ad13.add ((x5_1).toNat * 4)).off + 2, none⟩ = some (.bool ((rd_T81 l0 x5_1).f2)) ∧ w'.cell? ⟨(ad13.add ((x5_1).toNat * 4)).block, (ad13.add ((x5_1).toNat * 4)).off + 3, none⟩ = some (.int .i64 ((rd_T81 l0 x5_1).f3)) ∧ w'.cell? (ad14.add ((x5_1).toNat * 4)) = some (.int .i64 ((rd_T81 l1 x5_1).f0)) ∧ w'.cell? ⟨(ad14.add ((x5_1).toNat * 4)).block, (ad14.add ((x5_1).toNat * 4)).off + 1, none⟩ = some (.bool ((rd_T81 l1 x5_1).f1)) ∧ w'.cell? ⟨(ad14.add ((x5_1).toNat * 4)).block, (ad14.add ((x5_1).toNat * 4)).off + 2, none⟩ = some (.bool ((rd_T81 l1 x5_1).f2)) ∧ w'.cell? ⟨(ad14.add ((x5_1).toNat * 4)).block, (ad14.add ((x5_1).toNat * 4)).off + 3, none⟩ = some (.int .i64 ((rd_T81 l1 x5_1).f3))) (ds := []) #[Z, Z, Z, Z, Z, Z, Z, Z, Z, Z] (by kernel_rfl) rfl rfl ⟨((HB.out.cell (World.block_lt_of_cell? w _ hw13_0)).trans hw13_0), ((HB.out.cell (World.block_lt_of_cell? w _ hw13_1)).trans hw13_1), ((HB.out.cell (World.block_lt_of_cell? w _ hw13_2)).trans hw13_2), ((HB.out.cell (World.block_lt_of_cell? w _ hw13_3)).trans hw13_3), ((HB.out.cell (World.block_lt_of_cell? w _ hw14_0)).trans hw14_0), ((HB.out.cell (World.block_lt_of_cell? w _ hw14_1)).trans hw14_1), ((HB.out.cell (World.block_lt_of_cell? w _ hw14_2)).trans hw14_2), ((HB.out.cell (World.block_lt_of_cell? w _ hw14_3)).trans hw14_3)⟩ (fun hHeld => ?_); refine with_tabW laws_eqUndoS.tab6 laws_eqUndoS.bits6 (fun HT_ HW_ => ?_)
        generalize wr.drew = w9 at HB hx13_0 hx13_1 hx13_2 hx13_3 hx14_0 hx14_1 hx14_2 hx14_3 hHeld ⊢
        refine zp 0 17 ?_; refine zp 1 18 ?_; refine zp 2 19 ?_; refine zp 4 21 ?_; refine zp 5 22 ?_; refine zp 6 23 ?_; refine zt 3 20 ?_; refine zt 7 24 ?_
        refine one_ (i := 8) (N := some 25) #[Y, Y, Y, Y, Y, Y, Y, Y, Y, Z] rfl rfl (one_of HT_.out (by kernel_rfl)) (by decide) (fun K hK => ?_)
        refine goes_ Tryd.func81 (by kernel_rfl) rfl #[.agg #[.int .i64 ((rd_T81 l0 x5_1).f0), .bool ((rd_T81 l0 x5_1).f1), .bool ((rd_T81 l0 x5_1).f2), .int .i64 ((rd_T81 l0 x5_1).f3)], .agg #[.int .i64 ((rd_T81 l1 x5_1).f0), .bool ((rd_T81 l1 x5_1).f1), .bool ((rd_T81 l1 x5_1).f2), .int .i64 ((rd_T81 l1 x5_1).f3)]] (by rfl) rfl rfl zm ?_
        with_reducible refine (laws_eqUndo.calls ((rd_T81 l0 x5_1).f0) ((rd_T81 l0 x5_1).f1) ((rd_T81 l0 x5_1).f2) ((rd_T81 l0 x5_1).f3) ((rd_T81 l1 x5_1).f0) ((rd_T81 l1 x5_1).f1) ((rd_T81 l1 x5_1).f2) ((rd_T81 l1 x5_1).f3) true _ A7.out).mono ?_
        rintro e w10 ⟨rfl, hb⟩
        refine ⟨_, rfl, ?_⟩
        replace HB := Aside0.mk (below_step zb hb)
        (try clear hb)
        (try clear hb2)
        (try clear hk)
        (try clear hi)
        refine hK.out _ _ ⟨((HB.out.cell (World.block_lt_of_cell? w _ hw13_0)).trans hw13_0), ((HB.out.cell (World.block_lt_of_cell? w _ hw13_1)).trans hw13_1), ((HB.out.cell (World.block_lt_of_cell? w _ hw13_2)).trans hw13_2), ((HB.out.cell (World.block_lt_of_cell? w _ hw13_3)).trans hw13_3), ((HB.out.cell (World.block_lt_of_cell? w _ hw14_0)).trans hw14_0), ((HB.out.cell (World.block_lt_of_cell? w _ hw14_1)).trans hw14_1), ((HB.out.cell (World.block_lt_of_cell? w _ hw14_2)).trans hw14_2), ((HB.out.cell (World.block_lt_of_cell? w _ hw14_3)).trans hw14_3)⟩ (fun hHeld => ?_)
        clear hK K
        refine norm_ (a' := ?_) ?_ ?_
        rotate_left
        ·show Act.put _ (some 25) _ = _
         simp only [Act.put, List.setIfInBounds_toArray, List.set_cons_zero, List.set_cons_succ, i64_w, i32_w]
         rfl
        refine zp 9 26 ?_
        refine done_ (done_of HT_.out (by kernel_rfl)) ?_
        try go_wp2
        go_roundg k1
        case measure => have := HK1.out; omega
        case rel => exact ⟨(wrap64 (x5_1 + 1)), zs, H', ⟨by have := HK1.out; omega⟩, ⟨zb⟩⟩
       replace c8 := Bool.eq_false_iff.mpr c8
       subst c8
       have H1 : (some false) = some r := by rw [if_neg (show ¬ (false = true) by decide)] at H; exact H
       clear H
       have H := H1
       clear H1
       obtain rfl := Option.some.inj H
       try go_wp2
       replace HB := Aside0.mk (below_drew1 HB.out)
       have p286 : 0 ≤ (x5_1 : Int) := of_decide_eq_true za
       have q13 : x5_1 < (l0.length : Int) := of_decide_eq_true za
       obtain ⟨ad13, e286, hx13_0, hx13_1, hx13_2, hx13_3⟩ := at_T81 HR0.out x5_1 p286 q13
       have hw13_3 := hx13_3
       have hw13_2 := hx13_2
       have hw13_1 := hx13_1
       have hw13_0 := hx13_0
       cases e286
       replace hx13_0 := zx HB hx13_0
       replace hx13_1 := zx HB hx13_1
       replace hx13_2 := zx HB hx13_2
       replace hx13_3 := zx HB hx13_3
       replace p286 := eq_true p286
       replace q13 := eq_true q13
       have p287 : 0 ≤ (x5_1 : Int) := of_decide_eq_true za
       have q14 : x5_1 < (l1.length : Int) := of_decide_eq_true za
       obtain ⟨ad14, e287, hx14_0, hx14_1, hx14_2, hx14_3⟩ := at_T81 HR1.out x5_1 p287 q14
       have hw14_3 := hx14_3
       have hw14_2 := hx14_2
       have hw14_1 := hx14_1
       have hw14_0 := hx14_0
       cases e287
       replace hx14_0 := zx HB hx14_0
       replace hx14_1 := zx HB hx14_1
       replace hx14_2 := zx HB hx14_2
       replace hx14_3 := zx HB hx14_3
       replace p287 := eq_true p287
       replace q14 := eq_true q14
       refine start_ (n := 10) (S := fun w' => w'.cell? (ad13.add ((x5_1).toNat * 4)) = some (.int .i64 ((rd_T81 l0 x5_1).f0)) ∧ w'.cell? ⟨(ad13.add ((x5_1).toNat * 4)).block, (ad13.add ((x5_1).toNat * 4)).off + 1, none⟩ = some (.bool ((rd_T81 l0 x5_1).f1)) ∧ w'.cell? ⟨(ad13.add ((x5_1).toNat * 4)).block, (ad13.add ((x5_1).toNat * 4)).off + 2, none⟩ = some (.bool ((rd_T81 l0 x5_1).f2)) ∧ w'.cell? ⟨(ad13.add ((x5_1).toNat * 4)).block, (ad13.add ((x5_1).toNat * 4)).off + 3, none⟩ = some (.int .i64 ((rd_T81 l0 x5_1).f3)) ∧ w'.cell? (ad14.add ((x5_1).toNat * 4)) = some (.int .i64 ((rd_T81 l1 x5_1).f0)) ∧ w'.cell? ⟨(ad14.add ((x5_1).toNat * 4)).block, (ad14.add ((x5_1).toNat * 4)).off + 1, none⟩ = some (.bool ((rd_T81 l1 x5_1).f1)) ∧ w'.cell? ⟨(ad14.add ((x5_1).toNat * 4)).block, (ad14.add ((x5_1).toNat * 4)).off + 2, none⟩ = some (.bool ((rd_T81 l1 x5_1).f2)) ∧ w'.cell? ⟨(ad14.add ((x5_1).toNat * 4)).block, (ad14.add ((x5_1).toNat * 4)).off + 3, none⟩ = some (.int .i64 ((rd_T81 l1 x5_1).f3))) (ds := []) #[Z, Z, Z, Z, Z, Z, Z, Z, Z, Z] (by kernel_rfl) rfl rfl ⟨((HB.out.cell (World.block_lt_of_cell? w _ hw13_0)).trans hw13_0), ((HB.out.cell (World.block_lt_of_cell? w _ hw13_1)).trans hw13_1), ((HB.out.cell (World.block_lt_of_cell? w _ hw13_2)).trans hw13_2), ((HB.out.cell (World.block_lt_of_cell? w _ hw13_3)).trans hw13_3), ((HB.out.cell (World.block_lt_of_cell? w _ hw14_0)).trans hw14_0), ((HB.out.cell (World.block_lt_of_cell? w _ hw14_1)).trans hw14_1), ((HB.out.cell (World.block_lt_of_cell? w _ hw14_2)).trans hw14_2), ((HB.out.cell (World.block_lt_of_cell? w _ hw14_3)).trans hw14_3)⟩ (fun hHeld => ?_); refine with_tabW laws_eqUndoS.tab6 laws_eqUndoS.bits6 (fun HT_ HW_ => ?_)
       generalize wr.drew = w11 at HB hx13_0 hx13_1 hx13_2 hx13_3 hx14_0 hx14_1 hx14_2 hx14_3 hHeld ⊢
       refine zp 0 17 ?_; refine zp 1 18 ?_; refine zp 2 19 ?_; refine zp 4 21 ?_; refine zp 5 22 ?_; refine zp 6 23 ?_; refine zt 3 20 ?_; refine zt 7 24 ?_
       refine one_ (i := 8) (N := some 25) #[Y, Y, Y, Y, Y, Y, Y, Y, Y, Z] rfl rfl (one_of HT_.out (by kernel_rfl)) (by decide) (fun K hK => ?_)
       refine goes_ Tryd.func81 (by kernel_rfl) rfl #[.agg #[.int .i64 ((rd_T81 l0 x5_1).f0), .bool ((rd_T81 l0 x5_1).f1), .bool ((rd_T81 l0 x5_1).f2), .int .i64 ((rd_T81 l0 x5_1).f3)], .agg #[.int .i64 ((rd_T81 l1 x5_1).f0), .bool ((rd_T81 l1 x5_1).f1), .bool ((rd_T81 l1 x5_1).f2), .int .i64 ((rd_T81 l1 x5_1).f3)]] (by rfl) rfl rfl zm ?_
       with_reducible refine (laws_eqUndo.calls ((rd_T81 l0 x5_1).f0) ((rd_T81 l0 x5_1).f1) ((rd_T81 l0 x5_1).f2) ((rd_T81 l0 x5_1).f3) ((rd_T81 l1 x5_1).f0) ((rd_T81 l1 x5_1).f1) ((rd_T81 l1 x5_1).f2) ((rd_T81 l1 x5_1).f3) false _ A7.out).mono ?_
       rintro e w12 ⟨rfl, hb⟩
       refine ⟨_, rfl, ?_⟩
       replace HB := Aside0.mk (below_step zb hb)
       (try clear hb)
       (try clear hb2)
       (try clear hk)
       (try clear hi)
       refine hK.out _ _ ⟨((HB.out.cell (World.block_lt_of_cell? w _ hw13_0)).trans hw13_0), ((HB.out.cell (World.block_lt_of_cell? w _ hw13_1)).trans hw13_1), ((HB.out.cell (World.block_lt_of_cell? w _ hw13_2)).trans hw13_2), ((HB.out.cell (World.block_lt_of_cell? w _ hw13_3)).trans hw13_3), ((HB.out.cell (World.block_lt_of_cell? w _ hw14_0)).trans hw14_0), ((HB.out.cell (World.block_lt_of_cell? w _ hw14_1)).trans hw14_1), ((HB.out.cell (World.block_lt_of_cell? w _ hw14_2)).trans hw14_2), ((HB.out.cell (World.block_lt_of_cell? w _ hw14_3)).trans hw14_3)⟩ (fun hHeld => ?_)
       clear hK K
       refine norm_ (a' := ?_) ?_ ?_
       rotate_left
       ·show Act.put _ (some 25) _ = _
        simp only [Act.put, List.setIfInBounds_toArray, List.set_cons_zero, List.set_cons_succ, i64_w, i32_w]
        rfl
       refine zp 9 26 ?_
       refine done_ (done_of HT_.out (by kernel_rfl)) ?_
       try go_wp2
       go_ret
       exact ⟨ze, zb⟩
      rw [if_neg c6] at H
      exact absurd H (by simp)
     rw [if_neg c5] at H
     exact absurd H (by simp)
    rw [if_neg c4] at H
    have c4b0 : decide (x5_1 < (l0.length : Int)) = false := decide_eq_false c4
    clear c4
    obtain rfl := Option.some.inj H
    go_wp2
    go_ret
    exact ⟨ze, zb⟩
 rw [if_neg c3] at H
 have c3b0 : ((l0.length : Int) == (l1.length : Int)) = false := beq_eq_false_iff_ne.mpr c3
 have c3b1 : ((l0.length : Int) != (l1.length : Int)) = true := bne_iff_ne.mpr c3
 have c3b2 : (l0.length == l1.length) = false := by first | simpa using c3 | (simp at c3 ⊢; omega)
 obtain rfl := Option.some.inj H
 go_enter Tryd.func67, Tryd.ntmps67
 go_wp2
 go_ret
 exact ⟨ze, zb⟩
set_option maxHeartbeats 8000000 in
set_option maxRecDepth 100000 in
theorem laws_eqTxn.calls (k : Nat) (a0_0 : Int) (a0_1 : Int) (a0_2 : Int) (a0_3 : Int) (A0_4 : Option Addr) (c0_4 : Nat) (l0_4 : List (S81)) (a1_0 : Int) (a1_1 : Int) (a1_2 : Int) (a1_3 : Int) (A1_4 : Option Addr) (c1_4 : Nat) (l1_4 : List (S81)) (r : Bool) (w : World) (hr0_4 : Kd.C k81 w A0_4 l0_4.length l0_4) (hc0_4 : l0_4.length ≤ c0_4) (hr1_4 : Kd.C k81 w A1_4 l1_4.length l1_4) (hc1_4 : l1_4.length ≤ c1_4) (h : laws_eqTxn.f k a0_0 a0_1 a0_2 a0_3 l0_4 a1_0 a1_1 a1_2 a1_3 l1_4 = some r) :
 Calls Tryd.prog 47 #[.agg #[.int .i64 a0_0, .int .i64 a0_1, .int .i64 a0_2, .int .i64 a0_3, .slice A0_4 l0_4.length c0_4], .agg #[.int .i64 a1_0, .int .i64 a1_1, .int .i64 a1_2, .int .i64 a1_3, .slice A1_4 l1_4.length c1_4]] w fun e w' => e = .returned (.bool r) ∧ Below w.heap.size w w' := by
 have hu45 := Tryd.underlying45
 have HR0_4 := Aside0.mk hr0_4
 have HC0_4 := Aside0.mk hc0_4
 clear hr0_4 hc0_4
 have HR1_4 := Aside0.mk hr1_4
 have HC1_4 := Aside0.mk hc1_4
 clear hr1_4 hc1_4
 have HB := Aside0.mk (Below.refl w.heap.size w)
 have H : (if a0_0 = a1_0 then (if a0_1 = a1_1 then (if a0_2 = a1_2 then (if a0_3 = a1_3 then ((laws_eqUndoS.f k l0_4 l1_4).bind fun t43 => (if t43 = true then (some true) else (some false))) else (some false)) else (some false)) else (some false)) else (some false)) = some r := h
 clear h
 by_cases c3 : a0_0 = a1_0
 ·rw [if_pos c3] at H
  have c3b0 : (a0_0 == a1_0) = true := beq_iff_eq.mpr c3
  have c3b1 : (a0_0 != a1_0) = false := bne_eq_false_iff_eq.mpr c3
  clear c3
  by_cases c4 : a0_1 = a1_1
  ·rw [if_pos c4] at H
   have c4b0 : (a0_1 == a1_1) = true := beq_iff_eq.mpr c4
   have c4b1 : (a0_1 != a1_1) = false := bne_eq_false_iff_eq.mpr c4
   clear c4
   by_cases c5 : a0_2 = a1_2
   ·rw [if_pos c5] at H
    have c5b0 : (a0_2 == a1_2) = true := beq_iff_eq.mpr c5
    have c5b1 : (a0_2 != a1_2) = false := bne_eq_false_iff_eq.mpr c5
    clear c5
    by_cases c6 : a0_3 = a1_3
    ·rw [if_pos c6] at H
     have c6b0 : (a0_3 == a1_3) = true := beq_iff_eq.mpr c6
     have c6b1 : (a0_3 != a1_3) = false := bne_eq_false_iff_eq.mpr c6
     clear c6
     replace H := Option.bind_eq_some_iff.mp H
     obtain ⟨t43, A70, H⟩ := H
     replace H : (if t43 = true then (some true) else (some false)) = some r := H
     have A7 := Aside0.mk A70
     clear A70
     by_cases c8 : t43 = true
     ·subst c8
      have H1 : (some true) = some r := by rw [if_pos rfl] at H; exact H
      clear H
      have H := H1
      clear H1
      obtain rfl := Option.some.inj H
      go_enter Tryd.func47, Tryd.ntmps47
      go_wp2_with (first | ((with_reducible refine gate_dst (N := 2) rfl ?_); refine zE 2 45 #[.int .i64 a0_0, .int .i64 a0_1, .int .i64 a0_2, .int .i64 a0_3, .slice A0_4 l0_4.length c0_4] ?_; intro gb41 hg w9 hbox hb; have BK41 := Aside0.mk hbox; have GW41 := Aside0.mk (zh hg : w.heap.size ≤ gb41); have GE41 := GW41; replace HB := Aside0.mk (below_step zb hb); clear hb hbox hg) | ((with_reducible refine gate_dst (N := 3) rfl ?_); refine zE 3 45 #[.int .i64 a1_0, .int .i64 a1_1, .int .i64 a1_2, .int .i64 a1_3, .slice A1_4 l1_4.length c1_4] ?_; intro gb42 hg w10 hbox hb; have BK42 := Aside0.mk hbox; have GW42 := Aside0.mk (zh hg : w.heap.size ≤ gb42); have NB289_290 := zl BK41 hg; have NB290_289 := zL BK41 hg; have GE42 := GW42; replace BK41 := zw BK41 hb; replace HB := Aside0.mk (below_step zb hb); clear hb hbox hg; have hnb11 := NB289_290.out; have hnc11 := NB290_289.out; obtain ⟨z12_0, z12_1, z12_2, z12_3, z12_4, j12_0, j12_1, j12_2, j12_3, j12_4⟩ := Go.Proofs.YtldlnafakfigeaaDoor.Lv.blks5 BK41.out; obtain ⟨z13_0, z13_1, z13_2, z13_3, z13_4, j13_0, j13_1, j13_2, j13_3, j13_4⟩ := Go.Proofs.YtldlnafakfigeaaDoor.Lv.blks5 BK42.out) | ((with_reducible refine gate_callee (f := 67) rfl ?_); refine zj 29 Tryd.func67 #[.slice A0_4 l0_4.length c0_4, .slice A1_4 l1_4.length c1_4] ?_; (with_reducible refine (laws_eqUndoS.calls k _ _ l0_4 _ _ l1_4 true _ ?side1 ?side2 ?side3 ?side4 A7.out).mono ?_); (case side1 => exact zc (Kd.C_below HR0_4.out HB.out)); (case side2 => exact HC0_4.out); (case side3 => exact zc (Kd.C_below HR1_4.out HB.out)); (case side4 => exact HC1_4.out); rintro e w14 ⟨rfl, hb⟩; refine ⟨_, rfl, ?_⟩; replace BK41 := zw BK41 hb; replace BK42 := zw BK42 hb; replace HB := Aside0.mk (below_step zb hb); (try clear hb); (try clear hb2); (try clear hk); (try clear hi)))
      go_ret
      exact ⟨ze, zb⟩
     replace c8 := Bool.eq_false_iff.mpr c8
     subst c8
     have H1 : (some false) = some r := by rw [if_neg (show ¬ (false = true) by decide)] at H; exact H
     clear H
     have H := H1
     clear H1
     obtain rfl := Option.some.inj H
     go_enter Tryd.func47, Tryd.ntmps47
     go_wp2_with (first | ((with_reducible refine gate_dst (N := 2) rfl ?_); refine zE 2 45 #[.int .i64 a0_0, .int .i64 a0_1, .int .i64 a0_2, .int .i64 a0_3, .slice A0_4 l0_4.length c0_4] ?_; intro gb41 hg w15 hbox hb; have BK41 := Aside0.mk hbox; have GW41 := Aside0.mk (zh hg : w.heap.size ≤ gb41); have GE41 := GW41; replace HB := Aside0.mk (below_step zb hb); clear hb hbox hg) | ((with_reducible refine gate_dst (N := 3) rfl ?_); refine zE 3 45 #[.int .i64 a1_0, .int .i64 a1_1, .int .i64 a1_2, .int .i64 a1_3, .slice A1_4 l1_4.length c1_4] ?_; intro gb42 hg w16 hbox hb; have BK42 := Aside0.mk hbox; have GW42 := Aside0.mk (zh hg : w.heap.size ≤ gb42); have NB289_290 := zl BK41 hg; have NB290_289 := zL BK41 hg; have GE42 := GW42; replace BK41 := zw BK41 hb; replace HB := Aside0.mk (below_step zb hb); clear hb hbox hg; have hnb17 := NB289_290.out; have hnc17 := NB290_289.out; obtain ⟨z18_0, z18_1, z18_2, z18_3, z18_4, j18_0, j18_1, j18_2, j18_3, j18_4⟩ := Go.Proofs.YtldlnafakfigeaaDoor.Lv.blks5 BK41.out; obtain ⟨z19_0, z19_1, z19_2, z19_3, z19_4, j19_0, j19_1, j19_2, j19_3, j19_4⟩ := Go.Proofs.YtldlnafakfigeaaDoor.Lv.blks5 BK42.out) | ((with_reducible refine gate_callee (f := 67) rfl ?_); refine zj 29 Tryd.func67 #[.slice A0_4 l0_4.length c0_4, .slice A1_4 l1_4.length c1_4] ?_; (with_reducible refine (laws_eqUndoS.calls k _ _ l0_4 _ _ l1_4 false _ ?side1 ?side2 ?side3 ?side4 A7.out).mono ?_); (case side1 => exact zc (Kd.C_below HR0_4.out HB.out)); (case side2 => exact HC0_4.out); (case side3 => exact zc (Kd.C_below HR1_4.out HB.out)); (case side4 => exact HC1_4.out); rintro e w20 ⟨rfl, hb⟩; refine ⟨_, rfl, ?_⟩; replace BK41 := zw BK41 hb; replace BK42 := zw BK42 hb; replace HB := Aside0.mk (below_step zb hb); (try clear hb); (try clear hb2); (try clear hk); (try clear hi)))
     go_ret
     exact ⟨ze, zb⟩
    rw [if_neg c6] at H
    have c6b0 : (a0_3 == a1_3) = false := beq_eq_false_iff_ne.mpr c6
    have c6b1 : (a0_3 != a1_3) = true := bne_iff_ne.mpr c6
    obtain rfl := Option.some.inj H
    go_enter Tryd.func47, Tryd.ntmps47
    go_wp2_with (first | ((with_reducible refine gate_dst (N := 2) rfl ?_); refine zE 2 45 #[.int .i64 a0_0, .int .i64 a0_1, .int .i64 a0_2, .int .i64 a0_3, .slice A0_4 l0_4.length c0_4] ?_; intro gb41 hg w21 hbox hb; have BK41 := Aside0.mk hbox; have GW41 := Aside0.mk (zh hg : w.heap.size ≤ gb41); have GE41 := GW41; replace HB := Aside0.mk (below_step zb hb); clear hb hbox hg) | ((with_reducible refine gate_dst (N := 3) rfl ?_); refine zE 3 45 #[.int .i64 a1_0, .int .i64 a1_1, .int .i64 a1_2, .int .i64 a1_3, .slice A1_4 l1_4.length c1_4] ?_; intro gb42 hg w22 hbox hb; have BK42 := Aside0.mk hbox; have GW42 := Aside0.mk (zh hg : w.heap.size ≤ gb42); have NB289_290 := zl BK41 hg; have NB290_289 := zL BK41 hg; have GE42 := GW42; replace BK41 := zw BK41 hb; replace HB := Aside0.mk (below_step zb hb); clear hb hbox hg; have hnb23 := NB289_290.out; have hnc23 := NB290_289.out; obtain ⟨z24_0, z24_1, z24_2, z24_3, z24_4, j24_0, j24_1, j24_2, j24_3, j24_4⟩ := Go.Proofs.YtldlnafakfigeaaDoor.Lv.blks5 BK41.out; obtain ⟨z25_0, z25_1, z25_2, z25_3, z25_4, j25_0, j25_1, j25_2, j25_3, j25_4⟩ := Go.Proofs.YtldlnafakfigeaaDoor.Lv.blks5 BK42.out))
    go_ret
    exact ⟨ze, zb⟩
   rw [if_neg c5] at H
   have c5b0 : (a0_2 == a1_2) = false := beq_eq_false_iff_ne.mpr c5
   have c5b1 : (a0_2 != a1_2) = true := bne_iff_ne.mpr c5
   obtain rfl := Option.some.inj H
   go_enter Tryd.func47, Tryd.ntmps47
   go_wp2_with (first | ((with_reducible refine gate_dst (N := 2) rfl ?_); refine zE 2 45 #[.int .i64 a0_0, .int .i64 a0_1, .int .i64 a0_2, .int .i64 a0_3, .slice A0_4 l0_4.length c0_4] ?_; intro gb41 hg w26 hbox hb; have BK41 := Aside0.mk hbox; have GW41 := Aside0.mk (zh hg : w.heap.size ≤ gb41); have GE41 := GW41; replace HB := Aside0.mk (below_step zb hb); clear hb hbox hg) | ((with_reducible refine gate_dst (N := 3) rfl ?_); refine zE 3 45 #[.int .i64 a1_0, .int .i64 a1_1, .int .i64 a1_2, .int .i64 a1_3, .slice A1_4 l1_4.length c1_4] ?_; intro gb42 hg w27 hbox hb; have BK42 := Aside0.mk hbox; have GW42 := Aside0.mk (zh hg : w.heap.size ≤ gb42); have NB289_290 := zl BK41 hg; have NB290_289 := zL BK41 hg; have GE42 := GW42; replace BK41 := zw BK41 hb; replace HB := Aside0.mk (below_step zb hb); clear hb hbox hg; have hnb28 := NB289_290.out; have hnc28 := NB290_289.out; obtain ⟨z29_0, z29_1, z29_2, z29_3, z29_4, j29_0, j29_1, j29_2, j29_3, j29_4⟩ := Go.Proofs.YtldlnafakfigeaaDoor.Lv.blks5 BK41.out; obtain ⟨z30_0, z30_1, z30_2, z30_3, z30_4, j30_0, j30_1, j30_2, j30_3, j30_4⟩ := Go.Proofs.YtldlnafakfigeaaDoor.Lv.blks5 BK42.out))
   go_ret
   exact ⟨ze, zb⟩
  rw [if_neg c4] at H
  have c4b0 : (a0_1 == a1_1) = false := beq_eq_false_iff_ne.mpr c4
  have c4b1 : (a0_1 != a1_1) = true := bne_iff_ne.mpr c4
  obtain rfl := Option.some.inj H
  go_enter Tryd.func47, Tryd.ntmps47
  go_wp2_with (first | ((with_reducible refine gate_dst (N := 2) rfl ?_); refine zE 2 45 #[.int .i64 a0_0, .int .i64 a0_1, .int .i64 a0_2, .int .i64 a0_3, .slice A0_4 l0_4.length c0_4] ?_; intro gb41 hg w31 hbox hb; have BK41 := Aside0.mk hbox; have GW41 := Aside0.mk (zh hg : w.heap.size ≤ gb41); have GE41 := GW41; replace HB := Aside0.mk (below_step zb hb); clear hb hbox hg) | ((with_reducible refine gate_dst (N := 3) rfl ?_); refine zE 3 45 #[.int .i64 a1_0, .int .i64 a1_1, .int .i64 a1_2, .int .i64 a1_3, .slice A1_4 l1_4.length c1_4] ?_; intro gb42 hg w32 hbox hb; have BK42 := Aside0.mk hbox; have GW42 := Aside0.mk (zh hg : w.heap.size ≤ gb42); have NB289_290 := zl BK41 hg; have NB290_289 := zL BK41 hg; have GE42 := GW42; replace BK41 := zw BK41 hb; replace HB := Aside0.mk (below_step zb hb); clear hb hbox hg; have hnb33 := NB289_290.out; have hnc33 := NB290_289.out; obtain ⟨z34_0, z34_1, z34_2, z34_3, z34_4, j34_0, j34_1, j34_2, j34_3, j34_4⟩ := Go.Proofs.YtldlnafakfigeaaDoor.Lv.blks5 BK41.out; obtain ⟨z35_0, z35_1, z35_2, z35_3, z35_4, j35_0, j35_1, j35_2, j35_3, j35_4⟩ := Go.Proofs.YtldlnafakfigeaaDoor.Lv.blks5 BK42.out))
  go_ret
  exact ⟨ze, zb⟩
 rw [if_neg c3] at H
 have c3b0 : (a0_0 == a1_0) = false := beq_eq_false_iff_ne.mpr c3
 have c3b1 : (a0_0 != a1_0) = true := bne_iff_ne.mpr c3
 obtain rfl := Option.some.inj H
 go_enter Tryd.func47, Tryd.ntmps47
 go_wp2_with (first | ((with_reducible refine gate_dst (N := 2) rfl ?_); refine zE 2 45 #[.int .i64 a0_0, .int .i64 a0_1, .int .i64 a0_2, .int .i64 a0_3, .slice A0_4 l0_4.length c0_4] ?_; intro gb41 hg w36 hbox hb; have BK41 := Aside0.mk hbox; have GW41 := Aside0.mk (zh hg : w.heap.size ≤ gb41); have GE41 := GW41; replace HB := Aside0.mk (below_step zb hb); clear hb hbox hg) | ((with_reducible refine gate_dst (N := 3) rfl ?_); refine zE 3 45 #[.int .i64 a1_0, .int .i64 a1_1, .int .i64 a1_2, .int .i64 a1_3, .slice A1_4 l1_4.length c1_4] ?_; intro gb42 hg w37 hbox hb; have BK42 := Aside0.mk hbox; have GW42 := Aside0.mk (zh hg : w.heap.size ≤ gb42); have NB289_290 := zl BK41 hg; have NB290_289 := zL BK41 hg; have GE42 := GW42; replace BK41 := zw BK41 hb; replace HB := Aside0.mk (below_step zb hb); clear hb hbox hg; have hnb38 := NB289_290.out; have hnc38 := NB290_289.out; obtain ⟨z39_0, z39_1, z39_2, z39_3, z39_4, j39_0, j39_1, j39_2, j39_3, j39_4⟩ := Go.Proofs.YtldlnafakfigeaaDoor.Lv.blks5 BK41.out; obtain ⟨z40_0, z40_1, z40_2, z40_3, z40_4, j40_0, j40_1, j40_2, j40_3, j40_4⟩ := Go.Proofs.YtldlnafakfigeaaDoor.Lv.blks5 BK42.out))
 go_ret
 exact ⟨ze, zb⟩
end Go.Proofs.YtldlnafakfigeaaDoor.P
