-- Printed by this session's own program over the kit's print (wip/tools/mp.py). Not trusted: Lean checks it.
import Derived.Test.YtpdfpbnlablhoaaP0
import Derived.Test.YtpdfpbnlablhoaaPCabcd1
import Derived.Test.YtpdfpbnlablhoaaPCac0
import Derived.Test.YtpdfpbnlablhoaaPCbc0
import Derived.Test.YtpdfpbnlablhoaaPCbc1
import Derived.Test.YtpdfpbnlablhoaaPCc0
import Derived.Test.YtpdfpbnlablhoaaPCcd0
import Derived.Test.YtpdfpbnlablhoaaPD0
import Derived.Test.YtpdfpbnlablhoaaWRepsOne
import Derived.Test.YtpdfpbnlablhoaaWTab
namespace Go.Proofs.Ytpdfpbnlablhoaa.P
open Go.RowKit Go.Proofs.YtpdfpbnlablhoaaW.PrintWords Go.Proofs.YtpdfpbnlablhoaaW.PrintLast Go.Proofs.YtpdfpbnlablhoaaW.PrintMore
attribute [local go_sem] max2_int min2_int max_two min_two max_three min_three max_four min_four   -- for this text's walks alone
set_option linter.unusedVariables false
set_option linter.unusedSimpArgs false

/-! ### laws_FnCells: function 5 -/
def laws_FnCells.T6 : Bool × List (List Nat × List Nat) := (true, [([], []), ([], []), ([], []), ([], []), ([0, 1, 2, 3], [0, 1, 2, 3]), ([4], [4]), ([], []), ([6], [6]), ([5, 7], [5, 7]), ([8, 4, 0, 1, 2, 3, 4, 5, 6, 7, 8], [8])])
def laws_FnCells.B6 : List Nat := [0, 0, 0, 0, 15, 31, 0, 64, 255, 511]
theorem laws_FnCells.tab6 : rtab .any (opsOf Try.f5 6) = laws_FnCells.T6 := by kernel_rfl
theorem laws_FnCells.bits6 : waitsOk laws_FnCells.T6.2 laws_FnCells.B6 = true := by kernel_rfl
def laws_FnCells.T14 : Bool × List (List Nat × List Nat) := (true, [([], []), ([0], [0]), ([], []), ([1, 2], [1, 2]), ([3], [3]), ([4], [4]), ([5, 4], [4, 5]), ([4], [4]), ([7, 4], [4, 7]), ([6, 8, 4, 4], [4, 6, 8]), ([9, 4], [4, 9]), ([4], [4]), ([11, 4], [4, 11]), ([10, 12, 4], [4, 10, 12]), ([13, 9, 4], [4, 13]), ([14], [14]), ([15, 14], [14, 15]), ([14], [14]), ([17, 14], [14, 17]), ([16, 18, 14, 14], [14, 16, 18]), ([19, 14], [14, 19]), ([14], [14]), ([21, 14], [14, 21]), ([20, 22, 14], [14, 20, 22]), ([14, 23, 4], [4, 14, 23]), ([4, 24], [4, 24])])
def laws_FnCells.B14 : List Nat := [0, 1, 0, 7, 15, 31, 63, 31, 159, 511, 1023, 31, 2079, 8191, 16383, 32767, 65535, 32767, 163839, 524287, 1048575, 32767, 2129919, 8388607, 16777215, 33554431]
theorem laws_FnCells.tab14 : rtab .any (opsOf Try.f5 14) = laws_FnCells.T14 := by kernel_rfl
theorem laws_FnCells.bits14 : waitsOk laws_FnCells.T14.2 laws_FnCells.B14 = true := by kernel_rfl
theorem laws_FnCells.fld30_0 (x0 x1 x2 x3 : Value) (w : World) : (Instr.field 30 (.agg #[x0, x1, x2, x3]) 0).run Try.prog w = .ok x0 w := by
 simp [Instr.field, run_underlying Try.underlying30, run_underlying Try.underlying2, part, isAgg, asAgg]
attribute [local go_sem] laws_FnCells.fld30_0
theorem laws_FnCells.fld46_1 (x0 x1 : Value) (w : World) : (Instr.field 46 (.agg #[x0, x1]) 1).run Try.prog w = .ok x1 w := by
 simp [Instr.field, run_underlying Try.underlying46, run_underlying Try.underlying2, part, isAgg, asAgg]
attribute [local go_sem] laws_FnCells.fld46_1
theorem laws_FnCells.fld46_0 (x0 x1 : Value) (w : World) : (Instr.field 46 (.agg #[x0, x1]) 0).run Try.prog w = .ok x0 w := by
 simp [Instr.field, run_underlying Try.underlying46, run_underlying Try.underlying2, part, isAgg, asAgg]
attribute [local go_sem] laws_FnCells.fld46_0
set_option maxHeartbeats 8000000 in
set_option maxRecDepth 100000 in
theorem laws_FnCells.calls (k : Nat) (A0 : Option Addr) (c0 : Nat) (l0 : List Int) (w : World) (hr0 : Kd.C (Kd.int .u8) w A0 l0.length l0) (hc0 : l0.length ≤ c0) (h : laws_FnCells.f k l0 = some true) :
  Calls Try.prog 5 #[.slice A0 l0.length c0] w fun e w' => e = .returned (.bool true) ∧ Below w.heap.size w w' := by
 have hu28 := Try.underlying28
 have hu30 := Try.underlying30
 have hu49 := Try.underlying49
 have HR0 := Aside0.mk hr0
 have HC0 := Aside0.mk hc0
 clear hr0 hc0
 have HB := Aside0.mk (Below.refl w.heap.size w)
 have H : ((laws_lwBig.f l0).bind fun t523 => (if t523 = true then (some true) else ((spec_DrawSetCell.f k l0).bind fun bt524 => ((impl_SetCell.f k bt524.1 bt524.2.1 bt524.2.2.1 bt524.2.2.2.1 bt524.2.2.2.2.1 bt524.2.2.2.2.2).bind fun bt533 => (if bt533.1 = 0 then ((impl_DropCell.f k bt533.2.1 bt533.2.2.1 bt533.2.2.2 bt524.2.2.2.1 bt524.2.2.2.2.2).bind fun bt546 => ((impl_PageFault.f k bt533.2.1 bt533.2.2.1 bt533.2.2.2).bind fun t553 => (if t553 = 0 then ((impl_CellOf.f k bt533.2.1 bt533.2.2.1 bt533.2.2.2 bt524.2.2.2.1).bind fun bt554 => (if bt554.2 = bt524.2.2.2.2.1 then (if bt533.2.2.1 = bt524.2.2.2.2.2 then (if bt546.1 = 0 then ((impl_CellOf.f k bt546.2.1 bt546.2.2.1 bt546.2.2.2 bt524.2.2.2.1).bind fun bt556 => (laws_FnCells.j0 k bt524.2.2.2.1 (bt556.1 != 4) bt524.1 bt524.2.1 bt524.2.2.1 bt533.1 bt533.2.1 bt533.2.2.1 bt533.2.2.2 bt546.1 bt546.2.1 bt546.2.2.1 bt546.2.2.2)) else (laws_FnCells.j0 k bt524.2.2.2.1 true bt524.1 bt524.2.1 bt524.2.2.1 bt533.1 bt533.2.1 bt533.2.2.1 bt533.2.2.2 bt546.1 bt546.2.1 bt546.2.2.1 bt546.2.2.2)) else (laws_FnCells.j0 k bt524.2.2.2.1 true bt524.1 bt524.2.1 bt524.2.2.1 bt533.1 bt533.2.1 bt533.2.2.1 bt533.2.2.2 bt546.1 bt546.2.1 bt546.2.2.1 bt546.2.2.2)) else (laws_FnCells.j0 k bt524.2.2.2.1 true bt524.1 bt524.2.1 bt524.2.2.1 bt533.1 bt533.2.1 bt533.2.2.1 bt533.2.2.2 bt546.1 bt546.2.1 bt546.2.2.1 bt546.2.2.2))) else (laws_FnCells.j0 k bt524.2.2.2.1 true bt524.1 bt524.2.1 bt524.2.2.1 bt533.1 bt533.2.1 bt533.2.2.1 bt533.2.2.2 bt546.1 bt546.2.1 bt546.2.2.1 bt546.2.2.2)))) else ((spec_SetCell.f k bt524.1 bt524.2.1 bt524.2.2.1 bt524.2.2.2.1 bt524.2.2.2.2.1 bt524.2.2.2.2.2).bind fun bt540 => (some (bt540.1 == bt533.1)))))))) = some true := h
 clear h
 replace H := Option.bind_eq_some_iff.mp H
 obtain ⟨t523, A20, H⟩ := H
 replace H : (if t523 = true then (some true) else ((spec_DrawSetCell.f k l0).bind fun bt524 => ((impl_SetCell.f k bt524.1 bt524.2.1 bt524.2.2.1 bt524.2.2.2.1 bt524.2.2.2.2.1 bt524.2.2.2.2.2).bind fun bt533 => (if bt533.1 = 0 then ((impl_DropCell.f k bt533.2.1 bt533.2.2.1 bt533.2.2.2 bt524.2.2.2.1 bt524.2.2.2.2.2).bind fun bt546 => ((impl_PageFault.f k bt533.2.1 bt533.2.2.1 bt533.2.2.2).bind fun t553 => (if t553 = 0 then ((impl_CellOf.f k bt533.2.1 bt533.2.2.1 bt533.2.2.2 bt524.2.2.2.1).bind fun bt554 => (if bt554.2 = bt524.2.2.2.2.1 then (if bt533.2.2.1 = bt524.2.2.2.2.2 then (if bt546.1 = 0 then ((impl_CellOf.f k bt546.2.1 bt546.2.2.1 bt546.2.2.2 bt524.2.2.2.1).bind fun bt556 => (laws_FnCells.j0 k bt524.2.2.2.1 (bt556.1 != 4) bt524.1 bt524.2.1 bt524.2.2.1 bt533.1 bt533.2.1 bt533.2.2.1 bt533.2.2.2 bt546.1 bt546.2.1 bt546.2.2.1 bt546.2.2.2)) else (laws_FnCells.j0 k bt524.2.2.2.1 true bt524.1 bt524.2.1 bt524.2.2.1 bt533.1 bt533.2.1 bt533.2.2.1 bt533.2.2.2 bt546.1 bt546.2.1 bt546.2.2.1 bt546.2.2.2)) else (laws_FnCells.j0 k bt524.2.2.2.1 true bt524.1 bt524.2.1 bt524.2.2.1 bt533.1 bt533.2.1 bt533.2.2.1 bt533.2.2.2 bt546.1 bt546.2.1 bt546.2.2.1 bt546.2.2.2)) else (laws_FnCells.j0 k bt524.2.2.2.1 true bt524.1 bt524.2.1 bt524.2.2.1 bt533.1 bt533.2.1 bt533.2.2.1 bt533.2.2.2 bt546.1 bt546.2.1 bt546.2.2.1 bt546.2.2.2))) else (laws_FnCells.j0 k bt524.2.2.2.1 true bt524.1 bt524.2.1 bt524.2.2.1 bt533.1 bt533.2.1 bt533.2.2.1 bt533.2.2.2 bt546.1 bt546.2.1 bt546.2.2.1 bt546.2.2.2)))) else ((spec_SetCell.f k bt524.1 bt524.2.1 bt524.2.2.1 bt524.2.2.2.1 bt524.2.2.2.2.1 bt524.2.2.2.2.2).bind fun bt540 => (some (bt540.1 == bt533.1))))))) = some true := H
 have A2 := Aside0.mk A20
 clear A20
 by_cases c3 : t523 = true
 ·subst c3
  have H1 : (some true) = some true := by rw [if_pos rfl] at H; first | done | exact H
  clear H
  have H := H1
  clear H1
  go_enter Try.func5, Try.ntmps5
  go_wp2_with (first | ((with_reducible refine gate_callee (f := 19) rfl ?_); refine goesL_ (some 12) rfl rfl Try.func19 (by kernel_rfl) rfl #[.slice A0 l0.length c0] rfl (by (try simp only [List.map_toArray, List.map_cons, List.map_nil]); first | done | rfl | (simp only [List.length_drop, List.length_take]; rfl)) ?_; (with_reducible refine (laws_lwBig.calls _ _ l0 true _ ?side1 ?side2 A2.out).mono ?_); (case side1 => repeat (first | exact HR0.out | (with_reducible refine Kd.C_alloc ?_ _) | (with_reducible refine Kd.C_drewN ?_ _) | (with_reducible refine Kd.C_drew ?_))); (case side2 => exact HC0.out); rintro e w' ⟨rfl, ⟨nd, rfl⟩⟩; refine ⟨_, rfl, ?_⟩))
  go_ret
  exact ⟨by first | rfl | (simp [errW_none, errW_some] <;> rfl) | (simp [*, errW_none, errW_some] <;> rfl), by repeat (first | (with_reducible first | exact HB.out | apply below_alloc | apply pw_below_drewN | apply below_drew1) | exact HB.out)⟩
 ·replace c3 := Bool.eq_false_iff.mpr c3
  subst c3
  have H1 : ((spec_DrawSetCell.f k l0).bind fun bt524 => ((impl_SetCell.f k bt524.1 bt524.2.1 bt524.2.2.1 bt524.2.2.2.1 bt524.2.2.2.2.1 bt524.2.2.2.2.2).bind fun bt533 => (if bt533.1 = 0 then ((impl_DropCell.f k bt533.2.1 bt533.2.2.1 bt533.2.2.2 bt524.2.2.2.1 bt524.2.2.2.2.2).bind fun bt546 => ((impl_PageFault.f k bt533.2.1 bt533.2.2.1 bt533.2.2.2).bind fun t553 => (if t553 = 0 then ((impl_CellOf.f k bt533.2.1 bt533.2.2.1 bt533.2.2.2 bt524.2.2.2.1).bind fun bt554 => (if bt554.2 = bt524.2.2.2.2.1 then (if bt533.2.2.1 = bt524.2.2.2.2.2 then (if bt546.1 = 0 then ((impl_CellOf.f k bt546.2.1 bt546.2.2.1 bt546.2.2.2 bt524.2.2.2.1).bind fun bt556 => (laws_FnCells.j0 k bt524.2.2.2.1 (bt556.1 != 4) bt524.1 bt524.2.1 bt524.2.2.1 bt533.1 bt533.2.1 bt533.2.2.1 bt533.2.2.2 bt546.1 bt546.2.1 bt546.2.2.1 bt546.2.2.2)) else (laws_FnCells.j0 k bt524.2.2.2.1 true bt524.1 bt524.2.1 bt524.2.2.1 bt533.1 bt533.2.1 bt533.2.2.1 bt533.2.2.2 bt546.1 bt546.2.1 bt546.2.2.1 bt546.2.2.2)) else (laws_FnCells.j0 k bt524.2.2.2.1 true bt524.1 bt524.2.1 bt524.2.2.1 bt533.1 bt533.2.1 bt533.2.2.1 bt533.2.2.2 bt546.1 bt546.2.1 bt546.2.2.1 bt546.2.2.2)) else (laws_FnCells.j0 k bt524.2.2.2.1 true bt524.1 bt524.2.1 bt524.2.2.1 bt533.1 bt533.2.1 bt533.2.2.1 bt533.2.2.2 bt546.1 bt546.2.1 bt546.2.2.1 bt546.2.2.2))) else (laws_FnCells.j0 k bt524.2.2.2.1 true bt524.1 bt524.2.1 bt524.2.2.1 bt533.1 bt533.2.1 bt533.2.2.1 bt533.2.2.2 bt546.1 bt546.2.1 bt546.2.2.1 bt546.2.2.2)))) else ((spec_SetCell.f k bt524.1 bt524.2.1 bt524.2.2.1 bt524.2.2.2.1 bt524.2.2.2.2.1 bt524.2.2.2.2.2).bind fun bt540 => (some (bt540.1 == bt533.1)))))) = some true := by rw [if_neg (show ¬ (false = true) by decide)] at H; first | done | exact H
  clear H
  have H := H1
  clear H1
  replace H := Option.bind_eq_some_iff.mp H
  obtain ⟨⟨t524, t525, t526, t529, t530, t531⟩, A40, H⟩ := H
  replace H : ((impl_SetCell.f k t524 t525 t526 t529 t530 t531).bind fun bt533 => (if bt533.1 = 0 then ((impl_DropCell.f k bt533.2.1 bt533.2.2.1 bt533.2.2.2 t529 t531).bind fun bt546 => ((impl_PageFault.f k bt533.2.1 bt533.2.2.1 bt533.2.2.2).bind fun t553 => (if t553 = 0 then ((impl_CellOf.f k bt533.2.1 bt533.2.2.1 bt533.2.2.2 t529).bind fun bt554 => (if bt554.2 = t530 then (if bt533.2.2.1 = t531 then (if bt546.1 = 0 then ((impl_CellOf.f k bt546.2.1 bt546.2.2.1 bt546.2.2.2 t529).bind fun bt556 => (laws_FnCells.j0 k t529 (bt556.1 != 4) t524 t525 t526 bt533.1 bt533.2.1 bt533.2.2.1 bt533.2.2.2 bt546.1 bt546.2.1 bt546.2.2.1 bt546.2.2.2)) else (laws_FnCells.j0 k t529 true t524 t525 t526 bt533.1 bt533.2.1 bt533.2.2.1 bt533.2.2.2 bt546.1 bt546.2.1 bt546.2.2.1 bt546.2.2.2)) else (laws_FnCells.j0 k t529 true t524 t525 t526 bt533.1 bt533.2.1 bt533.2.2.1 bt533.2.2.2 bt546.1 bt546.2.1 bt546.2.2.1 bt546.2.2.2)) else (laws_FnCells.j0 k t529 true t524 t525 t526 bt533.1 bt533.2.1 bt533.2.2.1 bt533.2.2.2 bt546.1 bt546.2.1 bt546.2.2.1 bt546.2.2.2))) else (laws_FnCells.j0 k t529 true t524 t525 t526 bt533.1 bt533.2.1 bt533.2.2.1 bt533.2.2.2 bt546.1 bt546.2.1 bt546.2.2.1 bt546.2.2.2)))) else ((spec_SetCell.f k t524 t525 t526 t529 t530 t531).bind fun bt540 => (some (bt540.1 == bt533.1))))) = some true := H
  have A4 := Aside0.mk A40
  clear A40
  replace H := Option.bind_eq_some_iff.mp H
  obtain ⟨⟨t533, t534, t535, t536⟩, A50, H⟩ := H
  replace H : (if t533 = 0 then ((impl_DropCell.f k t534 t535 t536 t529 t531).bind fun bt546 => ((impl_PageFault.f k t534 t535 t536).bind fun t553 => (if t553 = 0 then ((impl_CellOf.f k t534 t535 t536 t529).bind fun bt554 => (if bt554.2 = t530 then (if t535 = t531 then (if bt546.1 = 0 then ((impl_CellOf.f k bt546.2.1 bt546.2.2.1 bt546.2.2.2 t529).bind fun bt556 => (laws_FnCells.j0 k t529 (bt556.1 != 4) t524 t525 t526 t533 t534 t535 t536 bt546.1 bt546.2.1 bt546.2.2.1 bt546.2.2.2)) else (laws_FnCells.j0 k t529 true t524 t525 t526 t533 t534 t535 t536 bt546.1 bt546.2.1 bt546.2.2.1 bt546.2.2.2)) else (laws_FnCells.j0 k t529 true t524 t525 t526 t533 t534 t535 t536 bt546.1 bt546.2.1 bt546.2.2.1 bt546.2.2.2)) else (laws_FnCells.j0 k t529 true t524 t525 t526 t533 t534 t535 t536 bt546.1 bt546.2.1 bt546.2.2.1 bt546.2.2.2))) else (laws_FnCells.j0 k t529 true t524 t525 t526 t533 t534 t535 t536 bt546.1 bt546.2.1 bt546.2.2.1 bt546.2.2.2)))) else ((spec_SetCell.f k t524 t525 t526 t529 t530 t531).bind fun bt540 => (some (bt540.1 == t533)))) = some true := H
  have A5 := Aside0.mk A50
  clear A50
  by_cases c6 : t533 = 0
  ·rw [if_pos c6] at H
   have c6b0 : (t533 == 0) = true := beq_iff_eq.mpr c6
   have c6b1 : (t533 != 0) = false := bne_eq_false_iff_eq.mpr c6
   clear c6
   replace H := Option.bind_eq_some_iff.mp H
   obtain ⟨⟨t546, t547, t548, t549⟩, A70, H⟩ := H
   replace H : ((impl_PageFault.f k t534 t535 t536).bind fun t553 => (if t553 = 0 then ((impl_CellOf.f k t534 t535 t536 t529).bind fun bt554 => (if bt554.2 = t530 then (if t535 = t531 then (if t546 = 0 then ((impl_CellOf.f k t547 t548 t549 t529).bind fun bt556 => (laws_FnCells.j0 k t529 (bt556.1 != 4) t524 t525 t526 t533 t534 t535 t536 t546 t547 t548 t549)) else (laws_FnCells.j0 k t529 true t524 t525 t526 t533 t534 t535 t536 t546 t547 t548 t549)) else (laws_FnCells.j0 k t529 true t524 t525 t526 t533 t534 t535 t536 t546 t547 t548 t549)) else (laws_FnCells.j0 k t529 true t524 t525 t526 t533 t534 t535 t536 t546 t547 t548 t549))) else (laws_FnCells.j0 k t529 true t524 t525 t526 t533 t534 t535 t536 t546 t547 t548 t549))) = some true := H
   have A7 := Aside0.mk A70
   clear A70
   have HC8 := Aside0.mk H
   clear H
   go_enter Try.func5, Try.ntmps5
   go_upto_region 8 with (first | ((with_reducible refine gate_callee (f := 19) rfl ?_); refine goesL_ (some 12) rfl rfl Try.func19 (by kernel_rfl) rfl #[.slice A0 l0.length c0] rfl (by (try simp only [List.map_toArray, List.map_cons, List.map_nil]); first | done | rfl | (simp only [List.length_drop, List.length_take]; rfl)) ?_; (with_reducible refine (laws_lwBig.calls _ _ l0 false _ ?side1 ?side2 A2.out).mono ?_); (case side1 => repeat (first | exact HR0.out | (with_reducible refine Kd.C_alloc ?_ _) | (with_reducible refine Kd.C_drewN ?_ _) | (with_reducible refine Kd.C_drew ?_))); (case side2 => exact HC0.out); rintro e w' ⟨rfl, ⟨nd, rfl⟩⟩; refine ⟨_, rfl, ?_⟩) | ((with_reducible refine gate_callee (f := 20) rfl ?_); refine goesL_ (some 15) rfl rfl Try.func20 (by kernel_rfl) rfl #[.slice A0 l0.length c0] rfl (by (try simp only [List.map_toArray, List.map_cons, List.map_nil]); first | done | rfl | (simp only [List.length_drop, List.length_take]; rfl)) ?_; (with_reducible refine (spec_DrawSetCell.calls k _ _ l0 t524 t525 t526 t529 t530 t531 _ ?side1 ?side2 A4.out).mono ?_); (case side1 => repeat (first | exact HR0.out | (with_reducible refine Kd.C_alloc ?_ _) | (with_reducible refine Kd.C_drewN ?_ _) | (with_reducible refine Kd.C_drew ?_))); (case side2 => exact HC0.out); rintro e w9 ⟨v527, rfl, ho0, hb⟩; refine ⟨_, rfl, ?_⟩; have n0_ := Aside0.mk (Kd.R_lower ho0 (below_size (by repeat (first | (with_reducible first | exact HB.out | apply below_alloc | apply pw_below_drewN | apply below_drew1) | exact HB.out)))); have n1_ := Aside0.mk (below_step (by repeat (first | (with_reducible first | exact HB.out | apply below_alloc | apply pw_below_drewN | apply below_drew1) | exact HB.out)) hb); clear HB; have HO528 := n0_; have HB := n1_; clear n0_ n1_; (try clear hb); (try clear hb2); (try clear hk); (try clear hi); (try clear ho0)) | ((with_reducible refine gate_dst (N := 3) rfl ?_); refine box_event ?hg (N := 3) ?hd (cs := #[.int .i64 0, .int .i64 0, .slice none 0 0]) (t := 28) ?hr ?_; (case hd => rfl); (case hg => rfl); (case hr => first | (go_simp; done) | (go_simp; rfl)); intro gb532 hg w10 hbox hb; have n0_ := Aside0.mk (Kd.R_below (by (with_reducible repeat (first | apply Kd.R_alloc | apply Kd.R_drewN | apply Kd.R_drew)); exact HO528.out) hb); have n1_ := Aside0.mk (below_step (by repeat (first | (with_reducible first | exact HB.out | apply below_alloc | apply pw_below_drewN | apply below_drew1) | exact HB.out)) hb); have n2_ := Aside0.mk (hbox); have n3_ := Aside0.mk ((by rw [hg]; exact (below_size (by repeat (first | (with_reducible first | exact HB.out | apply below_alloc | apply pw_below_drewN | apply below_drew1) | exact HB.out))) : w.heap.size ≤ gb532)); have n4_ := Aside0.mk ((by rw [hg]; exact (below_size (by repeat (first | (with_reducible first | exact HB.out | apply below_alloc | apply pw_below_drewN | apply below_drew1) | exact HB.out))) : w.heap.size ≤ gb532)); clear HO528; clear HB; have HO528 := n0_; have HB := n1_; have BK532 := n2_; have GW532 := n3_; have GE532 := n4_; clear n0_ n1_ n2_ n3_ n4_; clear hb hbox hg; have hcz11_0 : w10.cell? ⟨gb532, 0, none⟩ = some (.int .i64 0) := (blk_cell BK532.out 0).trans rfl; have hcz11_1 : w10.cell? ⟨gb532, 1, none⟩ = some (.int .i64 0) := (blk_cell BK532.out 1).trans rfl; have hcz11_2 : w10.cell? ⟨gb532, 2, none⟩ = some (.slice none 0 0) := (blk_cell BK532.out 2).trans rfl; have hfz11_0 := blk_frozen BK532.out 0; have hfz11_1 := blk_frozen BK532.out 1; have hfz11_2 := blk_frozen BK532.out 2; obtain ⟨Ao12, co12, eo12⟩ := Kd.R_slice HO528.out; subst eo12) | ((with_reducible refine gate_callee (f := 18) rfl ?_); refine goesL_ (some 24) rfl rfl Try.func18 (by kernel_rfl) rfl #[.agg #[.int .i64 t524, .int .i64 t525, .slice Ao12 t526.length co12], .int .i64 t529, .int .i64 t530, .int .i64 t531] rfl (by (try simp only [List.map_toArray, List.map_cons, List.map_nil]); first | done | rfl | (simp only [List.length_drop, List.length_take]; rfl)) ?_; (with_reducible refine (impl_SetCell.calls k t524 t525 _ _ t526 t529 t530 t531 t533 t534 t535 t536 _ ?side1 ?side2 A5.out).mono ?_); (case side1 => refine (Kd.R_reads' (e := 49) (base := w.heap.size) (ok := fun k_ => True) (n := t526.length) (c := co12) ?_).2.2; exact (by (with_reducible repeat (first | apply Kd.R_alloc | apply Kd.R_drewN | apply Kd.R_drew)); exact (Kd.R_mono (Kd.R_far (p := ⟨gb532, 2, none⟩) (Kd.R_far (p := ⟨gb532, 1, none⟩) (Kd.R_far (p := ⟨gb532, 0, none⟩) (Kd.R_types HO528.out BK532.out (by decide)) (fun _ hk => hk.2) (.int .i64 t524)) (fun _ hk => hk.2) (.int .i64 t525)) (fun _ hk => hk.2) (.slice Ao12 t526.length co12)) (fun _ h_ => h_.1)))); (case side2 => exact (Kd.R_reads' HO528.out).2.1); rintro e w13 ⟨v537, rfl, ho0, hb⟩; refine ⟨_, rfl, ?_⟩; have n0_ := Aside0.mk (Kd.R_elder' (by (with_reducible repeat (first | apply Kd.R_alloc | apply Kd.R_drewN | apply Kd.R_drew)); exact (Kd.R_mono (Kd.R_far (p := ⟨gb532, 2, none⟩) (Kd.R_far (p := ⟨gb532, 1, none⟩) (Kd.R_far (p := ⟨gb532, 0, none⟩) (Kd.R_types HO528.out BK532.out (by decide)) (fun _ hk => hk.2) (.int .i64 t524)) (fun _ hk => hk.2) (.int .i64 t525)) (fun _ hk => hk.2) (.slice Ao12 t526.length co12)) (fun _ h_ => h_.1))) (Kd.R_base ho0) hb); have n1_ := Aside0.mk (Kd.R_lower (Kd.R_new' ho0 (Kd.R_lt (by (with_reducible repeat (first | apply Kd.R_alloc | apply Kd.R_drewN | apply Kd.R_drew)); exact (Kd.R_mono (Kd.R_far (p := ⟨gb532, 2, none⟩) (Kd.R_far (p := ⟨gb532, 1, none⟩) (Kd.R_far (p := ⟨gb532, 0, none⟩) (Kd.R_types HO528.out BK532.out (by decide)) (fun _ hk => hk.2) (.int .i64 t524)) (fun _ hk => hk.2) (.int .i64 t525)) (fun _ hk => hk.2) (.slice Ao12 t526.length co12)) (fun _ h_ => h_.1))))) (below_size (by repeat (first | (with_reducible first | exact HB.out | apply below_alloc | apply pw_below_drewN | apply below_drew1 | refine below_set ?_ GE532.out) | exact HB.out)))); have n2_ := Aside0.mk (blk_below (g := gb532) (o := .cells #[.int .i64 t524, .int .i64 t525, .slice Ao12 t526.length co12] 28 (0, 0)) (by (with_reducible repeat (first | refine blk_drewN ?_ _ | refine blk_drew ?_ | refine blk_alloc ?_ _)); refine blk_put (cs := #[.int .i64 t524, .int .i64 t525, .slice none 0 0]) ?_ 2 _ rfl; (with_reducible repeat (first | refine blk_drewN ?_ _ | refine blk_drew ?_ | refine blk_alloc ?_ _)); refine blk_put (cs := #[.int .i64 t524, .int .i64 0, .slice none 0 0]) ?_ 1 _ rfl; (with_reducible repeat (first | refine blk_drewN ?_ _ | refine blk_drew ?_ | refine blk_alloc ?_ _)); refine blk_put (cs := #[.int .i64 0, .int .i64 0, .slice none 0 0]) ?_ 0 _ rfl; (with_reducible repeat (first | refine blk_drewN ?_ _ | refine blk_drew ?_ | refine blk_alloc ?_ _)); exact BK532.out) hb); have n3_ := Aside0.mk (below_step (by repeat (first | (with_reducible first | exact HB.out | apply below_alloc | apply pw_below_drewN | apply below_drew1 | refine below_set ?_ GE532.out) | exact HB.out)) hb); clear HO528; clear BK532; clear HB; have HO528 := n0_; have HO538 := n1_; have BK532 := n2_; have HB := n3_; clear n0_ n1_ n2_ n3_; (try clear hb); (try clear hb2); (try clear hk); (try clear hi); (try clear ho0)) | ((with_reducible refine gate_dst (N := 7) rfl ?_); refine box_event ?hg (N := 7) ?hd (cs := #[.int .i64 0, .int .i64 0, .int .i64 0, .slice none 0 0]) (t := 30) ?hr ?_; (case hd => rfl); (case hg => rfl); (case hr => first | (go_simp; done) | (go_simp; rfl)); intro gb539 hg w14 hbox hb; have n0_ := Aside0.mk (Kd.R_below (by (with_reducible repeat (first | apply Kd.R_alloc | apply Kd.R_drewN | apply Kd.R_drew)); exact HO528.out) hb); have n1_ := Aside0.mk (Kd.R_below (by (with_reducible repeat (first | apply Kd.R_alloc | apply Kd.R_drewN | apply Kd.R_drew)); exact HO538.out) hb); have n2_ := Aside0.mk (blk_below (g := gb532) (o := .cells #[.int .i64 t524, .int .i64 t525, .slice Ao12 t526.length co12] 28 (0, 0)) (by (with_reducible repeat (first | refine blk_drewN ?_ _ | refine blk_drew ?_ | refine blk_alloc ?_ _)); exact BK532.out) hb); have n3_ := Aside0.mk (below_step (by repeat (first | (with_reducible first | exact HB.out | apply below_alloc | apply pw_below_drewN | apply below_drew1 | refine below_set ?_ GE532.out) | exact HB.out)) hb); have n4_ := Aside0.mk (hbox); have n5_ := Aside0.mk ((by rw [hg]; exact (below_size (by repeat (first | (with_reducible first | exact HB.out | apply below_alloc | apply pw_below_drewN | apply below_drew1 | refine below_set ?_ GE532.out) | exact HB.out))) : w.heap.size ≤ gb539)); have n6_ := Aside0.mk ((by rw [hg]; exact (below_size (by repeat (first | (with_reducible first | exact HB.out | apply below_alloc | apply pw_below_drewN | apply below_drew1 | refine below_set ?_ GE532.out) | exact HB.out))) : w.heap.size ≤ gb539)); have n7_ := Aside0.mk ((by rw [hg]; exact Nat.ne_of_lt (blk_lt (g := gb532) (o := .cells #[.int .i64 t524, .int .i64 t525, .slice Ao12 t526.length co12] 28 (0, 0)) (by (with_reducible repeat (first | refine blk_drewN ?_ _ | refine blk_drew ?_ | refine blk_alloc ?_ _)); exact BK532.out)) : gb532 ≠ gb539)); have n8_ := Aside0.mk ((by rw [hg]; exact Nat.ne_of_gt (blk_lt (g := gb532) (o := .cells #[.int .i64 t524, .int .i64 t525, .slice Ao12 t526.length co12] 28 (0, 0)) (by (with_reducible repeat (first | refine blk_drewN ?_ _ | refine blk_drew ?_ | refine blk_alloc ?_ _)); exact BK532.out)) : gb539 ≠ gb532)); clear HO528; clear HO538; clear BK532; clear HB; have HO528 := n0_; have HO538 := n1_; have BK532 := n2_; have HB := n3_; have BK539 := n4_; have GW539 := n5_; have GE539 := n6_; have NB532_539 := n7_; have NB539_532 := n8_; clear n0_ n1_ n2_ n3_ n4_ n5_ n6_ n7_ n8_; clear hb hbox hg; have hnb15 := NB539_532.out; have hnc15 := NB532_539.out; have hcz16_0 : w14.cell? ⟨gb539, 0, none⟩ = some (.int .i64 0) := (blk_cell BK539.out 0).trans rfl; have hcz16_1 : w14.cell? ⟨gb539, 1, none⟩ = some (.int .i64 0) := (blk_cell BK539.out 1).trans rfl; have hcz16_2 : w14.cell? ⟨gb539, 2, none⟩ = some (.int .i64 0) := (blk_cell BK539.out 2).trans rfl; have hcz16_3 : w14.cell? ⟨gb539, 3, none⟩ = some (.slice none 0 0) := (blk_cell BK539.out 3).trans rfl; have hfz16_0 := blk_frozen BK539.out 0; have hfz16_1 := blk_frozen BK539.out 1; have hfz16_2 := blk_frozen BK539.out 2; have hfz16_3 := blk_frozen BK539.out 3; obtain ⟨Ao17, co17, eo17⟩ := Kd.R_slice HO538.out; subst eo17) | ((with_reducible refine gate_callee (f := 11) rfl ?_); refine goesL_ (some 41) rfl rfl Try.func11 (by kernel_rfl) rfl #[.agg #[.int .i64 t534, .int .i64 t535, .slice Ao17 t536.length co17], .int .i64 t529, .int .i64 t531] rfl (by (try simp only [List.map_toArray, List.map_cons, List.map_nil]); first | done | rfl | (simp only [List.length_drop, List.length_take]; rfl)) ?_; (with_reducible refine (impl_DropCell.calls k t534 t535 _ _ t536 t529 t531 t546 t547 t548 t549 _ ?side1 ?side2 A7.out).mono ?_); (case side1 => refine (Kd.R_reads' (e := 49) (base := w.heap.size) (ok := fun k_ => (True ∧ some k_ ≠ (.slice Ao12 t526.length co12 : Value).ownBlock)) (n := t536.length) (c := co17) ?_).2.2; exact (by (with_reducible repeat (first | apply Kd.R_alloc | apply Kd.R_drewN | apply Kd.R_drew)); exact (Kd.R_mono (Kd.R_far (p := ⟨gb539, 3, none⟩) (Kd.R_far (p := ⟨gb539, 2, none⟩) (Kd.R_far (p := ⟨gb539, 1, none⟩) (Kd.R_far (p := ⟨gb539, 0, none⟩) (Kd.R_types HO538.out BK539.out (by decide)) (fun _ hk => hk.2) (.int .i64 t533)) (fun _ hk => hk.2) (.int .i64 t534)) (fun _ hk => hk.2) (.int .i64 t535)) (fun _ hk => hk.2) (.slice Ao17 t536.length co17)) (fun _ h_ => h_.1)))); (case side2 => exact (Kd.R_reads' HO538.out).2.1); rintro e w18 ⟨v550, rfl, ho0, hb⟩; refine ⟨_, rfl, ?_⟩; have n0_ := Aside0.mk (Kd.R_elder' (by (with_reducible repeat (first | apply Kd.R_alloc | apply Kd.R_drewN | apply Kd.R_drew)); exact (Kd.R_mono (Kd.R_far (p := ⟨gb539, 3, none⟩) (Kd.R_far (p := ⟨gb539, 2, none⟩) (Kd.R_far (p := ⟨gb539, 1, none⟩) (Kd.R_far (p := ⟨gb539, 0, none⟩) (Kd.R_types HO528.out BK539.out (by decide)) (fun _ hk => hk.2) (.int .i64 t533)) (fun _ hk => hk.2) (.int .i64 t534)) (fun _ hk => hk.2) (.int .i64 t535)) (fun _ hk => hk.2) (.slice Ao17 t536.length co17)) (fun _ h_ => h_.1))) (Kd.R_base ho0) hb); have n1_ := Aside0.mk (Kd.R_elder' (by (with_reducible repeat (first | apply Kd.R_alloc | apply Kd.R_drewN | apply Kd.R_drew)); exact (Kd.R_mono (Kd.R_far (p := ⟨gb539, 3, none⟩) (Kd.R_far (p := ⟨gb539, 2, none⟩) (Kd.R_far (p := ⟨gb539, 1, none⟩) (Kd.R_far (p := ⟨gb539, 0, none⟩) (Kd.R_types HO538.out BK539.out (by decide)) (fun _ hk => hk.2) (.int .i64 t533)) (fun _ hk => hk.2) (.int .i64 t534)) (fun _ hk => hk.2) (.int .i64 t535)) (fun _ hk => hk.2) (.slice Ao17 t536.length co17)) (fun _ h_ => h_.1))) (Kd.R_base ho0) hb); have n2_ := Aside0.mk (Kd.R_lower (Kd.R_new' (Kd.R_new' ho0 (Kd.R_lt (by (with_reducible repeat (first | apply Kd.R_alloc | apply Kd.R_drewN | apply Kd.R_drew)); exact (Kd.R_mono (Kd.R_far (p := ⟨gb539, 3, none⟩) (Kd.R_far (p := ⟨gb539, 2, none⟩) (Kd.R_far (p := ⟨gb539, 1, none⟩) (Kd.R_far (p := ⟨gb539, 0, none⟩) (Kd.R_types HO528.out BK539.out (by decide)) (fun _ hk => hk.2) (.int .i64 t533)) (fun _ hk => hk.2) (.int .i64 t534)) (fun _ hk => hk.2) (.int .i64 t535)) (fun _ hk => hk.2) (.slice Ao17 t536.length co17)) (fun _ h_ => h_.1))))) (Kd.R_lt (by (with_reducible repeat (first | apply Kd.R_alloc | apply Kd.R_drewN | apply Kd.R_drew)); exact (Kd.R_mono (Kd.R_far (p := ⟨gb539, 3, none⟩) (Kd.R_far (p := ⟨gb539, 2, none⟩) (Kd.R_far (p := ⟨gb539, 1, none⟩) (Kd.R_far (p := ⟨gb539, 0, none⟩) (Kd.R_types HO538.out BK539.out (by decide)) (fun _ hk => hk.2) (.int .i64 t533)) (fun _ hk => hk.2) (.int .i64 t534)) (fun _ hk => hk.2) (.int .i64 t535)) (fun _ hk => hk.2) (.slice Ao17 t536.length co17)) (fun _ h_ => h_.1))))) (below_size (by repeat (first | (with_reducible first | exact HB.out | apply below_alloc | apply pw_below_drewN | apply below_drew1 | refine below_set ?_ GE532.out | refine below_set ?_ GE539.out) | exact HB.out)))); have n3_ := Aside0.mk (blk_below (g := gb532) (o := .cells #[.int .i64 t524, .int .i64 t525, .slice Ao12 t526.length co12] 28 (0, 0)) (by (with_reducible repeat (first | refine blk_drewN ?_ _ | refine blk_drew ?_ | refine blk_alloc ?_ _)); refine blk_far ?_ NB532_539.out _; (with_reducible repeat (first | refine blk_drewN ?_ _ | refine blk_drew ?_ | refine blk_alloc ?_ _)); refine blk_far ?_ NB532_539.out _; (with_reducible repeat (first | refine blk_drewN ?_ _ | refine blk_drew ?_ | refine blk_alloc ?_ _)); refine blk_far ?_ NB532_539.out _; (with_reducible repeat (first | refine blk_drewN ?_ _ | refine blk_drew ?_ | refine blk_alloc ?_ _)); refine blk_far ?_ NB532_539.out _; (with_reducible repeat (first | refine blk_drewN ?_ _ | refine blk_drew ?_ | refine blk_alloc ?_ _)); exact BK532.out) hb); have n4_ := Aside0.mk (blk_below (g := gb539) (o := .cells #[.int .i64 t533, .int .i64 t534, .int .i64 t535, .slice Ao17 t536.length co17] 30 (0, 0)) (by (with_reducible repeat (first | refine blk_drewN ?_ _ | refine blk_drew ?_ | refine blk_alloc ?_ _)); refine blk_put (cs := #[.int .i64 t533, .int .i64 t534, .int .i64 t535, .slice none 0 0]) ?_ 3 _ rfl; (with_reducible repeat (first | refine blk_drewN ?_ _ | refine blk_drew ?_ | refine blk_alloc ?_ _)); refine blk_put (cs := #[.int .i64 t533, .int .i64 t534, .int .i64 0, .slice none 0 0]) ?_ 2 _ rfl; (with_reducible repeat (first | refine blk_drewN ?_ _ | refine blk_drew ?_ | refine blk_alloc ?_ _)); refine blk_put (cs := #[.int .i64 t533, .int .i64 0, .int .i64 0, .slice none 0 0]) ?_ 1 _ rfl; (with_reducible repeat (first | refine blk_drewN ?_ _ | refine blk_drew ?_ | refine blk_alloc ?_ _)); refine blk_put (cs := #[.int .i64 0, .int .i64 0, .int .i64 0, .slice none 0 0]) ?_ 0 _ rfl; (with_reducible repeat (first | refine blk_drewN ?_ _ | refine blk_drew ?_ | refine blk_alloc ?_ _)); exact BK539.out) hb); have n5_ := Aside0.mk (below_step (by repeat (first | (with_reducible first | exact HB.out | apply below_alloc | apply pw_below_drewN | apply below_drew1 | refine below_set ?_ GE532.out | refine below_set ?_ GE539.out) | exact HB.out)) hb); clear HO528; clear HO538; clear BK532; clear BK539; clear HB; have HO528 := n0_; have HO538 := n1_; have HO551 := n2_; have BK532 := n3_; have BK539 := n4_; have HB := n5_; clear n0_ n1_ n2_ n3_ n4_ n5_; (try clear hb); (try clear hb2); (try clear hk); (try clear hi); (try clear ho0)) | ((with_reducible refine gate_dst (N := 8) rfl ?_); refine box_event ?hg (N := 8) ?hd (cs := #[.int .i64 0, .int .i64 0, .int .i64 0, .slice none 0 0]) (t := 30) ?hr ?_; (case hd => rfl); (case hg => rfl); (case hr => first | (go_simp; done) | (go_simp; rfl)); intro gb552 hg w19 hbox hb; have n0_ := Aside0.mk (Kd.R_below (by (with_reducible repeat (first | apply Kd.R_alloc | apply Kd.R_drewN | apply Kd.R_drew)); exact HO528.out) hb); have n1_ := Aside0.mk (Kd.R_below (by (with_reducible repeat (first | apply Kd.R_alloc | apply Kd.R_drewN | apply Kd.R_drew)); exact HO538.out) hb); have n2_ := Aside0.mk (Kd.R_below (by (with_reducible repeat (first | apply Kd.R_alloc | apply Kd.R_drewN | apply Kd.R_drew)); exact HO551.out) hb); have n3_ := Aside0.mk (blk_below (g := gb532) (o := .cells #[.int .i64 t524, .int .i64 t525, .slice Ao12 t526.length co12] 28 (0, 0)) (by (with_reducible repeat (first | refine blk_drewN ?_ _ | refine blk_drew ?_ | refine blk_alloc ?_ _)); exact BK532.out) hb); have n4_ := Aside0.mk (blk_below (g := gb539) (o := .cells #[.int .i64 t533, .int .i64 t534, .int .i64 t535, .slice Ao17 t536.length co17] 30 (0, 0)) (by (with_reducible repeat (first | refine blk_drewN ?_ _ | refine blk_drew ?_ | refine blk_alloc ?_ _)); exact BK539.out) hb); have n5_ := Aside0.mk (below_step (by repeat (first | (with_reducible first | exact HB.out | apply below_alloc | apply pw_below_drewN | apply below_drew1 | refine below_set ?_ GE532.out | refine below_set ?_ GE539.out) | exact HB.out)) hb); have n6_ := Aside0.mk (hbox); have n7_ := Aside0.mk ((by rw [hg]; exact (below_size (by repeat (first | (with_reducible first | exact HB.out | apply below_alloc | apply pw_below_drewN | apply below_drew1 | refine below_set ?_ GE532.out | refine below_set ?_ GE539.out) | exact HB.out))) : w.heap.size ≤ gb552)); have n8_ := Aside0.mk ((by rw [hg]; exact (below_size (by repeat (first | (with_reducible first | exact HB.out | apply below_alloc | apply pw_below_drewN | apply below_drew1 | refine below_set ?_ GE532.out | refine below_set ?_ GE539.out) | exact HB.out))) : w.heap.size ≤ gb552)); have n9_ := Aside0.mk ((by rw [hg]; exact Nat.ne_of_lt (blk_lt (g := gb532) (o := .cells #[.int .i64 t524, .int .i64 t525, .slice Ao12 t526.length co12] 28 (0, 0)) (by (with_reducible repeat (first | refine blk_drewN ?_ _ | refine blk_drew ?_ | refine blk_alloc ?_ _)); exact BK532.out)) : gb532 ≠ gb552)); have n10_ := Aside0.mk ((by rw [hg]; exact Nat.ne_of_gt (blk_lt (g := gb532) (o := .cells #[.int .i64 t524, .int .i64 t525, .slice Ao12 t526.length co12] 28 (0, 0)) (by (with_reducible repeat (first | refine blk_drewN ?_ _ | refine blk_drew ?_ | refine blk_alloc ?_ _)); exact BK532.out)) : gb552 ≠ gb532)); have n11_ := Aside0.mk ((by rw [hg]; exact Nat.ne_of_lt (blk_lt (g := gb539) (o := .cells #[.int .i64 t533, .int .i64 t534, .int .i64 t535, .slice Ao17 t536.length co17] 30 (0, 0)) (by (with_reducible repeat (first | refine blk_drewN ?_ _ | refine blk_drew ?_ | refine blk_alloc ?_ _)); exact BK539.out)) : gb539 ≠ gb552)); have n12_ := Aside0.mk ((by rw [hg]; exact Nat.ne_of_gt (blk_lt (g := gb539) (o := .cells #[.int .i64 t533, .int .i64 t534, .int .i64 t535, .slice Ao17 t536.length co17] 30 (0, 0)) (by (with_reducible repeat (first | refine blk_drewN ?_ _ | refine blk_drew ?_ | refine blk_alloc ?_ _)); exact BK539.out)) : gb552 ≠ gb539)); clear HO528; clear HO538; clear HO551; clear BK532; clear BK539; clear HB; have HO528 := n0_; have HO538 := n1_; have HO551 := n2_; have BK532 := n3_; have BK539 := n4_; have HB := n5_; have BK552 := n6_; have GW552 := n7_; have GE552 := n8_; have NB532_552 := n9_; have NB552_532 := n10_; have NB539_552 := n11_; have NB552_539 := n12_; clear n0_ n1_ n2_ n3_ n4_ n5_ n6_ n7_ n8_ n9_ n10_ n11_ n12_; clear hb hbox hg; have hnb20 := NB552_532.out; have hnc20 := NB532_552.out; have hnb21 := NB552_539.out; have hnc21 := NB539_552.out; have hcz22_0 : w19.cell? ⟨gb552, 0, none⟩ = some (.int .i64 0) := (blk_cell BK552.out 0).trans rfl; have hcz22_1 : w19.cell? ⟨gb552, 1, none⟩ = some (.int .i64 0) := (blk_cell BK552.out 1).trans rfl; have hcz22_2 : w19.cell? ⟨gb552, 2, none⟩ = some (.int .i64 0) := (blk_cell BK552.out 2).trans rfl; have hcz22_3 : w19.cell? ⟨gb552, 3, none⟩ = some (.slice none 0 0) := (blk_cell BK552.out 3).trans rfl; have hfz22_0 := blk_frozen BK552.out 0; have hfz22_1 := blk_frozen BK552.out 1; have hfz22_2 := blk_frozen BK552.out 2; have hfz22_3 := blk_frozen BK552.out 3; obtain ⟨Ao23, co23, eo23⟩ := Kd.R_slice HO551.out; subst eo23))
   (try simp only [Act.put, List.setIfInBounds_toArray, List.set_cons_zero, List.set_cons_succ])
   go_cut [74] (fun v74 wc => ∃ (kq : Nat) (x74_7 : Bool), v74 = .bool x74_7 ∧ Aside0 (laws_FnCells.j0 kq t529 x74_7 t524 t525 t526 t533 t534 t535 t536 t546 t547 t548 t549 = some true) ∧ Aside0 (kq ≤ k) ∧ Aside0 (Kd.R k49 49 wc w.heap.size (fun k_ => some k_ ≠ ((.slice Ao17 t536.length co17) : Value).ownBlock ∧ some k_ ≠ ((.slice Ao23 t549.length co23) : Value).ownBlock) (.slice Ao12 t526.length co12) t526) ∧ Aside0 (Kd.R k49 49 wc w.heap.size (fun k_ => some k_ ≠ ((.slice Ao12 t526.length co12) : Value).ownBlock ∧ some k_ ≠ ((.slice Ao23 t549.length co23) : Value).ownBlock) (.slice Ao17 t536.length co17) t536) ∧ Aside0 (Kd.R k49 49 wc w.heap.size (fun k_ => some k_ ≠ ((.slice Ao12 t526.length co12) : Value).ownBlock ∧ some k_ ≠ ((.slice Ao17 t536.length co17) : Value).ownBlock) (.slice Ao23 t549.length co23) t549) ∧ Aside0 (wc.heap[gb532]? = some (.cells #[.int .i64 t524, .int .i64 t525, (.slice Ao12 t526.length co12)] 28 (0, 0))) ∧ Aside0 (wc.heap[gb539]? = some (.cells #[.int .i64 t533, .int .i64 t534, .int .i64 t535, (.slice Ao17 t536.length co17)] 30 (0, 0))) ∧ Aside0 (wc.heap[gb552]? = some (.cells #[.int .i64 t546, .int .i64 t547, .int .i64 t548, (.slice Ao23 t549.length co23)] 30 (0, 0))) ∧ Aside0 (Below w.heap.size w wc))
   case first =>
    have H := HC8.out
    clear HC8
    replace H := Option.bind_eq_some_iff.mp H
    obtain ⟨t553, A240, H⟩ := H
    replace H : (if t553 = 0 then ((impl_CellOf.f k t534 t535 t536 t529).bind fun bt554 => (if bt554.2 = t530 then (if t535 = t531 then (if t546 = 0 then ((impl_CellOf.f k t547 t548 t549 t529).bind fun bt556 => (laws_FnCells.j0 k t529 (bt556.1 != 4) t524 t525 t526 t533 t534 t535 t536 t546 t547 t548 t549)) else (laws_FnCells.j0 k t529 true t524 t525 t526 t533 t534 t535 t536 t546 t547 t548 t549)) else (laws_FnCells.j0 k t529 true t524 t525 t526 t533 t534 t535 t536 t546 t547 t548 t549)) else (laws_FnCells.j0 k t529 true t524 t525 t526 t533 t534 t535 t536 t546 t547 t548 t549))) else (laws_FnCells.j0 k t529 true t524 t525 t526 t533 t534 t535 t536 t546 t547 t548 t549)) = some true := H
    have A24 := Aside0.mk A240
    clear A240
    by_cases c25 : t553 = 0
    ·rw [if_pos c25] at H
     have c25b0 : (t553 == 0) = true := beq_iff_eq.mpr c25
     have c25b1 : (t553 != 0) = false := bne_eq_false_iff_eq.mpr c25
     clear c25
     (first | rw [c25b0] | (simp only [i64_w, i32_w]; rw [c25b0]) | skip)
     replace H := Option.bind_eq_some_iff.mp H
     obtain ⟨⟨t554, t555⟩, A260, H⟩ := H
     replace H : (if t555 = t530 then (if t535 = t531 then (if t546 = 0 then ((impl_CellOf.f k t547 t548 t549 t529).bind fun bt556 => (laws_FnCells.j0 k t529 (bt556.1 != 4) t524 t525 t526 t533 t534 t535 t536 t546 t547 t548 t549)) else (laws_FnCells.j0 k t529 true t524 t525 t526 t533 t534 t535 t536 t546 t547 t548 t549)) else (laws_FnCells.j0 k t529 true t524 t525 t526 t533 t534 t535 t536 t546 t547 t548 t549)) else (laws_FnCells.j0 k t529 true t524 t525 t526 t533 t534 t535 t536 t546 t547 t548 t549)) = some true := H
     have A26 := Aside0.mk A260
     clear A260
     by_cases c27 : t555 = t530
     ·rw [if_pos c27] at H
      have c27b0 : (t555 == t530) = true := beq_iff_eq.mpr c27
      have c27b1 : (t555 != t530) = false := bne_eq_false_iff_eq.mpr c27
      clear c27
      by_cases c28 : t535 = t531
      ·rw [if_pos c28] at H
       have c28b0 : (t535 == t531) = true := beq_iff_eq.mpr c28
       have c28b1 : (t535 != t531) = false := bne_eq_false_iff_eq.mpr c28
       clear c28
       by_cases c29 : t546 = 0
       ·rw [if_pos c29] at H
        have c29b0 : (t546 == 0) = true := beq_iff_eq.mpr c29
        have c29b1 : (t546 != 0) = false := bne_eq_false_iff_eq.mpr c29
        clear c29
        replace H := Option.bind_eq_some_iff.mp H
        obtain ⟨⟨t556, t557⟩, A300, H⟩ := H
        replace H : (laws_FnCells.j0 k t529 (t556 != 4) t524 t525 t526 t533 t534 t535 t536 t546 t547 t548 t549) = some true := H
        have A30 := Aside0.mk A300
        clear A300
        have H' := Aside0.mk H
        clear H
        have hnb31 := NB539_532.out
        have hnc31 := NB532_539.out
        have hnb32 := NB539_552.out
        have hnc32 := NB552_539.out
        have hcz33_0 : w19.cell? ⟨gb539, 0, none⟩ = some (.int .i64 t533) := (blk_cell BK539.out 0).trans rfl
        have hcz33_1 : w19.cell? ⟨gb539, 1, none⟩ = some (.int .i64 t534) := (blk_cell BK539.out 1).trans rfl
        have hcz33_2 : w19.cell? ⟨gb539, 2, none⟩ = some (.int .i64 t535) := (blk_cell BK539.out 2).trans rfl
        have hcz33_3 : w19.cell? ⟨gb539, 3, none⟩ = some (.slice Ao17 t536.length co17) := (blk_cell BK539.out 3).trans rfl
        have hfz33_0 := blk_frozen BK539.out 0
        have hfz33_1 := blk_frozen BK539.out 1
        have hfz33_2 := blk_frozen BK539.out 2
        have hfz33_3 := blk_frozen BK539.out 3
        go_wp2_with (first | ((with_reducible refine gate_callee (f := 21) rfl ?_); refine goesL_ (some 44) rfl rfl Try.func21 (by kernel_rfl) rfl #[.agg #[.int .i64 t534, .int .i64 t535, .slice Ao17 t536.length co17]] rfl (by (try simp only [List.map_toArray, List.map_cons, List.map_nil]); first | done | rfl | (simp only [List.length_drop, List.length_take]; rfl)) ?_; (with_reducible refine (impl_PageFault.calls k t534 t535 _ _ t536 t553 _ ?side1 ?side2 A24.out).mono ?_); (case side1 => refine (Kd.R_reads' (e := 49) (base := w.heap.size) (ok := fun k_ => ((True ∧ some k_ ≠ (.slice Ao12 t526.length co12 : Value).ownBlock) ∧ some k_ ≠ (.slice Ao23 t549.length co23 : Value).ownBlock)) (n := t536.length) (c := co17) ?_).2.2; exact (by (with_reducible repeat (first | apply Kd.R_alloc | apply Kd.R_drewN | apply Kd.R_drew)); exact (Kd.R_mono (Kd.R_far (p := ⟨gb552, 3, none⟩) (Kd.R_far (p := ⟨gb552, 2, none⟩) (Kd.R_far (p := ⟨gb552, 1, none⟩) (Kd.R_far (p := ⟨gb552, 0, none⟩) (Kd.R_types HO538.out BK552.out (by decide)) (fun _ hk => hk.2) (.int .i64 t546)) (fun _ hk => hk.2) (.int .i64 t547)) (fun _ hk => hk.2) (.int .i64 t548)) (fun _ hk => hk.2) (.slice Ao23 t549.length co23)) (fun _ h_ => h_.1)))); (case side2 => exact (Kd.R_reads' HO538.out).2.1); rintro e w34 ⟨rfl, hb⟩; refine ⟨_, rfl, ?_⟩; have n0_ := Aside0.mk (Kd.R_below (by (with_reducible repeat (first | apply Kd.R_alloc | apply Kd.R_drewN | apply Kd.R_drew)); exact (Kd.R_mono (Kd.R_far (p := ⟨gb552, 3, none⟩) (Kd.R_far (p := ⟨gb552, 2, none⟩) (Kd.R_far (p := ⟨gb552, 1, none⟩) (Kd.R_far (p := ⟨gb552, 0, none⟩) (Kd.R_types HO528.out BK552.out (by decide)) (fun _ hk => hk.2) (.int .i64 t546)) (fun _ hk => hk.2) (.int .i64 t547)) (fun _ hk => hk.2) (.int .i64 t548)) (fun _ hk => hk.2) (.slice Ao23 t549.length co23)) (fun _ h_ => h_.1))) hb); have n1_ := Aside0.mk (Kd.R_below (by (with_reducible repeat (first | apply Kd.R_alloc | apply Kd.R_drewN | apply Kd.R_drew)); exact (Kd.R_mono (Kd.R_far (p := ⟨gb552, 3, none⟩) (Kd.R_far (p := ⟨gb552, 2, none⟩) (Kd.R_far (p := ⟨gb552, 1, none⟩) (Kd.R_far (p := ⟨gb552, 0, none⟩) (Kd.R_types HO538.out BK552.out (by decide)) (fun _ hk => hk.2) (.int .i64 t546)) (fun _ hk => hk.2) (.int .i64 t547)) (fun _ hk => hk.2) (.int .i64 t548)) (fun _ hk => hk.2) (.slice Ao23 t549.length co23)) (fun _ h_ => h_.1))) hb); have n2_ := Aside0.mk (Kd.R_below (by (with_reducible repeat (first | apply Kd.R_alloc | apply Kd.R_drewN | apply Kd.R_drew)); exact (Kd.R_mono (Kd.R_far (p := ⟨gb552, 3, none⟩) (Kd.R_far (p := ⟨gb552, 2, none⟩) (Kd.R_far (p := ⟨gb552, 1, none⟩) (Kd.R_far (p := ⟨gb552, 0, none⟩) (Kd.R_types HO551.out BK552.out (by decide)) (fun _ hk => hk.2) (.int .i64 t546)) (fun _ hk => hk.2) (.int .i64 t547)) (fun _ hk => hk.2) (.int .i64 t548)) (fun _ hk => hk.2) (.slice Ao23 t549.length co23)) (fun _ h_ => h_.1))) hb); have n3_ := Aside0.mk (blk_below (g := gb532) (o := .cells #[.int .i64 t524, .int .i64 t525, .slice Ao12 t526.length co12] 28 (0, 0)) (by (with_reducible repeat (first | refine blk_drewN ?_ _ | refine blk_drew ?_ | refine blk_alloc ?_ _)); refine blk_far ?_ NB532_552.out _; (with_reducible repeat (first | refine blk_drewN ?_ _ | refine blk_drew ?_ | refine blk_alloc ?_ _)); refine blk_far ?_ NB532_552.out _; (with_reducible repeat (first | refine blk_drewN ?_ _ | refine blk_drew ?_ | refine blk_alloc ?_ _)); refine blk_far ?_ NB532_552.out _; (with_reducible repeat (first | refine blk_drewN ?_ _ | refine blk_drew ?_ | refine blk_alloc ?_ _)); refine blk_far ?_ NB532_552.out _; (with_reducible repeat (first | refine blk_drewN ?_ _ | refine blk_drew ?_ | refine blk_alloc ?_ _)); exact BK532.out) hb); have n4_ := Aside0.mk (blk_below (g := gb539) (o := .cells #[.int .i64 t533, .int .i64 t534, .int .i64 t535, .slice Ao17 t536.length co17] 30 (0, 0)) (by (with_reducible repeat (first | refine blk_drewN ?_ _ | refine blk_drew ?_ | refine blk_alloc ?_ _)); refine blk_far ?_ NB539_552.out _; (with_reducible repeat (first | refine blk_drewN ?_ _ | refine blk_drew ?_ | refine blk_alloc ?_ _)); refine blk_far ?_ NB539_552.out _; (with_reducible repeat (first | refine blk_drewN ?_ _ | refine blk_drew ?_ | refine blk_alloc ?_ _)); refine blk_far ?_ NB539_552.out _; (with_reducible repeat (first | refine blk_drewN ?_ _ | refine blk_drew ?_ | refine blk_alloc ?_ _)); refine blk_far ?_ NB539_552.out _; (with_reducible repeat (first | refine blk_drewN ?_ _ | refine blk_drew ?_ | refine blk_alloc ?_ _)); exact BK539.out) hb); have n5_ := Aside0.mk (blk_below (g := gb552) (o := .cells #[.int .i64 t546, .int .i64 t547, .int .i64 t548, .slice Ao23 t549.length co23] 30 (0, 0)) (by (with_reducible repeat (first | refine blk_drewN ?_ _ | refine blk_drew ?_ | refine blk_alloc ?_ _)); refine blk_put (cs := #[.int .i64 t546, .int .i64 t547, .int .i64 t548, .slice none 0 0]) ?_ 3 _ rfl; (with_reducible repeat (first | refine blk_drewN ?_ _ | refine blk_drew ?_ | refine blk_alloc ?_ _)); refine blk_put (cs := #[.int .i64 t546, .int .i64 t547, .int .i64 0, .slice none 0 0]) ?_ 2 _ rfl; (with_reducible repeat (first | refine blk_drewN ?_ _ | refine blk_drew ?_ | refine blk_alloc ?_ _)); refine blk_put (cs := #[.int .i64 t546, .int .i64 0, .int .i64 0, .slice none 0 0]) ?_ 1 _ rfl; (with_reducible repeat (first | refine blk_drewN ?_ _ | refine blk_drew ?_ | refine blk_alloc ?_ _)); refine blk_put (cs := #[.int .i64 0, .int .i64 0, .int .i64 0, .slice none 0 0]) ?_ 0 _ rfl; (with_reducible repeat (first | refine blk_drewN ?_ _ | refine blk_drew ?_ | refine blk_alloc ?_ _)); exact BK552.out) hb); have n6_ := Aside0.mk (below_step (by repeat (first | (with_reducible first | exact HB.out | apply below_alloc | apply pw_below_drewN | apply below_drew1 | refine below_set ?_ GE532.out | refine below_set ?_ GE539.out | refine below_set ?_ GE552.out) | exact HB.out)) hb); clear HO528; clear HO538; clear HO551; clear BK532; clear BK539; clear BK552; clear HB; have HO528 := n0_; have HO538 := n1_; have HO551 := n2_; have BK532 := n3_; have BK539 := n4_; have BK552 := n5_; have HB := n6_; clear n0_ n1_ n2_ n3_ n4_ n5_ n6_; (try clear hb); (try clear hb2); (try clear hk); (try clear hi); have hcz35_0 : w34.cell? ⟨gb539, 0, none⟩ = some (.int .i64 t533) := (blk_cell BK539.out 0).trans rfl; have hcz35_1 : w34.cell? ⟨gb539, 1, none⟩ = some (.int .i64 t534) := (blk_cell BK539.out 1).trans rfl; have hcz35_2 : w34.cell? ⟨gb539, 2, none⟩ = some (.int .i64 t535) := (blk_cell BK539.out 2).trans rfl; have hcz35_3 : w34.cell? ⟨gb539, 3, none⟩ = some (.slice Ao17 t536.length co17) := (blk_cell BK539.out 3).trans rfl; have hfz35_0 := blk_frozen BK539.out 0; have hfz35_1 := blk_frozen BK539.out 1; have hfz35_2 := blk_frozen BK539.out 2; have hfz35_3 := blk_frozen BK539.out 3) | (go_at_call 22; (with_reducible refine (impl_CellOf.calls k t534 t535 _ _ t536 t529 t554 t555 _ ?side1 ?side2 A26.out).mono ?_); (case side1 => repeat (first | exact (Kd.R_reads' HO538.out).2.2 | (with_reducible refine Kd.C_alloc ?_ _) | (with_reducible refine Kd.C_drewN ?_ _) | (with_reducible refine Kd.C_drew ?_))); (case side2 => exact (Kd.R_reads' HO538.out).2.1); rintro e w36 ⟨rfl, hb⟩; have n0_ := Aside0.mk (Kd.R_below (by (with_reducible repeat (first | apply Kd.R_alloc | apply Kd.R_drewN | apply Kd.R_drew)); exact HO528.out) hb); have n1_ := Aside0.mk (Kd.R_below (by (with_reducible repeat (first | apply Kd.R_alloc | apply Kd.R_drewN | apply Kd.R_drew)); exact HO538.out) hb); have n2_ := Aside0.mk (Kd.R_below (by (with_reducible repeat (first | apply Kd.R_alloc | apply Kd.R_drewN | apply Kd.R_drew)); exact HO551.out) hb); have n3_ := Aside0.mk (blk_below (g := gb532) (o := .cells #[.int .i64 t524, .int .i64 t525, .slice Ao12 t526.length co12] 28 (0, 0)) (by (with_reducible repeat (first | refine blk_drewN ?_ _ | refine blk_drew ?_ | refine blk_alloc ?_ _)); exact BK532.out) hb); have n4_ := Aside0.mk (blk_below (g := gb539) (o := .cells #[.int .i64 t533, .int .i64 t534, .int .i64 t535, .slice Ao17 t536.length co17] 30 (0, 0)) (by (with_reducible repeat (first | refine blk_drewN ?_ _ | refine blk_drew ?_ | refine blk_alloc ?_ _)); exact BK539.out) hb); have n5_ := Aside0.mk (blk_below (g := gb552) (o := .cells #[.int .i64 t546, .int .i64 t547, .int .i64 t548, .slice Ao23 t549.length co23] 30 (0, 0)) (by (with_reducible repeat (first | refine blk_drewN ?_ _ | refine blk_drew ?_ | refine blk_alloc ?_ _)); exact BK552.out) hb); have n6_ := Aside0.mk (below_step (by repeat (first | (with_reducible first | exact HB.out | apply below_alloc | apply pw_below_drewN | apply below_drew1 | refine below_set ?_ GE532.out | refine below_set ?_ GE539.out | refine below_set ?_ GE552.out) | exact HB.out)) hb); clear HO528; clear HO538; clear HO551; clear BK532; clear BK539; clear BK552; clear HB; have HO528 := n0_; have HO538 := n1_; have HO551 := n2_; have BK532 := n3_; have BK539 := n4_; have BK552 := n5_; have HB := n6_; clear n0_ n1_ n2_ n3_ n4_ n5_ n6_; (try clear hb); (try clear hb2); (try clear hk); (try clear hi); have hcz37_0 : w36.cell? ⟨gb539, 0, none⟩ = some (.int .i64 t533) := (blk_cell BK539.out 0).trans rfl; have hcz37_1 : w36.cell? ⟨gb539, 1, none⟩ = some (.int .i64 t534) := (blk_cell BK539.out 1).trans rfl; have hcz37_2 : w36.cell? ⟨gb539, 2, none⟩ = some (.int .i64 t535) := (blk_cell BK539.out 2).trans rfl; have hcz37_3 : w36.cell? ⟨gb539, 3, none⟩ = some (.slice Ao17 t536.length co17) := (blk_cell BK539.out 3).trans rfl; have hfz37_0 := blk_frozen BK539.out 0; have hfz37_1 := blk_frozen BK539.out 1; have hfz37_2 := blk_frozen BK539.out 2; have hfz37_3 := blk_frozen BK539.out 3; have hnb38 := NB552_532.out; have hnc38 := NB532_552.out; have hcz39_0 : w36.cell? ⟨gb552, 0, none⟩ = some (.int .i64 t546) := (blk_cell BK552.out 0).trans rfl; have hcz39_1 : w36.cell? ⟨gb552, 1, none⟩ = some (.int .i64 t547) := (blk_cell BK552.out 1).trans rfl; have hcz39_2 : w36.cell? ⟨gb552, 2, none⟩ = some (.int .i64 t548) := (blk_cell BK552.out 2).trans rfl; have hcz39_3 : w36.cell? ⟨gb552, 3, none⟩ = some (.slice Ao23 t549.length co23) := (blk_cell BK552.out 3).trans rfl; have hfz39_0 := blk_frozen BK552.out 0; have hfz39_1 := blk_frozen BK552.out 1; have hfz39_2 := blk_frozen BK552.out 2; have hfz39_3 := blk_frozen BK552.out 3) | (go_at_call 22; (with_reducible refine (impl_CellOf.calls k t547 t548 _ _ t549 t529 t556 t557 _ ?side1 ?side2 A30.out).mono ?_); (case side1 => repeat (first | exact (Kd.R_reads' HO551.out).2.2 | (with_reducible refine Kd.C_alloc ?_ _) | (with_reducible refine Kd.C_drewN ?_ _) | (with_reducible refine Kd.C_drew ?_))); (case side2 => exact (Kd.R_reads' HO551.out).2.1); rintro e w40 ⟨rfl, hb⟩; have n0_ := Aside0.mk (Kd.R_below (by (with_reducible repeat (first | apply Kd.R_alloc | apply Kd.R_drewN | apply Kd.R_drew)); exact HO528.out) hb); have n1_ := Aside0.mk (Kd.R_below (by (with_reducible repeat (first | apply Kd.R_alloc | apply Kd.R_drewN | apply Kd.R_drew)); exact HO538.out) hb); have n2_ := Aside0.mk (Kd.R_below (by (with_reducible repeat (first | apply Kd.R_alloc | apply Kd.R_drewN | apply Kd.R_drew)); exact HO551.out) hb); have n3_ := Aside0.mk (blk_below (g := gb532) (o := .cells #[.int .i64 t524, .int .i64 t525, .slice Ao12 t526.length co12] 28 (0, 0)) (by (with_reducible repeat (first | refine blk_drewN ?_ _ | refine blk_drew ?_ | refine blk_alloc ?_ _)); exact BK532.out) hb); have n4_ := Aside0.mk (blk_below (g := gb539) (o := .cells #[.int .i64 t533, .int .i64 t534, .int .i64 t535, .slice Ao17 t536.length co17] 30 (0, 0)) (by (with_reducible repeat (first | refine blk_drewN ?_ _ | refine blk_drew ?_ | refine blk_alloc ?_ _)); exact BK539.out) hb); have n5_ := Aside0.mk (blk_below (g := gb552) (o := .cells #[.int .i64 t546, .int .i64 t547, .int .i64 t548, .slice Ao23 t549.length co23] 30 (0, 0)) (by (with_reducible repeat (first | refine blk_drewN ?_ _ | refine blk_drew ?_ | refine blk_alloc ?_ _)); exact BK552.out) hb); have n6_ := Aside0.mk (below_step (by repeat (first | (with_reducible first | exact HB.out | apply below_alloc | apply pw_below_drewN | apply below_drew1 | refine below_set ?_ GE532.out | refine below_set ?_ GE539.out | refine below_set ?_ GE552.out) | exact HB.out)) hb); clear HO528; clear HO538; clear HO551; clear BK532; clear BK539; clear BK552; clear HB; have HO528 := n0_; have HO538 := n1_; have HO551 := n2_; have BK532 := n3_; have BK539 := n4_; have BK552 := n5_; have HB := n6_; clear n0_ n1_ n2_ n3_ n4_ n5_ n6_; (try clear hb); (try clear hb2); (try clear hk); (try clear hi)))
        go_meet
        case rel => exact ⟨_, ((t556 != 4)), (by first | rfl | (simp; done) | (simp [*]; done)), H', ⟨by first | omega | exact Nat.le_refl _⟩, ⟨by (with_reducible repeat (first | apply Kd.R_alloc | apply Kd.R_drewN | apply Kd.R_drew)); exact Kd.R_mono HO528.out (fun _ hk => ⟨hk.1.2, hk.2⟩)⟩, ⟨by (with_reducible repeat (first | apply Kd.R_alloc | apply Kd.R_drewN | apply Kd.R_drew)); exact Kd.R_mono HO538.out (fun _ hk => ⟨hk.1.2, hk.2⟩)⟩, ⟨by (with_reducible repeat (first | apply Kd.R_alloc | apply Kd.R_drewN | apply Kd.R_drew)); exact Kd.R_mono HO551.out (fun _ hk => ⟨hk.1.2, hk.2⟩)⟩, ⟨by (with_reducible repeat (first | refine blk_drewN ?_ _ | refine blk_drew ?_ | refine blk_alloc ?_ _)); exact BK532.out⟩, ⟨by (with_reducible repeat (first | refine blk_drewN ?_ _ | refine blk_drew ?_ | refine blk_alloc ?_ _)); exact BK539.out⟩, ⟨by (with_reducible repeat (first | refine blk_drewN ?_ _ | refine blk_drew ?_ | refine blk_alloc ?_ _)); exact BK552.out⟩, ⟨by repeat (first | (with_reducible first | exact HB.out | apply below_alloc | apply pw_below_drewN | apply below_drew1 | refine below_set ?_ GE532.out | refine below_set ?_ GE539.out | refine below_set ?_ GE552.out) | exact HB.out)⟩⟩
       ·rw [if_neg c29] at H
        have c29b0 : (t546 == 0) = false := beq_eq_false_iff_ne.mpr c29
        have c29b1 : (t546 != 0) = true := bne_iff_ne.mpr c29
        have H' := Aside0.mk H
        clear H
        have hnb41 := NB539_532.out
        have hnc41 := NB532_539.out
        have hnb42 := NB539_552.out
        have hnc42 := NB552_539.out
        have hcz43_0 : w19.cell? ⟨gb539, 0, none⟩ = some (.int .i64 t533) := (blk_cell BK539.out 0).trans rfl
        have hcz43_1 : w19.cell? ⟨gb539, 1, none⟩ = some (.int .i64 t534) := (blk_cell BK539.out 1).trans rfl
        have hcz43_2 : w19.cell? ⟨gb539, 2, none⟩ = some (.int .i64 t535) := (blk_cell BK539.out 2).trans rfl
        have hcz43_3 : w19.cell? ⟨gb539, 3, none⟩ = some (.slice Ao17 t536.length co17) := (blk_cell BK539.out 3).trans rfl
        have hfz43_0 := blk_frozen BK539.out 0
        have hfz43_1 := blk_frozen BK539.out 1
        have hfz43_2 := blk_frozen BK539.out 2
        have hfz43_3 := blk_frozen BK539.out 3
        go_wp2_with (first | ((with_reducible refine gate_callee (f := 21) rfl ?_); refine goesL_ (some 44) rfl rfl Try.func21 (by kernel_rfl) rfl #[.agg #[.int .i64 t534, .int .i64 t535, .slice Ao17 t536.length co17]] rfl (by (try simp only [List.map_toArray, List.map_cons, List.map_nil]); first | done | rfl | (simp only [List.length_drop, List.length_take]; rfl)) ?_; (with_reducible refine (impl_PageFault.calls k t534 t535 _ _ t536 t553 _ ?side1 ?side2 A24.out).mono ?_); (case side1 => refine (Kd.R_reads' (e := 49) (base := w.heap.size) (ok := fun k_ => ((True ∧ some k_ ≠ (.slice Ao12 t526.length co12 : Value).ownBlock) ∧ some k_ ≠ (.slice Ao23 t549.length co23 : Value).ownBlock)) (n := t536.length) (c := co17) ?_).2.2; exact (by (with_reducible repeat (first | apply Kd.R_alloc | apply Kd.R_drewN | apply Kd.R_drew)); exact (Kd.R_mono (Kd.R_far (p := ⟨gb552, 3, none⟩) (Kd.R_far (p := ⟨gb552, 2, none⟩) (Kd.R_far (p := ⟨gb552, 1, none⟩) (Kd.R_far (p := ⟨gb552, 0, none⟩) (Kd.R_types HO538.out BK552.out (by decide)) (fun _ hk => hk.2) (.int .i64 t546)) (fun _ hk => hk.2) (.int .i64 t547)) (fun _ hk => hk.2) (.int .i64 t548)) (fun _ hk => hk.2) (.slice Ao23 t549.length co23)) (fun _ h_ => h_.1)))); (case side2 => exact (Kd.R_reads' HO538.out).2.1); rintro e w44 ⟨rfl, hb⟩; refine ⟨_, rfl, ?_⟩; have n0_ := Aside0.mk (Kd.R_below (by (with_reducible repeat (first | apply Kd.R_alloc | apply Kd.R_drewN | apply Kd.R_drew)); exact (Kd.R_mono (Kd.R_far (p := ⟨gb552, 3, none⟩) (Kd.R_far (p := ⟨gb552, 2, none⟩) (Kd.R_far (p := ⟨gb552, 1, none⟩) (Kd.R_far (p := ⟨gb552, 0, none⟩) (Kd.R_types HO528.out BK552.out (by decide)) (fun _ hk => hk.2) (.int .i64 t546)) (fun _ hk => hk.2) (.int .i64 t547)) (fun _ hk => hk.2) (.int .i64 t548)) (fun _ hk => hk.2) (.slice Ao23 t549.length co23)) (fun _ h_ => h_.1))) hb); have n1_ := Aside0.mk (Kd.R_below (by (with_reducible repeat (first | apply Kd.R_alloc | apply Kd.R_drewN | apply Kd.R_drew)); exact (Kd.R_mono (Kd.R_far (p := ⟨gb552, 3, none⟩) (Kd.R_far (p := ⟨gb552, 2, none⟩) (Kd.R_far (p := ⟨gb552, 1, none⟩) (Kd.R_far (p := ⟨gb552, 0, none⟩) (Kd.R_types HO538.out BK552.out (by decide)) (fun _ hk => hk.2) (.int .i64 t546)) (fun _ hk => hk.2) (.int .i64 t547)) (fun _ hk => hk.2) (.int .i64 t548)) (fun _ hk => hk.2) (.slice Ao23 t549.length co23)) (fun _ h_ => h_.1))) hb); have n2_ := Aside0.mk (Kd.R_below (by (with_reducible repeat (first | apply Kd.R_alloc | apply Kd.R_drewN | apply Kd.R_drew)); exact (Kd.R_mono (Kd.R_far (p := ⟨gb552, 3, none⟩) (Kd.R_far (p := ⟨gb552, 2, none⟩) (Kd.R_far (p := ⟨gb552, 1, none⟩) (Kd.R_far (p := ⟨gb552, 0, none⟩) (Kd.R_types HO551.out BK552.out (by decide)) (fun _ hk => hk.2) (.int .i64 t546)) (fun _ hk => hk.2) (.int .i64 t547)) (fun _ hk => hk.2) (.int .i64 t548)) (fun _ hk => hk.2) (.slice Ao23 t549.length co23)) (fun _ h_ => h_.1))) hb); have n3_ := Aside0.mk (blk_below (g := gb532) (o := .cells #[.int .i64 t524, .int .i64 t525, .slice Ao12 t526.length co12] 28 (0, 0)) (by (with_reducible repeat (first | refine blk_drewN ?_ _ | refine blk_drew ?_ | refine blk_alloc ?_ _)); refine blk_far ?_ NB532_552.out _; (with_reducible repeat (first | refine blk_drewN ?_ _ | refine blk_drew ?_ | refine blk_alloc ?_ _)); refine blk_far ?_ NB532_552.out _; (with_reducible repeat (first | refine blk_drewN ?_ _ | refine blk_drew ?_ | refine blk_alloc ?_ _)); refine blk_far ?_ NB532_552.out _; (with_reducible repeat (first | refine blk_drewN ?_ _ | refine blk_drew ?_ | refine blk_alloc ?_ _)); refine blk_far ?_ NB532_552.out _; (with_reducible repeat (first | refine blk_drewN ?_ _ | refine blk_drew ?_ | refine blk_alloc ?_ _)); exact BK532.out) hb); have n4_ := Aside0.mk (blk_below (g := gb539) (o := .cells #[.int .i64 t533, .int .i64 t534, .int .i64 t535, .slice Ao17 t536.length co17] 30 (0, 0)) (by (with_reducible repeat (first | refine blk_drewN ?_ _ | refine blk_drew ?_ | refine blk_alloc ?_ _)); refine blk_far ?_ NB539_552.out _; (with_reducible repeat (first | refine blk_drewN ?_ _ | refine blk_drew ?_ | refine blk_alloc ?_ _)); refine blk_far ?_ NB539_552.out _; (with_reducible repeat (first | refine blk_drewN ?_ _ | refine blk_drew ?_ | refine blk_alloc ?_ _)); refine blk_far ?_ NB539_552.out _; (with_reducible repeat (first | refine blk_drewN ?_ _ | refine blk_drew ?_ | refine blk_alloc ?_ _)); refine blk_far ?_ NB539_552.out _; (with_reducible repeat (first | refine blk_drewN ?_ _ | refine blk_drew ?_ | refine blk_alloc ?_ _)); exact BK539.out) hb); have n5_ := Aside0.mk (blk_below (g := gb552) (o := .cells #[.int .i64 t546, .int .i64 t547, .int .i64 t548, .slice Ao23 t549.length co23] 30 (0, 0)) (by (with_reducible repeat (first | refine blk_drewN ?_ _ | refine blk_drew ?_ | refine blk_alloc ?_ _)); refine blk_put (cs := #[.int .i64 t546, .int .i64 t547, .int .i64 t548, .slice none 0 0]) ?_ 3 _ rfl; (with_reducible repeat (first | refine blk_drewN ?_ _ | refine blk_drew ?_ | refine blk_alloc ?_ _)); refine blk_put (cs := #[.int .i64 t546, .int .i64 t547, .int .i64 0, .slice none 0 0]) ?_ 2 _ rfl; (with_reducible repeat (first | refine blk_drewN ?_ _ | refine blk_drew ?_ | refine blk_alloc ?_ _)); refine blk_put (cs := #[.int .i64 t546, .int .i64 0, .int .i64 0, .slice none 0 0]) ?_ 1 _ rfl; (with_reducible repeat (first | refine blk_drewN ?_ _ | refine blk_drew ?_ | refine blk_alloc ?_ _)); refine blk_put (cs := #[.int .i64 0, .int .i64 0, .int .i64 0, .slice none 0 0]) ?_ 0 _ rfl; (with_reducible repeat (first | refine blk_drewN ?_ _ | refine blk_drew ?_ | refine blk_alloc ?_ _)); exact BK552.out) hb); have n6_ := Aside0.mk (below_step (by repeat (first | (with_reducible first | exact HB.out | apply below_alloc | apply pw_below_drewN | apply below_drew1 | refine below_set ?_ GE532.out | refine below_set ?_ GE539.out | refine below_set ?_ GE552.out) | exact HB.out)) hb); clear HO528; clear HO538; clear HO551; clear BK532; clear BK539; clear BK552; clear HB; have HO528 := n0_; have HO538 := n1_; have HO551 := n2_; have BK532 := n3_; have BK539 := n4_; have BK552 := n5_; have HB := n6_; clear n0_ n1_ n2_ n3_ n4_ n5_ n6_; (try clear hb); (try clear hb2); (try clear hk); (try clear hi); have hcz45_0 : w44.cell? ⟨gb539, 0, none⟩ = some (.int .i64 t533) := (blk_cell BK539.out 0).trans rfl; have hcz45_1 : w44.cell? ⟨gb539, 1, none⟩ = some (.int .i64 t534) := (blk_cell BK539.out 1).trans rfl; have hcz45_2 : w44.cell? ⟨gb539, 2, none⟩ = some (.int .i64 t535) := (blk_cell BK539.out 2).trans rfl; have hcz45_3 : w44.cell? ⟨gb539, 3, none⟩ = some (.slice Ao17 t536.length co17) := (blk_cell BK539.out 3).trans rfl; have hfz45_0 := blk_frozen BK539.out 0; have hfz45_1 := blk_frozen BK539.out 1; have hfz45_2 := blk_frozen BK539.out 2; have hfz45_3 := blk_frozen BK539.out 3) | (go_at_call 22; (with_reducible refine (impl_CellOf.calls k t534 t535 _ _ t536 t529 t554 t555 _ ?side1 ?side2 A26.out).mono ?_); (case side1 => repeat (first | exact (Kd.R_reads' HO538.out).2.2 | (with_reducible refine Kd.C_alloc ?_ _) | (with_reducible refine Kd.C_drewN ?_ _) | (with_reducible refine Kd.C_drew ?_))); (case side2 => exact (Kd.R_reads' HO538.out).2.1); rintro e w46 ⟨rfl, hb⟩; have n0_ := Aside0.mk (Kd.R_below (by (with_reducible repeat (first | apply Kd.R_alloc | apply Kd.R_drewN | apply Kd.R_drew)); exact HO528.out) hb); have n1_ := Aside0.mk (Kd.R_below (by (with_reducible repeat (first | apply Kd.R_alloc | apply Kd.R_drewN | apply Kd.R_drew)); exact HO538.out) hb); have n2_ := Aside0.mk (Kd.R_below (by (with_reducible repeat (first | apply Kd.R_alloc | apply Kd.R_drewN | apply Kd.R_drew)); exact HO551.out) hb); have n3_ := Aside0.mk (blk_below (g := gb532) (o := .cells #[.int .i64 t524, .int .i64 t525, .slice Ao12 t526.length co12] 28 (0, 0)) (by (with_reducible repeat (first | refine blk_drewN ?_ _ | refine blk_drew ?_ | refine blk_alloc ?_ _)); exact BK532.out) hb); have n4_ := Aside0.mk (blk_below (g := gb539) (o := .cells #[.int .i64 t533, .int .i64 t534, .int .i64 t535, .slice Ao17 t536.length co17] 30 (0, 0)) (by (with_reducible repeat (first | refine blk_drewN ?_ _ | refine blk_drew ?_ | refine blk_alloc ?_ _)); exact BK539.out) hb); have n5_ := Aside0.mk (blk_below (g := gb552) (o := .cells #[.int .i64 t546, .int .i64 t547, .int .i64 t548, .slice Ao23 t549.length co23] 30 (0, 0)) (by (with_reducible repeat (first | refine blk_drewN ?_ _ | refine blk_drew ?_ | refine blk_alloc ?_ _)); exact BK552.out) hb); have n6_ := Aside0.mk (below_step (by repeat (first | (with_reducible first | exact HB.out | apply below_alloc | apply pw_below_drewN | apply below_drew1 | refine below_set ?_ GE532.out | refine below_set ?_ GE539.out | refine below_set ?_ GE552.out) | exact HB.out)) hb); clear HO528; clear HO538; clear HO551; clear BK532; clear BK539; clear BK552; clear HB; have HO528 := n0_; have HO538 := n1_; have HO551 := n2_; have BK532 := n3_; have BK539 := n4_; have BK552 := n5_; have HB := n6_; clear n0_ n1_ n2_ n3_ n4_ n5_ n6_; (try clear hb); (try clear hb2); (try clear hk); (try clear hi); have hcz47_0 : w46.cell? ⟨gb539, 0, none⟩ = some (.int .i64 t533) := (blk_cell BK539.out 0).trans rfl; have hcz47_1 : w46.cell? ⟨gb539, 1, none⟩ = some (.int .i64 t534) := (blk_cell BK539.out 1).trans rfl; have hcz47_2 : w46.cell? ⟨gb539, 2, none⟩ = some (.int .i64 t535) := (blk_cell BK539.out 2).trans rfl; have hcz47_3 : w46.cell? ⟨gb539, 3, none⟩ = some (.slice Ao17 t536.length co17) := (blk_cell BK539.out 3).trans rfl; have hfz47_0 := blk_frozen BK539.out 0; have hfz47_1 := blk_frozen BK539.out 1; have hfz47_2 := blk_frozen BK539.out 2; have hfz47_3 := blk_frozen BK539.out 3; have hnb48 := NB552_532.out; have hnc48 := NB532_552.out; have hcz49_0 : w46.cell? ⟨gb552, 0, none⟩ = some (.int .i64 t546) := (blk_cell BK552.out 0).trans rfl; have hcz49_1 : w46.cell? ⟨gb552, 1, none⟩ = some (.int .i64 t547) := (blk_cell BK552.out 1).trans rfl; have hcz49_2 : w46.cell? ⟨gb552, 2, none⟩ = some (.int .i64 t548) := (blk_cell BK552.out 2).trans rfl; have hcz49_3 : w46.cell? ⟨gb552, 3, none⟩ = some (.slice Ao23 t549.length co23) := (blk_cell BK552.out 3).trans rfl; have hfz49_0 := blk_frozen BK552.out 0; have hfz49_1 := blk_frozen BK552.out 1; have hfz49_2 := blk_frozen BK552.out 2; have hfz49_3 := blk_frozen BK552.out 3))
        go_meet
        case rel => exact ⟨_, (true), (by first | rfl | (simp; done) | (simp [*]; done)), H', ⟨by first | omega | exact Nat.le_refl _⟩, ⟨by (with_reducible repeat (first | apply Kd.R_alloc | apply Kd.R_drewN | apply Kd.R_drew)); exact Kd.R_mono HO528.out (fun _ hk => ⟨hk.1.2, hk.2⟩)⟩, ⟨by (with_reducible repeat (first | apply Kd.R_alloc | apply Kd.R_drewN | apply Kd.R_drew)); exact Kd.R_mono HO538.out (fun _ hk => ⟨hk.1.2, hk.2⟩)⟩, ⟨by (with_reducible repeat (first | apply Kd.R_alloc | apply Kd.R_drewN | apply Kd.R_drew)); exact Kd.R_mono HO551.out (fun _ hk => ⟨hk.1.2, hk.2⟩)⟩, ⟨by (with_reducible repeat (first | refine blk_drewN ?_ _ | refine blk_drew ?_ | refine blk_alloc ?_ _)); exact BK532.out⟩, ⟨by (with_reducible repeat (first | refine blk_drewN ?_ _ | refine blk_drew ?_ | refine blk_alloc ?_ _)); exact BK539.out⟩, ⟨by (with_reducible repeat (first | refine blk_drewN ?_ _ | refine blk_drew ?_ | refine blk_alloc ?_ _)); exact BK552.out⟩, ⟨by repeat (first | (with_reducible first | exact HB.out | apply below_alloc | apply pw_below_drewN | apply below_drew1 | refine below_set ?_ GE532.out | refine below_set ?_ GE539.out | refine below_set ?_ GE552.out) | exact HB.out)⟩⟩
      ·rw [if_neg c28] at H
       have c28b0 : (t535 == t531) = false := beq_eq_false_iff_ne.mpr c28
       have c28b1 : (t535 != t531) = true := bne_iff_ne.mpr c28
       have H' := Aside0.mk H
       clear H
       have hnb50 := NB539_532.out
       have hnc50 := NB532_539.out
       have hnb51 := NB539_552.out
       have hnc51 := NB552_539.out
       have hcz52_0 : w19.cell? ⟨gb539, 0, none⟩ = some (.int .i64 t533) := (blk_cell BK539.out 0).trans rfl
       have hcz52_1 : w19.cell? ⟨gb539, 1, none⟩ = some (.int .i64 t534) := (blk_cell BK539.out 1).trans rfl
       have hcz52_2 : w19.cell? ⟨gb539, 2, none⟩ = some (.int .i64 t535) := (blk_cell BK539.out 2).trans rfl
       have hcz52_3 : w19.cell? ⟨gb539, 3, none⟩ = some (.slice Ao17 t536.length co17) := (blk_cell BK539.out 3).trans rfl
       have hfz52_0 := blk_frozen BK539.out 0
       have hfz52_1 := blk_frozen BK539.out 1
       have hfz52_2 := blk_frozen BK539.out 2
       have hfz52_3 := blk_frozen BK539.out 3
       go_wp2_with (first | ((with_reducible refine gate_callee (f := 21) rfl ?_); refine goesL_ (some 44) rfl rfl Try.func21 (by kernel_rfl) rfl #[.agg #[.int .i64 t534, .int .i64 t535, .slice Ao17 t536.length co17]] rfl (by (try simp only [List.map_toArray, List.map_cons, List.map_nil]); first | done | rfl | (simp only [List.length_drop, List.length_take]; rfl)) ?_; (with_reducible refine (impl_PageFault.calls k t534 t535 _ _ t536 t553 _ ?side1 ?side2 A24.out).mono ?_); (case side1 => refine (Kd.R_reads' (e := 49) (base := w.heap.size) (ok := fun k_ => ((True ∧ some k_ ≠ (.slice Ao12 t526.length co12 : Value).ownBlock) ∧ some k_ ≠ (.slice Ao23 t549.length co23 : Value).ownBlock)) (n := t536.length) (c := co17) ?_).2.2; exact (by (with_reducible repeat (first | apply Kd.R_alloc | apply Kd.R_drewN | apply Kd.R_drew)); exact (Kd.R_mono (Kd.R_far (p := ⟨gb552, 3, none⟩) (Kd.R_far (p := ⟨gb552, 2, none⟩) (Kd.R_far (p := ⟨gb552, 1, none⟩) (Kd.R_far (p := ⟨gb552, 0, none⟩) (Kd.R_types HO538.out BK552.out (by decide)) (fun _ hk => hk.2) (.int .i64 t546)) (fun _ hk => hk.2) (.int .i64 t547)) (fun _ hk => hk.2) (.int .i64 t548)) (fun _ hk => hk.2) (.slice Ao23 t549.length co23)) (fun _ h_ => h_.1)))); (case side2 => exact (Kd.R_reads' HO538.out).2.1); rintro e w53 ⟨rfl, hb⟩; refine ⟨_, rfl, ?_⟩; have n0_ := Aside0.mk (Kd.R_below (by (with_reducible repeat (first | apply Kd.R_alloc | apply Kd.R_drewN | apply Kd.R_drew)); exact (Kd.R_mono (Kd.R_far (p := ⟨gb552, 3, none⟩) (Kd.R_far (p := ⟨gb552, 2, none⟩) (Kd.R_far (p := ⟨gb552, 1, none⟩) (Kd.R_far (p := ⟨gb552, 0, none⟩) (Kd.R_types HO528.out BK552.out (by decide)) (fun _ hk => hk.2) (.int .i64 t546)) (fun _ hk => hk.2) (.int .i64 t547)) (fun _ hk => hk.2) (.int .i64 t548)) (fun _ hk => hk.2) (.slice Ao23 t549.length co23)) (fun _ h_ => h_.1))) hb); have n1_ := Aside0.mk (Kd.R_below (by (with_reducible repeat (first | apply Kd.R_alloc | apply Kd.R_drewN | apply Kd.R_drew)); exact (Kd.R_mono (Kd.R_far (p := ⟨gb552, 3, none⟩) (Kd.R_far (p := ⟨gb552, 2, none⟩) (Kd.R_far (p := ⟨gb552, 1, none⟩) (Kd.R_far (p := ⟨gb552, 0, none⟩) (Kd.R_types HO538.out BK552.out (by decide)) (fun _ hk => hk.2) (.int .i64 t546)) (fun _ hk => hk.2) (.int .i64 t547)) (fun _ hk => hk.2) (.int .i64 t548)) (fun _ hk => hk.2) (.slice Ao23 t549.length co23)) (fun _ h_ => h_.1))) hb); have n2_ := Aside0.mk (Kd.R_below (by (with_reducible repeat (first | apply Kd.R_alloc | apply Kd.R_drewN | apply Kd.R_drew)); exact (Kd.R_mono (Kd.R_far (p := ⟨gb552, 3, none⟩) (Kd.R_far (p := ⟨gb552, 2, none⟩) (Kd.R_far (p := ⟨gb552, 1, none⟩) (Kd.R_far (p := ⟨gb552, 0, none⟩) (Kd.R_types HO551.out BK552.out (by decide)) (fun _ hk => hk.2) (.int .i64 t546)) (fun _ hk => hk.2) (.int .i64 t547)) (fun _ hk => hk.2) (.int .i64 t548)) (fun _ hk => hk.2) (.slice Ao23 t549.length co23)) (fun _ h_ => h_.1))) hb); have n3_ := Aside0.mk (blk_below (g := gb532) (o := .cells #[.int .i64 t524, .int .i64 t525, .slice Ao12 t526.length co12] 28 (0, 0)) (by (with_reducible repeat (first | refine blk_drewN ?_ _ | refine blk_drew ?_ | refine blk_alloc ?_ _)); refine blk_far ?_ NB532_552.out _; (with_reducible repeat (first | refine blk_drewN ?_ _ | refine blk_drew ?_ | refine blk_alloc ?_ _)); refine blk_far ?_ NB532_552.out _; (with_reducible repeat (first | refine blk_drewN ?_ _ | refine blk_drew ?_ | refine blk_alloc ?_ _)); refine blk_far ?_ NB532_552.out _; (with_reducible repeat (first | refine blk_drewN ?_ _ | refine blk_drew ?_ | refine blk_alloc ?_ _)); refine blk_far ?_ NB532_552.out _; (with_reducible repeat (first | refine blk_drewN ?_ _ | refine blk_drew ?_ | refine blk_alloc ?_ _)); exact BK532.out) hb); have n4_ := Aside0.mk (blk_below (g := gb539) (o := .cells #[.int .i64 t533, .int .i64 t534, .int .i64 t535, .slice Ao17 t536.length co17] 30 (0, 0)) (by (with_reducible repeat (first | refine blk_drewN ?_ _ | refine blk_drew ?_ | refine blk_alloc ?_ _)); refine blk_far ?_ NB539_552.out _; (with_reducible repeat (first | refine blk_drewN ?_ _ | refine blk_drew ?_ | refine blk_alloc ?_ _)); refine blk_far ?_ NB539_552.out _; (with_reducible repeat (first | refine blk_drewN ?_ _ | refine blk_drew ?_ | refine blk_alloc ?_ _)); refine blk_far ?_ NB539_552.out _; (with_reducible repeat (first | refine blk_drewN ?_ _ | refine blk_drew ?_ | refine blk_alloc ?_ _)); refine blk_far ?_ NB539_552.out _; (with_reducible repeat (first | refine blk_drewN ?_ _ | refine blk_drew ?_ | refine blk_alloc ?_ _)); exact BK539.out) hb); have n5_ := Aside0.mk (blk_below (g := gb552) (o := .cells #[.int .i64 t546, .int .i64 t547, .int .i64 t548, .slice Ao23 t549.length co23] 30 (0, 0)) (by (with_reducible repeat (first | refine blk_drewN ?_ _ | refine blk_drew ?_ | refine blk_alloc ?_ _)); refine blk_put (cs := #[.int .i64 t546, .int .i64 t547, .int .i64 t548, .slice none 0 0]) ?_ 3 _ rfl; (with_reducible repeat (first | refine blk_drewN ?_ _ | refine blk_drew ?_ | refine blk_alloc ?_ _)); refine blk_put (cs := #[.int .i64 t546, .int .i64 t547, .int .i64 0, .slice none 0 0]) ?_ 2 _ rfl; (with_reducible repeat (first | refine blk_drewN ?_ _ | refine blk_drew ?_ | refine blk_alloc ?_ _)); refine blk_put (cs := #[.int .i64 t546, .int .i64 0, .int .i64 0, .slice none 0 0]) ?_ 1 _ rfl; (with_reducible repeat (first | refine blk_drewN ?_ _ | refine blk_drew ?_ | refine blk_alloc ?_ _)); refine blk_put (cs := #[.int .i64 0, .int .i64 0, .int .i64 0, .slice none 0 0]) ?_ 0 _ rfl; (with_reducible repeat (first | refine blk_drewN ?_ _ | refine blk_drew ?_ | refine blk_alloc ?_ _)); exact BK552.out) hb); have n6_ := Aside0.mk (below_step (by repeat (first | (with_reducible first | exact HB.out | apply below_alloc | apply pw_below_drewN | apply below_drew1 | refine below_set ?_ GE532.out | refine below_set ?_ GE539.out | refine below_set ?_ GE552.out) | exact HB.out)) hb); clear HO528; clear HO538; clear HO551; clear BK532; clear BK539; clear BK552; clear HB; have HO528 := n0_; have HO538 := n1_; have HO551 := n2_; have BK532 := n3_; have BK539 := n4_; have BK552 := n5_; have HB := n6_; clear n0_ n1_ n2_ n3_ n4_ n5_ n6_; (try clear hb); (try clear hb2); (try clear hk); (try clear hi); have hcz54_0 : w53.cell? ⟨gb539, 0, none⟩ = some (.int .i64 t533) := (blk_cell BK539.out 0).trans rfl; have hcz54_1 : w53.cell? ⟨gb539, 1, none⟩ = some (.int .i64 t534) := (blk_cell BK539.out 1).trans rfl; have hcz54_2 : w53.cell? ⟨gb539, 2, none⟩ = some (.int .i64 t535) := (blk_cell BK539.out 2).trans rfl; have hcz54_3 : w53.cell? ⟨gb539, 3, none⟩ = some (.slice Ao17 t536.length co17) := (blk_cell BK539.out 3).trans rfl; have hfz54_0 := blk_frozen BK539.out 0; have hfz54_1 := blk_frozen BK539.out 1; have hfz54_2 := blk_frozen BK539.out 2; have hfz54_3 := blk_frozen BK539.out 3) | (go_at_call 22; (with_reducible refine (impl_CellOf.calls k t534 t535 _ _ t536 t529 t554 t555 _ ?side1 ?side2 A26.out).mono ?_); (case side1 => repeat (first | exact (Kd.R_reads' HO538.out).2.2 | (with_reducible refine Kd.C_alloc ?_ _) | (with_reducible refine Kd.C_drewN ?_ _) | (with_reducible refine Kd.C_drew ?_))); (case side2 => exact (Kd.R_reads' HO538.out).2.1); rintro e w55 ⟨rfl, hb⟩; have n0_ := Aside0.mk (Kd.R_below (by (with_reducible repeat (first | apply Kd.R_alloc | apply Kd.R_drewN | apply Kd.R_drew)); exact HO528.out) hb); have n1_ := Aside0.mk (Kd.R_below (by (with_reducible repeat (first | apply Kd.R_alloc | apply Kd.R_drewN | apply Kd.R_drew)); exact HO538.out) hb); have n2_ := Aside0.mk (Kd.R_below (by (with_reducible repeat (first | apply Kd.R_alloc | apply Kd.R_drewN | apply Kd.R_drew)); exact HO551.out) hb); have n3_ := Aside0.mk (blk_below (g := gb532) (o := .cells #[.int .i64 t524, .int .i64 t525, .slice Ao12 t526.length co12] 28 (0, 0)) (by (with_reducible repeat (first | refine blk_drewN ?_ _ | refine blk_drew ?_ | refine blk_alloc ?_ _)); exact BK532.out) hb); have n4_ := Aside0.mk (blk_below (g := gb539) (o := .cells #[.int .i64 t533, .int .i64 t534, .int .i64 t535, .slice Ao17 t536.length co17] 30 (0, 0)) (by (with_reducible repeat (first | refine blk_drewN ?_ _ | refine blk_drew ?_ | refine blk_alloc ?_ _)); exact BK539.out) hb); have n5_ := Aside0.mk (blk_below (g := gb552) (o := .cells #[.int .i64 t546, .int .i64 t547, .int .i64 t548, .slice Ao23 t549.length co23] 30 (0, 0)) (by (with_reducible repeat (first | refine blk_drewN ?_ _ | refine blk_drew ?_ | refine blk_alloc ?_ _)); exact BK552.out) hb); have n6_ := Aside0.mk (below_step (by repeat (first | (with_reducible first | exact HB.out | apply below_alloc | apply pw_below_drewN | apply below_drew1 | refine below_set ?_ GE532.out | refine below_set ?_ GE539.out | refine below_set ?_ GE552.out) | exact HB.out)) hb); clear HO528; clear HO538; clear HO551; clear BK532; clear BK539; clear BK552; clear HB; have HO528 := n0_; have HO538 := n1_; have HO551 := n2_; have BK532 := n3_; have BK539 := n4_; have BK552 := n5_; have HB := n6_; clear n0_ n1_ n2_ n3_ n4_ n5_ n6_; (try clear hb); (try clear hb2); (try clear hk); (try clear hi); have hcz56_0 : w55.cell? ⟨gb539, 0, none⟩ = some (.int .i64 t533) := (blk_cell BK539.out 0).trans rfl; have hcz56_1 : w55.cell? ⟨gb539, 1, none⟩ = some (.int .i64 t534) := (blk_cell BK539.out 1).trans rfl; have hcz56_2 : w55.cell? ⟨gb539, 2, none⟩ = some (.int .i64 t535) := (blk_cell BK539.out 2).trans rfl; have hcz56_3 : w55.cell? ⟨gb539, 3, none⟩ = some (.slice Ao17 t536.length co17) := (blk_cell BK539.out 3).trans rfl; have hfz56_0 := blk_frozen BK539.out 0; have hfz56_1 := blk_frozen BK539.out 1; have hfz56_2 := blk_frozen BK539.out 2; have hfz56_3 := blk_frozen BK539.out 3))
       go_meet
       case rel => exact ⟨_, (true), (by first | rfl | (simp; done) | (simp [*]; done)), H', ⟨by first | omega | exact Nat.le_refl _⟩, ⟨by (with_reducible repeat (first | apply Kd.R_alloc | apply Kd.R_drewN | apply Kd.R_drew)); exact Kd.R_mono HO528.out (fun _ hk => ⟨hk.1.2, hk.2⟩)⟩, ⟨by (with_reducible repeat (first | apply Kd.R_alloc | apply Kd.R_drewN | apply Kd.R_drew)); exact Kd.R_mono HO538.out (fun _ hk => ⟨hk.1.2, hk.2⟩)⟩, ⟨by (with_reducible repeat (first | apply Kd.R_alloc | apply Kd.R_drewN | apply Kd.R_drew)); exact Kd.R_mono HO551.out (fun _ hk => ⟨hk.1.2, hk.2⟩)⟩, ⟨by (with_reducible repeat (first | refine blk_drewN ?_ _ | refine blk_drew ?_ | refine blk_alloc ?_ _)); exact BK532.out⟩, ⟨by (with_reducible repeat (first | refine blk_drewN ?_ _ | refine blk_drew ?_ | refine blk_alloc ?_ _)); exact BK539.out⟩, ⟨by (with_reducible repeat (first | refine blk_drewN ?_ _ | refine blk_drew ?_ | refine blk_alloc ?_ _)); exact BK552.out⟩, ⟨by repeat (first | (with_reducible first | exact HB.out | apply below_alloc | apply pw_below_drewN | apply below_drew1 | refine below_set ?_ GE532.out | refine below_set ?_ GE539.out | refine below_set ?_ GE552.out) | exact HB.out)⟩⟩
     ·rw [if_neg c27] at H
      have c27b0 : (t555 == t530) = false := beq_eq_false_iff_ne.mpr c27
      have c27b1 : (t555 != t530) = true := bne_iff_ne.mpr c27
      have H' := Aside0.mk H
      clear H
      have hnb57 := NB539_532.out
      have hnc57 := NB532_539.out
      have hnb58 := NB539_552.out
      have hnc58 := NB552_539.out
      have hcz59_0 : w19.cell? ⟨gb539, 0, none⟩ = some (.int .i64 t533) := (blk_cell BK539.out 0).trans rfl
      have hcz59_1 : w19.cell? ⟨gb539, 1, none⟩ = some (.int .i64 t534) := (blk_cell BK539.out 1).trans rfl
      have hcz59_2 : w19.cell? ⟨gb539, 2, none⟩ = some (.int .i64 t535) := (blk_cell BK539.out 2).trans rfl
      have hcz59_3 : w19.cell? ⟨gb539, 3, none⟩ = some (.slice Ao17 t536.length co17) := (blk_cell BK539.out 3).trans rfl
      have hfz59_0 := blk_frozen BK539.out 0
      have hfz59_1 := blk_frozen BK539.out 1
      have hfz59_2 := blk_frozen BK539.out 2
      have hfz59_3 := blk_frozen BK539.out 3
      go_wp2_with (first | ((with_reducible refine gate_callee (f := 21) rfl ?_); refine goesL_ (some 44) rfl rfl Try.func21 (by kernel_rfl) rfl #[.agg #[.int .i64 t534, .int .i64 t535, .slice Ao17 t536.length co17]] rfl (by (try simp only [List.map_toArray, List.map_cons, List.map_nil]); first | done | rfl | (simp only [List.length_drop, List.length_take]; rfl)) ?_; (with_reducible refine (impl_PageFault.calls k t534 t535 _ _ t536 t553 _ ?side1 ?side2 A24.out).mono ?_); (case side1 => refine (Kd.R_reads' (e := 49) (base := w.heap.size) (ok := fun k_ => ((True ∧ some k_ ≠ (.slice Ao12 t526.length co12 : Value).ownBlock) ∧ some k_ ≠ (.slice Ao23 t549.length co23 : Value).ownBlock)) (n := t536.length) (c := co17) ?_).2.2; exact (by (with_reducible repeat (first | apply Kd.R_alloc | apply Kd.R_drewN | apply Kd.R_drew)); exact (Kd.R_mono (Kd.R_far (p := ⟨gb552, 3, none⟩) (Kd.R_far (p := ⟨gb552, 2, none⟩) (Kd.R_far (p := ⟨gb552, 1, none⟩) (Kd.R_far (p := ⟨gb552, 0, none⟩) (Kd.R_types HO538.out BK552.out (by decide)) (fun _ hk => hk.2) (.int .i64 t546)) (fun _ hk => hk.2) (.int .i64 t547)) (fun _ hk => hk.2) (.int .i64 t548)) (fun _ hk => hk.2) (.slice Ao23 t549.length co23)) (fun _ h_ => h_.1)))); (case side2 => exact (Kd.R_reads' HO538.out).2.1); rintro e w60 ⟨rfl, hb⟩; refine ⟨_, rfl, ?_⟩; have n0_ := Aside0.mk (Kd.R_below (by (with_reducible repeat (first | apply Kd.R_alloc | apply Kd.R_drewN | apply Kd.R_drew)); exact (Kd.R_mono (Kd.R_far (p := ⟨gb552, 3, none⟩) (Kd.R_far (p := ⟨gb552, 2, none⟩) (Kd.R_far (p := ⟨gb552, 1, none⟩) (Kd.R_far (p := ⟨gb552, 0, none⟩) (Kd.R_types HO528.out BK552.out (by decide)) (fun _ hk => hk.2) (.int .i64 t546)) (fun _ hk => hk.2) (.int .i64 t547)) (fun _ hk => hk.2) (.int .i64 t548)) (fun _ hk => hk.2) (.slice Ao23 t549.length co23)) (fun _ h_ => h_.1))) hb); have n1_ := Aside0.mk (Kd.R_below (by (with_reducible repeat (first | apply Kd.R_alloc | apply Kd.R_drewN | apply Kd.R_drew)); exact (Kd.R_mono (Kd.R_far (p := ⟨gb552, 3, none⟩) (Kd.R_far (p := ⟨gb552, 2, none⟩) (Kd.R_far (p := ⟨gb552, 1, none⟩) (Kd.R_far (p := ⟨gb552, 0, none⟩) (Kd.R_types HO538.out BK552.out (by decide)) (fun _ hk => hk.2) (.int .i64 t546)) (fun _ hk => hk.2) (.int .i64 t547)) (fun _ hk => hk.2) (.int .i64 t548)) (fun _ hk => hk.2) (.slice Ao23 t549.length co23)) (fun _ h_ => h_.1))) hb); have n2_ := Aside0.mk (Kd.R_below (by (with_reducible repeat (first | apply Kd.R_alloc | apply Kd.R_drewN | apply Kd.R_drew)); exact (Kd.R_mono (Kd.R_far (p := ⟨gb552, 3, none⟩) (Kd.R_far (p := ⟨gb552, 2, none⟩) (Kd.R_far (p := ⟨gb552, 1, none⟩) (Kd.R_far (p := ⟨gb552, 0, none⟩) (Kd.R_types HO551.out BK552.out (by decide)) (fun _ hk => hk.2) (.int .i64 t546)) (fun _ hk => hk.2) (.int .i64 t547)) (fun _ hk => hk.2) (.int .i64 t548)) (fun _ hk => hk.2) (.slice Ao23 t549.length co23)) (fun _ h_ => h_.1))) hb); have n3_ := Aside0.mk (blk_below (g := gb532) (o := .cells #[.int .i64 t524, .int .i64 t525, .slice Ao12 t526.length co12] 28 (0, 0)) (by (with_reducible repeat (first | refine blk_drewN ?_ _ | refine blk_drew ?_ | refine blk_alloc ?_ _)); refine blk_far ?_ NB532_552.out _; (with_reducible repeat (first | refine blk_drewN ?_ _ | refine blk_drew ?_ | refine blk_alloc ?_ _)); refine blk_far ?_ NB532_552.out _; (with_reducible repeat (first | refine blk_drewN ?_ _ | refine blk_drew ?_ | refine blk_alloc ?_ _)); refine blk_far ?_ NB532_552.out _; (with_reducible repeat (first | refine blk_drewN ?_ _ | refine blk_drew ?_ | refine blk_alloc ?_ _)); refine blk_far ?_ NB532_552.out _; (with_reducible repeat (first | refine blk_drewN ?_ _ | refine blk_drew ?_ | refine blk_alloc ?_ _)); exact BK532.out) hb); have n4_ := Aside0.mk (blk_below (g := gb539) (o := .cells #[.int .i64 t533, .int .i64 t534, .int .i64 t535, .slice Ao17 t536.length co17] 30 (0, 0)) (by (with_reducible repeat (first | refine blk_drewN ?_ _ | refine blk_drew ?_ | refine blk_alloc ?_ _)); refine blk_far ?_ NB539_552.out _; (with_reducible repeat (first | refine blk_drewN ?_ _ | refine blk_drew ?_ | refine blk_alloc ?_ _)); refine blk_far ?_ NB539_552.out _; (with_reducible repeat (first | refine blk_drewN ?_ _ | refine blk_drew ?_ | refine blk_alloc ?_ _)); refine blk_far ?_ NB539_552.out _; (with_reducible repeat (first | refine blk_drewN ?_ _ | refine blk_drew ?_ | refine blk_alloc ?_ _)); refine blk_far ?_ NB539_552.out _; (with_reducible repeat (first | refine blk_drewN ?_ _ | refine blk_drew ?_ | refine blk_alloc ?_ _)); exact BK539.out) hb); have n5_ := Aside0.mk (blk_below (g := gb552) (o := .cells #[.int .i64 t546, .int .i64 t547, .int .i64 t548, .slice Ao23 t549.length co23] 30 (0, 0)) (by (with_reducible repeat (first | refine blk_drewN ?_ _ | refine blk_drew ?_ | refine blk_alloc ?_ _)); refine blk_put (cs := #[.int .i64 t546, .int .i64 t547, .int .i64 t548, .slice none 0 0]) ?_ 3 _ rfl; (with_reducible repeat (first | refine blk_drewN ?_ _ | refine blk_drew ?_ | refine blk_alloc ?_ _)); refine blk_put (cs := #[.int .i64 t546, .int .i64 t547, .int .i64 0, .slice none 0 0]) ?_ 2 _ rfl; (with_reducible repeat (first | refine blk_drewN ?_ _ | refine blk_drew ?_ | refine blk_alloc ?_ _)); refine blk_put (cs := #[.int .i64 t546, .int .i64 0, .int .i64 0, .slice none 0 0]) ?_ 1 _ rfl; (with_reducible repeat (first | refine blk_drewN ?_ _ | refine blk_drew ?_ | refine blk_alloc ?_ _)); refine blk_put (cs := #[.int .i64 0, .int .i64 0, .int .i64 0, .slice none 0 0]) ?_ 0 _ rfl; (with_reducible repeat (first | refine blk_drewN ?_ _ | refine blk_drew ?_ | refine blk_alloc ?_ _)); exact BK552.out) hb); have n6_ := Aside0.mk (below_step (by repeat (first | (with_reducible first | exact HB.out | apply below_alloc | apply pw_below_drewN | apply below_drew1 | refine below_set ?_ GE532.out | refine below_set ?_ GE539.out | refine below_set ?_ GE552.out) | exact HB.out)) hb); clear HO528; clear HO538; clear HO551; clear BK532; clear BK539; clear BK552; clear HB; have HO528 := n0_; have HO538 := n1_; have HO551 := n2_; have BK532 := n3_; have BK539 := n4_; have BK552 := n5_; have HB := n6_; clear n0_ n1_ n2_ n3_ n4_ n5_ n6_; (try clear hb); (try clear hb2); (try clear hk); (try clear hi); have hcz61_0 : w60.cell? ⟨gb539, 0, none⟩ = some (.int .i64 t533) := (blk_cell BK539.out 0).trans rfl; have hcz61_1 : w60.cell? ⟨gb539, 1, none⟩ = some (.int .i64 t534) := (blk_cell BK539.out 1).trans rfl; have hcz61_2 : w60.cell? ⟨gb539, 2, none⟩ = some (.int .i64 t535) := (blk_cell BK539.out 2).trans rfl; have hcz61_3 : w60.cell? ⟨gb539, 3, none⟩ = some (.slice Ao17 t536.length co17) := (blk_cell BK539.out 3).trans rfl; have hfz61_0 := blk_frozen BK539.out 0; have hfz61_1 := blk_frozen BK539.out 1; have hfz61_2 := blk_frozen BK539.out 2; have hfz61_3 := blk_frozen BK539.out 3) | (go_at_call 22; (with_reducible refine (impl_CellOf.calls k t534 t535 _ _ t536 t529 t554 t555 _ ?side1 ?side2 A26.out).mono ?_); (case side1 => repeat (first | exact (Kd.R_reads' HO538.out).2.2 | (with_reducible refine Kd.C_alloc ?_ _) | (with_reducible refine Kd.C_drewN ?_ _) | (with_reducible refine Kd.C_drew ?_))); (case side2 => exact (Kd.R_reads' HO538.out).2.1); rintro e w62 ⟨rfl, hb⟩; have n0_ := Aside0.mk (Kd.R_below (by (with_reducible repeat (first | apply Kd.R_alloc | apply Kd.R_drewN | apply Kd.R_drew)); exact HO528.out) hb); have n1_ := Aside0.mk (Kd.R_below (by (with_reducible repeat (first | apply Kd.R_alloc | apply Kd.R_drewN | apply Kd.R_drew)); exact HO538.out) hb); have n2_ := Aside0.mk (Kd.R_below (by (with_reducible repeat (first | apply Kd.R_alloc | apply Kd.R_drewN | apply Kd.R_drew)); exact HO551.out) hb); have n3_ := Aside0.mk (blk_below (g := gb532) (o := .cells #[.int .i64 t524, .int .i64 t525, .slice Ao12 t526.length co12] 28 (0, 0)) (by (with_reducible repeat (first | refine blk_drewN ?_ _ | refine blk_drew ?_ | refine blk_alloc ?_ _)); exact BK532.out) hb); have n4_ := Aside0.mk (blk_below (g := gb539) (o := .cells #[.int .i64 t533, .int .i64 t534, .int .i64 t535, .slice Ao17 t536.length co17] 30 (0, 0)) (by (with_reducible repeat (first | refine blk_drewN ?_ _ | refine blk_drew ?_ | refine blk_alloc ?_ _)); exact BK539.out) hb); have n5_ := Aside0.mk (blk_below (g := gb552) (o := .cells #[.int .i64 t546, .int .i64 t547, .int .i64 t548, .slice Ao23 t549.length co23] 30 (0, 0)) (by (with_reducible repeat (first | refine blk_drewN ?_ _ | refine blk_drew ?_ | refine blk_alloc ?_ _)); exact BK552.out) hb); have n6_ := Aside0.mk (below_step (by repeat (first | (with_reducible first | exact HB.out | apply below_alloc | apply pw_below_drewN | apply below_drew1 | refine below_set ?_ GE532.out | refine below_set ?_ GE539.out | refine below_set ?_ GE552.out) | exact HB.out)) hb); clear HO528; clear HO538; clear HO551; clear BK532; clear BK539; clear BK552; clear HB; have HO528 := n0_; have HO538 := n1_; have HO551 := n2_; have BK532 := n3_; have BK539 := n4_; have BK552 := n5_; have HB := n6_; clear n0_ n1_ n2_ n3_ n4_ n5_ n6_; (try clear hb); (try clear hb2); (try clear hk); (try clear hi)))
      go_meet
      case rel => exact ⟨_, (true), (by first | rfl | (simp; done) | (simp [*]; done)), H', ⟨by first | omega | exact Nat.le_refl _⟩, ⟨by (with_reducible repeat (first | apply Kd.R_alloc | apply Kd.R_drewN | apply Kd.R_drew)); exact Kd.R_mono HO528.out (fun _ hk => ⟨hk.1.2, hk.2⟩)⟩, ⟨by (with_reducible repeat (first | apply Kd.R_alloc | apply Kd.R_drewN | apply Kd.R_drew)); exact Kd.R_mono HO538.out (fun _ hk => ⟨hk.1.2, hk.2⟩)⟩, ⟨by (with_reducible repeat (first | apply Kd.R_alloc | apply Kd.R_drewN | apply Kd.R_drew)); exact Kd.R_mono HO551.out (fun _ hk => ⟨hk.1.2, hk.2⟩)⟩, ⟨by (with_reducible repeat (first | refine blk_drewN ?_ _ | refine blk_drew ?_ | refine blk_alloc ?_ _)); exact BK532.out⟩, ⟨by (with_reducible repeat (first | refine blk_drewN ?_ _ | refine blk_drew ?_ | refine blk_alloc ?_ _)); exact BK539.out⟩, ⟨by (with_reducible repeat (first | refine blk_drewN ?_ _ | refine blk_drew ?_ | refine blk_alloc ?_ _)); exact BK552.out⟩, ⟨by repeat (first | (with_reducible first | exact HB.out | apply below_alloc | apply pw_below_drewN | apply below_drew1 | refine below_set ?_ GE532.out | refine below_set ?_ GE539.out | refine below_set ?_ GE552.out) | exact HB.out)⟩⟩
    ·rw [if_neg c25] at H
     have c25b0 : (t553 == 0) = false := beq_eq_false_iff_ne.mpr c25
     have c25b1 : (t553 != 0) = true := bne_iff_ne.mpr c25
     (first | rw [c25b0] | (simp only [i64_w, i32_w]; rw [c25b0]) | skip)
     have H' := Aside0.mk H
     clear H
     have hnb63 := NB539_532.out
     have hnc63 := NB532_539.out
     have hnb64 := NB539_552.out
     have hnc64 := NB552_539.out
     have hcz65_0 : w19.cell? ⟨gb539, 0, none⟩ = some (.int .i64 t533) := (blk_cell BK539.out 0).trans rfl
     have hcz65_1 : w19.cell? ⟨gb539, 1, none⟩ = some (.int .i64 t534) := (blk_cell BK539.out 1).trans rfl
     have hcz65_2 : w19.cell? ⟨gb539, 2, none⟩ = some (.int .i64 t535) := (blk_cell BK539.out 2).trans rfl
     have hcz65_3 : w19.cell? ⟨gb539, 3, none⟩ = some (.slice Ao17 t536.length co17) := (blk_cell BK539.out 3).trans rfl
     have hfz65_0 := blk_frozen BK539.out 0
     have hfz65_1 := blk_frozen BK539.out 1
     have hfz65_2 := blk_frozen BK539.out 2
     have hfz65_3 := blk_frozen BK539.out 3
     go_wp2_with (first | ((with_reducible refine gate_callee (f := 21) rfl ?_); refine goesL_ (some 44) rfl rfl Try.func21 (by kernel_rfl) rfl #[.agg #[.int .i64 t534, .int .i64 t535, .slice Ao17 t536.length co17]] rfl (by (try simp only [List.map_toArray, List.map_cons, List.map_nil]); first | done | rfl | (simp only [List.length_drop, List.length_take]; rfl)) ?_; (with_reducible refine (impl_PageFault.calls k t534 t535 _ _ t536 t553 _ ?side1 ?side2 A24.out).mono ?_); (case side1 => refine (Kd.R_reads' (e := 49) (base := w.heap.size) (ok := fun k_ => ((True ∧ some k_ ≠ (.slice Ao12 t526.length co12 : Value).ownBlock) ∧ some k_ ≠ (.slice Ao23 t549.length co23 : Value).ownBlock)) (n := t536.length) (c := co17) ?_).2.2; exact (by (with_reducible repeat (first | apply Kd.R_alloc | apply Kd.R_drewN | apply Kd.R_drew)); exact (Kd.R_mono (Kd.R_far (p := ⟨gb552, 3, none⟩) (Kd.R_far (p := ⟨gb552, 2, none⟩) (Kd.R_far (p := ⟨gb552, 1, none⟩) (Kd.R_far (p := ⟨gb552, 0, none⟩) (Kd.R_types HO538.out BK552.out (by decide)) (fun _ hk => hk.2) (.int .i64 t546)) (fun _ hk => hk.2) (.int .i64 t547)) (fun _ hk => hk.2) (.int .i64 t548)) (fun _ hk => hk.2) (.slice Ao23 t549.length co23)) (fun _ h_ => h_.1)))); (case side2 => exact (Kd.R_reads' HO538.out).2.1); rintro e w66 ⟨rfl, hb⟩; refine ⟨_, rfl, ?_⟩; have n0_ := Aside0.mk (Kd.R_below (by (with_reducible repeat (first | apply Kd.R_alloc | apply Kd.R_drewN | apply Kd.R_drew)); exact (Kd.R_mono (Kd.R_far (p := ⟨gb552, 3, none⟩) (Kd.R_far (p := ⟨gb552, 2, none⟩) (Kd.R_far (p := ⟨gb552, 1, none⟩) (Kd.R_far (p := ⟨gb552, 0, none⟩) (Kd.R_types HO528.out BK552.out (by decide)) (fun _ hk => hk.2) (.int .i64 t546)) (fun _ hk => hk.2) (.int .i64 t547)) (fun _ hk => hk.2) (.int .i64 t548)) (fun _ hk => hk.2) (.slice Ao23 t549.length co23)) (fun _ h_ => h_.1))) hb); have n1_ := Aside0.mk (Kd.R_below (by (with_reducible repeat (first | apply Kd.R_alloc | apply Kd.R_drewN | apply Kd.R_drew)); exact (Kd.R_mono (Kd.R_far (p := ⟨gb552, 3, none⟩) (Kd.R_far (p := ⟨gb552, 2, none⟩) (Kd.R_far (p := ⟨gb552, 1, none⟩) (Kd.R_far (p := ⟨gb552, 0, none⟩) (Kd.R_types HO538.out BK552.out (by decide)) (fun _ hk => hk.2) (.int .i64 t546)) (fun _ hk => hk.2) (.int .i64 t547)) (fun _ hk => hk.2) (.int .i64 t548)) (fun _ hk => hk.2) (.slice Ao23 t549.length co23)) (fun _ h_ => h_.1))) hb); have n2_ := Aside0.mk (Kd.R_below (by (with_reducible repeat (first | apply Kd.R_alloc | apply Kd.R_drewN | apply Kd.R_drew)); exact (Kd.R_mono (Kd.R_far (p := ⟨gb552, 3, none⟩) (Kd.R_far (p := ⟨gb552, 2, none⟩) (Kd.R_far (p := ⟨gb552, 1, none⟩) (Kd.R_far (p := ⟨gb552, 0, none⟩) (Kd.R_types HO551.out BK552.out (by decide)) (fun _ hk => hk.2) (.int .i64 t546)) (fun _ hk => hk.2) (.int .i64 t547)) (fun _ hk => hk.2) (.int .i64 t548)) (fun _ hk => hk.2) (.slice Ao23 t549.length co23)) (fun _ h_ => h_.1))) hb); have n3_ := Aside0.mk (blk_below (g := gb532) (o := .cells #[.int .i64 t524, .int .i64 t525, .slice Ao12 t526.length co12] 28 (0, 0)) (by (with_reducible repeat (first | refine blk_drewN ?_ _ | refine blk_drew ?_ | refine blk_alloc ?_ _)); refine blk_far ?_ NB532_552.out _; (with_reducible repeat (first | refine blk_drewN ?_ _ | refine blk_drew ?_ | refine blk_alloc ?_ _)); refine blk_far ?_ NB532_552.out _; (with_reducible repeat (first | refine blk_drewN ?_ _ | refine blk_drew ?_ | refine blk_alloc ?_ _)); refine blk_far ?_ NB532_552.out _; (with_reducible repeat (first | refine blk_drewN ?_ _ | refine blk_drew ?_ | refine blk_alloc ?_ _)); refine blk_far ?_ NB532_552.out _; (with_reducible repeat (first | refine blk_drewN ?_ _ | refine blk_drew ?_ | refine blk_alloc ?_ _)); exact BK532.out) hb); have n4_ := Aside0.mk (blk_below (g := gb539) (o := .cells #[.int .i64 t533, .int .i64 t534, .int .i64 t535, .slice Ao17 t536.length co17] 30 (0, 0)) (by (with_reducible repeat (first | refine blk_drewN ?_ _ | refine blk_drew ?_ | refine blk_alloc ?_ _)); refine blk_far ?_ NB539_552.out _; (with_reducible repeat (first | refine blk_drewN ?_ _ | refine blk_drew ?_ | refine blk_alloc ?_ _)); refine blk_far ?_ NB539_552.out _; (with_reducible repeat (first | refine blk_drewN ?_ _ | refine blk_drew ?_ | refine blk_alloc ?_ _)); refine blk_far ?_ NB539_552.out _; (with_reducible repeat (first | refine blk_drewN ?_ _ | refine blk_drew ?_ | refine blk_alloc ?_ _)); refine blk_far ?_ NB539_552.out _; (with_reducible repeat (first | refine blk_drewN ?_ _ | refine blk_drew ?_ | refine blk_alloc ?_ _)); exact BK539.out) hb); have n5_ := Aside0.mk (blk_below (g := gb552) (o := .cells #[.int .i64 t546, .int .i64 t547, .int .i64 t548, .slice Ao23 t549.length co23] 30 (0, 0)) (by (with_reducible repeat (first | refine blk_drewN ?_ _ | refine blk_drew ?_ | refine blk_alloc ?_ _)); refine blk_put (cs := #[.int .i64 t546, .int .i64 t547, .int .i64 t548, .slice none 0 0]) ?_ 3 _ rfl; (with_reducible repeat (first | refine blk_drewN ?_ _ | refine blk_drew ?_ | refine blk_alloc ?_ _)); refine blk_put (cs := #[.int .i64 t546, .int .i64 t547, .int .i64 0, .slice none 0 0]) ?_ 2 _ rfl; (with_reducible repeat (first | refine blk_drewN ?_ _ | refine blk_drew ?_ | refine blk_alloc ?_ _)); refine blk_put (cs := #[.int .i64 t546, .int .i64 0, .int .i64 0, .slice none 0 0]) ?_ 1 _ rfl; (with_reducible repeat (first | refine blk_drewN ?_ _ | refine blk_drew ?_ | refine blk_alloc ?_ _)); refine blk_put (cs := #[.int .i64 0, .int .i64 0, .int .i64 0, .slice none 0 0]) ?_ 0 _ rfl; (with_reducible repeat (first | refine blk_drewN ?_ _ | refine blk_drew ?_ | refine blk_alloc ?_ _)); exact BK552.out) hb); have n6_ := Aside0.mk (below_step (by repeat (first | (with_reducible first | exact HB.out | apply below_alloc | apply pw_below_drewN | apply below_drew1 | refine below_set ?_ GE532.out | refine below_set ?_ GE539.out | refine below_set ?_ GE552.out) | exact HB.out)) hb); clear HO528; clear HO538; clear HO551; clear BK532; clear BK539; clear BK552; clear HB; have HO528 := n0_; have HO538 := n1_; have HO551 := n2_; have BK532 := n3_; have BK539 := n4_; have BK552 := n5_; have HB := n6_; clear n0_ n1_ n2_ n3_ n4_ n5_ n6_; (try clear hb); (try clear hb2); (try clear hk); (try clear hi)))
     go_meet
     case rel => exact ⟨_, (true), (by first | rfl | (simp; done) | (simp [*]; done)), H', ⟨by first | omega | exact Nat.le_refl _⟩, ⟨by (with_reducible repeat (first | apply Kd.R_alloc | apply Kd.R_drewN | apply Kd.R_drew)); exact Kd.R_mono HO528.out (fun _ hk => ⟨hk.1.2, hk.2⟩)⟩, ⟨by (with_reducible repeat (first | apply Kd.R_alloc | apply Kd.R_drewN | apply Kd.R_drew)); exact Kd.R_mono HO538.out (fun _ hk => ⟨hk.1.2, hk.2⟩)⟩, ⟨by (with_reducible repeat (first | apply Kd.R_alloc | apply Kd.R_drewN | apply Kd.R_drew)); exact Kd.R_mono HO551.out (fun _ hk => ⟨hk.1.2, hk.2⟩)⟩, ⟨by (with_reducible repeat (first | refine blk_drewN ?_ _ | refine blk_drew ?_ | refine blk_alloc ?_ _)); exact BK532.out⟩, ⟨by (with_reducible repeat (first | refine blk_drewN ?_ _ | refine blk_drew ?_ | refine blk_alloc ?_ _)); exact BK539.out⟩, ⟨by (with_reducible repeat (first | refine blk_drewN ?_ _ | refine blk_drew ?_ | refine blk_alloc ?_ _)); exact BK552.out⟩, ⟨by repeat (first | (with_reducible first | exact HB.out | apply below_alloc | apply pw_below_drewN | apply below_drew1 | refine below_set ?_ GE532.out | refine below_set ?_ GE539.out | refine below_set ?_ GE552.out) | exact HB.out)⟩⟩
   case rest =>
    clear HC8
    try clear c1
    try clear c2
    try clear p2
    try clear c3
    try clear c4
    try clear c5
    try clear c6
    try clear c6b0
    try clear c6b1
    try clear c11
    try clear c15
    try clear c18
    try clear c19
    try clear c20
    try clear c21
    try clear c25
    try clear c25b0
    try clear c25b1
    try clear c27
    try clear c27b0
    try clear c27b1
    try clear c28
    try clear c28b0
    try clear c28b1
    try clear c29
    try clear c29b0
    try clear c29b1
    try clear c31
    try clear c32
    try clear c38
    try clear c41
    try clear c42
    try clear c48
    try clear c50
    try clear c51
    try clear c57
    try clear c58
    try clear c63
    try clear c64
    try clear hcz11_0
    try clear hcz11_1
    try clear hcz11_2
    try clear hcz16_0
    try clear hcz16_1
    try clear hcz16_2
    try clear hcz16_3
    try clear hcz22_0
    try clear hcz22_1
    try clear hcz22_2
    try clear hcz22_3
    try clear hcz33_0
    try clear hcz33_1
    try clear hcz33_2
    try clear hcz33_3
    try clear hcz35_0
    try clear hcz35_1
    try clear hcz35_2
    try clear hcz35_3
    try clear hcz37_0
    try clear hcz37_1
    try clear hcz37_2
    try clear hcz37_3
    try clear hcz39_0
    try clear hcz39_1
    try clear hcz39_2
    try clear hcz39_3
    try clear hcz43_0
    try clear hcz43_1
    try clear hcz43_2
    try clear hcz43_3
    try clear hcz45_0
    try clear hcz45_1
    try clear hcz45_2
    try clear hcz45_3
    try clear hcz47_0
    try clear hcz47_1
    try clear hcz47_2
    try clear hcz47_3
    try clear hcz49_0
    try clear hcz49_1
    try clear hcz49_2
    try clear hcz49_3
    try clear hcz52_0
    try clear hcz52_1
    try clear hcz52_2
    try clear hcz52_3
    try clear hcz54_0
    try clear hcz54_1
    try clear hcz54_2
    try clear hcz54_3
    try clear hcz56_0
    try clear hcz56_1
    try clear hcz56_2
    try clear hcz56_3
    try clear hcz59_0
    try clear hcz59_1
    try clear hcz59_2
    try clear hcz59_3
    try clear hcz61_0
    try clear hcz61_1
    try clear hcz61_2
    try clear hcz61_3
    try clear hcz65_0
    try clear hcz65_1
    try clear hcz65_2
    try clear hcz65_3
    try clear hfz11_0
    try clear hfz11_1
    try clear hfz11_2
    try clear hfz16_0
    try clear hfz16_1
    try clear hfz16_2
    try clear hfz16_3
    try clear hfz22_0
    try clear hfz22_1
    try clear hfz22_2
    try clear hfz22_3
    try clear hfz33_0
    try clear hfz33_1
    try clear hfz33_2
    try clear hfz33_3
    try clear hfz35_0
    try clear hfz35_1
    try clear hfz35_2
    try clear hfz35_3
    try clear hfz37_0
    try clear hfz37_1
    try clear hfz37_2
    try clear hfz37_3
    try clear hfz39_0
    try clear hfz39_1
    try clear hfz39_2
    try clear hfz39_3
    try clear hfz43_0
    try clear hfz43_1
    try clear hfz43_2
    try clear hfz43_3
    try clear hfz45_0
    try clear hfz45_1
    try clear hfz45_2
    try clear hfz45_3
    try clear hfz47_0
    try clear hfz47_1
    try clear hfz47_2
    try clear hfz47_3
    try clear hfz49_0
    try clear hfz49_1
    try clear hfz49_2
    try clear hfz49_3
    try clear hfz52_0
    try clear hfz52_1
    try clear hfz52_2
    try clear hfz52_3
    try clear hfz54_0
    try clear hfz54_1
    try clear hfz54_2
    try clear hfz54_3
    try clear hfz56_0
    try clear hfz56_1
    try clear hfz56_2
    try clear hfz56_3
    try clear hfz59_0
    try clear hfz59_1
    try clear hfz59_2
    try clear hfz59_3
    try clear hfz61_0
    try clear hfz61_1
    try clear hfz61_2
    try clear hfz61_3
    try clear hfz65_0
    try clear hfz65_1
    try clear hfz65_2
    try clear hfz65_3
    obtain ⟨kq, x74_7, rfl, HA, HJ7, HO_533002, HO_540003, HO_553003, BK532, BK539, BK552, HB⟩ := hcut
    cases kq with
    | zero => exact absurd HA.out (by simp [laws_FnCells.j0])
    | succ kj7 =>
     have H := HA.out
     clear HA
     simp only [laws_FnCells.j0] at H
     by_cases c67 : x74_7 = true
     ·subst c67
      have H1 : (some false) = some true := by rw [if_pos rfl] at H; first | done | exact H
      clear H
      have H := H1
      clear H1
      exact absurd H (by simp)
     ·replace c67 := Bool.eq_false_iff.mpr c67
      subst c67
      have H1 : (laws_FnCells.l0 kj7 t529 0 t524 t525 t526 t533 t534 t535 t536 t546 t547 t548 t549) = some true := by rw [if_neg (show ¬ (false = true) by decide)] at H; first | done | exact H
      clear H
      have H := H1
      clear H1
      have H' := Aside0.mk H
      clear H
      go_wp2
      go_loopg [9] kj7 (fun kq v9 w' => ∃ (x9_2 : Int), v9 = .int .i64 x9_2 ∧ Aside0 (laws_FnCells.l0 kq t529 x9_2 t524 t525 t526 t533 t534 t535 t536 t546 t547 t548 t549 = some true) ∧ Aside0 (kq ≤ kj7) ∧ Aside0 (Kd.R k49 49 w' w.heap.size (fun k_ => some k_ ≠ ((.slice Ao17 t536.length co17) : Value).ownBlock ∧ some k_ ≠ ((.slice Ao23 t549.length co23) : Value).ownBlock) (.slice Ao12 t526.length co12) t526) ∧ Aside0 (Kd.R k49 49 w' w.heap.size (fun k_ => some k_ ≠ ((.slice Ao12 t526.length co12) : Value).ownBlock ∧ some k_ ≠ ((.slice Ao23 t549.length co23) : Value).ownBlock) (.slice Ao17 t536.length co17) t536) ∧ Aside0 (Kd.R k49 49 w' w.heap.size (fun k_ => some k_ ≠ ((.slice Ao12 t526.length co12) : Value).ownBlock ∧ some k_ ≠ ((.slice Ao17 t536.length co17) : Value).ownBlock) (.slice Ao23 t549.length co23) t549) ∧ Aside0 (w'.heap[gb532]? = some (.cells #[.int .i64 t524, .int .i64 t525, (.slice Ao12 t526.length co12)] 28 (0, 0))) ∧ Aside0 (w'.heap[gb539]? = some (.cells #[.int .i64 t533, .int .i64 t534, .int .i64 t535, (.slice Ao17 t536.length co17)] 30 (0, 0))) ∧ Aside0 (w'.heap[gb552]? = some (.cells #[.int .i64 t546, .int .i64 t547, .int .i64 t548, (.slice Ao23 t549.length co23)] 30 (0, 0))) ∧ Aside0 (Below w.heap.size w w'))
      case atStart => exact ⟨(0), (by first | rfl | (simp; done) | (simp [*]; done)), H', ⟨Nat.le_refl _⟩, ⟨by (with_reducible repeat (first | apply Kd.R_alloc | apply Kd.R_drewN | apply Kd.R_drew)); exact HO_533002.out⟩, ⟨by (with_reducible repeat (first | apply Kd.R_alloc | apply Kd.R_drewN | apply Kd.R_drew)); exact HO_540003.out⟩, ⟨by (with_reducible repeat (first | apply Kd.R_alloc | apply Kd.R_drewN | apply Kd.R_drew)); exact HO_553003.out⟩, ⟨by (with_reducible repeat (first | refine blk_drewN ?_ _ | refine blk_drew ?_ | refine blk_alloc ?_ _)); exact BK532.out⟩, ⟨by (with_reducible repeat (first | refine blk_drewN ?_ _ | refine blk_drew ?_ | refine blk_alloc ?_ _)); exact BK539.out⟩, ⟨by (with_reducible repeat (first | refine blk_drewN ?_ _ | refine blk_drew ?_ | refine blk_alloc ?_ _)); exact BK552.out⟩, ⟨by repeat (first | (with_reducible first | exact HB.out | apply below_alloc | apply pw_below_drewN | apply below_drew1 | refine below_set ?_ GE532.out | refine below_set ?_ GE539.out | refine below_set ?_ GE552.out) | exact HB.out)⟩⟩
      case round =>
       clear H'
       try clear c1
       try clear c2
       try clear p2
       try clear c3
       try clear c4
       try clear c5
       try clear c6
       try clear c6b0
       try clear c6b1
       try clear c11
       try clear c15
       try clear c18
       try clear c19
       try clear c20
       try clear c21
       try clear c25
       try clear c25b0
       try clear c25b1
       try clear c27
       try clear c27b0
       try clear c27b1
       try clear c28
       try clear c28b0
       try clear c28b1
       try clear c29
       try clear c29b0
       try clear c29b1
       try clear c31
       try clear c32
       try clear c38
       try clear c41
       try clear c42
       try clear c48
       try clear c50
       try clear c51
       try clear c57
       try clear c58
       try clear c63
       try clear c64
       try clear c67
       try clear hcz11_0
       try clear hcz11_1
       try clear hcz11_2
       try clear hcz16_0
       try clear hcz16_1
       try clear hcz16_2
       try clear hcz16_3
       try clear hcz22_0
       try clear hcz22_1
       try clear hcz22_2
       try clear hcz22_3
       try clear hcz33_0
       try clear hcz33_1
       try clear hcz33_2
       try clear hcz33_3
       try clear hcz35_0
       try clear hcz35_1
       try clear hcz35_2
       try clear hcz35_3
       try clear hcz37_0
       try clear hcz37_1
       try clear hcz37_2
       try clear hcz37_3
       try clear hcz39_0
       try clear hcz39_1
       try clear hcz39_2
       try clear hcz39_3
       try clear hcz43_0
       try clear hcz43_1
       try clear hcz43_2
       try clear hcz43_3
       try clear hcz45_0
       try clear hcz45_1
       try clear hcz45_2
       try clear hcz45_3
       try clear hcz47_0
       try clear hcz47_1
       try clear hcz47_2
       try clear hcz47_3
       try clear hcz49_0
       try clear hcz49_1
       try clear hcz49_2
       try clear hcz49_3
       try clear hcz52_0
       try clear hcz52_1
       try clear hcz52_2
       try clear hcz52_3
       try clear hcz54_0
       try clear hcz54_1
       try clear hcz54_2
       try clear hcz54_3
       try clear hcz56_0
       try clear hcz56_1
       try clear hcz56_2
       try clear hcz56_3
       try clear hcz59_0
       try clear hcz59_1
       try clear hcz59_2
       try clear hcz59_3
       try clear hcz61_0
       try clear hcz61_1
       try clear hcz61_2
       try clear hcz61_3
       try clear hcz65_0
       try clear hcz65_1
       try clear hcz65_2
       try clear hcz65_3
       try clear hfz11_0
       try clear hfz11_1
       try clear hfz11_2
       try clear hfz16_0
       try clear hfz16_1
       try clear hfz16_2
       try clear hfz16_3
       try clear hfz22_0
       try clear hfz22_1
       try clear hfz22_2
       try clear hfz22_3
       try clear hfz33_0
       try clear hfz33_1
       try clear hfz33_2
       try clear hfz33_3
       try clear hfz35_0
       try clear hfz35_1
       try clear hfz35_2
       try clear hfz35_3
       try clear hfz37_0
       try clear hfz37_1
       try clear hfz37_2
       try clear hfz37_3
       try clear hfz39_0
       try clear hfz39_1
       try clear hfz39_2
       try clear hfz39_3
       try clear hfz43_0
       try clear hfz43_1
       try clear hfz43_2
       try clear hfz43_3
       try clear hfz45_0
       try clear hfz45_1
       try clear hfz45_2
       try clear hfz45_3
       try clear hfz47_0
       try clear hfz47_1
       try clear hfz47_2
       try clear hfz47_3
       try clear hfz49_0
       try clear hfz49_1
       try clear hfz49_2
       try clear hfz49_3
       try clear hfz52_0
       try clear hfz52_1
       try clear hfz52_2
       try clear hfz52_3
       try clear hfz54_0
       try clear hfz54_1
       try clear hfz54_2
       try clear hfz54_3
       try clear hfz56_0
       try clear hfz56_1
       try clear hfz56_2
       try clear hfz56_3
       try clear hfz59_0
       try clear hfz59_1
       try clear hfz59_2
       try clear hfz59_3
       try clear hfz61_0
       try clear hfz61_1
       try clear hfz61_2
       try clear hfz61_3
       try clear hfz65_0
       try clear hfz65_1
       try clear hfz65_2
       try clear hfz65_3
       try clear p2
       obtain ⟨x9_2, rfl, HA, HK2, HO_533002, HO_540003, HO_553003, BK532, BK539, BK552, HB⟩ := hrel
       cases gk with
       | zero => exact absurd HA.out (by simp [laws_FnCells.l0])
       | succ k2 =>
        have H := HA.out
        clear HA
        simp only [laws_FnCells.l0] at H
        by_cases c68 : x9_2 < (t526.length : Int)
        ·rw [if_pos c68] at H
         have c68b0 : decide (x9_2 < (t526.length : Int)) = true := decide_eq_true c68
         clear c68
         by_cases c69 : 0 ≤ x9_2
         ·rw [if_pos c69] at H
          have c69b0 : decide (0 ≤ x9_2) = true := decide_eq_true c69
          clear c69
          by_cases c70 : ((rd_T49 t526 x9_2).f0) = t529
          ·rw [if_pos c70] at H
           have c70b0 : (((rd_T49 t526 x9_2).f0) == t529) = true := beq_iff_eq.mpr c70
           have c70b1 : (((rd_T49 t526 x9_2).f0) != t529) = false := bne_eq_false_iff_eq.mpr c70
           clear c70
           have H' := Aside0.mk H
           clear H
           have hnb71 := NB532_539.out
           have hnc71 := NB539_532.out
           have hnb72 := NB532_552.out
           have hnc72 := NB552_532.out
           have hcz73_0 : wr.cell? ⟨gb532, 0, none⟩ = some (.int .i64 t524) := (blk_cell BK532.out 0).trans rfl
           have hcz73_1 : wr.cell? ⟨gb532, 1, none⟩ = some (.int .i64 t525) := (blk_cell BK532.out 1).trans rfl
           have hcz73_2 : wr.cell? ⟨gb532, 2, none⟩ = some (.slice Ao12 t526.length co12) := (blk_cell BK532.out 2).trans rfl
           have hfz73_0 := blk_frozen BK532.out 0
           have hfz73_1 := blk_frozen BK532.out 1
           have hfz73_2 := blk_frozen BK532.out 2
           have p558 : 0 ≤ (x9_2 : Int) := of_decide_eq_true (by first | (with_reducible assumption) | assumption)
           have q558 : x9_2 < (t526.length : Int) := of_decide_eq_true (by first | (with_reducible assumption) | assumption)
           obtain ⟨ad558, e558, hx558_0, hx558_1⟩ := at_T49 (Kd.R_reads' HO_533002.out).2.2 x9_2 p558 q558
           cases e558
           replace p558 := eq_true p558
           replace q558 := eq_true q558
           try go_wp2_with (first | ((with_reducible refine gate_dst (N := 10) rfl ?_); refine box_event ?hg (N := 10) ?hd (cs := #[.int .i64 0, .int .i64 0]) (t := 49) ?hr ?_; (case hd => rfl); (case hg => rfl); (case hr => first | (go_simp; done) | (go_simp; rfl)); intro gb559 hg w74 hbox hb; have n0_ := Aside0.mk (Kd.R_below (Kd.R_elderB (by (with_reducible repeat (first | apply Kd.R_alloc | apply Kd.R_drewN | apply Kd.R_drew)); exact HO_533002.out) gb559 (Nat.le_of_eq hg.symm)) hb); have n1_ := Aside0.mk (Kd.R_below (Kd.R_elderB (by (with_reducible repeat (first | apply Kd.R_alloc | apply Kd.R_drewN | apply Kd.R_drew)); exact HO_540003.out) gb559 (Nat.le_of_eq hg.symm)) hb); have n2_ := Aside0.mk (Kd.R_below (Kd.R_elderB (by (with_reducible repeat (first | apply Kd.R_alloc | apply Kd.R_drewN | apply Kd.R_drew)); exact HO_553003.out) gb559 (Nat.le_of_eq hg.symm)) hb); have n3_ := Aside0.mk (blk_below (g := gb532) (o := .cells #[.int .i64 t524, .int .i64 t525, .slice (some ad558) t526.length co12] 28 (0, 0)) (by (with_reducible repeat (first | refine blk_drewN ?_ _ | refine blk_drew ?_ | refine blk_alloc ?_ _)); exact BK532.out) hb); have n4_ := Aside0.mk (blk_below (g := gb539) (o := .cells #[.int .i64 t533, .int .i64 t534, .int .i64 t535, .slice Ao17 t536.length co17] 30 (0, 0)) (by (with_reducible repeat (first | refine blk_drewN ?_ _ | refine blk_drew ?_ | refine blk_alloc ?_ _)); exact BK539.out) hb); have n5_ := Aside0.mk (blk_below (g := gb552) (o := .cells #[.int .i64 t546, .int .i64 t547, .int .i64 t548, .slice Ao23 t549.length co23] 30 (0, 0)) (by (with_reducible repeat (first | refine blk_drewN ?_ _ | refine blk_drew ?_ | refine blk_alloc ?_ _)); exact BK552.out) hb); have n6_ := Aside0.mk (below_step (by repeat (first | (with_reducible first | exact HB.out | apply below_alloc | apply pw_below_drewN | apply below_drew1 | refine below_set ?_ GE532.out | refine below_set ?_ GE539.out | refine below_set ?_ GE552.out) | exact HB.out)) hb); have n7_ := Aside0.mk (hbox); have n8_ := Aside0.mk ((by rw [hg]; exact (below_size (by repeat (first | (with_reducible first | exact HB.out | apply below_alloc | apply pw_below_drewN | apply below_drew1 | refine below_set ?_ GE532.out | refine below_set ?_ GE539.out | refine below_set ?_ GE552.out) | exact HB.out))) : w.heap.size ≤ gb559)); have n9_ := Aside0.mk ((by rw [hg]; exact (below_size (by repeat (first | (with_reducible first | exact HB.out | apply below_alloc | apply pw_below_drewN | apply below_drew1 | refine below_set ?_ GE532.out | refine below_set ?_ GE539.out | refine below_set ?_ GE552.out) | exact HB.out))) : w.heap.size ≤ gb559)); have n10_ := Aside0.mk ((by rw [hg]; exact Nat.ne_of_lt (blk_lt (g := gb532) (o := .cells #[.int .i64 t524, .int .i64 t525, .slice (some ad558) t526.length co12] 28 (0, 0)) (by (with_reducible repeat (first | refine blk_drewN ?_ _ | refine blk_drew ?_ | refine blk_alloc ?_ _)); exact BK532.out)) : gb532 ≠ gb559)); have n11_ := Aside0.mk ((by rw [hg]; exact Nat.ne_of_gt (blk_lt (g := gb532) (o := .cells #[.int .i64 t524, .int .i64 t525, .slice (some ad558) t526.length co12] 28 (0, 0)) (by (with_reducible repeat (first | refine blk_drewN ?_ _ | refine blk_drew ?_ | refine blk_alloc ?_ _)); exact BK532.out)) : gb559 ≠ gb532)); have n12_ := Aside0.mk ((by rw [hg]; exact Nat.ne_of_lt (blk_lt (g := gb539) (o := .cells #[.int .i64 t533, .int .i64 t534, .int .i64 t535, .slice Ao17 t536.length co17] 30 (0, 0)) (by (with_reducible repeat (first | refine blk_drewN ?_ _ | refine blk_drew ?_ | refine blk_alloc ?_ _)); exact BK539.out)) : gb539 ≠ gb559)); have n13_ := Aside0.mk ((by rw [hg]; exact Nat.ne_of_gt (blk_lt (g := gb539) (o := .cells #[.int .i64 t533, .int .i64 t534, .int .i64 t535, .slice Ao17 t536.length co17] 30 (0, 0)) (by (with_reducible repeat (first | refine blk_drewN ?_ _ | refine blk_drew ?_ | refine blk_alloc ?_ _)); exact BK539.out)) : gb559 ≠ gb539)); have n14_ := Aside0.mk ((by rw [hg]; exact Nat.ne_of_lt (blk_lt (g := gb552) (o := .cells #[.int .i64 t546, .int .i64 t547, .int .i64 t548, .slice Ao23 t549.length co23] 30 (0, 0)) (by (with_reducible repeat (first | refine blk_drewN ?_ _ | refine blk_drew ?_ | refine blk_alloc ?_ _)); exact BK552.out)) : gb552 ≠ gb559)); have n15_ := Aside0.mk ((by rw [hg]; exact Nat.ne_of_gt (blk_lt (g := gb552) (o := .cells #[.int .i64 t546, .int .i64 t547, .int .i64 t548, .slice Ao23 t549.length co23] 30 (0, 0)) (by (with_reducible repeat (first | refine blk_drewN ?_ _ | refine blk_drew ?_ | refine blk_alloc ?_ _)); exact BK552.out)) : gb559 ≠ gb552)); clear HO_533002; clear HO_540003; clear HO_553003; clear BK532; clear BK539; clear BK552; clear HB; have HO_533002 := n0_; have HO_540003 := n1_; have HO_553003 := n2_; have BK532 := n3_; have BK539 := n4_; have BK552 := n5_; have HB := n6_; have BK559 := n7_; have GW559 := n8_; have GE559 := n9_; have NB532_559 := n10_; have NB559_532 := n11_; have NB539_559 := n12_; have NB559_539 := n13_; have NB552_559 := n14_; have NB559_552 := n15_; clear n0_ n1_ n2_ n3_ n4_ n5_ n6_ n7_ n8_ n9_ n10_ n11_ n12_ n13_ n14_ n15_; clear hb hbox hg; have hnb75 := NB559_532.out; have hnc75 := NB532_559.out; have hnb76 := NB559_539.out; have hnc76 := NB539_559.out; have hnb77 := NB559_552.out; have hnc77 := NB552_559.out; have hcz78_0 : w74.cell? ⟨gb559, 0, none⟩ = some (.int .i64 0) := (blk_cell BK559.out 0).trans rfl; have hcz78_1 : w74.cell? ⟨gb559, 1, none⟩ = some (.int .i64 0) := (blk_cell BK559.out 1).trans rfl; have hfz78_0 := blk_frozen BK559.out 0; have hfz78_1 := blk_frozen BK559.out 1))
           have n0_ : Aside0 (Kd.R k49 49 ((w74.setCell ⟨gb559, 0, none⟩ (.int .i64 ((rd_T49 t526 x9_2).f0))).setCell ⟨gb559, 1, none⟩ (.int .i64 ((rd_T49 t526 x9_2).f1))) w.heap.size (fun k_ => some k_ ≠ (.slice Ao17 t536.length co17 : Value).ownBlock ∧ some k_ ≠ (.slice Ao23 t549.length co23 : Value).ownBlock ∧ k_ ≠ gb559) (.slice (some ad558) t526.length co12) t526) := ⟨by (with_reducible repeat (first | apply Kd.R_alloc | apply Kd.R_drewN | apply Kd.R_drew)); exact Kd.R_mono (Kd.R_far (p := ⟨gb559, 1, none⟩) (Kd.R_far (p := ⟨gb559, 0, none⟩) (Kd.R_mono HO_533002.out (fun k_ hk => (⟨hk, hk.2⟩ : _ ∧ k_ ≠ gb559))) (fun _ hk => hk.2) (.int .i64 ((rd_T49 t526 x9_2).f0))) (fun _ hk => hk.2) (.int .i64 ((rd_T49 t526 x9_2).f1))) (fun _ hk => ⟨hk.1.1.1, ⟨hk.1.1.2, hk.1.2⟩⟩)⟩
           have n1_ : Aside0 (Kd.R k49 49 ((w74.setCell ⟨gb559, 0, none⟩ (.int .i64 ((rd_T49 t526 x9_2).f0))).setCell ⟨gb559, 1, none⟩ (.int .i64 ((rd_T49 t526 x9_2).f1))) w.heap.size (fun k_ => some k_ ≠ (.slice (some ad558) t526.length co12 : Value).ownBlock ∧ some k_ ≠ (.slice Ao23 t549.length co23 : Value).ownBlock ∧ k_ ≠ gb559) (.slice Ao17 t536.length co17) t536) := ⟨by (with_reducible repeat (first | apply Kd.R_alloc | apply Kd.R_drewN | apply Kd.R_drew)); exact Kd.R_mono (Kd.R_far (p := ⟨gb559, 1, none⟩) (Kd.R_far (p := ⟨gb559, 0, none⟩) (Kd.R_mono HO_540003.out (fun k_ hk => (⟨hk, hk.2⟩ : _ ∧ k_ ≠ gb559))) (fun _ hk => hk.2) (.int .i64 ((rd_T49 t526 x9_2).f0))) (fun _ hk => hk.2) (.int .i64 ((rd_T49 t526 x9_2).f1))) (fun _ hk => ⟨hk.1.1.1, ⟨hk.1.1.2, hk.1.2⟩⟩)⟩
           have n2_ : Aside0 (Kd.R k49 49 ((w74.setCell ⟨gb559, 0, none⟩ (.int .i64 ((rd_T49 t526 x9_2).f0))).setCell ⟨gb559, 1, none⟩ (.int .i64 ((rd_T49 t526 x9_2).f1))) w.heap.size (fun k_ => some k_ ≠ (.slice (some ad558) t526.length co12 : Value).ownBlock ∧ some k_ ≠ (.slice Ao17 t536.length co17 : Value).ownBlock ∧ k_ ≠ gb559) (.slice Ao23 t549.length co23) t549) := ⟨by (with_reducible repeat (first | apply Kd.R_alloc | apply Kd.R_drewN | apply Kd.R_drew)); exact Kd.R_mono (Kd.R_far (p := ⟨gb559, 1, none⟩) (Kd.R_far (p := ⟨gb559, 0, none⟩) (Kd.R_mono HO_553003.out (fun k_ hk => (⟨hk, hk.2⟩ : _ ∧ k_ ≠ gb559))) (fun _ hk => hk.2) (.int .i64 ((rd_T49 t526 x9_2).f0))) (fun _ hk => hk.2) (.int .i64 ((rd_T49 t526 x9_2).f1))) (fun _ hk => ⟨hk.1.1.1, ⟨hk.1.1.2, hk.1.2⟩⟩)⟩
           have n3_ : Aside0 (((w74.setCell ⟨gb559, 0, none⟩ (.int .i64 ((rd_T49 t526 x9_2).f0))).setCell ⟨gb559, 1, none⟩ (.int .i64 ((rd_T49 t526 x9_2).f1))).heap[gb532]? = some (.cells #[.int .i64 t524, .int .i64 t525, .slice (some ad558) t526.length co12] 28 (0, 0))) := ⟨by (with_reducible repeat (first | refine blk_drewN ?_ _ | refine blk_drew ?_ | refine blk_alloc ?_ _)); refine blk_far ?_ NB532_559.out _; (with_reducible repeat (first | refine blk_drewN ?_ _ | refine blk_drew ?_ | refine blk_alloc ?_ _)); refine blk_far ?_ NB532_559.out _; (with_reducible repeat (first | refine blk_drewN ?_ _ | refine blk_drew ?_ | refine blk_alloc ?_ _)); exact BK532.out⟩
           have n4_ : Aside0 (((w74.setCell ⟨gb559, 0, none⟩ (.int .i64 ((rd_T49 t526 x9_2).f0))).setCell ⟨gb559, 1, none⟩ (.int .i64 ((rd_T49 t526 x9_2).f1))).heap[gb539]? = some (.cells #[.int .i64 t533, .int .i64 t534, .int .i64 t535, .slice Ao17 t536.length co17] 30 (0, 0))) := ⟨by (with_reducible repeat (first | refine blk_drewN ?_ _ | refine blk_drew ?_ | refine blk_alloc ?_ _)); refine blk_far ?_ NB539_559.out _; (with_reducible repeat (first | refine blk_drewN ?_ _ | refine blk_drew ?_ | refine blk_alloc ?_ _)); refine blk_far ?_ NB539_559.out _; (with_reducible repeat (first | refine blk_drewN ?_ _ | refine blk_drew ?_ | refine blk_alloc ?_ _)); exact BK539.out⟩
           have n5_ : Aside0 (((w74.setCell ⟨gb559, 0, none⟩ (.int .i64 ((rd_T49 t526 x9_2).f0))).setCell ⟨gb559, 1, none⟩ (.int .i64 ((rd_T49 t526 x9_2).f1))).heap[gb552]? = some (.cells #[.int .i64 t546, .int .i64 t547, .int .i64 t548, .slice Ao23 t549.length co23] 30 (0, 0))) := ⟨by (with_reducible repeat (first | refine blk_drewN ?_ _ | refine blk_drew ?_ | refine blk_alloc ?_ _)); refine blk_far ?_ NB552_559.out _; (with_reducible repeat (first | refine blk_drewN ?_ _ | refine blk_drew ?_ | refine blk_alloc ?_ _)); refine blk_far ?_ NB552_559.out _; (with_reducible repeat (first | refine blk_drewN ?_ _ | refine blk_drew ?_ | refine blk_alloc ?_ _)); exact BK552.out⟩
           have n6_ : Aside0 (((w74.setCell ⟨gb559, 0, none⟩ (.int .i64 ((rd_T49 t526 x9_2).f0))).setCell ⟨gb559, 1, none⟩ (.int .i64 ((rd_T49 t526 x9_2).f1))).heap[gb559]? = some (.cells #[.int .i64 ((rd_T49 t526 x9_2).f0), .int .i64 ((rd_T49 t526 x9_2).f1)] 49 (0, 0))) := ⟨by (with_reducible repeat (first | refine blk_drewN ?_ _ | refine blk_drew ?_ | refine blk_alloc ?_ _)); refine blk_put (cs := #[.int .i64 ((rd_T49 t526 x9_2).f0), .int .i64 0]) ?_ 1 _ rfl; (with_reducible repeat (first | refine blk_drewN ?_ _ | refine blk_drew ?_ | refine blk_alloc ?_ _)); refine blk_put (cs := #[.int .i64 0, .int .i64 0]) ?_ 0 _ rfl; (with_reducible repeat (first | refine blk_drewN ?_ _ | refine blk_drew ?_ | refine blk_alloc ?_ _)); exact BK559.out⟩
           have n7_ : Aside0 (Below w.heap.size w ((w74.setCell ⟨gb559, 0, none⟩ (.int .i64 ((rd_T49 t526 x9_2).f0))).setCell ⟨gb559, 1, none⟩ (.int .i64 ((rd_T49 t526 x9_2).f1)))) := ⟨by repeat (first | (with_reducible first | exact HB.out | apply below_alloc | apply pw_below_drewN | apply below_drew1 | refine below_set ?_ GE532.out | refine below_set ?_ GE539.out | refine below_set ?_ GE552.out | refine below_set ?_ GE559.out) | exact HB.out)⟩
           (try clear HO_533002)
           (try clear HO_540003)
           (try clear HO_553003)
           (try clear BK532)
           (try clear BK539)
           (try clear BK552)
           (try clear BK559)
           (try clear HB)
           generalize ((w74.setCell ⟨gb559, 0, none⟩ (.int .i64 ((rd_T49 t526 x9_2).f0))).setCell ⟨gb559, 1, none⟩ (.int .i64 ((rd_T49 t526 x9_2).f1))) = w79 at n0_ n1_ n2_ n3_ n4_ n5_ n6_ n7_ ⊢
           have HO_533002 := n0_
           have HO_540003 := n1_
           have HO_553003 := n2_
           have BK532 := n3_
           have BK539 := n4_
           have BK552 := n5_
           have BK559 := n6_
           have HB := n7_
           clear n0_ n1_ n2_ n3_ n4_ n5_ n6_ n7_
           have n0_ := Aside0.mk (Kd.R_drew HO_533002.out)
           have n1_ := Aside0.mk (Kd.R_drew HO_540003.out)
           have n2_ := Aside0.mk (Kd.R_drew HO_553003.out)
           have n3_ := Aside0.mk (blk_drew BK532.out)
           have n4_ := Aside0.mk (blk_drew BK539.out)
           have n5_ := Aside0.mk (blk_drew BK552.out)
           have n6_ := Aside0.mk (blk_drew BK559.out)
           have n7_ := Aside0.mk (below_drew1 HB.out)
           clear HO_533002
           clear HO_540003
           clear HO_553003
           clear BK532
           clear BK539
           clear BK552
           clear BK559
           clear HB
           have HO_533002 := n0_
           have HO_540003 := n1_
           have HO_553003 := n2_
           have BK532 := n3_
           have BK539 := n4_
           have BK552 := n5_
           have BK559 := n6_
           have HB := n7_
           clear n0_ n1_ n2_ n3_ n4_ n5_ n6_ n7_
           refine start_ (n := 26) (S := fun w' => w'.cell? ⟨gb559, 0, none⟩ = some (.int .i64 ((rd_T49 t526 x9_2).f0)) ∧ w'.cell? ⟨gb559, 1, none⟩ = some (.int .i64 ((rd_T49 t526 x9_2).f1))) (ds := []) #[false, false, false, false, false, false, false, false, false, false, false, false, false, false, false, false, false, false, false, false, false, false, false, false, false, false] (by kernel_rfl) rfl rfl ⟨(blk_cell BK559.out 0).trans rfl, (blk_cell BK559.out 1).trans rfl⟩ (fun hHeld => ?_); refine with_tabW laws_FnCells.tab14 laws_FnCells.bits14 (fun HT_ HW_ => ?_)
           generalize w79.drew = w80 at HO_533002 HO_540003 HO_553003 BK532 BK539 BK552 BK559 HB hHeld ⊢
           refine pure_ (i := 0) (N := some 87) (v := ?_) (a' := ?_) #[true, false, false, false, false, false, false, false, false, false, false, false, false, false, false, false, false, false, false, false, false, false, false, false, false, false] rfl rfl (any_of HT_.out (by kernel_rfl)) (fun _ _ _ h => h) (Or.inl ⟨by rfl, ?_⟩) ?_ ?_
           rotate_left
           ·intro w'
            go_simp
            with_reducible rfl
           rotate_left
           ·simp only [Act.put, List.setIfInBounds_toArray, List.set_cons_zero, List.set_cons_succ, i64_w, i32_w]
            rfl
           refine pure_ (i := 2) (N := some 89) (v := ?_) (a' := ?_) #[true, false, true, false, false, false, false, false, false, false, false, false, false, false, false, false, false, false, false, false, false, false, false, false, false, false] rfl rfl (any_of HT_.out (by kernel_rfl)) (fun _ _ _ h => h) (Or.inl ⟨by rfl, ?_⟩) ?_ ?_
           rotate_left
           ·intro w'
            go_simp
            with_reducible rfl
           rotate_left
           ·simp only [Act.put, List.setIfInBounds_toArray, List.set_cons_zero, List.set_cons_succ, i64_w, i32_w]
            rfl
           refine take_ (i := 1) (N := some 88) (v := ?_) (a' := ?_) #[true, true, true, false, false, false, false, false, false, false, false, false, false, false, false, false, false, false, false, false, false, false, false, false, false, false] rfl rfl (take_ofW HT_.out HW_.out (by kernel_rfl)) (fun _ _ _ h => h) (Or.inl ⟨by rfl, ?_⟩) hHeld ?_ ?_
           rotate_left
           ·rintro w' ⟨s0, s1⟩
            go_simp
            with_reducible rfl
           rotate_left
           ·simp only [Act.put, List.setIfInBounds_toArray, List.set_cons_zero, List.set_cons_succ, i64_w, i32_w]
            rfl
           refine pure_ (i := 3) (N := some 90) (v := ?_) (a' := ?_) #[true, true, true, true, false, false, false, false, false, false, false, false, false, false, false, false, false, false, false, false, false, false, false, false, false, false] rfl rfl (any_of HT_.out (by kernel_rfl)) (fun _ _ _ h => h) (Or.inl ⟨by rfl, ?_⟩) ?_ ?_
           rotate_left
           ·intro w'
            go_simp
            with_reducible rfl
           rotate_left
           ·simp only [Act.put, List.setIfInBounds_toArray, List.set_cons_zero, List.set_cons_succ, i64_w, i32_w]
            rfl
           refine pure_ (i := 4) (N := some 91) (v := ?_) (a' := ?_) #[true, true, true, true, true, false, false, false, false, false, false, false, false, false, false, false, false, false, false, false, false, false, false, false, false, false] rfl rfl (any_of HT_.out (by kernel_rfl)) (fun _ _ _ h => h) (Or.inl ⟨by rfl, ?_⟩) ?_ ?_
           rotate_left
           ·intro w'
            go_simp
            with_reducible rfl
           rotate_left
           ·simp only [Act.put, List.setIfInBounds_toArray, List.set_cons_zero, List.set_cons_succ, i64_w, i32_w]
            rfl
           refine pure_ (i := 5) (N := some 92) (v := undef) (a' := ?_) #[true, true, true, true, true, true, false, false, false, false, false, false, false, false, false, false, false, false, false, false, false, false, false, false, false, false] rfl rfl (any_of HT_.out (by kernel_rfl)) (fun _ _ _ h => h) (Or.inr ⟨by rfl, rfl⟩) ?_ ?_
           rotate_left
           ·simp only [Act.put, List.setIfInBounds_toArray, List.set_cons_zero, List.set_cons_succ, i64_w, i32_w]
            rfl
           refine pure_ (i := 6) (N := some 93) (v := undef) (a' := ?_) #[true, true, true, true, true, true, true, false, false, false, false, false, false, false, false, false, false, false, false, false, false, false, false, false, false, false] rfl rfl (any_of HT_.out (by kernel_rfl)) (fun _ _ _ h => h) (Or.inr ⟨by rfl, rfl⟩) ?_ ?_
           rotate_left
           ·simp only [Act.put, List.setIfInBounds_toArray, List.set_cons_zero, List.set_cons_succ, i64_w, i32_w]
            rfl
           refine pure_ (i := 7) (N := some 94) (v := undef) (a' := ?_) #[true, true, true, true, true, true, true, true, false, false, false, false, false, false, false, false, false, false, false, false, false, false, false, false, false, false] rfl rfl (any_of HT_.out (by kernel_rfl)) (fun _ _ _ h => h) (Or.inr ⟨by rfl, rfl⟩) ?_ ?_
           rotate_left
           ·simp only [Act.put, List.setIfInBounds_toArray, List.set_cons_zero, List.set_cons_succ, i64_w, i32_w]
            rfl
           refine pure_ (i := 8) (N := some 95) (v := undef) (a' := ?_) #[true, true, true, true, true, true, true, true, true, false, false, false, false, false, false, false, false, false, false, false, false, false, false, false, false, false] rfl rfl (any_of HT_.out (by kernel_rfl)) (fun _ _ _ h => h) (Or.inr ⟨by rfl, rfl⟩) ?_ ?_
           rotate_left
           ·simp only [Act.put, List.setIfInBounds_toArray, List.set_cons_zero, List.set_cons_succ, i64_w, i32_w]
            rfl
           refine pure_ (i := 9) (N := some 96) (v := undef) (a' := ?_) #[true, true, true, true, true, true, true, true, true, true, false, false, false, false, false, false, false, false, false, false, false, false, false, false, false, false] rfl rfl (any_of HT_.out (by kernel_rfl)) (fun _ _ _ h => h) (Or.inr ⟨by rfl, rfl⟩) ?_ ?_
           rotate_left
           ·simp only [Act.put, List.setIfInBounds_toArray, List.set_cons_zero, List.set_cons_succ, i64_w, i32_w]
            rfl
           refine pure_ (i := 10) (N := some 97) (v := undef) (a' := ?_) #[true, true, true, true, true, true, true, true, true, true, true, false, false, false, false, false, false, false, false, false, false, false, false, false, false, false] rfl rfl (any_of HT_.out (by kernel_rfl)) (fun _ _ _ h => h) (Or.inr ⟨by rfl, rfl⟩) ?_ ?_
           rotate_left
           ·simp only [Act.put, List.setIfInBounds_toArray, List.set_cons_zero, List.set_cons_succ, i64_w, i32_w]
            rfl
           refine pure_ (i := 11) (N := some 98) (v := undef) (a' := ?_) #[true, true, true, true, true, true, true, true, true, true, true, true, false, false, false, false, false, false, false, false, false, false, false, false, false, false] rfl rfl (any_of HT_.out (by kernel_rfl)) (fun _ _ _ h => h) (Or.inr ⟨by rfl, rfl⟩) ?_ ?_
           rotate_left
           ·simp only [Act.put, List.setIfInBounds_toArray, List.set_cons_zero, List.set_cons_succ, i64_w, i32_w]
            rfl
           refine pure_ (i := 12) (N := some 99) (v := undef) (a' := ?_) #[true, true, true, true, true, true, true, true, true, true, true, true, true, false, false, false, false, false, false, false, false, false, false, false, false, false] rfl rfl (any_of HT_.out (by kernel_rfl)) (fun _ _ _ h => h) (Or.inr ⟨by rfl, rfl⟩) ?_ ?_
           rotate_left
           ·simp only [Act.put, List.setIfInBounds_toArray, List.set_cons_zero, List.set_cons_succ, i64_w, i32_w]
            rfl
           refine pure_ (i := 13) (N := some 100) (v := undef) (a' := ?_) #[true, true, true, true, true, true, true, true, true, true, true, true, true, true, false, false, false, false, false, false, false, false, false, false, false, false] rfl rfl (any_of HT_.out (by kernel_rfl)) (fun _ _ _ h => h) (Or.inr ⟨by rfl, rfl⟩) ?_ ?_
           rotate_left
           ·simp only [Act.put, List.setIfInBounds_toArray, List.set_cons_zero, List.set_cons_succ, i64_w, i32_w]
            rfl
           refine pure_ (i := 14) (N := some 101) (v := undef) (a' := ?_) #[true, true, true, true, true, true, true, true, true, true, true, true, true, true, true, false, false, false, false, false, false, false, false, false, false, false] rfl rfl (any_of HT_.out (by kernel_rfl)) (fun _ _ _ h => h) (Or.inr ⟨by rfl, rfl⟩) ?_ ?_
           rotate_left
           ·simp only [Act.put, List.setIfInBounds_toArray, List.set_cons_zero, List.set_cons_succ, i64_w, i32_w]
            rfl
           refine pure_ (i := 15) (N := some 102) (v := undef) (a' := ?_) #[true, true, true, true, true, true, true, true, true, true, true, true, true, true, true, true, false, false, false, false, false, false, false, false, false, false] rfl rfl (any_of HT_.out (by kernel_rfl)) (fun _ _ _ h => h) (Or.inr ⟨by rfl, rfl⟩) ?_ ?_
           rotate_left
           ·simp only [Act.put, List.setIfInBounds_toArray, List.set_cons_zero, List.set_cons_succ, i64_w, i32_w]
            rfl
           refine pure_ (i := 16) (N := some 103) (v := undef) (a' := ?_) #[true, true, true, true, true, true, true, true, true, true, true, true, true, true, true, true, true, false, false, false, false, false, false, false, false, false] rfl rfl (any_of HT_.out (by kernel_rfl)) (fun _ _ _ h => h) (Or.inr ⟨by rfl, rfl⟩) ?_ ?_
           rotate_left
           ·simp only [Act.put, List.setIfInBounds_toArray, List.set_cons_zero, List.set_cons_succ, i64_w, i32_w]
            rfl
           refine pure_ (i := 17) (N := some 104) (v := undef) (a' := ?_) #[true, true, true, true, true, true, true, true, true, true, true, true, true, true, true, true, true, true, false, false, false, false, false, false, false, false] rfl rfl (any_of HT_.out (by kernel_rfl)) (fun _ _ _ h => h) (Or.inr ⟨by rfl, rfl⟩) ?_ ?_
           rotate_left
           ·simp only [Act.put, List.setIfInBounds_toArray, List.set_cons_zero, List.set_cons_succ, i64_w, i32_w]
            rfl
           refine pure_ (i := 18) (N := some 105) (v := undef) (a' := ?_) #[true, true, true, true, true, true, true, true, true, true, true, true, true, true, true, true, true, true, true, false, false, false, false, false, false, false] rfl rfl (any_of HT_.out (by kernel_rfl)) (fun _ _ _ h => h) (Or.inr ⟨by rfl, rfl⟩) ?_ ?_
           rotate_left
           ·simp only [Act.put, List.setIfInBounds_toArray, List.set_cons_zero, List.set_cons_succ, i64_w, i32_w]
            rfl
           refine pure_ (i := 19) (N := some 106) (v := undef) (a' := ?_) #[true, true, true, true, true, true, true, true, true, true, true, true, true, true, true, true, true, true, true, true, false, false, false, false, false, false] rfl rfl (any_of HT_.out (by kernel_rfl)) (fun _ _ _ h => h) (Or.inr ⟨by rfl, rfl⟩) ?_ ?_
           rotate_left
           ·simp only [Act.put, List.setIfInBounds_toArray, List.set_cons_zero, List.set_cons_succ, i64_w, i32_w]
            rfl
           refine pure_ (i := 20) (N := some 107) (v := undef) (a' := ?_) #[true, true, true, true, true, true, true, true, true, true, true, true, true, true, true, true, true, true, true, true, true, false, false, false, false, false] rfl rfl (any_of HT_.out (by kernel_rfl)) (fun _ _ _ h => h) (Or.inr ⟨by rfl, rfl⟩) ?_ ?_
           rotate_left
           ·simp only [Act.put, List.setIfInBounds_toArray, List.set_cons_zero, List.set_cons_succ, i64_w, i32_w]
            rfl
           refine pure_ (i := 21) (N := some 108) (v := undef) (a' := ?_) #[true, true, true, true, true, true, true, true, true, true, true, true, true, true, true, true, true, true, true, true, true, true, false, false, false, false] rfl rfl (any_of HT_.out (by kernel_rfl)) (fun _ _ _ h => h) (Or.inr ⟨by rfl, rfl⟩) ?_ ?_
           rotate_left
           ·simp only [Act.put, List.setIfInBounds_toArray, List.set_cons_zero, List.set_cons_succ, i64_w, i32_w]
            rfl
           refine pure_ (i := 22) (N := some 109) (v := undef) (a' := ?_) #[true, true, true, true, true, true, true, true, true, true, true, true, true, true, true, true, true, true, true, true, true, true, true, false, false, false] rfl rfl (any_of HT_.out (by kernel_rfl)) (fun _ _ _ h => h) (Or.inr ⟨by rfl, rfl⟩) ?_ ?_
           rotate_left
           ·simp only [Act.put, List.setIfInBounds_toArray, List.set_cons_zero, List.set_cons_succ, i64_w, i32_w]
            rfl
           refine pure_ (i := 23) (N := some 110) (v := undef) (a' := ?_) #[true, true, true, true, true, true, true, true, true, true, true, true, true, true, true, true, true, true, true, true, true, true, true, true, false, false] rfl rfl (any_of HT_.out (by kernel_rfl)) (fun _ _ _ h => h) (Or.inr ⟨by rfl, rfl⟩) ?_ ?_
           rotate_left
           ·simp only [Act.put, List.setIfInBounds_toArray, List.set_cons_zero, List.set_cons_succ, i64_w, i32_w]
            rfl
           refine pure_ (i := 24) (N := some 111) (v := undef) (a' := ?_) #[true, true, true, true, true, true, true, true, true, true, true, true, true, true, true, true, true, true, true, true, true, true, true, true, true, false] rfl rfl (any_of HT_.out (by kernel_rfl)) (fun _ _ _ h => h) (Or.inr ⟨by rfl, rfl⟩) ?_ ?_
           rotate_left
           ·simp only [Act.put, List.setIfInBounds_toArray, List.set_cons_zero, List.set_cons_succ, i64_w, i32_w]
            rfl
           refine pure_ (i := 25) (N := some 112) (v := ?_) (a' := ?_) #[true, true, true, true, true, true, true, true, true, true, true, true, true, true, true, true, true, true, true, true, true, true, true, true, true, true] rfl rfl (any_of HT_.out (by kernel_rfl)) (fun _ _ _ h => h) (Or.inl ⟨by rfl, ?_⟩) ?_ ?_
           rotate_left
           ·intro w'
            go_simp
            with_reducible rfl
           rotate_left
           ·simp only [Act.put, List.setIfInBounds_toArray, List.set_cons_zero, List.set_cons_succ, i64_w, i32_w]
            rfl
           refine done_ (done_of HT_.out (by kernel_rfl)) ?_
           try go_wp2
           go_roundg k2
           case measure => have := HJ7.out; have := HK2.out; omega
           case rel => exact ⟨(wrap64 (x9_2 + 1)), (by first | rfl | (simp; done) | (simp [*]; done)), H', ⟨by have := HJ7.out; have := HK2.out; omega⟩, ⟨by (with_reducible repeat (first | apply Kd.R_alloc | apply Kd.R_drewN | apply Kd.R_drew)); exact Kd.R_mono HO_533002.out (fun _ hk => ⟨hk.1, hk.2.1⟩)⟩, ⟨by (with_reducible repeat (first | apply Kd.R_alloc | apply Kd.R_drewN | apply Kd.R_drew)); exact Kd.R_mono HO_540003.out (fun _ hk => ⟨hk.1, hk.2.1⟩)⟩, ⟨by (with_reducible repeat (first | apply Kd.R_alloc | apply Kd.R_drewN | apply Kd.R_drew)); exact Kd.R_mono HO_553003.out (fun _ hk => ⟨hk.1, hk.2.1⟩)⟩, ⟨by (with_reducible repeat (first | refine blk_drewN ?_ _ | refine blk_drew ?_ | refine blk_alloc ?_ _)); exact BK532.out⟩, ⟨by (with_reducible repeat (first | refine blk_drewN ?_ _ | refine blk_drew ?_ | refine blk_alloc ?_ _)); exact BK539.out⟩, ⟨by (with_reducible repeat (first | refine blk_drewN ?_ _ | refine blk_drew ?_ | refine blk_alloc ?_ _)); exact BK552.out⟩, ⟨by repeat (first | (with_reducible first | exact HB.out | apply below_alloc | apply pw_below_drewN | apply below_drew1 | refine below_set ?_ GE532.out | refine below_set ?_ GE539.out | refine below_set ?_ GE552.out | refine below_set ?_ GE559.out) | exact HB.out)⟩⟩
          ·rw [if_neg c70] at H
           have c70b0 : (((rd_T49 t526 x9_2).f0) == t529) = false := beq_eq_false_iff_ne.mpr c70
           have c70b1 : (((rd_T49 t526 x9_2).f0) != t529) = true := bne_iff_ne.mpr c70
           replace H := Option.bind_eq_some_iff.mp H
           obtain ⟨⟨t560, t561⟩, A810, H⟩ := H
           replace H : (if t561 = ((rd_T49 t526 x9_2).f1) then ((impl_CellOf.f k2 t547 t548 t549 ((rd_T49 t526 x9_2).f0)).bind fun bt562 => (if bt562.2 = ((rd_T49 t526 x9_2).f1) then (laws_FnCells.l0 k2 t529 (wrap64 (x9_2 + 1)) t524 t525 t526 t533 t534 t535 t536 t546 t547 t548 t549) else (some false))) else (some false)) = some true := H
           have A81 := Aside0.mk A810
           clear A810
           by_cases c82 : t561 = ((rd_T49 t526 x9_2).f1)
           ·rw [if_pos c82] at H
            have c82b0 : (t561 == ((rd_T49 t526 x9_2).f1)) = true := beq_iff_eq.mpr c82
            have c82b1 : (t561 != ((rd_T49 t526 x9_2).f1)) = false := bne_eq_false_iff_eq.mpr c82
            clear c82
            replace H := Option.bind_eq_some_iff.mp H
            obtain ⟨⟨t562, t563⟩, A830, H⟩ := H
            replace H : (if t563 = ((rd_T49 t526 x9_2).f1) then (laws_FnCells.l0 k2 t529 (wrap64 (x9_2 + 1)) t524 t525 t526 t533 t534 t535 t536 t546 t547 t548 t549) else (some false)) = some true := H
            have A83 := Aside0.mk A830
            clear A830
            by_cases c84 : t563 = ((rd_T49 t526 x9_2).f1)
            ·rw [if_pos c84] at H
             have c84b0 : (t563 == ((rd_T49 t526 x9_2).f1)) = true := beq_iff_eq.mpr c84
             have c84b1 : (t563 != ((rd_T49 t526 x9_2).f1)) = false := bne_eq_false_iff_eq.mpr c84
             clear c84
             have H' := Aside0.mk H
             clear H
             have hnb85 := NB532_539.out
             have hnc85 := NB539_532.out
             have hnb86 := NB532_552.out
             have hnc86 := NB552_532.out
             have hcz87_0 : wr.cell? ⟨gb532, 0, none⟩ = some (.int .i64 t524) := (blk_cell BK532.out 0).trans rfl
             have hcz87_1 : wr.cell? ⟨gb532, 1, none⟩ = some (.int .i64 t525) := (blk_cell BK532.out 1).trans rfl
             have hcz87_2 : wr.cell? ⟨gb532, 2, none⟩ = some (.slice Ao12 t526.length co12) := (blk_cell BK532.out 2).trans rfl
             have hfz87_0 := blk_frozen BK532.out 0
             have hfz87_1 := blk_frozen BK532.out 1
             have hfz87_2 := blk_frozen BK532.out 2
             have p558 : 0 ≤ (x9_2 : Int) := of_decide_eq_true (by first | (with_reducible assumption) | assumption)
             have q558 : x9_2 < (t526.length : Int) := of_decide_eq_true (by first | (with_reducible assumption) | assumption)
             obtain ⟨ad558, e558, hx558_0, hx558_1⟩ := at_T49 (Kd.R_reads' HO_533002.out).2.2 x9_2 p558 q558
             cases e558
             replace p558 := eq_true p558
             replace q558 := eq_true q558
             try go_wp2_with (first | ((with_reducible refine gate_dst (N := 10) rfl ?_); refine box_event ?hg (N := 10) ?hd (cs := #[.int .i64 0, .int .i64 0]) (t := 49) ?hr ?_; (case hd => rfl); (case hg => rfl); (case hr => first | (go_simp; done) | (go_simp; rfl)); intro gb559 hg w88 hbox hb; have n0_ := Aside0.mk (Kd.R_below (Kd.R_elderB (by (with_reducible repeat (first | apply Kd.R_alloc | apply Kd.R_drewN | apply Kd.R_drew)); exact HO_533002.out) gb559 (Nat.le_of_eq hg.symm)) hb); have n1_ := Aside0.mk (Kd.R_below (Kd.R_elderB (by (with_reducible repeat (first | apply Kd.R_alloc | apply Kd.R_drewN | apply Kd.R_drew)); exact HO_540003.out) gb559 (Nat.le_of_eq hg.symm)) hb); have n2_ := Aside0.mk (Kd.R_below (Kd.R_elderB (by (with_reducible repeat (first | apply Kd.R_alloc | apply Kd.R_drewN | apply Kd.R_drew)); exact HO_553003.out) gb559 (Nat.le_of_eq hg.symm)) hb); have n3_ := Aside0.mk (blk_below (g := gb532) (o := .cells #[.int .i64 t524, .int .i64 t525, .slice (some ad558) t526.length co12] 28 (0, 0)) (by (with_reducible repeat (first | refine blk_drewN ?_ _ | refine blk_drew ?_ | refine blk_alloc ?_ _)); exact BK532.out) hb); have n4_ := Aside0.mk (blk_below (g := gb539) (o := .cells #[.int .i64 t533, .int .i64 t534, .int .i64 t535, .slice Ao17 t536.length co17] 30 (0, 0)) (by (with_reducible repeat (first | refine blk_drewN ?_ _ | refine blk_drew ?_ | refine blk_alloc ?_ _)); exact BK539.out) hb); have n5_ := Aside0.mk (blk_below (g := gb552) (o := .cells #[.int .i64 t546, .int .i64 t547, .int .i64 t548, .slice Ao23 t549.length co23] 30 (0, 0)) (by (with_reducible repeat (first | refine blk_drewN ?_ _ | refine blk_drew ?_ | refine blk_alloc ?_ _)); exact BK552.out) hb); have n6_ := Aside0.mk (below_step (by repeat (first | (with_reducible first | exact HB.out | apply below_alloc | apply pw_below_drewN | apply below_drew1 | refine below_set ?_ GE532.out | refine below_set ?_ GE539.out | refine below_set ?_ GE552.out) | exact HB.out)) hb); have n7_ := Aside0.mk (hbox); have n8_ := Aside0.mk ((by rw [hg]; exact (below_size (by repeat (first | (with_reducible first | exact HB.out | apply below_alloc | apply pw_below_drewN | apply below_drew1 | refine below_set ?_ GE532.out | refine below_set ?_ GE539.out | refine below_set ?_ GE552.out) | exact HB.out))) : w.heap.size ≤ gb559)); have n9_ := Aside0.mk ((by rw [hg]; exact (below_size (by repeat (first | (with_reducible first | exact HB.out | apply below_alloc | apply pw_below_drewN | apply below_drew1 | refine below_set ?_ GE532.out | refine below_set ?_ GE539.out | refine below_set ?_ GE552.out) | exact HB.out))) : w.heap.size ≤ gb559)); have n10_ := Aside0.mk ((by rw [hg]; exact Nat.ne_of_lt (blk_lt (g := gb532) (o := .cells #[.int .i64 t524, .int .i64 t525, .slice (some ad558) t526.length co12] 28 (0, 0)) (by (with_reducible repeat (first | refine blk_drewN ?_ _ | refine blk_drew ?_ | refine blk_alloc ?_ _)); exact BK532.out)) : gb532 ≠ gb559)); have n11_ := Aside0.mk ((by rw [hg]; exact Nat.ne_of_gt (blk_lt (g := gb532) (o := .cells #[.int .i64 t524, .int .i64 t525, .slice (some ad558) t526.length co12] 28 (0, 0)) (by (with_reducible repeat (first | refine blk_drewN ?_ _ | refine blk_drew ?_ | refine blk_alloc ?_ _)); exact BK532.out)) : gb559 ≠ gb532)); have n12_ := Aside0.mk ((by rw [hg]; exact Nat.ne_of_lt (blk_lt (g := gb539) (o := .cells #[.int .i64 t533, .int .i64 t534, .int .i64 t535, .slice Ao17 t536.length co17] 30 (0, 0)) (by (with_reducible repeat (first | refine blk_drewN ?_ _ | refine blk_drew ?_ | refine blk_alloc ?_ _)); exact BK539.out)) : gb539 ≠ gb559)); have n13_ := Aside0.mk ((by rw [hg]; exact Nat.ne_of_gt (blk_lt (g := gb539) (o := .cells #[.int .i64 t533, .int .i64 t534, .int .i64 t535, .slice Ao17 t536.length co17] 30 (0, 0)) (by (with_reducible repeat (first | refine blk_drewN ?_ _ | refine blk_drew ?_ | refine blk_alloc ?_ _)); exact BK539.out)) : gb559 ≠ gb539)); have n14_ := Aside0.mk ((by rw [hg]; exact Nat.ne_of_lt (blk_lt (g := gb552) (o := .cells #[.int .i64 t546, .int .i64 t547, .int .i64 t548, .slice Ao23 t549.length co23] 30 (0, 0)) (by (with_reducible repeat (first | refine blk_drewN ?_ _ | refine blk_drew ?_ | refine blk_alloc ?_ _)); exact BK552.out)) : gb552 ≠ gb559)); have n15_ := Aside0.mk ((by rw [hg]; exact Nat.ne_of_gt (blk_lt (g := gb552) (o := .cells #[.int .i64 t546, .int .i64 t547, .int .i64 t548, .slice Ao23 t549.length co23] 30 (0, 0)) (by (with_reducible repeat (first | refine blk_drewN ?_ _ | refine blk_drew ?_ | refine blk_alloc ?_ _)); exact BK552.out)) : gb559 ≠ gb552)); clear HO_533002; clear HO_540003; clear HO_553003; clear BK532; clear BK539; clear BK552; clear HB; have HO_533002 := n0_; have HO_540003 := n1_; have HO_553003 := n2_; have BK532 := n3_; have BK539 := n4_; have BK552 := n5_; have HB := n6_; have BK559 := n7_; have GW559 := n8_; have GE559 := n9_; have NB532_559 := n10_; have NB559_532 := n11_; have NB539_559 := n12_; have NB559_539 := n13_; have NB552_559 := n14_; have NB559_552 := n15_; clear n0_ n1_ n2_ n3_ n4_ n5_ n6_ n7_ n8_ n9_ n10_ n11_ n12_ n13_ n14_ n15_; clear hb hbox hg; have hnb89 := NB559_532.out; have hnc89 := NB532_559.out; have hnb90 := NB559_539.out; have hnc90 := NB539_559.out; have hnb91 := NB559_552.out; have hnc91 := NB552_559.out; have hcz92_0 : w88.cell? ⟨gb559, 0, none⟩ = some (.int .i64 0) := (blk_cell BK559.out 0).trans rfl; have hcz92_1 : w88.cell? ⟨gb559, 1, none⟩ = some (.int .i64 0) := (blk_cell BK559.out 1).trans rfl; have hfz92_0 := blk_frozen BK559.out 0; have hfz92_1 := blk_frozen BK559.out 1))
             have n0_ : Aside0 (Kd.R k49 49 ((w88.setCell ⟨gb559, 0, none⟩ (.int .i64 ((rd_T49 t526 x9_2).f0))).setCell ⟨gb559, 1, none⟩ (.int .i64 ((rd_T49 t526 x9_2).f1))) w.heap.size (fun k_ => some k_ ≠ (.slice Ao17 t536.length co17 : Value).ownBlock ∧ some k_ ≠ (.slice Ao23 t549.length co23 : Value).ownBlock ∧ k_ ≠ gb559) (.slice (some ad558) t526.length co12) t526) := ⟨by (with_reducible repeat (first | apply Kd.R_alloc | apply Kd.R_drewN | apply Kd.R_drew)); exact Kd.R_mono (Kd.R_far (p := ⟨gb559, 1, none⟩) (Kd.R_far (p := ⟨gb559, 0, none⟩) (Kd.R_mono HO_533002.out (fun k_ hk => (⟨hk, hk.2⟩ : _ ∧ k_ ≠ gb559))) (fun _ hk => hk.2) (.int .i64 ((rd_T49 t526 x9_2).f0))) (fun _ hk => hk.2) (.int .i64 ((rd_T49 t526 x9_2).f1))) (fun _ hk => ⟨hk.1.1.1, ⟨hk.1.1.2, hk.1.2⟩⟩)⟩
             have n1_ : Aside0 (Kd.R k49 49 ((w88.setCell ⟨gb559, 0, none⟩ (.int .i64 ((rd_T49 t526 x9_2).f0))).setCell ⟨gb559, 1, none⟩ (.int .i64 ((rd_T49 t526 x9_2).f1))) w.heap.size (fun k_ => some k_ ≠ (.slice (some ad558) t526.length co12 : Value).ownBlock ∧ some k_ ≠ (.slice Ao23 t549.length co23 : Value).ownBlock ∧ k_ ≠ gb559) (.slice Ao17 t536.length co17) t536) := ⟨by (with_reducible repeat (first | apply Kd.R_alloc | apply Kd.R_drewN | apply Kd.R_drew)); exact Kd.R_mono (Kd.R_far (p := ⟨gb559, 1, none⟩) (Kd.R_far (p := ⟨gb559, 0, none⟩) (Kd.R_mono HO_540003.out (fun k_ hk => (⟨hk, hk.2⟩ : _ ∧ k_ ≠ gb559))) (fun _ hk => hk.2) (.int .i64 ((rd_T49 t526 x9_2).f0))) (fun _ hk => hk.2) (.int .i64 ((rd_T49 t526 x9_2).f1))) (fun _ hk => ⟨hk.1.1.1, ⟨hk.1.1.2, hk.1.2⟩⟩)⟩
             have n2_ : Aside0 (Kd.R k49 49 ((w88.setCell ⟨gb559, 0, none⟩ (.int .i64 ((rd_T49 t526 x9_2).f0))).setCell ⟨gb559, 1, none⟩ (.int .i64 ((rd_T49 t526 x9_2).f1))) w.heap.size (fun k_ => some k_ ≠ (.slice (some ad558) t526.length co12 : Value).ownBlock ∧ some k_ ≠ (.slice Ao17 t536.length co17 : Value).ownBlock ∧ k_ ≠ gb559) (.slice Ao23 t549.length co23) t549) := ⟨by (with_reducible repeat (first | apply Kd.R_alloc | apply Kd.R_drewN | apply Kd.R_drew)); exact Kd.R_mono (Kd.R_far (p := ⟨gb559, 1, none⟩) (Kd.R_far (p := ⟨gb559, 0, none⟩) (Kd.R_mono HO_553003.out (fun k_ hk => (⟨hk, hk.2⟩ : _ ∧ k_ ≠ gb559))) (fun _ hk => hk.2) (.int .i64 ((rd_T49 t526 x9_2).f0))) (fun _ hk => hk.2) (.int .i64 ((rd_T49 t526 x9_2).f1))) (fun _ hk => ⟨hk.1.1.1, ⟨hk.1.1.2, hk.1.2⟩⟩)⟩
             have n3_ : Aside0 (((w88.setCell ⟨gb559, 0, none⟩ (.int .i64 ((rd_T49 t526 x9_2).f0))).setCell ⟨gb559, 1, none⟩ (.int .i64 ((rd_T49 t526 x9_2).f1))).heap[gb532]? = some (.cells #[.int .i64 t524, .int .i64 t525, .slice (some ad558) t526.length co12] 28 (0, 0))) := ⟨by (with_reducible repeat (first | refine blk_drewN ?_ _ | refine blk_drew ?_ | refine blk_alloc ?_ _)); refine blk_far ?_ NB532_559.out _; (with_reducible repeat (first | refine blk_drewN ?_ _ | refine blk_drew ?_ | refine blk_alloc ?_ _)); refine blk_far ?_ NB532_559.out _; (with_reducible repeat (first | refine blk_drewN ?_ _ | refine blk_drew ?_ | refine blk_alloc ?_ _)); exact BK532.out⟩
             have n4_ : Aside0 (((w88.setCell ⟨gb559, 0, none⟩ (.int .i64 ((rd_T49 t526 x9_2).f0))).setCell ⟨gb559, 1, none⟩ (.int .i64 ((rd_T49 t526 x9_2).f1))).heap[gb539]? = some (.cells #[.int .i64 t533, .int .i64 t534, .int .i64 t535, .slice Ao17 t536.length co17] 30 (0, 0))) := ⟨by (with_reducible repeat (first | refine blk_drewN ?_ _ | refine blk_drew ?_ | refine blk_alloc ?_ _)); refine blk_far ?_ NB539_559.out _; (with_reducible repeat (first | refine blk_drewN ?_ _ | refine blk_drew ?_ | refine blk_alloc ?_ _)); refine blk_far ?_ NB539_559.out _; (with_reducible repeat (first | refine blk_drewN ?_ _ | refine blk_drew ?_ | refine blk_alloc ?_ _)); exact BK539.out⟩
             have n5_ : Aside0 (((w88.setCell ⟨gb559, 0, none⟩ (.int .i64 ((rd_T49 t526 x9_2).f0))).setCell ⟨gb559, 1, none⟩ (.int .i64 ((rd_T49 t526 x9_2).f1))).heap[gb552]? = some (.cells #[.int .i64 t546, .int .i64 t547, .int .i64 t548, .slice Ao23 t549.length co23] 30 (0, 0))) := ⟨by (with_reducible repeat (first | refine blk_drewN ?_ _ | refine blk_drew ?_ | refine blk_alloc ?_ _)); refine blk_far ?_ NB552_559.out _; (with_reducible repeat (first | refine blk_drewN ?_ _ | refine blk_drew ?_ | refine blk_alloc ?_ _)); refine blk_far ?_ NB552_559.out _; (with_reducible repeat (first | refine blk_drewN ?_ _ | refine blk_drew ?_ | refine blk_alloc ?_ _)); exact BK552.out⟩
             have n6_ : Aside0 (((w88.setCell ⟨gb559, 0, none⟩ (.int .i64 ((rd_T49 t526 x9_2).f0))).setCell ⟨gb559, 1, none⟩ (.int .i64 ((rd_T49 t526 x9_2).f1))).heap[gb559]? = some (.cells #[.int .i64 ((rd_T49 t526 x9_2).f0), .int .i64 ((rd_T49 t526 x9_2).f1)] 49 (0, 0))) := ⟨by (with_reducible repeat (first | refine blk_drewN ?_ _ | refine blk_drew ?_ | refine blk_alloc ?_ _)); refine blk_put (cs := #[.int .i64 ((rd_T49 t526 x9_2).f0), .int .i64 0]) ?_ 1 _ rfl; (with_reducible repeat (first | refine blk_drewN ?_ _ | refine blk_drew ?_ | refine blk_alloc ?_ _)); refine blk_put (cs := #[.int .i64 0, .int .i64 0]) ?_ 0 _ rfl; (with_reducible repeat (first | refine blk_drewN ?_ _ | refine blk_drew ?_ | refine blk_alloc ?_ _)); exact BK559.out⟩
             have n7_ : Aside0 (Below w.heap.size w ((w88.setCell ⟨gb559, 0, none⟩ (.int .i64 ((rd_T49 t526 x9_2).f0))).setCell ⟨gb559, 1, none⟩ (.int .i64 ((rd_T49 t526 x9_2).f1)))) := ⟨by repeat (first | (with_reducible first | exact HB.out | apply below_alloc | apply pw_below_drewN | apply below_drew1 | refine below_set ?_ GE532.out | refine below_set ?_ GE539.out | refine below_set ?_ GE552.out | refine below_set ?_ GE559.out) | exact HB.out)⟩
             (try clear HO_533002)
             (try clear HO_540003)
             (try clear HO_553003)
             (try clear BK532)
             (try clear BK539)
             (try clear BK552)
             (try clear BK559)
             (try clear HB)
             generalize ((w88.setCell ⟨gb559, 0, none⟩ (.int .i64 ((rd_T49 t526 x9_2).f0))).setCell ⟨gb559, 1, none⟩ (.int .i64 ((rd_T49 t526 x9_2).f1))) = w93 at n0_ n1_ n2_ n3_ n4_ n5_ n6_ n7_ ⊢
             have HO_533002 := n0_
             have HO_540003 := n1_
             have HO_553003 := n2_
             have BK532 := n3_
             have BK539 := n4_
             have BK552 := n5_
             have BK559 := n6_
             have HB := n7_
             clear n0_ n1_ n2_ n3_ n4_ n5_ n6_ n7_
             have n0_ := Aside0.mk (Kd.R_drew HO_533002.out)
             have n1_ := Aside0.mk (Kd.R_drew HO_540003.out)
             have n2_ := Aside0.mk (Kd.R_drew HO_553003.out)
             have n3_ := Aside0.mk (blk_drew BK532.out)
             have n4_ := Aside0.mk (blk_drew BK539.out)
             have n5_ := Aside0.mk (blk_drew BK552.out)
             have n6_ := Aside0.mk (blk_drew BK559.out)
             have n7_ := Aside0.mk (below_drew1 HB.out)
             clear HO_533002
             clear HO_540003
             clear HO_553003
             clear BK532
             clear BK539
             clear BK552
             clear BK559
             clear HB
             have HO_533002 := n0_
             have HO_540003 := n1_
             have HO_553003 := n2_
             have BK532 := n3_
             have BK539 := n4_
             have BK552 := n5_
             have BK559 := n6_
             have HB := n7_
             clear n0_ n1_ n2_ n3_ n4_ n5_ n6_ n7_
             refine start_ (n := 26) (S := fun w' => w'.cell? ⟨gb559, 0, none⟩ = some (.int .i64 ((rd_T49 t526 x9_2).f0)) ∧ w'.cell? ⟨gb559, 1, none⟩ = some (.int .i64 ((rd_T49 t526 x9_2).f1)) ∧ w'.cell? ⟨gb539, 0, none⟩ = some (.int .i64 t533) ∧ w'.cell? ⟨gb539, 1, none⟩ = some (.int .i64 t534) ∧ w'.cell? ⟨gb539, 2, none⟩ = some (.int .i64 t535) ∧ w'.cell? ⟨gb539, 3, none⟩ = some (.slice Ao17 t536.length co17) ∧ w'.cell? ⟨gb552, 0, none⟩ = some (.int .i64 t546) ∧ w'.cell? ⟨gb552, 1, none⟩ = some (.int .i64 t547) ∧ w'.cell? ⟨gb552, 2, none⟩ = some (.int .i64 t548) ∧ w'.cell? ⟨gb552, 3, none⟩ = some (.slice Ao23 t549.length co23)) (ds := []) #[false, false, false, false, false, false, false, false, false, false, false, false, false, false, false, false, false, false, false, false, false, false, false, false, false, false] (by kernel_rfl) rfl rfl ⟨(blk_cell BK559.out 0).trans rfl, (blk_cell BK559.out 1).trans rfl, (blk_cell BK539.out 0).trans rfl, (blk_cell BK539.out 1).trans rfl, (blk_cell BK539.out 2).trans rfl, (blk_cell BK539.out 3).trans rfl, (blk_cell BK552.out 0).trans rfl, (blk_cell BK552.out 1).trans rfl, (blk_cell BK552.out 2).trans rfl, (blk_cell BK552.out 3).trans rfl⟩ (fun hHeld => ?_); refine with_tabW laws_FnCells.tab14 laws_FnCells.bits14 (fun HT_ HW_ => ?_)
             generalize w93.drew = w94 at HO_533002 HO_540003 HO_553003 BK532 BK539 BK552 BK559 HB hHeld ⊢
             refine pure_ (i := 0) (N := some 87) (v := ?_) (a' := ?_) #[true, false, false, false, false, false, false, false, false, false, false, false, false, false, false, false, false, false, false, false, false, false, false, false, false, false] rfl rfl (any_of HT_.out (by kernel_rfl)) (fun _ _ _ h => h) (Or.inl ⟨by rfl, ?_⟩) ?_ ?_
             rotate_left
             ·intro w'
              go_simp
              with_reducible rfl
             rotate_left
             ·simp only [Act.put, List.setIfInBounds_toArray, List.set_cons_zero, List.set_cons_succ, i64_w, i32_w]
              rfl
             refine pure_ (i := 2) (N := some 89) (v := ?_) (a' := ?_) #[true, false, true, false, false, false, false, false, false, false, false, false, false, false, false, false, false, false, false, false, false, false, false, false, false, false] rfl rfl (any_of HT_.out (by kernel_rfl)) (fun _ _ _ h => h) (Or.inl ⟨by rfl, ?_⟩) ?_ ?_
             rotate_left
             ·intro w'
              go_simp
              with_reducible rfl
             rotate_left
             ·simp only [Act.put, List.setIfInBounds_toArray, List.set_cons_zero, List.set_cons_succ, i64_w, i32_w]
              rfl
             refine take_ (i := 1) (N := some 88) (v := ?_) (a' := ?_) #[true, true, true, false, false, false, false, false, false, false, false, false, false, false, false, false, false, false, false, false, false, false, false, false, false, false] rfl rfl (take_ofW HT_.out HW_.out (by kernel_rfl)) (fun _ _ _ h => h) (Or.inl ⟨by rfl, ?_⟩) hHeld ?_ ?_
             rotate_left
             ·rintro w' ⟨s0, s1, s2, s3, s4, s5, s6, s7, s8, s9⟩
              go_simp
              with_reducible rfl
             rotate_left
             ·simp only [Act.put, List.setIfInBounds_toArray, List.set_cons_zero, List.set_cons_succ, i64_w, i32_w]
              rfl
             refine pure_ (i := 3) (N := some 90) (v := ?_) (a' := ?_) #[true, true, true, true, false, false, false, false, false, false, false, false, false, false, false, false, false, false, false, false, false, false, false, false, false, false] rfl rfl (any_of HT_.out (by kernel_rfl)) (fun _ _ _ h => h) (Or.inl ⟨by rfl, ?_⟩) ?_ ?_
             rotate_left
             ·intro w'
              go_simp
              with_reducible rfl
             rotate_left
             ·simp only [Act.put, List.setIfInBounds_toArray, List.set_cons_zero, List.set_cons_succ, i64_w, i32_w]
              rfl
             refine pure_ (i := 4) (N := some 91) (v := ?_) (a' := ?_) #[true, true, true, true, true, false, false, false, false, false, false, false, false, false, false, false, false, false, false, false, false, false, false, false, false, false] rfl rfl (any_of HT_.out (by kernel_rfl)) (fun _ _ _ h => h) (Or.inl ⟨by rfl, ?_⟩) ?_ ?_
             rotate_left
             ·intro w'
              go_simp
              with_reducible rfl
             rotate_left
             ·simp only [Act.put, List.setIfInBounds_toArray, List.set_cons_zero, List.set_cons_succ, i64_w, i32_w]
              rfl
             refine pure_ (i := 5) (N := some 92) (v := ?_) (a' := ?_) #[true, true, true, true, true, true, false, false, false, false, false, false, false, false, false, false, false, false, false, false, false, false, false, false, false, false] rfl rfl (any_of HT_.out (by kernel_rfl)) (fun _ _ _ h => h) (Or.inl ⟨by rfl, ?_⟩) ?_ ?_
             rotate_left
             ·intro w'
              go_simp
              with_reducible rfl
             rotate_left
             ·simp only [Act.put, List.setIfInBounds_toArray, List.set_cons_zero, List.set_cons_succ, i64_w, i32_w]
              rfl
             refine pure_ (i := 7) (N := some 94) (v := ?_) (a' := ?_) #[true, true, true, true, true, true, false, true, false, false, false, false, false, false, false, false, false, false, false, false, false, false, false, false, false, false] rfl rfl (any_of HT_.out (by kernel_rfl)) (fun _ _ _ h => h) (Or.inl ⟨by rfl, ?_⟩) ?_ ?_
             rotate_left
             ·intro w'
              go_simp
              with_reducible rfl
             rotate_left
             ·simp only [Act.put, List.setIfInBounds_toArray, List.set_cons_zero, List.set_cons_succ, i64_w, i32_w]
              rfl
             refine pure_ (i := 11) (N := some 98) (v := ?_) (a' := ?_) #[true, true, true, true, true, true, false, true, false, false, false, true, false, false, false, false, false, false, false, false, false, false, false, false, false, false] rfl rfl (any_of HT_.out (by kernel_rfl)) (fun _ _ _ h => h) (Or.inl ⟨by rfl, ?_⟩) ?_ ?_
             rotate_left
             ·intro w'
              go_simp
              with_reducible rfl
             rotate_left
             ·simp only [Act.put, List.setIfInBounds_toArray, List.set_cons_zero, List.set_cons_succ, i64_w, i32_w]
              rfl
             refine take_ (i := 6) (N := some 93) (v := ?_) (a' := ?_) #[true, true, true, true, true, true, true, true, false, false, false, true, false, false, false, false, false, false, false, false, false, false, false, false, false, false] rfl rfl (take_ofW HT_.out HW_.out (by kernel_rfl)) (fun _ _ _ h => h) (Or.inl ⟨by rfl, ?_⟩) hHeld ?_ ?_
             rotate_left
             ·rintro w' ⟨s0, s1, s2, s3, s4, s5, s6, s7, s8, s9⟩
              go_simp
              with_reducible rfl
             rotate_left
             ·simp only [Act.put, List.setIfInBounds_toArray, List.set_cons_zero, List.set_cons_succ, i64_w, i32_w]
              rfl
             refine take_ (i := 8) (N := some 95) (v := ?_) (a' := ?_) #[true, true, true, true, true, true, true, true, true, false, false, true, false, false, false, false, false, false, false, false, false, false, false, false, false, false] rfl rfl (take_ofW HT_.out HW_.out (by kernel_rfl)) (fun _ _ _ h => h) (Or.inl ⟨by rfl, ?_⟩) hHeld ?_ ?_
             rotate_left
             ·rintro w' ⟨s0, s1, s2, s3, s4, s5, s6, s7, s8, s9⟩
              go_simp
              with_reducible rfl
             rotate_left
             ·simp only [Act.put, List.setIfInBounds_toArray, List.set_cons_zero, List.set_cons_succ, i64_w, i32_w]
              rfl
             refine take_ (i := 12) (N := some 99) (v := ?_) (a' := ?_) #[true, true, true, true, true, true, true, true, true, false, false, true, true, false, false, false, false, false, false, false, false, false, false, false, false, false] rfl rfl (take_ofW HT_.out HW_.out (by kernel_rfl)) (fun _ _ _ h => h) (Or.inl ⟨by rfl, ?_⟩) hHeld ?_ ?_
             rotate_left
             ·rintro w' ⟨s0, s1, s2, s3, s4, s5, s6, s7, s8, s9⟩
              go_simp
              with_reducible rfl
             rotate_left
             ·simp only [Act.put, List.setIfInBounds_toArray, List.set_cons_zero, List.set_cons_succ, i64_w, i32_w]
              rfl
             refine one_ (i := 9) (N := some 96) #[true, true, true, true, true, true, true, true, true, true, false, true, true, false, false, false, false, false, false, false, false, false, false, false, false, false] rfl rfl (one_of HT_.out (by kernel_rfl)) (by decide) (fun K hK => ?_)
             refine goes_ Try.func22 (by kernel_rfl) rfl #[.agg #[.int .i64 t534, .int .i64 t535, .slice Ao17 t536.length co17], .int .i64 ((rd_T49 t526 x9_2).f0)] (by rfl) rfl rfl (by (try simp only [List.map_toArray, List.map_cons, List.map_nil]); first | done | rfl | (simp only [List.length_drop, List.length_take]; rfl)) ?_
             with_reducible refine (impl_CellOf.calls k2 t534 t535 _ _ t536 ((rd_T49 t526 x9_2).f0) t560 t561 _ ?side1 ?side2 A81.out).mono ?_
             (case side1 => repeat (first | exact (Kd.R_reads' HO_540003.out).2.2 | (with_reducible refine Kd.C_alloc ?_ _) | (with_reducible refine Kd.C_drewN ?_ _) | (with_reducible refine Kd.C_drew ?_)))
             (case side2 => exact (Kd.R_reads' HO_540003.out).2.1)
             rintro e w95 ⟨rfl, hb⟩
             refine ⟨_, rfl, ?_⟩
             have n0_ := Aside0.mk (Kd.R_below (by (with_reducible repeat (first | apply Kd.R_alloc | apply Kd.R_drewN | apply Kd.R_drew)); exact HO_533002.out) hb)
             have n1_ := Aside0.mk (Kd.R_below (by (with_reducible repeat (first | apply Kd.R_alloc | apply Kd.R_drewN | apply Kd.R_drew)); exact HO_540003.out) hb)
             have n2_ := Aside0.mk (Kd.R_below (by (with_reducible repeat (first | apply Kd.R_alloc | apply Kd.R_drewN | apply Kd.R_drew)); exact HO_553003.out) hb)
             have n3_ := Aside0.mk (blk_below (g := gb532) (o := .cells #[.int .i64 t524, .int .i64 t525, .slice (some ad558) t526.length co12] 28 (0, 0)) (by (with_reducible repeat (first | refine blk_drewN ?_ _ | refine blk_drew ?_ | refine blk_alloc ?_ _)); exact BK532.out) hb)
             have n4_ := Aside0.mk (blk_below (g := gb539) (o := .cells #[.int .i64 t533, .int .i64 t534, .int .i64 t535, .slice Ao17 t536.length co17] 30 (0, 0)) (by (with_reducible repeat (first | refine blk_drewN ?_ _ | refine blk_drew ?_ | refine blk_alloc ?_ _)); exact BK539.out) hb)
             have n5_ := Aside0.mk (blk_below (g := gb552) (o := .cells #[.int .i64 t546, .int .i64 t547, .int .i64 t548, .slice Ao23 t549.length co23] 30 (0, 0)) (by (with_reducible repeat (first | refine blk_drewN ?_ _ | refine blk_drew ?_ | refine blk_alloc ?_ _)); exact BK552.out) hb)
             have n6_ := Aside0.mk (blk_below (g := gb559) (o := .cells #[.int .i64 ((rd_T49 t526 x9_2).f0), .int .i64 ((rd_T49 t526 x9_2).f1)] 49 (0, 0)) (by (with_reducible repeat (first | refine blk_drewN ?_ _ | refine blk_drew ?_ | refine blk_alloc ?_ _)); exact BK559.out) hb)
             have n7_ := Aside0.mk (below_step (by repeat (first | (with_reducible first | exact HB.out | apply below_alloc | apply pw_below_drewN | apply below_drew1 | refine below_set ?_ GE532.out | refine below_set ?_ GE539.out | refine below_set ?_ GE552.out | refine below_set ?_ GE559.out) | exact HB.out)) hb)
             clear HO_533002
             clear HO_540003
             clear HO_553003
             clear BK532
             clear BK539
             clear BK552
             clear BK559
             clear HB
             have HO_533002 := n0_
             have HO_540003 := n1_
             have HO_553003 := n2_
             have BK532 := n3_
             have BK539 := n4_
             have BK552 := n5_
             have BK559 := n6_
             have HB := n7_
             clear n0_ n1_ n2_ n3_ n4_ n5_ n6_ n7_
             (try clear hb)
             (try clear hb2)
             (try clear hk)
             (try clear hi)
             refine hK.out _ _ ⟨(blk_cell BK559.out 0).trans rfl, (blk_cell BK559.out 1).trans rfl, (blk_cell BK539.out 0).trans rfl, (blk_cell BK539.out 1).trans rfl, (blk_cell BK539.out 2).trans rfl, (blk_cell BK539.out 3).trans rfl, (blk_cell BK552.out 0).trans rfl, (blk_cell BK552.out 1).trans rfl, (blk_cell BK552.out 2).trans rfl, (blk_cell BK552.out 3).trans rfl⟩ (fun hHeld => ?_)
             clear hK K
             refine norm_ (a' := ?_) ?_ ?_
             rotate_left
             ·show Act.put _ (some 96) _ = _
              simp only [Act.put, List.setIfInBounds_toArray, List.set_cons_zero, List.set_cons_succ, i64_w, i32_w]
              rfl
             refine pure_ (i := 10) (N := some 97) (v := ?_) (a' := ?_) #[true, true, true, true, true, true, true, true, true, true, true, true, true, false, false, false, false, false, false, false, false, false, false, false, false, false] rfl rfl (any_of HT_.out (by kernel_rfl)) (fun _ _ _ h => h) (Or.inl ⟨by rfl, ?_⟩) ?_ ?_
             rotate_left
             ·intro w'
              go_simp
              with_reducible rfl
             rotate_left
             ·simp only [Act.put, List.setIfInBounds_toArray, List.set_cons_zero, List.set_cons_succ, i64_w, i32_w]
              rfl
             refine pure_ (i := 13) (N := some 100) (v := ?_) (a' := ?_) #[true, true, true, true, true, true, true, true, true, true, true, true, true, true, false, false, false, false, false, false, false, false, false, false, false, false] rfl rfl (any_of HT_.out (by kernel_rfl)) (fun _ _ _ h => h) (Or.inl ⟨by rfl, ?_⟩) ?_ ?_
             rotate_left
             ·intro w'
              go_simp
              with_reducible rfl
             rotate_left
             ·simp only [Act.put, List.setIfInBounds_toArray, List.set_cons_zero, List.set_cons_succ, i64_w, i32_w]
              rfl
             refine pure_ (i := 14) (N := some 101) (v := ?_) (a' := ?_) #[true, true, true, true, true, true, true, true, true, true, true, true, true, true, true, false, false, false, false, false, false, false, false, false, false, false] rfl rfl (any_of HT_.out (by kernel_rfl)) (fun _ _ _ h => h) (Or.inl ⟨by rfl, ?_⟩) ?_ ?_
             rotate_left
             ·intro w'
              go_simp
              with_reducible rfl
             rotate_left
             ·simp only [Act.put, List.setIfInBounds_toArray, List.set_cons_zero, List.set_cons_succ, i64_w, i32_w]
              rfl
             refine pure_ (i := 15) (N := some 102) (v := ?_) (a' := ?_) #[true, true, true, true, true, true, true, true, true, true, true, true, true, true, true, true, false, false, false, false, false, false, false, false, false, false] rfl rfl (any_of HT_.out (by kernel_rfl)) (fun _ _ _ h => h) (Or.inl ⟨by rfl, ?_⟩) ?_ ?_
             rotate_left
             ·intro w'
              go_simp
              with_reducible rfl
             rotate_left
             ·simp only [Act.put, List.setIfInBounds_toArray, List.set_cons_zero, List.set_cons_succ, i64_w, i32_w]
              rfl
             refine pure_ (i := 17) (N := some 104) (v := ?_) (a' := ?_) #[true, true, true, true, true, true, true, true, true, true, true, true, true, true, true, true, false, true, false, false, false, false, false, false, false, false] rfl rfl (any_of HT_.out (by kernel_rfl)) (fun _ _ _ h => h) (Or.inl ⟨by rfl, ?_⟩) ?_ ?_
             rotate_left
             ·intro w'
              go_simp
              with_reducible rfl
             rotate_left
             ·simp only [Act.put, List.setIfInBounds_toArray, List.set_cons_zero, List.set_cons_succ, i64_w, i32_w]
              rfl
             refine pure_ (i := 21) (N := some 108) (v := ?_) (a' := ?_) #[true, true, true, true, true, true, true, true, true, true, true, true, true, true, true, true, false, true, false, false, false, true, false, false, false, false] rfl rfl (any_of HT_.out (by kernel_rfl)) (fun _ _ _ h => h) (Or.inl ⟨by rfl, ?_⟩) ?_ ?_
             rotate_left
             ·intro w'
              go_simp
              with_reducible rfl
             rotate_left
             ·simp only [Act.put, List.setIfInBounds_toArray, List.set_cons_zero, List.set_cons_succ, i64_w, i32_w]
              rfl
             refine take_ (i := 16) (N := some 103) (v := ?_) (a' := ?_) #[true, true, true, true, true, true, true, true, true, true, true, true, true, true, true, true, true, true, false, false, false, true, false, false, false, false] rfl rfl (take_ofW HT_.out HW_.out (by kernel_rfl)) (fun _ _ _ h => h) (Or.inl ⟨by rfl, ?_⟩) hHeld ?_ ?_
             rotate_left
             ·rintro w' ⟨s0, s1, s2, s3, s4, s5, s6, s7, s8, s9⟩
              go_simp
              with_reducible rfl
             rotate_left
             ·simp only [Act.put, List.setIfInBounds_toArray, List.set_cons_zero, List.set_cons_succ, i64_w, i32_w]
              rfl
             refine take_ (i := 18) (N := some 105) (v := ?_) (a' := ?_) #[true, true, true, true, true, true, true, true, true, true, true, true, true, true, true, true, true, true, true, false, false, true, false, false, false, false] rfl rfl (take_ofW HT_.out HW_.out (by kernel_rfl)) (fun _ _ _ h => h) (Or.inl ⟨by rfl, ?_⟩) hHeld ?_ ?_
             rotate_left
             ·rintro w' ⟨s0, s1, s2, s3, s4, s5, s6, s7, s8, s9⟩
              go_simp
              with_reducible rfl
             rotate_left
             ·simp only [Act.put, List.setIfInBounds_toArray, List.set_cons_zero, List.set_cons_succ, i64_w, i32_w]
              rfl
             refine take_ (i := 22) (N := some 109) (v := ?_) (a' := ?_) #[true, true, true, true, true, true, true, true, true, true, true, true, true, true, true, true, true, true, true, false, false, true, true, false, false, false] rfl rfl (take_ofW HT_.out HW_.out (by kernel_rfl)) (fun _ _ _ h => h) (Or.inl ⟨by rfl, ?_⟩) hHeld ?_ ?_
             rotate_left
             ·rintro w' ⟨s0, s1, s2, s3, s4, s5, s6, s7, s8, s9⟩
              go_simp
              with_reducible rfl
             rotate_left
             ·simp only [Act.put, List.setIfInBounds_toArray, List.set_cons_zero, List.set_cons_succ, i64_w, i32_w]
              rfl
             refine one_ (i := 19) (N := some 106) #[true, true, true, true, true, true, true, true, true, true, true, true, true, true, true, true, true, true, true, true, false, true, true, false, false, false] rfl rfl (one_of HT_.out (by kernel_rfl)) (by decide) (fun K hK => ?_)
             refine goes_ Try.func22 (by kernel_rfl) rfl #[.agg #[.int .i64 t547, .int .i64 t548, .slice Ao23 t549.length co23], .int .i64 ((rd_T49 t526 x9_2).f0)] (by rfl) rfl rfl (by (try simp only [List.map_toArray, List.map_cons, List.map_nil]); first | done | rfl | (simp only [List.length_drop, List.length_take]; rfl)) ?_
             with_reducible refine (impl_CellOf.calls k2 t547 t548 _ _ t549 ((rd_T49 t526 x9_2).f0) t562 t563 _ ?side1 ?side2 A83.out).mono ?_
             (case side1 => repeat (first | exact (Kd.R_reads' HO_553003.out).2.2 | (with_reducible refine Kd.C_alloc ?_ _) | (with_reducible refine Kd.C_drewN ?_ _) | (with_reducible refine Kd.C_drew ?_)))
             (case side2 => exact (Kd.R_reads' HO_553003.out).2.1)
             rintro e w96 ⟨rfl, hb⟩
             refine ⟨_, rfl, ?_⟩
             have n0_ := Aside0.mk (Kd.R_below (by (with_reducible repeat (first | apply Kd.R_alloc | apply Kd.R_drewN | apply Kd.R_drew)); exact HO_533002.out) hb)
             have n1_ := Aside0.mk (Kd.R_below (by (with_reducible repeat (first | apply Kd.R_alloc | apply Kd.R_drewN | apply Kd.R_drew)); exact HO_540003.out) hb)
             have n2_ := Aside0.mk (Kd.R_below (by (with_reducible repeat (first | apply Kd.R_alloc | apply Kd.R_drewN | apply Kd.R_drew)); exact HO_553003.out) hb)
             have n3_ := Aside0.mk (blk_below (g := gb532) (o := .cells #[.int .i64 t524, .int .i64 t525, .slice (some ad558) t526.length co12] 28 (0, 0)) (by (with_reducible repeat (first | refine blk_drewN ?_ _ | refine blk_drew ?_ | refine blk_alloc ?_ _)); exact BK532.out) hb)
             have n4_ := Aside0.mk (blk_below (g := gb539) (o := .cells #[.int .i64 t533, .int .i64 t534, .int .i64 t535, .slice Ao17 t536.length co17] 30 (0, 0)) (by (with_reducible repeat (first | refine blk_drewN ?_ _ | refine blk_drew ?_ | refine blk_alloc ?_ _)); exact BK539.out) hb)
             have n5_ := Aside0.mk (blk_below (g := gb552) (o := .cells #[.int .i64 t546, .int .i64 t547, .int .i64 t548, .slice Ao23 t549.length co23] 30 (0, 0)) (by (with_reducible repeat (first | refine blk_drewN ?_ _ | refine blk_drew ?_ | refine blk_alloc ?_ _)); exact BK552.out) hb)
             have n6_ := Aside0.mk (blk_below (g := gb559) (o := .cells #[.int .i64 ((rd_T49 t526 x9_2).f0), .int .i64 ((rd_T49 t526 x9_2).f1)] 49 (0, 0)) (by (with_reducible repeat (first | refine blk_drewN ?_ _ | refine blk_drew ?_ | refine blk_alloc ?_ _)); exact BK559.out) hb)
             have n7_ := Aside0.mk (below_step (by repeat (first | (with_reducible first | exact HB.out | apply below_alloc | apply pw_below_drewN | apply below_drew1 | refine below_set ?_ GE532.out | refine below_set ?_ GE539.out | refine below_set ?_ GE552.out | refine below_set ?_ GE559.out) | exact HB.out)) hb)
             clear HO_533002
             clear HO_540003
             clear HO_553003
             clear BK532
             clear BK539
             clear BK552
             clear BK559
             clear HB
             have HO_533002 := n0_
             have HO_540003 := n1_
             have HO_553003 := n2_
             have BK532 := n3_
             have BK539 := n4_
             have BK552 := n5_
             have BK559 := n6_
             have HB := n7_
             clear n0_ n1_ n2_ n3_ n4_ n5_ n6_ n7_
             (try clear hb)
             (try clear hb2)
             (try clear hk)
             (try clear hi)
             refine hK.out _ _ ⟨(blk_cell BK559.out 0).trans rfl, (blk_cell BK559.out 1).trans rfl, (blk_cell BK539.out 0).trans rfl, (blk_cell BK539.out 1).trans rfl, (blk_cell BK539.out 2).trans rfl, (blk_cell BK539.out 3).trans rfl, (blk_cell BK552.out 0).trans rfl, (blk_cell BK552.out 1).trans rfl, (blk_cell BK552.out 2).trans rfl, (blk_cell BK552.out 3).trans rfl⟩ (fun hHeld => ?_)
             clear hK K
             refine norm_ (a' := ?_) ?_ ?_
             rotate_left
             ·show Act.put _ (some 106) _ = _
              simp only [Act.put, List.setIfInBounds_toArray, List.set_cons_zero, List.set_cons_succ, i64_w, i32_w]
              rfl
             refine pure_ (i := 20) (N := some 107) (v := ?_) (a' := ?_) #[true, true, true, true, true, true, true, true, true, true, true, true, true, true, true, true, true, true, true, true, true, true, true, false, false, false] rfl rfl (any_of HT_.out (by kernel_rfl)) (fun _ _ _ h => h) (Or.inl ⟨by rfl, ?_⟩) ?_ ?_
             rotate_left
             ·intro w'
              go_simp
              with_reducible rfl
             rotate_left
             ·simp only [Act.put, List.setIfInBounds_toArray, List.set_cons_zero, List.set_cons_succ, i64_w, i32_w]
              rfl
             refine pure_ (i := 23) (N := some 110) (v := ?_) (a' := ?_) #[true, true, true, true, true, true, true, true, true, true, true, true, true, true, true, true, true, true, true, true, true, true, true, true, false, false] rfl rfl (any_of HT_.out (by kernel_rfl)) (fun _ _ _ h => h) (Or.inl ⟨by rfl, ?_⟩) ?_ ?_
             rotate_left
             ·intro w'
              go_simp
              with_reducible rfl
             rotate_left
             ·simp only [Act.put, List.setIfInBounds_toArray, List.set_cons_zero, List.set_cons_succ, i64_w, i32_w]
              rfl
             refine pure_ (i := 24) (N := some 111) (v := ?_) (a' := ?_) #[true, true, true, true, true, true, true, true, true, true, true, true, true, true, true, true, true, true, true, true, true, true, true, true, true, false] rfl rfl (any_of HT_.out (by kernel_rfl)) (fun _ _ _ h => h) (Or.inl ⟨by rfl, ?_⟩) ?_ ?_
             rotate_left
             ·intro w'
              go_simp
              with_reducible rfl
             rotate_left
             ·simp only [Act.put, List.setIfInBounds_toArray, List.set_cons_zero, List.set_cons_succ, i64_w, i32_w]
              rfl
             refine pure_ (i := 25) (N := some 112) (v := ?_) (a' := ?_) #[true, true, true, true, true, true, true, true, true, true, true, true, true, true, true, true, true, true, true, true, true, true, true, true, true, true] rfl rfl (any_of HT_.out (by kernel_rfl)) (fun _ _ _ h => h) (Or.inl ⟨by rfl, ?_⟩) ?_ ?_
             rotate_left
             ·intro w'
              go_simp
              with_reducible rfl
             rotate_left
             ·simp only [Act.put, List.setIfInBounds_toArray, List.set_cons_zero, List.set_cons_succ, i64_w, i32_w]
              rfl
             refine done_ (done_of HT_.out (by kernel_rfl)) ?_
             try go_wp2
             go_roundg k2
             case measure => have := HJ7.out; have := HK2.out; omega
             case rel => exact ⟨(wrap64 (x9_2 + 1)), (by first | rfl | (simp; done) | (simp [*]; done)), H', ⟨by have := HJ7.out; have := HK2.out; omega⟩, ⟨by (with_reducible repeat (first | apply Kd.R_alloc | apply Kd.R_drewN | apply Kd.R_drew)); exact Kd.R_mono HO_533002.out (fun _ hk => ⟨hk.1, hk.2.1⟩)⟩, ⟨by (with_reducible repeat (first | apply Kd.R_alloc | apply Kd.R_drewN | apply Kd.R_drew)); exact Kd.R_mono HO_540003.out (fun _ hk => ⟨hk.1, hk.2.1⟩)⟩, ⟨by (with_reducible repeat (first | apply Kd.R_alloc | apply Kd.R_drewN | apply Kd.R_drew)); exact Kd.R_mono HO_553003.out (fun _ hk => ⟨hk.1, hk.2.1⟩)⟩, ⟨by (with_reducible repeat (first | refine blk_drewN ?_ _ | refine blk_drew ?_ | refine blk_alloc ?_ _)); exact BK532.out⟩, ⟨by (with_reducible repeat (first | refine blk_drewN ?_ _ | refine blk_drew ?_ | refine blk_alloc ?_ _)); exact BK539.out⟩, ⟨by (with_reducible repeat (first | refine blk_drewN ?_ _ | refine blk_drew ?_ | refine blk_alloc ?_ _)); exact BK552.out⟩, ⟨by repeat (first | (with_reducible first | exact HB.out | apply below_alloc | apply pw_below_drewN | apply below_drew1 | refine below_set ?_ GE532.out | refine below_set ?_ GE539.out | refine below_set ?_ GE552.out | refine below_set ?_ GE559.out) | exact HB.out)⟩⟩
            ·rw [if_neg c84] at H
             have c84b0 : (t563 == ((rd_T49 t526 x9_2).f1)) = false := beq_eq_false_iff_ne.mpr c84
             have c84b1 : (t563 != ((rd_T49 t526 x9_2).f1)) = true := bne_iff_ne.mpr c84
             exact absurd H (by simp)
           ·rw [if_neg c82] at H
            have c82b0 : (t561 == ((rd_T49 t526 x9_2).f1)) = false := beq_eq_false_iff_ne.mpr c82
            have c82b1 : (t561 != ((rd_T49 t526 x9_2).f1)) = true := bne_iff_ne.mpr c82
            exact absurd H (by simp)
         ·rw [if_neg c69] at H
          exact absurd H (by simp)
        ·rw [if_neg c68] at H
         have c68b0 : decide (x9_2 < (t526.length : Int)) = false := decide_eq_false c68
         clear c68
         have HT_ := Aside0.mk (Option.some.inj H)
         have hnb97 := NB532_539.out
         have hnc97 := NB539_532.out
         have hnb98 := NB532_552.out
         have hnc98 := NB552_532.out
         have hcz99_0 : wr.cell? ⟨gb532, 0, none⟩ = some (.int .i64 t524) := (blk_cell BK532.out 0).trans rfl
         have hcz99_1 : wr.cell? ⟨gb532, 1, none⟩ = some (.int .i64 t525) := (blk_cell BK532.out 1).trans rfl
         have hcz99_2 : wr.cell? ⟨gb532, 2, none⟩ = some (.slice Ao12 t526.length co12) := (blk_cell BK532.out 2).trans rfl
         have hfz99_0 := blk_frozen BK532.out 0
         have hfz99_1 := blk_frozen BK532.out 1
         have hfz99_2 := blk_frozen BK532.out 2
         have hnb100 := NB552_539.out
         have hnc100 := NB539_552.out
         have hcz101_0 : wr.cell? ⟨gb552, 0, none⟩ = some (.int .i64 t546) := (blk_cell BK552.out 0).trans rfl
         have hcz101_1 : wr.cell? ⟨gb552, 1, none⟩ = some (.int .i64 t547) := (blk_cell BK552.out 1).trans rfl
         have hcz101_2 : wr.cell? ⟨gb552, 2, none⟩ = some (.int .i64 t548) := (blk_cell BK552.out 2).trans rfl
         have hcz101_3 : wr.cell? ⟨gb552, 3, none⟩ = some (.slice Ao23 t549.length co23) := (blk_cell BK552.out 3).trans rfl
         have hfz101_0 := blk_frozen BK552.out 0
         have hfz101_1 := blk_frozen BK552.out 1
         have hfz101_2 := blk_frozen BK552.out 2
         have hfz101_3 := blk_frozen BK552.out 3
         have hcz102_0 : wr.cell? ⟨gb539, 0, none⟩ = some (.int .i64 t533) := (blk_cell BK539.out 0).trans rfl
         have hcz102_1 : wr.cell? ⟨gb539, 1, none⟩ = some (.int .i64 t534) := (blk_cell BK539.out 1).trans rfl
         have hcz102_2 : wr.cell? ⟨gb539, 2, none⟩ = some (.int .i64 t535) := (blk_cell BK539.out 2).trans rfl
         have hcz102_3 : wr.cell? ⟨gb539, 3, none⟩ = some (.slice Ao17 t536.length co17) := (blk_cell BK539.out 3).trans rfl
         have hfz102_0 := blk_frozen BK539.out 0
         have hfz102_1 := blk_frozen BK539.out 1
         have hfz102_2 := blk_frozen BK539.out 2
         have hfz102_3 := blk_frozen BK539.out 3
         go_wp2
         go_ret
         exact ⟨by first | rfl | (simp [errW_none, errW_some] <;> rfl) | (simp [*, errW_none, errW_some] <;> rfl) | (exact congrArg (fun b_ => Ending.returned (Value.bool b_)) HT_.out) | (have HT2_ := HT_.out; simp_all), by repeat (first | (with_reducible first | exact HB.out | apply below_alloc | apply pw_below_drewN | apply below_drew1 | refine below_set ?_ GE532.out | refine below_set ?_ GE539.out | refine below_set ?_ GE552.out) | exact HB.out)⟩
  ·rw [if_neg c6] at H
   have c6b0 : (t533 == 0) = false := beq_eq_false_iff_ne.mpr c6
   have c6b1 : (t533 != 0) = true := bne_iff_ne.mpr c6
   replace H := Option.bind_eq_some_iff.mp H
   obtain ⟨⟨t540, t541, t542, t543⟩, A1030, H⟩ := H
   replace H : (some (t540 == t533)) = some true := H
   have A103 := Aside0.mk A1030
   clear A1030
   have HT_ := Aside0.mk (Option.some.inj H)
   go_enter Try.func5, Try.ntmps5
   try go_wp2_with (first | ((with_reducible refine gate_callee (f := 19) rfl ?_); refine goesL_ (some 12) rfl rfl Try.func19 (by kernel_rfl) rfl #[.slice A0 l0.length c0] rfl (by (try simp only [List.map_toArray, List.map_cons, List.map_nil]); first | done | rfl | (simp only [List.length_drop, List.length_take]; rfl)) ?_; (with_reducible refine (laws_lwBig.calls _ _ l0 false _ ?side1 ?side2 A2.out).mono ?_); (case side1 => repeat (first | exact HR0.out | (with_reducible refine Kd.C_alloc ?_ _) | (with_reducible refine Kd.C_drewN ?_ _) | (with_reducible refine Kd.C_drew ?_))); (case side2 => exact HC0.out); rintro e w' ⟨rfl, ⟨nd, rfl⟩⟩; refine ⟨_, rfl, ?_⟩) | ((with_reducible refine gate_callee (f := 20) rfl ?_); refine goesL_ (some 15) rfl rfl Try.func20 (by kernel_rfl) rfl #[.slice A0 l0.length c0] rfl (by (try simp only [List.map_toArray, List.map_cons, List.map_nil]); first | done | rfl | (simp only [List.length_drop, List.length_take]; rfl)) ?_; (with_reducible refine (spec_DrawSetCell.calls k _ _ l0 t524 t525 t526 t529 t530 t531 _ ?side1 ?side2 A4.out).mono ?_); (case side1 => repeat (first | exact HR0.out | (with_reducible refine Kd.C_alloc ?_ _) | (with_reducible refine Kd.C_drewN ?_ _) | (with_reducible refine Kd.C_drew ?_))); (case side2 => exact HC0.out); rintro e w104 ⟨v527, rfl, ho0, hb⟩; refine ⟨_, rfl, ?_⟩; have n0_ := Aside0.mk (Kd.R_lower ho0 (below_size (by repeat (first | (with_reducible first | exact HB.out | apply below_alloc | apply pw_below_drewN | apply below_drew1) | exact HB.out)))); have n1_ := Aside0.mk (below_step (by repeat (first | (with_reducible first | exact HB.out | apply below_alloc | apply pw_below_drewN | apply below_drew1) | exact HB.out)) hb); clear HB; have HO528 := n0_; have HB := n1_; clear n0_ n1_; (try clear hb); (try clear hb2); (try clear hk); (try clear hi); (try clear ho0)) | ((with_reducible refine gate_dst (N := 3) rfl ?_); refine box_event ?hg (N := 3) ?hd (cs := #[.int .i64 0, .int .i64 0, .slice none 0 0]) (t := 28) ?hr ?_; (case hd => rfl); (case hg => rfl); (case hr => first | (go_simp; done) | (go_simp; rfl)); intro gb532 hg w105 hbox hb; have n0_ := Aside0.mk (Kd.R_below (by (with_reducible repeat (first | apply Kd.R_alloc | apply Kd.R_drewN | apply Kd.R_drew)); exact HO528.out) hb); have n1_ := Aside0.mk (below_step (by repeat (first | (with_reducible first | exact HB.out | apply below_alloc | apply pw_below_drewN | apply below_drew1) | exact HB.out)) hb); have n2_ := Aside0.mk (hbox); have n3_ := Aside0.mk ((by rw [hg]; exact (below_size (by repeat (first | (with_reducible first | exact HB.out | apply below_alloc | apply pw_below_drewN | apply below_drew1) | exact HB.out))) : w.heap.size ≤ gb532)); have n4_ := Aside0.mk ((by rw [hg]; exact (below_size (by repeat (first | (with_reducible first | exact HB.out | apply below_alloc | apply pw_below_drewN | apply below_drew1) | exact HB.out))) : w.heap.size ≤ gb532)); clear HO528; clear HB; have HO528 := n0_; have HB := n1_; have BK532 := n2_; have GW532 := n3_; have GE532 := n4_; clear n0_ n1_ n2_ n3_ n4_; clear hb hbox hg; have hcz106_0 : w105.cell? ⟨gb532, 0, none⟩ = some (.int .i64 0) := (blk_cell BK532.out 0).trans rfl; have hcz106_1 : w105.cell? ⟨gb532, 1, none⟩ = some (.int .i64 0) := (blk_cell BK532.out 1).trans rfl; have hcz106_2 : w105.cell? ⟨gb532, 2, none⟩ = some (.slice none 0 0) := (blk_cell BK532.out 2).trans rfl; have hfz106_0 := blk_frozen BK532.out 0; have hfz106_1 := blk_frozen BK532.out 1; have hfz106_2 := blk_frozen BK532.out 2; obtain ⟨Ao107, co107, eo107⟩ := Kd.R_slice HO528.out; subst eo107) | ((with_reducible refine gate_callee (f := 18) rfl ?_); refine goesL_ (some 24) rfl rfl Try.func18 (by kernel_rfl) rfl #[.agg #[.int .i64 t524, .int .i64 t525, .slice Ao107 t526.length co107], .int .i64 t529, .int .i64 t530, .int .i64 t531] rfl (by (try simp only [List.map_toArray, List.map_cons, List.map_nil]); first | done | rfl | (simp only [List.length_drop, List.length_take]; rfl)) ?_; (with_reducible refine (impl_SetCell.calls k t524 t525 _ _ t526 t529 t530 t531 t533 t534 t535 t536 _ ?side1 ?side2 A5.out).mono ?_); (case side1 => refine (Kd.R_reads' (e := 49) (base := w.heap.size) (ok := fun k_ => True) (n := t526.length) (c := co107) ?_).2.2; exact (by (with_reducible repeat (first | apply Kd.R_alloc | apply Kd.R_drewN | apply Kd.R_drew)); exact (Kd.R_mono (Kd.R_far (p := ⟨gb532, 2, none⟩) (Kd.R_far (p := ⟨gb532, 1, none⟩) (Kd.R_far (p := ⟨gb532, 0, none⟩) (Kd.R_types HO528.out BK532.out (by decide)) (fun _ hk => hk.2) (.int .i64 t524)) (fun _ hk => hk.2) (.int .i64 t525)) (fun _ hk => hk.2) (.slice Ao107 t526.length co107)) (fun _ h_ => h_.1)))); (case side2 => exact (Kd.R_reads' HO528.out).2.1); rintro e w108 ⟨v537, rfl, ho0, hb⟩; refine ⟨_, rfl, ?_⟩; have n0_ := Aside0.mk (Kd.R_elder' (by (with_reducible repeat (first | apply Kd.R_alloc | apply Kd.R_drewN | apply Kd.R_drew)); exact (Kd.R_mono (Kd.R_far (p := ⟨gb532, 2, none⟩) (Kd.R_far (p := ⟨gb532, 1, none⟩) (Kd.R_far (p := ⟨gb532, 0, none⟩) (Kd.R_types HO528.out BK532.out (by decide)) (fun _ hk => hk.2) (.int .i64 t524)) (fun _ hk => hk.2) (.int .i64 t525)) (fun _ hk => hk.2) (.slice Ao107 t526.length co107)) (fun _ h_ => h_.1))) (Kd.R_base ho0) hb); have n1_ := Aside0.mk (Kd.R_lower (Kd.R_new' ho0 (Kd.R_lt (by (with_reducible repeat (first | apply Kd.R_alloc | apply Kd.R_drewN | apply Kd.R_drew)); exact (Kd.R_mono (Kd.R_far (p := ⟨gb532, 2, none⟩) (Kd.R_far (p := ⟨gb532, 1, none⟩) (Kd.R_far (p := ⟨gb532, 0, none⟩) (Kd.R_types HO528.out BK532.out (by decide)) (fun _ hk => hk.2) (.int .i64 t524)) (fun _ hk => hk.2) (.int .i64 t525)) (fun _ hk => hk.2) (.slice Ao107 t526.length co107)) (fun _ h_ => h_.1))))) (below_size (by repeat (first | (with_reducible first | exact HB.out | apply below_alloc | apply pw_below_drewN | apply below_drew1 | refine below_set ?_ GE532.out) | exact HB.out)))); have n2_ := Aside0.mk (blk_below (g := gb532) (o := .cells #[.int .i64 t524, .int .i64 t525, .slice Ao107 t526.length co107] 28 (0, 0)) (by (with_reducible repeat (first | refine blk_drewN ?_ _ | refine blk_drew ?_ | refine blk_alloc ?_ _)); refine blk_put (cs := #[.int .i64 t524, .int .i64 t525, .slice none 0 0]) ?_ 2 _ rfl; (with_reducible repeat (first | refine blk_drewN ?_ _ | refine blk_drew ?_ | refine blk_alloc ?_ _)); refine blk_put (cs := #[.int .i64 t524, .int .i64 0, .slice none 0 0]) ?_ 1 _ rfl; (with_reducible repeat (first | refine blk_drewN ?_ _ | refine blk_drew ?_ | refine blk_alloc ?_ _)); refine blk_put (cs := #[.int .i64 0, .int .i64 0, .slice none 0 0]) ?_ 0 _ rfl; (with_reducible repeat (first | refine blk_drewN ?_ _ | refine blk_drew ?_ | refine blk_alloc ?_ _)); exact BK532.out) hb); have n3_ := Aside0.mk (below_step (by repeat (first | (with_reducible first | exact HB.out | apply below_alloc | apply pw_below_drewN | apply below_drew1 | refine below_set ?_ GE532.out) | exact HB.out)) hb); clear HO528; clear BK532; clear HB; have HO528 := n0_; have HO538 := n1_; have BK532 := n2_; have HB := n3_; clear n0_ n1_ n2_ n3_; (try clear hb); (try clear hb2); (try clear hk); (try clear hi); (try clear ho0)) | ((with_reducible refine gate_dst (N := 7) rfl ?_); refine box_event ?hg (N := 7) ?hd (cs := #[.int .i64 0, .int .i64 0, .int .i64 0, .slice none 0 0]) (t := 30) ?hr ?_; (case hd => rfl); (case hg => rfl); (case hr => first | (go_simp; done) | (go_simp; rfl)); intro gb539 hg w109 hbox hb; have n0_ := Aside0.mk (Kd.R_below (by (with_reducible repeat (first | apply Kd.R_alloc | apply Kd.R_drewN | apply Kd.R_drew)); exact HO528.out) hb); have n1_ := Aside0.mk (Kd.R_below (by (with_reducible repeat (first | apply Kd.R_alloc | apply Kd.R_drewN | apply Kd.R_drew)); exact HO538.out) hb); have n2_ := Aside0.mk (blk_below (g := gb532) (o := .cells #[.int .i64 t524, .int .i64 t525, .slice Ao107 t526.length co107] 28 (0, 0)) (by (with_reducible repeat (first | refine blk_drewN ?_ _ | refine blk_drew ?_ | refine blk_alloc ?_ _)); exact BK532.out) hb); have n3_ := Aside0.mk (below_step (by repeat (first | (with_reducible first | exact HB.out | apply below_alloc | apply pw_below_drewN | apply below_drew1 | refine below_set ?_ GE532.out) | exact HB.out)) hb); have n4_ := Aside0.mk (hbox); have n5_ := Aside0.mk ((by rw [hg]; exact (below_size (by repeat (first | (with_reducible first | exact HB.out | apply below_alloc | apply pw_below_drewN | apply below_drew1 | refine below_set ?_ GE532.out) | exact HB.out))) : w.heap.size ≤ gb539)); have n6_ := Aside0.mk ((by rw [hg]; exact (below_size (by repeat (first | (with_reducible first | exact HB.out | apply below_alloc | apply pw_below_drewN | apply below_drew1 | refine below_set ?_ GE532.out) | exact HB.out))) : w.heap.size ≤ gb539)); have n7_ := Aside0.mk ((by rw [hg]; exact Nat.ne_of_lt (blk_lt (g := gb532) (o := .cells #[.int .i64 t524, .int .i64 t525, .slice Ao107 t526.length co107] 28 (0, 0)) (by (with_reducible repeat (first | refine blk_drewN ?_ _ | refine blk_drew ?_ | refine blk_alloc ?_ _)); exact BK532.out)) : gb532 ≠ gb539)); have n8_ := Aside0.mk ((by rw [hg]; exact Nat.ne_of_gt (blk_lt (g := gb532) (o := .cells #[.int .i64 t524, .int .i64 t525, .slice Ao107 t526.length co107] 28 (0, 0)) (by (with_reducible repeat (first | refine blk_drewN ?_ _ | refine blk_drew ?_ | refine blk_alloc ?_ _)); exact BK532.out)) : gb539 ≠ gb532)); clear HO528; clear HO538; clear BK532; clear HB; have HO528 := n0_; have HO538 := n1_; have BK532 := n2_; have HB := n3_; have BK539 := n4_; have GW539 := n5_; have GE539 := n6_; have NB532_539 := n7_; have NB539_532 := n8_; clear n0_ n1_ n2_ n3_ n4_ n5_ n6_ n7_ n8_; clear hb hbox hg; have hnb110 := NB539_532.out; have hnc110 := NB532_539.out; have hcz111_0 : w109.cell? ⟨gb539, 0, none⟩ = some (.int .i64 0) := (blk_cell BK539.out 0).trans rfl; have hcz111_1 : w109.cell? ⟨gb539, 1, none⟩ = some (.int .i64 0) := (blk_cell BK539.out 1).trans rfl; have hcz111_2 : w109.cell? ⟨gb539, 2, none⟩ = some (.int .i64 0) := (blk_cell BK539.out 2).trans rfl; have hcz111_3 : w109.cell? ⟨gb539, 3, none⟩ = some (.slice none 0 0) := (blk_cell BK539.out 3).trans rfl; have hfz111_0 := blk_frozen BK539.out 0; have hfz111_1 := blk_frozen BK539.out 1; have hfz111_2 := blk_frozen BK539.out 2; have hfz111_3 := blk_frozen BK539.out 3; obtain ⟨Ao112, co112, eo112⟩ := Kd.R_slice HO538.out; subst eo112))
   have n0_ : Aside0 (Kd.R k49 49 ((((w109.setCell ⟨gb539, 0, none⟩ (.int .i64 t533)).setCell ⟨gb539, 1, none⟩ (.int .i64 t534)).setCell ⟨gb539, 2, none⟩ (.int .i64 t535)).setCell ⟨gb539, 3, none⟩ (.slice Ao112 t536.length co112)) w.heap.size (fun k_ => some k_ ≠ (.slice Ao112 t536.length co112 : Value).ownBlock) (.slice Ao107 t526.length co107) t526) := ⟨by (with_reducible repeat (first | apply Kd.R_alloc | apply Kd.R_drewN | apply Kd.R_drew)); exact Kd.R_mono (Kd.R_far (p := ⟨gb539, 3, none⟩) (Kd.R_far (p := ⟨gb539, 2, none⟩) (Kd.R_far (p := ⟨gb539, 1, none⟩) (Kd.R_far (p := ⟨gb539, 0, none⟩) (Kd.R_types HO528.out BK539.out (by decide)) (fun _ hk => hk.2) (.int .i64 t533)) (fun _ hk => hk.2) (.int .i64 t534)) (fun _ hk => hk.2) (.int .i64 t535)) (fun _ hk => hk.2) (.slice Ao112 t536.length co112)) (fun _ hk => hk.1.2)⟩
   have n1_ : Aside0 (Kd.R k49 49 ((((w109.setCell ⟨gb539, 0, none⟩ (.int .i64 t533)).setCell ⟨gb539, 1, none⟩ (.int .i64 t534)).setCell ⟨gb539, 2, none⟩ (.int .i64 t535)).setCell ⟨gb539, 3, none⟩ (.slice Ao112 t536.length co112)) w.heap.size (fun k_ => some k_ ≠ (.slice Ao107 t526.length co107 : Value).ownBlock) (.slice Ao112 t536.length co112) t536) := ⟨by (with_reducible repeat (first | apply Kd.R_alloc | apply Kd.R_drewN | apply Kd.R_drew)); exact Kd.R_mono (Kd.R_far (p := ⟨gb539, 3, none⟩) (Kd.R_far (p := ⟨gb539, 2, none⟩) (Kd.R_far (p := ⟨gb539, 1, none⟩) (Kd.R_far (p := ⟨gb539, 0, none⟩) (Kd.R_types HO538.out BK539.out (by decide)) (fun _ hk => hk.2) (.int .i64 t533)) (fun _ hk => hk.2) (.int .i64 t534)) (fun _ hk => hk.2) (.int .i64 t535)) (fun _ hk => hk.2) (.slice Ao112 t536.length co112)) (fun _ hk => hk.1.2)⟩
   have n2_ : Aside0 (((((w109.setCell ⟨gb539, 0, none⟩ (.int .i64 t533)).setCell ⟨gb539, 1, none⟩ (.int .i64 t534)).setCell ⟨gb539, 2, none⟩ (.int .i64 t535)).setCell ⟨gb539, 3, none⟩ (.slice Ao112 t536.length co112)).heap[gb532]? = some (.cells #[.int .i64 t524, .int .i64 t525, .slice Ao107 t526.length co107] 28 (0, 0))) := ⟨by (with_reducible repeat (first | refine blk_drewN ?_ _ | refine blk_drew ?_ | refine blk_alloc ?_ _)); refine blk_far ?_ NB532_539.out _; (with_reducible repeat (first | refine blk_drewN ?_ _ | refine blk_drew ?_ | refine blk_alloc ?_ _)); refine blk_far ?_ NB532_539.out _; (with_reducible repeat (first | refine blk_drewN ?_ _ | refine blk_drew ?_ | refine blk_alloc ?_ _)); refine blk_far ?_ NB532_539.out _; (with_reducible repeat (first | refine blk_drewN ?_ _ | refine blk_drew ?_ | refine blk_alloc ?_ _)); refine blk_far ?_ NB532_539.out _; (with_reducible repeat (first | refine blk_drewN ?_ _ | refine blk_drew ?_ | refine blk_alloc ?_ _)); exact BK532.out⟩
   have n3_ : Aside0 (((((w109.setCell ⟨gb539, 0, none⟩ (.int .i64 t533)).setCell ⟨gb539, 1, none⟩ (.int .i64 t534)).setCell ⟨gb539, 2, none⟩ (.int .i64 t535)).setCell ⟨gb539, 3, none⟩ (.slice Ao112 t536.length co112)).heap[gb539]? = some (.cells #[.int .i64 t533, .int .i64 t534, .int .i64 t535, .slice Ao112 t536.length co112] 30 (0, 0))) := ⟨by (with_reducible repeat (first | refine blk_drewN ?_ _ | refine blk_drew ?_ | refine blk_alloc ?_ _)); refine blk_put (cs := #[.int .i64 t533, .int .i64 t534, .int .i64 t535, .slice none 0 0]) ?_ 3 _ rfl; (with_reducible repeat (first | refine blk_drewN ?_ _ | refine blk_drew ?_ | refine blk_alloc ?_ _)); refine blk_put (cs := #[.int .i64 t533, .int .i64 t534, .int .i64 0, .slice none 0 0]) ?_ 2 _ rfl; (with_reducible repeat (first | refine blk_drewN ?_ _ | refine blk_drew ?_ | refine blk_alloc ?_ _)); refine blk_put (cs := #[.int .i64 t533, .int .i64 0, .int .i64 0, .slice none 0 0]) ?_ 1 _ rfl; (with_reducible repeat (first | refine blk_drewN ?_ _ | refine blk_drew ?_ | refine blk_alloc ?_ _)); refine blk_put (cs := #[.int .i64 0, .int .i64 0, .int .i64 0, .slice none 0 0]) ?_ 0 _ rfl; (with_reducible repeat (first | refine blk_drewN ?_ _ | refine blk_drew ?_ | refine blk_alloc ?_ _)); exact BK539.out⟩
   have n4_ : Aside0 (Below w.heap.size w ((((w109.setCell ⟨gb539, 0, none⟩ (.int .i64 t533)).setCell ⟨gb539, 1, none⟩ (.int .i64 t534)).setCell ⟨gb539, 2, none⟩ (.int .i64 t535)).setCell ⟨gb539, 3, none⟩ (.slice Ao112 t536.length co112))) := ⟨by repeat (first | (with_reducible first | exact HB.out | apply below_alloc | apply pw_below_drewN | apply below_drew1 | refine below_set ?_ GE532.out | refine below_set ?_ GE539.out) | exact HB.out)⟩
   (try clear HO528)
   (try clear HO538)
   (try clear BK532)
   (try clear BK539)
   (try clear HB)
   generalize ((((w109.setCell ⟨gb539, 0, none⟩ (.int .i64 t533)).setCell ⟨gb539, 1, none⟩ (.int .i64 t534)).setCell ⟨gb539, 2, none⟩ (.int .i64 t535)).setCell ⟨gb539, 3, none⟩ (.slice Ao112 t536.length co112)) = w113 at n0_ n1_ n2_ n3_ n4_ ⊢
   have HO528 := n0_
   have HO538 := n1_
   have BK532 := n2_
   have BK539 := n3_
   have HB := n4_
   clear n0_ n1_ n2_ n3_ n4_
   have n0_ := Aside0.mk (Kd.R_drew HO528.out)
   have n1_ := Aside0.mk (Kd.R_drew HO538.out)
   have n2_ := Aside0.mk (blk_drew BK532.out)
   have n3_ := Aside0.mk (blk_drew BK539.out)
   have n4_ := Aside0.mk (below_drew1 HB.out)
   clear HO528
   clear HO538
   clear BK532
   clear BK539
   clear HB
   have HO528 := n0_
   have HO538 := n1_
   have BK532 := n2_
   have BK539 := n3_
   have HB := n4_
   clear n0_ n1_ n2_ n3_ n4_
   refine start_ (n := 10) (S := fun w' => w'.cell? ⟨gb532, 0, none⟩ = some (.int .i64 t524) ∧ w'.cell? ⟨gb532, 1, none⟩ = some (.int .i64 t525) ∧ w'.cell? ⟨gb532, 2, none⟩ = some (.slice Ao107 t526.length co107) ∧ w'.cell? ⟨gb539, 0, none⟩ = some (.int .i64 t533) ∧ w'.cell? ⟨gb539, 1, none⟩ = some (.int .i64 t534) ∧ w'.cell? ⟨gb539, 2, none⟩ = some (.int .i64 t535) ∧ w'.cell? ⟨gb539, 3, none⟩ = some (.slice Ao112 t536.length co112)) (ds := []) #[false, false, false, false, false, false, false, false, false, false] (by kernel_rfl) rfl rfl ⟨(blk_cell BK532.out 0).trans rfl, (blk_cell BK532.out 1).trans rfl, (blk_cell BK532.out 2).trans rfl, (blk_cell BK539.out 0).trans rfl, (blk_cell BK539.out 1).trans rfl, (blk_cell BK539.out 2).trans rfl, (blk_cell BK539.out 3).trans rfl⟩ (fun hHeld => ?_); refine with_tabW laws_FnCells.tab6 laws_FnCells.bits6 (fun HT_ HW_ => ?_)
   generalize w113.drew = w114 at HO528 HO538 BK532 BK539 HB hHeld ⊢
   refine pure_ (i := 1) (N := some 29) (v := ?_) (a' := ?_) #[false, true, false, false, false, false, false, false, false, false] rfl rfl (any_of HT_.out (by kernel_rfl)) (fun _ _ _ h => h) (Or.inl ⟨by rfl, ?_⟩) ?_ ?_
   rotate_left
   ·intro w'
    go_simp
    with_reducible rfl
   rotate_left
   ·simp only [Act.put, List.setIfInBounds_toArray, List.set_cons_zero, List.set_cons_succ, i64_w, i32_w]
    rfl
   refine pure_ (i := 2) (N := some 30) (v := ?_) (a' := ?_) #[false, true, true, false, false, false, false, false, false, false] rfl rfl (any_of HT_.out (by kernel_rfl)) (fun _ _ _ h => h) (Or.inl ⟨by rfl, ?_⟩) ?_ ?_
   rotate_left
   ·intro w'
    go_simp
    with_reducible rfl
   rotate_left
   ·simp only [Act.put, List.setIfInBounds_toArray, List.set_cons_zero, List.set_cons_succ, i64_w, i32_w]
    rfl
   refine pure_ (i := 3) (N := some 31) (v := ?_) (a' := ?_) #[false, true, true, true, false, false, false, false, false, false] rfl rfl (any_of HT_.out (by kernel_rfl)) (fun _ _ _ h => h) (Or.inl ⟨by rfl, ?_⟩) ?_ ?_
   rotate_left
   ·intro w'
    go_simp
    with_reducible rfl
   rotate_left
   ·simp only [Act.put, List.setIfInBounds_toArray, List.set_cons_zero, List.set_cons_succ, i64_w, i32_w]
    rfl
   refine pure_ (i := 6) (N := some 34) (v := ?_) (a' := ?_) #[false, true, true, true, false, false, true, false, false, false] rfl rfl (any_of HT_.out (by kernel_rfl)) (fun _ _ _ h => h) (Or.inl ⟨by rfl, ?_⟩) ?_ ?_
   rotate_left
   ·intro w'
    go_simp
    with_reducible rfl
   rotate_left
   ·simp only [Act.put, List.setIfInBounds_toArray, List.set_cons_zero, List.set_cons_succ, i64_w, i32_w]
    rfl
   refine take_ (i := 0) (N := some 28) (v := ?_) (a' := ?_) #[true, true, true, true, false, false, true, false, false, false] rfl rfl (take_ofW HT_.out HW_.out (by kernel_rfl)) (fun _ _ _ h => h) (Or.inl ⟨by rfl, ?_⟩) hHeld ?_ ?_
   rotate_left
   ·rintro w' ⟨s0, s1, s2, s3, s4, s5, s6⟩
    go_simp
    with_reducible rfl
   rotate_left
   ·simp only [Act.put, List.setIfInBounds_toArray, List.set_cons_zero, List.set_cons_succ, i64_w, i32_w]
    rfl
   refine take_ (i := 7) (N := some 35) (v := ?_) (a' := ?_) #[true, true, true, true, false, false, true, true, false, false] rfl rfl (take_ofW HT_.out HW_.out (by kernel_rfl)) (fun _ _ _ h => h) (Or.inl ⟨by rfl, ?_⟩) hHeld ?_ ?_
   rotate_left
   ·rintro w' ⟨s0, s1, s2, s3, s4, s5, s6⟩
    go_simp
    with_reducible rfl
   rotate_left
   ·simp only [Act.put, List.setIfInBounds_toArray, List.set_cons_zero, List.set_cons_succ, i64_w, i32_w]
    rfl
   refine one_ (i := 4) (N := some 32) #[true, true, true, true, true, false, true, true, false, false] rfl rfl (one_of HT_.out (by kernel_rfl)) (by decide) (fun K hK => ?_)
   refine goes_ Try.func17 (by kernel_rfl) rfl #[.agg #[.int .i64 t524, .int .i64 t525, .slice Ao107 t526.length co107], .int .i64 t529, .int .i64 t530, .int .i64 t531] (by rfl) rfl rfl (by (try simp only [List.map_toArray, List.map_cons, List.map_nil]); first | done | rfl | (simp only [List.length_drop, List.length_take]; rfl)) ?_
   with_reducible refine (spec_SetCell.calls k t524 t525 _ _ t526 t529 t530 t531 t540 t541 t542 t543 _ ?side1 ?side2 A103.out).mono ?_
   (case side1 => repeat (first | exact (Kd.R_reads' HO528.out).2.2 | (with_reducible refine Kd.C_alloc ?_ _) | (with_reducible refine Kd.C_drewN ?_ _) | (with_reducible refine Kd.C_drew ?_)))
   (case side2 => exact (Kd.R_reads' HO528.out).2.1)
   rintro e w115 ⟨v544, rfl, ho0, hb⟩
   refine ⟨_, rfl, ?_⟩
   have n0_ := Aside0.mk (Kd.R_elder' (by (with_reducible repeat (first | apply Kd.R_alloc | apply Kd.R_drewN | apply Kd.R_drew)); exact HO528.out) (Kd.R_base ho0) hb)
   have n1_ := Aside0.mk (Kd.R_elder' (by (with_reducible repeat (first | apply Kd.R_alloc | apply Kd.R_drewN | apply Kd.R_drew)); exact HO538.out) (Kd.R_base ho0) hb)
   have n2_ := Aside0.mk (Kd.R_lower (Kd.R_new' (Kd.R_new' ho0 (Kd.R_lt (by (with_reducible repeat (first | apply Kd.R_alloc | apply Kd.R_drewN | apply Kd.R_drew)); exact HO528.out))) (Kd.R_lt (by (with_reducible repeat (first | apply Kd.R_alloc | apply Kd.R_drewN | apply Kd.R_drew)); exact HO538.out))) (below_size (by repeat (first | (with_reducible first | exact HB.out | apply below_alloc | apply pw_below_drewN | apply below_drew1 | refine below_set ?_ GE532.out | refine below_set ?_ GE539.out) | exact HB.out))))
   have n3_ := Aside0.mk (blk_below (g := gb532) (o := .cells #[.int .i64 t524, .int .i64 t525, .slice Ao107 t526.length co107] 28 (0, 0)) (by (with_reducible repeat (first | refine blk_drewN ?_ _ | refine blk_drew ?_ | refine blk_alloc ?_ _)); exact BK532.out) hb)
   have n4_ := Aside0.mk (blk_below (g := gb539) (o := .cells #[.int .i64 t533, .int .i64 t534, .int .i64 t535, .slice Ao112 t536.length co112] 30 (0, 0)) (by (with_reducible repeat (first | refine blk_drewN ?_ _ | refine blk_drew ?_ | refine blk_alloc ?_ _)); exact BK539.out) hb)
   have n5_ := Aside0.mk (below_step (by repeat (first | (with_reducible first | exact HB.out | apply below_alloc | apply pw_below_drewN | apply below_drew1 | refine below_set ?_ GE532.out | refine below_set ?_ GE539.out) | exact HB.out)) hb)
   clear HO528
   clear HO538
   clear BK532
   clear BK539
   clear HB
   have HO528 := n0_
   have HO538 := n1_
   have HO545 := n2_
   have BK532 := n3_
   have BK539 := n4_
   have HB := n5_
   clear n0_ n1_ n2_ n3_ n4_ n5_
   (try clear hb)
   (try clear hb2)
   (try clear hk)
   (try clear hi)
   (try clear ho0)
   refine hK.out _ _ ⟨(blk_cell BK532.out 0).trans rfl, (blk_cell BK532.out 1).trans rfl, (blk_cell BK532.out 2).trans rfl, (blk_cell BK539.out 0).trans rfl, (blk_cell BK539.out 1).trans rfl, (blk_cell BK539.out 2).trans rfl, (blk_cell BK539.out 3).trans rfl⟩ (fun hHeld => ?_)
   clear hK K
   refine norm_ (a' := ?_) ?_ ?_
   rotate_left
   ·show Act.put _ (some 32) _ = _
    simp only [Act.put, List.setIfInBounds_toArray, List.set_cons_zero, List.set_cons_succ, i64_w, i32_w]
    rfl
   refine pure_ (i := 5) (N := some 33) (v := ?_) (a' := ?_) #[true, true, true, true, true, true, true, true, false, false] rfl rfl (any_of HT_.out (by kernel_rfl)) (fun _ _ _ h => h) (Or.inl ⟨by rfl, ?_⟩) ?_ ?_
   rotate_left
   ·intro w'
    go_simp
    with_reducible rfl
   rotate_left
   ·simp only [Act.put, List.setIfInBounds_toArray, List.set_cons_zero, List.set_cons_succ, i64_w, i32_w]
    rfl
   refine pure_ (i := 8) (N := some 36) (v := ?_) (a' := ?_) #[true, true, true, true, true, true, true, true, true, false] rfl rfl (any_of HT_.out (by kernel_rfl)) (fun _ _ _ h => h) (Or.inl ⟨by rfl, ?_⟩) ?_ ?_
   rotate_left
   ·intro w'
    go_simp
    with_reducible rfl
   rotate_left
   ·simp only [Act.put, List.setIfInBounds_toArray, List.set_cons_zero, List.set_cons_succ, i64_w, i32_w]
    rfl
   refine pure_ (i := 9) (N := some 2) (v := ?_) (a' := ?_) #[true, true, true, true, true, true, true, true, true, true] rfl rfl (any_of HT_.out (by kernel_rfl)) (fun _ _ _ h => h) (Or.inl ⟨by rfl, ?_⟩) ?_ ?_
   rotate_left
   ·intro w'
    go_simp
    with_reducible rfl
   rotate_left
   ·simp only [Act.put, List.setIfInBounds_toArray, List.set_cons_zero, List.set_cons_succ, i64_w, i32_w]
    rfl
   refine done_ (done_of HT_.out (by kernel_rfl)) ?_
   try go_wp2
   go_ret
   exact ⟨by first | rfl | (simp [errW_none, errW_some] <;> rfl) | (simp [*, errW_none, errW_some] <;> rfl) | (exact congrArg (fun b_ => Ending.returned (Value.bool b_)) HT_.out) | (have HT2_ := HT_.out; simp_all), by repeat (first | (with_reducible first | exact HB.out | apply below_alloc | apply pw_below_drewN | apply below_drew1 | refine below_set ?_ GE532.out | refine below_set ?_ GE539.out) | exact HB.out)⟩

end Go.Proofs.Ytpdfpbnlablhoaa.P
