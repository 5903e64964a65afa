import Derived.Test.YtkaammmkejiafaaZz
import Derived.Test.YtkaammmkejiafaaP0
import Derived.Test.YtkaammmkejiafaaPCall0
import Derived.Test.YtkaammmkejiafaaPCall1
import Derived.Test.YtkaammmkejiafaaPCall2
import Derived.Test.YtkaammmkejiafaaPCall3
import Derived.Test.YtkaammmkejiafaaPCb1
import Derived.Test.YtkaammmkejiafaaPCb2
import Derived.Test.YtkaammmkejiafaaPCb3
import Derived.Test.YtkaammmkejiafaaPDall0
import Derived.Test.YtkaammmkejiafaaPDb0
import Derived.Test.YtkaammmkejiafaaPE0
import Derived.Test.YtkaammmkejiafaaWRepsOne
import Derived.Test.YtkaammmkejiafaaWTab
import Derived.Test.YtkaammmkejiafaaLv
namespace Go.Proofs.Ytkaammmkejiafaa.P
open Go.RowKit Go.Proofs.YtkaammmkejiafaaW.PrintWords Go.Proofs.YtkaammmkejiafaaW.PrintLast Go.Proofs.YtkaammmkejiafaaW.PrintMore
attribute [local go_sem] max2_int min2_int max_two min_two max_three min_three max_four min_four   -- for this text's walks alone
set_option linter.unusedVariables false
set_option linter.unusedSimpArgs false
attribute [local go_sem high] eqA34
theorem laws_FnChains.fld28_0 (x0 x1 : Value) (w : World) : (Instr.field 28 (.agg #[x0, x1]) 0).run Try.prog w = .ok x0 w := by
 simp [Instr.field, run_underlying Try.underlying28, run_underlying Try.underlying2, part, isAgg, asAgg]
attribute [local go_sem] laws_FnChains.fld28_0
set_option maxHeartbeats 8000000 in
set_option maxRecDepth 100000 in
theorem laws_FnChains.calls (k : Nat) (A0 : Option Addr) (c0 : Nat) (l0 : List Int) (w : World) (hr0 : Kd.C (Kd.int .u8) w A0 l0.length l0) (hc0 : l0.length ≤ c0) (h : laws_FnChains.f k l0 = some true) :
 Calls Try.prog 4 #[.slice A0 l0.length c0] w fun e w' => e = .returned (.bool true) ∧ Below w.heap.size w w' := by
 have hu32 := Try.underlying32
 have hu28 := Try.underlying28
 have hu34 := Try.underlying34
 have HR0 := Aside0.mk hr0
 have HC0 := Aside0.mk hc0
 clear hr0 hc0
 have HB := Aside0.mk (Below.refl w.heap.size w)
 have H : ((laws_lwBig.f l0).bind fun t493 => (if t493 = true then (some true) else ((spec_DrawPushVersion.f k l0).bind fun bt494 => ((impl_PushVersion.f k bt494.1 bt494.2.1 bt494.2.2.1 bt494.2.2.2.1 bt494.2.2.2.2).bind fun bt502 => (if bt502.1 = 0 then ((impl_SeenIn.f k bt502.2 bt494.2.1 bt494.2.2.1).bind fun bt511 => ((impl_WriterOf.f k bt502.2).bind fun bt514 => ((impl_ChainFault.f k bt502.2).bind fun t518 => (if t518 = 0 then (if (bt494.2.2.2.1 != (bt511.1 == 4)) = true then (laws_FnChains.j0 k bt494.1 bt494.2.2.2.1 bt494.2.2.2.2 true bt494.2.1 bt494.2.2.1 bt502.1 bt502.2 bt494.2.1 (wrap64 ((Int.tmod bt494.2.2.1 900) + 1))) else (if bt494.2.2.2.1 = true then (if bt514.2 = bt494.2.2.1 then ((impl_MayWrite.f k bt502.2 bt494.2.1 (wrap64 ((Int.tmod bt494.2.2.1 900) + 1))).bind fun t519 => (if t519 = 9 then ((impl_SeenIn.f k bt502.2 bt494.2.1 (wrap64 ((Int.tmod bt494.2.2.1 900) + 1))).bind fun bt520 => ((impl_SeenIn.f k bt494.1 bt494.2.1 (wrap64 ((Int.tmod bt494.2.2.1 900) + 1))).bind fun bt522 => (laws_FnChains.j0 k bt494.1 bt494.2.2.2.1 bt494.2.2.2.2 (!(bt520.1 == bt522.1) || (!(bt520.2 == bt522.2))) bt494.2.1 bt494.2.2.1 bt502.1 bt502.2 bt494.2.1 (wrap64 ((Int.tmod bt494.2.2.1 900) + 1))))) else (laws_FnChains.j0 k bt494.1 bt494.2.2.2.1 bt494.2.2.2.2 true bt494.2.1 bt494.2.2.1 bt502.1 bt502.2 bt494.2.1 (wrap64 ((Int.tmod bt494.2.2.1 900) + 1))))) else (laws_FnChains.j0 k bt494.1 bt494.2.2.2.1 bt494.2.2.2.2 true bt494.2.1 bt494.2.2.1 bt502.1 bt502.2 bt494.2.1 (wrap64 ((Int.tmod bt494.2.2.1 900) + 1)))) else (if bt511.2 = bt494.2.2.2.2 then (if bt514.2 = bt494.2.2.1 then ((impl_MayWrite.f k bt502.2 bt494.2.1 (wrap64 ((Int.tmod bt494.2.2.1 900) + 1))).bind fun t524 => (if t524 = 9 then ((impl_SeenIn.f k bt502.2 bt494.2.1 (wrap64 ((Int.tmod bt494.2.2.1 900) + 1))).bind fun bt525 => ((impl_SeenIn.f k bt494.1 bt494.2.1 (wrap64 ((Int.tmod bt494.2.2.1 900) + 1))).bind fun bt527 => (laws_FnChains.j0 k bt494.1 bt494.2.2.2.1 bt494.2.2.2.2 (!(bt525.1 == bt527.1) || (!(bt525.2 == bt527.2))) bt494.2.1 bt494.2.2.1 bt502.1 bt502.2 bt494.2.1 (wrap64 ((Int.tmod bt494.2.2.1 900) + 1))))) else (laws_FnChains.j0 k bt494.1 bt494.2.2.2.1 bt494.2.2.2.2 true bt494.2.1 bt494.2.2.1 bt502.1 bt502.2 bt494.2.1 (wrap64 ((Int.tmod bt494.2.2.1 900) + 1))))) else (laws_FnChains.j0 k bt494.1 bt494.2.2.2.1 bt494.2.2.2.2 true bt494.2.1 bt494.2.2.1 bt502.1 bt502.2 bt494.2.1 (wrap64 ((Int.tmod bt494.2.2.1 900) + 1)))) else (laws_FnChains.j0 k bt494.1 bt494.2.2.2.1 bt494.2.2.2.2 true bt494.2.1 bt494.2.2.1 bt502.1 bt502.2 bt494.2.1 (wrap64 ((Int.tmod bt494.2.2.1 900) + 1)))))) else (laws_FnChains.j0 k bt494.1 bt494.2.2.2.1 bt494.2.2.2.2 true bt494.2.1 bt494.2.2.1 bt502.1 bt502.2 bt494.2.1 (wrap64 ((Int.tmod bt494.2.2.1 900) + 1))))))) else ((spec_PushVersion.f k bt494.1 bt494.2.1 bt494.2.2.1 bt494.2.2.2.1 bt494.2.2.2.2).bind fun bt507 => (some (bt507.1 == bt502.1)))))))) = some true := h
 clear h
 replace H := Option.bind_eq_some_iff.mp H
 obtain ⟨t493, A20, H⟩ := H
 replace H : (if t493 = true then (some true) else ((spec_DrawPushVersion.f k l0).bind fun bt494 => ((impl_PushVersion.f k bt494.1 bt494.2.1 bt494.2.2.1 bt494.2.2.2.1 bt494.2.2.2.2).bind fun bt502 => (if bt502.1 = 0 then ((impl_SeenIn.f k bt502.2 bt494.2.1 bt494.2.2.1).bind fun bt511 => ((impl_WriterOf.f k bt502.2).bind fun bt514 => ((impl_ChainFault.f k bt502.2).bind fun t518 => (if t518 = 0 then (if (bt494.2.2.2.1 != (bt511.1 == 4)) = true then (laws_FnChains.j0 k bt494.1 bt494.2.2.2.1 bt494.2.2.2.2 true bt494.2.1 bt494.2.2.1 bt502.1 bt502.2 bt494.2.1 (wrap64 ((Int.tmod bt494.2.2.1 900) + 1))) else (if bt494.2.2.2.1 = true then (if bt514.2 = bt494.2.2.1 then ((impl_MayWrite.f k bt502.2 bt494.2.1 (wrap64 ((Int.tmod bt494.2.2.1 900) + 1))).bind fun t519 => (if t519 = 9 then ((impl_SeenIn.f k bt502.2 bt494.2.1 (wrap64 ((Int.tmod bt494.2.2.1 900) + 1))).bind fun bt520 => ((impl_SeenIn.f k bt494.1 bt494.2.1 (wrap64 ((Int.tmod bt494.2.2.1 900) + 1))).bind fun bt522 => (laws_FnChains.j0 k bt494.1 bt494.2.2.2.1 bt494.2.2.2.2 (!(bt520.1 == bt522.1) || (!(bt520.2 == bt522.2))) bt494.2.1 bt494.2.2.1 bt502.1 bt502.2 bt494.2.1 (wrap64 ((Int.tmod bt494.2.2.1 900) + 1))))) else (laws_FnChains.j0 k bt494.1 bt494.2.2.2.1 bt494.2.2.2.2 true bt494.2.1 bt494.2.2.1 bt502.1 bt502.2 bt494.2.1 (wrap64 ((Int.tmod bt494.2.2.1 900) + 1))))) else (laws_FnChains.j0 k bt494.1 bt494.2.2.2.1 bt494.2.2.2.2 true bt494.2.1 bt494.2.2.1 bt502.1 bt502.2 bt494.2.1 (wrap64 ((Int.tmod bt494.2.2.1 900) + 1)))) else (if bt511.2 = bt494.2.2.2.2 then (if bt514.2 = bt494.2.2.1 then ((impl_MayWrite.f k bt502.2 bt494.2.1 (wrap64 ((Int.tmod bt494.2.2.1 900) + 1))).bind fun t524 => (if t524 = 9 then ((impl_SeenIn.f k bt502.2 bt494.2.1 (wrap64 ((Int.tmod bt494.2.2.1 900) + 1))).bind fun bt525 => ((impl_SeenIn.f k bt494.1 bt494.2.1 (wrap64 ((Int.tmod bt494.2.2.1 900) + 1))).bind fun bt527 => (laws_FnChains.j0 k bt494.1 bt494.2.2.2.1 bt494.2.2.2.2 (!(bt525.1 == bt527.1) || (!(bt525.2 == bt527.2))) bt494.2.1 bt494.2.2.1 bt502.1 bt502.2 bt494.2.1 (wrap64 ((Int.tmod bt494.2.2.1 900) + 1))))) else (laws_FnChains.j0 k bt494.1 bt494.2.2.2.1 bt494.2.2.2.2 true bt494.2.1 bt494.2.2.1 bt502.1 bt502.2 bt494.2.1 (wrap64 ((Int.tmod bt494.2.2.1 900) + 1))))) else (laws_FnChains.j0 k bt494.1 bt494.2.2.2.1 bt494.2.2.2.2 true bt494.2.1 bt494.2.2.1 bt502.1 bt502.2 bt494.2.1 (wrap64 ((Int.tmod bt494.2.2.1 900) + 1)))) else (laws_FnChains.j0 k bt494.1 bt494.2.2.2.1 bt494.2.2.2.2 true bt494.2.1 bt494.2.2.1 bt502.1 bt502.2 bt494.2.1 (wrap64 ((Int.tmod bt494.2.2.1 900) + 1)))))) else (laws_FnChains.j0 k bt494.1 bt494.2.2.2.1 bt494.2.2.2.2 true bt494.2.1 bt494.2.2.1 bt502.1 bt502.2 bt494.2.1 (wrap64 ((Int.tmod bt494.2.2.1 900) + 1))))))) else ((spec_PushVersion.f k bt494.1 bt494.2.1 bt494.2.2.1 bt494.2.2.2.1 bt494.2.2.2.2).bind fun bt507 => (some (bt507.1 == bt502.1))))))) = some true := H
 have A2 := Aside0.mk A20
 clear A20
 by_cases c3 : t493 = true
 ·subst c3
  have H1 : (some true) = some true := by rw [if_pos rfl] at H; first | done | exact H
  clear H
  have H := H1
  clear H1
  go_enter Try.func4, Try.ntmps4
  go_wp2_with (first | ((with_reducible refine gate_callee (f := 5) rfl ?_); refine goesL_ (some 16) rfl rfl Try.func5 (by kernel_rfl) rfl #[.slice A0 l0.length c0] rfl zm ?_; (with_reducible refine (laws_lwBig.calls _ _ l0 true _ ?side1 ?side2 A2.out).mono ?_); (case side1 => repeat (first | exact HR0.out | (with_reducible first | refine Kd.C_alloc ?_ _ | refine Kd.C_drewN ?_ _ | refine Kd.C_drew ?_))); (case side2 => exact HC0.out); rintro e w' ⟨rfl, ⟨nd, rfl⟩⟩; refine ⟨_, rfl, ?_⟩))
  go_ret
  exact ⟨ze, zb⟩
 replace c3 := Bool.eq_false_iff.mpr c3
 subst c3
 have H1 : ((spec_DrawPushVersion.f k l0).bind fun bt494 => ((impl_PushVersion.f k bt494.1 bt494.2.1 bt494.2.2.1 bt494.2.2.2.1 bt494.2.2.2.2).bind fun bt502 => (if bt502.1 = 0 then ((impl_SeenIn.f k bt502.2 bt494.2.1 bt494.2.2.1).bind fun bt511 => ((impl_WriterOf.f k bt502.2).bind fun bt514 => ((impl_ChainFault.f k bt502.2).bind fun t518 => (if t518 = 0 then (if (bt494.2.2.2.1 != (bt511.1 == 4)) = true then (laws_FnChains.j0 k bt494.1 bt494.2.2.2.1 bt494.2.2.2.2 true bt494.2.1 bt494.2.2.1 bt502.1 bt502.2 bt494.2.1 (wrap64 ((Int.tmod bt494.2.2.1 900) + 1))) else (if bt494.2.2.2.1 = true then (if bt514.2 = bt494.2.2.1 then ((impl_MayWrite.f k bt502.2 bt494.2.1 (wrap64 ((Int.tmod bt494.2.2.1 900) + 1))).bind fun t519 => (if t519 = 9 then ((impl_SeenIn.f k bt502.2 bt494.2.1 (wrap64 ((Int.tmod bt494.2.2.1 900) + 1))).bind fun bt520 => ((impl_SeenIn.f k bt494.1 bt494.2.1 (wrap64 ((Int.tmod bt494.2.2.1 900) + 1))).bind fun bt522 => (laws_FnChains.j0 k bt494.1 bt494.2.2.2.1 bt494.2.2.2.2 (!(bt520.1 == bt522.1) || (!(bt520.2 == bt522.2))) bt494.2.1 bt494.2.2.1 bt502.1 bt502.2 bt494.2.1 (wrap64 ((Int.tmod bt494.2.2.1 900) + 1))))) else (laws_FnChains.j0 k bt494.1 bt494.2.2.2.1 bt494.2.2.2.2 true bt494.2.1 bt494.2.2.1 bt502.1 bt502.2 bt494.2.1 (wrap64 ((Int.tmod bt494.2.2.1 900) + 1))))) else (laws_FnChains.j0 k bt494.1 bt494.2.2.2.1 bt494.2.2.2.2 true bt494.2.1 bt494.2.2.1 bt502.1 bt502.2 bt494.2.1 (wrap64 ((Int.tmod bt494.2.2.1 900) + 1)))) else (if bt511.2 = bt494.2.2.2.2 then (if bt514.2 = bt494.2.2.1 then ((impl_MayWrite.f k bt502.2 bt494.2.1 (wrap64 ((Int.tmod bt494.2.2.1 900) + 1))).bind fun t524 => (if t524 = 9 then ((impl_SeenIn.f k bt502.2 bt494.2.1 (wrap64 ((Int.tmod bt494.2.2.1 900) + 1))).bind fun bt525 => ((impl_SeenIn.f k bt494.1 bt494.2.1 (wrap64 ((Int.tmod bt494.2.2.1 900) + 1))).bind fun bt527 => (laws_FnChains.j0 k bt494.1 bt494.2.2.2.1 bt494.2.2.2.2 (!(bt525.1 == bt527.1) || (!(bt525.2 == bt527.2))) bt494.2.1 bt494.2.2.1 bt502.1 bt502.2 bt494.2.1 (wrap64 ((Int.tmod bt494.2.2.1 900) + 1))))) else (laws_FnChains.j0 k bt494.1 bt494.2.2.2.1 bt494.2.2.2.2 true bt494.2.1 bt494.2.2.1 bt502.1 bt502.2 bt494.2.1 (wrap64 ((Int.tmod bt494.2.2.1 900) + 1))))) else (laws_FnChains.j0 k bt494.1 bt494.2.2.2.1 bt494.2.2.2.2 true bt494.2.1 bt494.2.2.1 bt502.1 bt502.2 bt494.2.1 (wrap64 ((Int.tmod bt494.2.2.1 900) + 1)))) else (laws_FnChains.j0 k bt494.1 bt494.2.2.2.1 bt494.2.2.2.2 true bt494.2.1 bt494.2.2.1 bt502.1 bt502.2 bt494.2.1 (wrap64 ((Int.tmod bt494.2.2.1 900) + 1)))))) else (laws_FnChains.j0 k bt494.1 bt494.2.2.2.1 bt494.2.2.2.2 true bt494.2.1 bt494.2.2.1 bt502.1 bt502.2 bt494.2.1 (wrap64 ((Int.tmod bt494.2.2.1 900) + 1))))))) else ((spec_PushVersion.f k bt494.1 bt494.2.1 bt494.2.2.1 bt494.2.2.2.1 bt494.2.2.2.2).bind fun bt507 => (some (bt507.1 == bt502.1)))))) = some true := by rw [if_neg (show ¬ (false = true) by decide)] at H; first | done | exact H
 clear H
 have H := H1
 clear H1
 replace H := Option.bind_eq_some_iff.mp H
 obtain ⟨⟨t494, t497, t498, t499, t500⟩, A40, H⟩ := H
 replace H : ((impl_PushVersion.f k t494 t497 t498 t499 t500).bind fun bt502 => (if bt502.1 = 0 then ((impl_SeenIn.f k bt502.2 t497 t498).bind fun bt511 => ((impl_WriterOf.f k bt502.2).bind fun bt514 => ((impl_ChainFault.f k bt502.2).bind fun t518 => (if t518 = 0 then (if (t499 != (bt511.1 == 4)) = true then (laws_FnChains.j0 k t494 t499 t500 true t497 t498 bt502.1 bt502.2 t497 (wrap64 ((Int.tmod t498 900) + 1))) else (if t499 = true then (if bt514.2 = t498 then ((impl_MayWrite.f k bt502.2 t497 (wrap64 ((Int.tmod t498 900) + 1))).bind fun t519 => (if t519 = 9 then ((impl_SeenIn.f k bt502.2 t497 (wrap64 ((Int.tmod t498 900) + 1))).bind fun bt520 => ((impl_SeenIn.f k t494 t497 (wrap64 ((Int.tmod t498 900) + 1))).bind fun bt522 => (laws_FnChains.j0 k t494 t499 t500 (!(bt520.1 == bt522.1) || (!(bt520.2 == bt522.2))) t497 t498 bt502.1 bt502.2 t497 (wrap64 ((Int.tmod t498 900) + 1))))) else (laws_FnChains.j0 k t494 t499 t500 true t497 t498 bt502.1 bt502.2 t497 (wrap64 ((Int.tmod t498 900) + 1))))) else (laws_FnChains.j0 k t494 t499 t500 true t497 t498 bt502.1 bt502.2 t497 (wrap64 ((Int.tmod t498 900) + 1)))) else (if bt511.2 = t500 then (if bt514.2 = t498 then ((impl_MayWrite.f k bt502.2 t497 (wrap64 ((Int.tmod t498 900) + 1))).bind fun t524 => (if t524 = 9 then ((impl_SeenIn.f k bt502.2 t497 (wrap64 ((Int.tmod t498 900) + 1))).bind fun bt525 => ((impl_SeenIn.f k t494 t497 (wrap64 ((Int.tmod t498 900) + 1))).bind fun bt527 => (laws_FnChains.j0 k t494 t499 t500 (!(bt525.1 == bt527.1) || (!(bt525.2 == bt527.2))) t497 t498 bt502.1 bt502.2 t497 (wrap64 ((Int.tmod t498 900) + 1))))) else (laws_FnChains.j0 k t494 t499 t500 true t497 t498 bt502.1 bt502.2 t497 (wrap64 ((Int.tmod t498 900) + 1))))) else (laws_FnChains.j0 k t494 t499 t500 true t497 t498 bt502.1 bt502.2 t497 (wrap64 ((Int.tmod t498 900) + 1)))) else (laws_FnChains.j0 k t494 t499 t500 true t497 t498 bt502.1 bt502.2 t497 (wrap64 ((Int.tmod t498 900) + 1)))))) else (laws_FnChains.j0 k t494 t499 t500 true t497 t498 bt502.1 bt502.2 t497 (wrap64 ((Int.tmod t498 900) + 1))))))) else ((spec_PushVersion.f k t494 t497 t498 t499 t500).bind fun bt507 => (some (bt507.1 == bt502.1))))) = some true := H
 have A4 := Aside0.mk A40
 clear A40
 replace H := Option.bind_eq_some_iff.mp H
 obtain ⟨⟨t502, t503⟩, A50, H⟩ := H
 replace H : (if t502 = 0 then ((impl_SeenIn.f k t503 t497 t498).bind fun bt511 => ((impl_WriterOf.f k t503).bind fun bt514 => ((impl_ChainFault.f k t503).bind fun t518 => (if t518 = 0 then (if (t499 != (bt511.1 == 4)) = true then (laws_FnChains.j0 k t494 t499 t500 true t497 t498 t502 t503 t497 (wrap64 ((Int.tmod t498 900) + 1))) else (if t499 = true then (if bt514.2 = t498 then ((impl_MayWrite.f k t503 t497 (wrap64 ((Int.tmod t498 900) + 1))).bind fun t519 => (if t519 = 9 then ((impl_SeenIn.f k t503 t497 (wrap64 ((Int.tmod t498 900) + 1))).bind fun bt520 => ((impl_SeenIn.f k t494 t497 (wrap64 ((Int.tmod t498 900) + 1))).bind fun bt522 => (laws_FnChains.j0 k t494 t499 t500 (!(bt520.1 == bt522.1) || (!(bt520.2 == bt522.2))) t497 t498 t502 t503 t497 (wrap64 ((Int.tmod t498 900) + 1))))) else (laws_FnChains.j0 k t494 t499 t500 true t497 t498 t502 t503 t497 (wrap64 ((Int.tmod t498 900) + 1))))) else (laws_FnChains.j0 k t494 t499 t500 true t497 t498 t502 t503 t497 (wrap64 ((Int.tmod t498 900) + 1)))) else (if bt511.2 = t500 then (if bt514.2 = t498 then ((impl_MayWrite.f k t503 t497 (wrap64 ((Int.tmod t498 900) + 1))).bind fun t524 => (if t524 = 9 then ((impl_SeenIn.f k t503 t497 (wrap64 ((Int.tmod t498 900) + 1))).bind fun bt525 => ((impl_SeenIn.f k t494 t497 (wrap64 ((Int.tmod t498 900) + 1))).bind fun bt527 => (laws_FnChains.j0 k t494 t499 t500 (!(bt525.1 == bt527.1) || (!(bt525.2 == bt527.2))) t497 t498 t502 t503 t497 (wrap64 ((Int.tmod t498 900) + 1))))) else (laws_FnChains.j0 k t494 t499 t500 true t497 t498 t502 t503 t497 (wrap64 ((Int.tmod t498 900) + 1))))) else (laws_FnChains.j0 k t494 t499 t500 true t497 t498 t502 t503 t497 (wrap64 ((Int.tmod t498 900) + 1)))) else (laws_FnChains.j0 k t494 t499 t500 true t497 t498 t502 t503 t497 (wrap64 ((Int.tmod t498 900) + 1)))))) else (laws_FnChains.j0 k t494 t499 t500 true t497 t498 t502 t503 t497 (wrap64 ((Int.tmod t498 900) + 1))))))) else ((spec_PushVersion.f k t494 t497 t498 t499 t500).bind fun bt507 => (some (bt507.1 == t502)))) = some true := H
 have A5 := Aside0.mk A50
 clear A50
 by_cases c6 : t502 = 0
 ·rw [if_pos c6] at H
  have c6b0 : (t502 == 0) = true := beq_iff_eq.mpr c6
  have c6b1 : (t502 != 0) = false := bne_eq_false_iff_eq.mpr c6
  clear c6
  replace H := Option.bind_eq_some_iff.mp H
  obtain ⟨⟨t511, t512⟩, A70, H⟩ := H
  replace H : ((impl_WriterOf.f k t503).bind fun bt514 => ((impl_ChainFault.f k t503).bind fun t518 => (if t518 = 0 then (if (t499 != (t511 == 4)) = true then (laws_FnChains.j0 k t494 t499 t500 true t497 t498 t502 t503 t497 (wrap64 ((Int.tmod t498 900) + 1))) else (if t499 = true then (if bt514.2 = t498 then ((impl_MayWrite.f k t503 t497 (wrap64 ((Int.tmod t498 900) + 1))).bind fun t519 => (if t519 = 9 then ((impl_SeenIn.f k t503 t497 (wrap64 ((Int.tmod t498 900) + 1))).bind fun bt520 => ((impl_SeenIn.f k t494 t497 (wrap64 ((Int.tmod t498 900) + 1))).bind fun bt522 => (laws_FnChains.j0 k t494 t499 t500 (!(bt520.1 == bt522.1) || (!(bt520.2 == bt522.2))) t497 t498 t502 t503 t497 (wrap64 ((Int.tmod t498 900) + 1))))) else (laws_FnChains.j0 k t494 t499 t500 true t497 t498 t502 t503 t497 (wrap64 ((Int.tmod t498 900) + 1))))) else (laws_FnChains.j0 k t494 t499 t500 true t497 t498 t502 t503 t497 (wrap64 ((Int.tmod t498 900) + 1)))) else (if t512 = t500 then (if bt514.2 = t498 then ((impl_MayWrite.f k t503 t497 (wrap64 ((Int.tmod t498 900) + 1))).bind fun t524 => (if t524 = 9 then ((impl_SeenIn.f k t503 t497 (wrap64 ((Int.tmod t498 900) + 1))).bind fun bt525 => ((impl_SeenIn.f k t494 t497 (wrap64 ((Int.tmod t498 900) + 1))).bind fun bt527 => (laws_FnChains.j0 k t494 t499 t500 (!(bt525.1 == bt527.1) || (!(bt525.2 == bt527.2))) t497 t498 t502 t503 t497 (wrap64 ((Int.tmod t498 900) + 1))))) else (laws_FnChains.j0 k t494 t499 t500 true t497 t498 t502 t503 t497 (wrap64 ((Int.tmod t498 900) + 1))))) else (laws_FnChains.j0 k t494 t499 t500 true t497 t498 t502 t503 t497 (wrap64 ((Int.tmod t498 900) + 1)))) else (laws_FnChains.j0 k t494 t499 t500 true t497 t498 t502 t503 t497 (wrap64 ((Int.tmod t498 900) + 1)))))) else (laws_FnChains.j0 k t494 t499 t500 true t497 t498 t502 t503 t497 (wrap64 ((Int.tmod t498 900) + 1)))))) = some true := H
  have A7 := Aside0.mk A70
  clear A70
  replace H := Option.bind_eq_some_iff.mp H
  obtain ⟨⟨t514, t515⟩, A80, H⟩ := H
  replace H : ((impl_ChainFault.f k t503).bind fun t518 => (if t518 = 0 then (if (t499 != (t511 == 4)) = true then (laws_FnChains.j0 k t494 t499 t500 true t497 t498 t502 t503 t497 (wrap64 ((Int.tmod t498 900) + 1))) else (if t499 = true then (if t515 = t498 then ((impl_MayWrite.f k t503 t497 (wrap64 ((Int.tmod t498 900) + 1))).bind fun t519 => (if t519 = 9 then ((impl_SeenIn.f k t503 t497 (wrap64 ((Int.tmod t498 900) + 1))).bind fun bt520 => ((impl_SeenIn.f k t494 t497 (wrap64 ((Int.tmod t498 900) + 1))).bind fun bt522 => (laws_FnChains.j0 k t494 t499 t500 (!(bt520.1 == bt522.1) || (!(bt520.2 == bt522.2))) t497 t498 t502 t503 t497 (wrap64 ((Int.tmod t498 900) + 1))))) else (laws_FnChains.j0 k t494 t499 t500 true t497 t498 t502 t503 t497 (wrap64 ((Int.tmod t498 900) + 1))))) else (laws_FnChains.j0 k t494 t499 t500 true t497 t498 t502 t503 t497 (wrap64 ((Int.tmod t498 900) + 1)))) else (if t512 = t500 then (if t515 = t498 then ((impl_MayWrite.f k t503 t497 (wrap64 ((Int.tmod t498 900) + 1))).bind fun t524 => (if t524 = 9 then ((impl_SeenIn.f k t503 t497 (wrap64 ((Int.tmod t498 900) + 1))).bind fun bt525 => ((impl_SeenIn.f k t494 t497 (wrap64 ((Int.tmod t498 900) + 1))).bind fun bt527 => (laws_FnChains.j0 k t494 t499 t500 (!(bt525.1 == bt527.1) || (!(bt525.2 == bt527.2))) t497 t498 t502 t503 t497 (wrap64 ((Int.tmod t498 900) + 1))))) else (laws_FnChains.j0 k t494 t499 t500 true t497 t498 t502 t503 t497 (wrap64 ((Int.tmod t498 900) + 1))))) else (laws_FnChains.j0 k t494 t499 t500 true t497 t498 t502 t503 t497 (wrap64 ((Int.tmod t498 900) + 1)))) else (laws_FnChains.j0 k t494 t499 t500 true t497 t498 t502 t503 t497 (wrap64 ((Int.tmod t498 900) + 1)))))) else (laws_FnChains.j0 k t494 t499 t500 true t497 t498 t502 t503 t497 (wrap64 ((Int.tmod t498 900) + 1))))) = some true := H
  have A8 := Aside0.mk A80
  clear A80
  have HC9 := Aside0.mk H
  clear H
  go_enter Try.func4, Try.ntmps4
  go_upto_region 10 with (first | ((with_reducible refine gate_callee (f := 5) rfl ?_); refine goesL_ (some 16) rfl rfl Try.func5 (by kernel_rfl) rfl #[.slice A0 l0.length c0] rfl zm ?_; (with_reducible refine (laws_lwBig.calls _ _ l0 false _ ?side1 ?side2 A2.out).mono ?_); (case side1 => repeat (first | exact HR0.out | (with_reducible first | refine Kd.C_alloc ?_ _ | refine Kd.C_drewN ?_ _ | refine Kd.C_drew ?_))); (case side2 => exact HC0.out); rintro e w' ⟨rfl, ⟨nd, rfl⟩⟩; refine ⟨_, rfl, ?_⟩) | ((with_reducible refine gate_callee (f := 12) rfl ?_); refine goesL_ (some 19) rfl rfl Try.func12 (by kernel_rfl) rfl #[.slice A0 l0.length c0] rfl zm ?_; (with_reducible refine (spec_DrawPushVersion.calls k _ _ l0 t494 t497 t498 t499 t500 _ ?side1 ?side2 A4.out).mono ?_); (case side1 => repeat (first | exact HR0.out | (with_reducible first | refine Kd.C_alloc ?_ _ | refine Kd.C_drewN ?_ _ | refine Kd.C_drew ?_))); (case side2 => exact HC0.out); rintro e w10 ⟨v495, rfl, ho0, hb⟩; refine ⟨_, rfl, ?_⟩; have n0_ := Aside0.mk (Kd.R_lower ho0 (below_size zb)); have n1_ := Aside0.mk (below_step zb hb); clear HB; have HO496 := n0_; have HB := n1_; clear n0_ n1_; (try clear hb); (try clear hb2); (try clear hk); (try clear hi); (try clear ho0)) | ((with_reducible refine gate_dst (N := 4) rfl ?_); refine box_event ?hg (N := 4) ?hd (cs := #[.int .i64 0, .int .i64 0]) (t := 32) ?hr ?_; (case hd => rfl); (case hg => rfl); (case hr => first | (go_simp; done) | (go_simp; rfl)); intro gb501 hg w11 hbox hb; have n0_ := Aside0.mk (Kd.R_below (by (with_reducible repeat (first | apply Kd.R_alloc | apply Kd.R_drewN | apply Kd.R_drew)); exact HO496.out) hb); have n1_ := Aside0.mk (below_step zb hb); have n2_ := Aside0.mk (hbox); have n3_ := Aside0.mk ((by rw [hg]; exact (below_size zb) : w.heap.size ≤ gb501)); have n4_ := n3_; clear HO496; clear HB; have HO496 := n0_; have HB := n1_; have BK501 := n2_; have GW501 := n3_; have GE501 := n4_; clear n0_ n1_ n2_ n3_ n4_; clear hb hbox hg; obtain ⟨hcz12_0, hcz12_1, hfz12_0, hfz12_1⟩ := Lv.blks2 BK501.out; obtain ⟨Ao13, co13, eo13⟩ := Kd.R_slice HO496.out; subst eo13) | ((with_reducible refine gate_callee (f := 13) rfl ?_); refine goesL_ (some 28) rfl rfl Try.func13 (by kernel_rfl) rfl #[.slice Ao13 t494.length co13, .agg #[.int .i64 t497, .int .i64 t498], .bool t499, .int .i64 t500] rfl zm ?_; (with_reducible refine (impl_PushVersion.calls k _ _ t494 t497 t498 t499 t500 t502 t503 _ ?side1 ?side2 A5.out).mono ?_); (case side1 => refine (Kd.R_reads' (e := 51) (base := w.heap.size) (ok := fun k_ => True) (n := t494.length) (c := co13) ?_).2.2; exact (by (with_reducible repeat (first | apply Kd.R_alloc | apply Kd.R_drewN | apply Kd.R_drew)); exact (Kd.R_mono (Kd.R_far (p := ⟨gb501, 1, none⟩) (Kd.R_far (p := ⟨gb501, 0, none⟩) (Kd.R_types HO496.out BK501.out (by decide)) (fun _ hk => hk.2) (.int .i64 t497)) (fun _ hk => hk.2) (.int .i64 t498)) (fun _ h_ => h_.1)))); (case side2 => exact (Kd.R_reads' HO496.out).2.1); rintro e w14 ⟨v504, rfl, ho0, hb⟩; refine ⟨_, rfl, ?_⟩; have n0_ := Aside0.mk (Kd.R_elder' (by (with_reducible repeat (first | apply Kd.R_alloc | apply Kd.R_drewN | apply Kd.R_drew)); exact (Kd.R_mono (Kd.R_far (p := ⟨gb501, 1, none⟩) (Kd.R_far (p := ⟨gb501, 0, none⟩) (Kd.R_types HO496.out BK501.out (by decide)) (fun _ hk => hk.2) (.int .i64 t497)) (fun _ hk => hk.2) (.int .i64 t498)) (fun _ h_ => h_.1))) (Kd.R_base ho0) hb); have n1_ := Aside0.mk (Kd.R_lower (Kd.R_new' ho0 (Kd.R_lt (by (with_reducible repeat (first | apply Kd.R_alloc | apply Kd.R_drewN | apply Kd.R_drew)); exact (Kd.R_mono (Kd.R_far (p := ⟨gb501, 1, none⟩) (Kd.R_far (p := ⟨gb501, 0, none⟩) (Kd.R_types HO496.out BK501.out (by decide)) (fun _ hk => hk.2) (.int .i64 t497)) (fun _ hk => hk.2) (.int .i64 t498)) (fun _ h_ => h_.1))))) (below_size zb)); have n2_ := Aside0.mk (blk_below (g := gb501) (o := .cells #[.int .i64 t497, .int .i64 t498] 32 (0, 0)) (by (with_reducible repeat (first | refine blk_drewN ?_ _ | refine blk_drew ?_ | refine blk_alloc ?_ _)); refine blk_put (cs := #[.int .i64 t497, .int .i64 0]) ?_ 1 _ rfl; (with_reducible repeat (first | refine blk_drewN ?_ _ | refine blk_drew ?_ | refine blk_alloc ?_ _)); refine blk_put (cs := #[.int .i64 0, .int .i64 0]) ?_ 0 _ rfl; (with_reducible repeat (first | refine blk_drewN ?_ _ | refine blk_drew ?_ | refine blk_alloc ?_ _)); exact BK501.out) hb); have n3_ := Aside0.mk (below_step zb hb); clear HO496; clear BK501; clear HB; have HO496 := n0_; have HO505 := n1_; have BK501 := n2_; have HB := n3_; clear n0_ n1_ n2_ n3_; (try clear hb); (try clear hb2); (try clear hk); (try clear hi); (try clear ho0)) | ((with_reducible refine gate_dst (N := 7) rfl ?_); refine box_event ?hg (N := 7) ?hd (cs := #[.int .i64 0, .slice none 0 0]) (t := 28) ?hr ?_; (case hd => rfl); (case hg => rfl); (case hr => first | (go_simp; done) | (go_simp; rfl)); intro gb506 hg w15 hbox hb; have n0_ := Aside0.mk (Kd.R_below (by (with_reducible repeat (first | apply Kd.R_alloc | apply Kd.R_drewN | apply Kd.R_drew)); exact HO496.out) hb); have n1_ := Aside0.mk (Kd.R_below (by (with_reducible repeat (first | apply Kd.R_alloc | apply Kd.R_drewN | apply Kd.R_drew)); exact HO505.out) hb); have n2_ := Aside0.mk (blk_below (g := gb501) (o := .cells #[.int .i64 t497, .int .i64 t498] 32 (0, 0)) zk hb); have n3_ := Aside0.mk (below_step zb hb); have n4_ := Aside0.mk (hbox); have n5_ := Aside0.mk ((by rw [hg]; exact (below_size zb) : w.heap.size ≤ gb506)); have n6_ := n5_; have n7_ := Aside0.mk ((by rw [hg]; exact Nat.ne_of_lt (blk_lt (g := gb501) (o := .cells #[.int .i64 t497, .int .i64 t498] 32 (0, 0)) zk) : gb501 ≠ gb506)); have n8_ := Aside0.mk ((by rw [hg]; exact Nat.ne_of_gt (blk_lt (g := gb501) (o := .cells #[.int .i64 t497, .int .i64 t498] 32 (0, 0)) zk) : gb506 ≠ gb501)); clear HO496; clear HO505; clear BK501; clear HB; have HO496 := n0_; have HO505 := n1_; have BK501 := n2_; have HB := n3_; have BK506 := n4_; have GW506 := n5_; have GE506 := n6_; have NB501_506 := n7_; have NB506_501 := n8_; clear n0_ n1_ n2_ n3_ n4_ n5_ n6_ n7_ n8_; clear hb hbox hg; have hnb16 := NB506_501.out; have hnc16 := NB501_506.out; obtain ⟨hcz17_0, hcz17_1, hfz17_0, hfz17_1⟩ := Lv.blks2 BK506.out; obtain ⟨Ao18, co18, eo18⟩ := Kd.R_slice HO505.out; subst eo18; obtain ⟨hcz19_0, hcz19_1, hfz19_0, hfz19_1⟩ := Lv.blks2 BK501.out) | ((with_reducible refine gate_callee (f := 10) rfl ?_); refine goesL_ (some 44) rfl rfl Try.func10 (by kernel_rfl) rfl #[.slice Ao18 t503.length co18, .agg #[.int .i64 t497, .int .i64 t498]] rfl zm ?_; (with_reducible refine (impl_SeenIn.calls k _ _ t503 t497 t498 t511 t512 _ ?side1 ?side2 A7.out).mono ?_); (case side1 => refine (Kd.R_reads' (e := 51) (base := w.heap.size) (ok := fun k_ => (True ∧ some k_ ≠ (.slice Ao13 t494.length co13 : Value).ownBlock)) (n := t503.length) (c := co18) ?_).2.2; exact (by (with_reducible repeat (first | apply Kd.R_alloc | apply Kd.R_drewN | apply Kd.R_drew)); exact (Kd.R_mono (Kd.R_far (p := ⟨gb506, 1, none⟩) (Kd.R_far (p := ⟨gb506, 0, none⟩) (Kd.R_types HO505.out BK506.out (by decide)) (fun _ hk => hk.2) (.int .i64 t502)) (fun _ hk => hk.2) (.slice Ao18 t503.length co18)) (fun _ h_ => h_.1)))); (case side2 => exact (Kd.R_reads' HO505.out).2.1); rintro e w20 ⟨rfl, hb⟩; refine ⟨_, rfl, ?_⟩; have n0_ := Aside0.mk (Kd.R_below (by (with_reducible repeat (first | apply Kd.R_alloc | apply Kd.R_drewN | apply Kd.R_drew)); exact (Kd.R_mono (Kd.R_far (p := ⟨gb506, 1, none⟩) (Kd.R_far (p := ⟨gb506, 0, none⟩) (Kd.R_types HO496.out BK506.out (by decide)) (fun _ hk => hk.2) (.int .i64 t502)) (fun _ hk => hk.2) (.slice Ao18 t503.length co18)) (fun _ h_ => h_.1))) hb); have n1_ := Aside0.mk (Kd.R_below (by (with_reducible repeat (first | apply Kd.R_alloc | apply Kd.R_drewN | apply Kd.R_drew)); exact (Kd.R_mono (Kd.R_far (p := ⟨gb506, 1, none⟩) (Kd.R_far (p := ⟨gb506, 0, none⟩) (Kd.R_types HO505.out BK506.out (by decide)) (fun _ hk => hk.2) (.int .i64 t502)) (fun _ hk => hk.2) (.slice Ao18 t503.length co18)) (fun _ h_ => h_.1))) hb); have n2_ := Aside0.mk (blk_below (g := gb501) (o := .cells #[.int .i64 t497, .int .i64 t498] 32 (0, 0)) (by (with_reducible repeat (first | refine blk_drewN ?_ _ | refine blk_drew ?_ | refine blk_alloc ?_ _)); refine blk_far ?_ NB501_506.out _; (with_reducible repeat (first | refine blk_drewN ?_ _ | refine blk_drew ?_ | refine blk_alloc ?_ _)); refine blk_far ?_ NB501_506.out _; (with_reducible repeat (first | refine blk_drewN ?_ _ | refine blk_drew ?_ | refine blk_alloc ?_ _)); exact BK501.out) hb); have n3_ := Aside0.mk (blk_below (g := gb506) (o := .cells #[.int .i64 t502, .slice Ao18 t503.length co18] 28 (0, 0)) (by (with_reducible repeat (first | refine blk_drewN ?_ _ | refine blk_drew ?_ | refine blk_alloc ?_ _)); refine blk_put (cs := #[.int .i64 t502, .slice none 0 0]) ?_ 1 _ rfl; (with_reducible repeat (first | refine blk_drewN ?_ _ | refine blk_drew ?_ | refine blk_alloc ?_ _)); refine blk_put (cs := #[.int .i64 0, .slice none 0 0]) ?_ 0 _ rfl; (with_reducible repeat (first | refine blk_drewN ?_ _ | refine blk_drew ?_ | refine blk_alloc ?_ _)); exact BK506.out) hb); have n4_ := Aside0.mk (below_step zb hb); clear HO496; clear HO505; clear BK501; clear BK506; clear HB; have HO496 := n0_; have HO505 := n1_; have BK501 := n2_; have BK506 := n3_; have HB := n4_; clear n0_ n1_ n2_ n3_ n4_; (try clear hb); (try clear hb2); (try clear hk); (try clear hi)) | ((with_reducible refine gate_dst (N := 8) rfl ?_); refine box_event ?hg (N := 8) ?hd (cs := #[.int .i64 0, .int .i64 0]) (t := 34) ?hr ?_; (case hd => rfl); (case hg => rfl); (case hr => first | (go_simp; done) | (go_simp; rfl)); intro gb513 hg w21 hbox hb; have n0_ := Aside0.mk (Kd.R_below (by (with_reducible repeat (first | apply Kd.R_alloc | apply Kd.R_drewN | apply Kd.R_drew)); exact HO496.out) hb); have n1_ := Aside0.mk (Kd.R_below (by (with_reducible repeat (first | apply Kd.R_alloc | apply Kd.R_drewN | apply Kd.R_drew)); exact HO505.out) hb); have n2_ := Aside0.mk (blk_below (g := gb501) (o := .cells #[.int .i64 t497, .int .i64 t498] 32 (0, 0)) zk hb); have n3_ := Aside0.mk (blk_below (g := gb506) (o := .cells #[.int .i64 t502, .slice Ao18 t503.length co18] 28 (0, 0)) zk hb); have n4_ := Aside0.mk (below_step zb hb); have n5_ := Aside0.mk (hbox); have n6_ := Aside0.mk ((by rw [hg]; exact (below_size zb) : w.heap.size ≤ gb513)); have n7_ := n6_; have n8_ := Aside0.mk ((by rw [hg]; exact Nat.ne_of_lt (blk_lt (g := gb501) (o := .cells #[.int .i64 t497, .int .i64 t498] 32 (0, 0)) zk) : gb501 ≠ gb513)); have n9_ := Aside0.mk ((by rw [hg]; exact Nat.ne_of_gt (blk_lt (g := gb501) (o := .cells #[.int .i64 t497, .int .i64 t498] 32 (0, 0)) zk) : gb513 ≠ gb501)); have n10_ := Aside0.mk ((by rw [hg]; exact Nat.ne_of_lt (blk_lt (g := gb506) (o := .cells #[.int .i64 t502, .slice Ao18 t503.length co18] 28 (0, 0)) zk) : gb506 ≠ gb513)); have n11_ := Aside0.mk ((by rw [hg]; exact Nat.ne_of_gt (blk_lt (g := gb506) (o := .cells #[.int .i64 t502, .slice Ao18 t503.length co18] 28 (0, 0)) zk) : gb513 ≠ gb506)); clear HO496; clear HO505; clear BK501; clear BK506; clear HB; have HO496 := n0_; have HO505 := n1_; have BK501 := n2_; have BK506 := n3_; have HB := n4_; have BK513 := n5_; have GW513 := n6_; have GE513 := n7_; have NB501_513 := n8_; have NB513_501 := n9_; have NB506_513 := n10_; have NB513_506 := n11_; clear n0_ n1_ n2_ n3_ n4_ n5_ n6_ n7_ n8_ n9_ n10_ n11_; clear hb hbox hg; have hnb22 := NB513_501.out; have hnc22 := NB501_513.out; have hnb23 := NB513_506.out; have hnc23 := NB506_513.out; obtain ⟨hcz24_0, hcz24_1, hfz24_0, hfz24_1⟩ := Lv.blks2 BK513.out; obtain ⟨hcz25_0, hcz25_1, hfz25_0, hfz25_1⟩ := Lv.blks2 BK506.out) | ((with_reducible refine gate_callee (f := 15) rfl ?_); refine goesL_ (some 47) rfl rfl Try.func15 (by kernel_rfl) rfl #[.slice Ao18 t503.length co18] rfl zm ?_; (with_reducible refine (impl_WriterOf.calls k _ _ t503 t514 t515 _ ?side1 ?side2 A8.out).mono ?_); (case side1 => refine (Kd.R_reads' (e := 51) (base := w.heap.size) (ok := fun k_ => (True ∧ some k_ ≠ (.slice Ao13 t494.length co13 : Value).ownBlock)) (n := t503.length) (c := co18) ?_).2.2; exact (by (with_reducible repeat (first | apply Kd.R_alloc | apply Kd.R_drewN | apply Kd.R_drew)); exact (Kd.R_mono (Kd.R_far (p := ⟨gb513, 1, none⟩) (Kd.R_far (p := ⟨gb513, 0, none⟩) (Kd.R_types HO505.out BK513.out (by decide)) (fun _ hk => hk.2) (.int .i64 t511)) (fun _ hk => hk.2) (.int .i64 t512)) (fun _ h_ => h_.1)))); (case side2 => exact (Kd.R_reads' HO505.out).2.1); rintro e w26 ⟨rfl, hb⟩; refine ⟨_, rfl, ?_⟩; have n0_ := Aside0.mk (Kd.R_below (by (with_reducible repeat (first | apply Kd.R_alloc | apply Kd.R_drewN | apply Kd.R_drew)); exact (Kd.R_mono (Kd.R_far (p := ⟨gb513, 1, none⟩) (Kd.R_far (p := ⟨gb513, 0, none⟩) (Kd.R_types HO496.out BK513.out (by decide)) (fun _ hk => hk.2) (.int .i64 t511)) (fun _ hk => hk.2) (.int .i64 t512)) (fun _ h_ => h_.1))) hb); have n1_ := Aside0.mk (Kd.R_below (by (with_reducible repeat (first | apply Kd.R_alloc | apply Kd.R_drewN | apply Kd.R_drew)); exact (Kd.R_mono (Kd.R_far (p := ⟨gb513, 1, none⟩) (Kd.R_far (p := ⟨gb513, 0, none⟩) (Kd.R_types HO505.out BK513.out (by decide)) (fun _ hk => hk.2) (.int .i64 t511)) (fun _ hk => hk.2) (.int .i64 t512)) (fun _ h_ => h_.1))) hb); have n2_ := Aside0.mk (blk_below (g := gb501) (o := .cells #[.int .i64 t497, .int .i64 t498] 32 (0, 0)) (by (with_reducible repeat (first | refine blk_drewN ?_ _ | refine blk_drew ?_ | refine blk_alloc ?_ _)); refine blk_far ?_ NB501_513.out _; (with_reducible repeat (first | refine blk_drewN ?_ _ | refine blk_drew ?_ | refine blk_alloc ?_ _)); refine blk_far ?_ NB501_513.out _; (with_reducible repeat (first | refine blk_drewN ?_ _ | refine blk_drew ?_ | refine blk_alloc ?_ _)); exact BK501.out) hb); have n3_ := Aside0.mk (blk_below (g := gb506) (o := .cells #[.int .i64 t502, .slice Ao18 t503.length co18] 28 (0, 0)) (by (with_reducible repeat (first | refine blk_drewN ?_ _ | refine blk_drew ?_ | refine blk_alloc ?_ _)); refine blk_far ?_ NB506_513.out _; (with_reducible repeat (first | refine blk_drewN ?_ _ | refine blk_drew ?_ | refine blk_alloc ?_ _)); refine blk_far ?_ NB506_513.out _; (with_reducible repeat (first | refine blk_drewN ?_ _ | refine blk_drew ?_ | refine blk_alloc ?_ _)); exact BK506.out) hb); have n4_ := Aside0.mk (blk_below (g := gb513) (o := .cells #[.int .i64 t511, .int .i64 t512] 34 (0, 0)) (by (with_reducible repeat (first | refine blk_drewN ?_ _ | refine blk_drew ?_ | refine blk_alloc ?_ _)); refine blk_put (cs := #[.int .i64 t511, .int .i64 0]) ?_ 1 _ rfl; (with_reducible repeat (first | refine blk_drewN ?_ _ | refine blk_drew ?_ | refine blk_alloc ?_ _)); refine blk_put (cs := #[.int .i64 0, .int .i64 0]) ?_ 0 _ rfl; (with_reducible repeat (first | refine blk_drewN ?_ _ | refine blk_drew ?_ | refine blk_alloc ?_ _)); exact BK513.out) hb); have n5_ := Aside0.mk (below_step zb hb); clear HO496; clear HO505; clear BK501; clear BK506; clear BK513; clear HB; have HO496 := n0_; have HO505 := n1_; have BK501 := n2_; have BK506 := n3_; have BK513 := n4_; have HB := n5_; clear n0_ n1_ n2_ n3_ n4_ n5_; (try clear hb); (try clear hb2); (try clear hk); (try clear hi)) | ((with_reducible refine gate_dst (N := 9) rfl ?_); refine box_event ?hg (N := 9) ?hd (cs := #[.int .i64 0, .int .i64 0]) (t := 34) ?hr ?_; (case hd => rfl); (case hg => rfl); (case hr => first | (go_simp; done) | (go_simp; rfl)); intro gb516 hg w27 hbox hb; have n0_ := Aside0.mk (Kd.R_below (by (with_reducible repeat (first | apply Kd.R_alloc | apply Kd.R_drewN | apply Kd.R_drew)); exact HO496.out) hb); have n1_ := Aside0.mk (Kd.R_below (by (with_reducible repeat (first | apply Kd.R_alloc | apply Kd.R_drewN | apply Kd.R_drew)); exact HO505.out) hb); have n2_ := Aside0.mk (blk_below (g := gb501) (o := .cells #[.int .i64 t497, .int .i64 t498] 32 (0, 0)) zk hb); have n3_ := Aside0.mk (blk_below (g := gb506) (o := .cells #[.int .i64 t502, .slice Ao18 t503.length co18] 28 (0, 0)) zk hb); have n4_ := Aside0.mk (blk_below (g := gb513) (o := .cells #[.int .i64 t511, .int .i64 t512] 34 (0, 0)) zk hb); have n5_ := Aside0.mk (below_step zb hb); have n6_ := Aside0.mk (hbox); have n7_ := Aside0.mk ((by rw [hg]; exact (below_size zb) : w.heap.size ≤ gb516)); have n8_ := n7_; have n9_ := Aside0.mk ((by rw [hg]; exact Nat.ne_of_lt (blk_lt (g := gb501) (o := .cells #[.int .i64 t497, .int .i64 t498] 32 (0, 0)) zk) : gb501 ≠ gb516)); have n10_ := Aside0.mk ((by rw [hg]; exact Nat.ne_of_gt (blk_lt (g := gb501) (o := .cells #[.int .i64 t497, .int .i64 t498] 32 (0, 0)) zk) : gb516 ≠ gb501)); have n11_ := Aside0.mk ((by rw [hg]; exact Nat.ne_of_lt (blk_lt (g := gb506) (o := .cells #[.int .i64 t502, .slice Ao18 t503.length co18] 28 (0, 0)) zk) : gb506 ≠ gb516)); have n12_ := Aside0.mk ((by rw [hg]; exact Nat.ne_of_gt (blk_lt (g := gb506) (o := .cells #[.int .i64 t502, .slice Ao18 t503.length co18] 28 (0, 0)) zk) : gb516 ≠ gb506)); have n13_ := Aside0.mk ((by rw [hg]; exact Nat.ne_of_lt (blk_lt (g := gb513) (o := .cells #[.int .i64 t511, .int .i64 t512] 34 (0, 0)) zk) : gb513 ≠ gb516)); have n14_ := Aside0.mk ((by rw [hg]; exact Nat.ne_of_gt (blk_lt (g := gb513) (o := .cells #[.int .i64 t511, .int .i64 t512] 34 (0, 0)) zk) : gb516 ≠ gb513)); clear HO496; clear HO505; clear BK501; clear BK506; clear BK513; clear HB; have HO496 := n0_; have HO505 := n1_; have BK501 := n2_; have BK506 := n3_; have BK513 := n4_; have HB := n5_; have BK516 := n6_; have GW516 := n7_; have GE516 := n8_; have NB501_516 := n9_; have NB516_501 := n10_; have NB506_516 := n11_; have NB516_506 := n12_; have NB513_516 := n13_; have NB516_513 := n14_; clear n0_ n1_ n2_ n3_ n4_ n5_ n6_ n7_ n8_ n9_ n10_ n11_ n12_ n13_ n14_; clear hb hbox hg; have hnb28 := NB516_501.out; have hnc28 := NB501_516.out; have hnb29 := NB516_506.out; have hnc29 := NB506_516.out; have hnb30 := NB516_513.out; have hnc30 := NB513_516.out; obtain ⟨hcz31_0, hcz31_1, hfz31_0, hfz31_1⟩ := Lv.blks2 BK516.out; obtain ⟨hcz32_0, hcz32_1, hfz32_0, hfz32_1⟩ := Lv.blks2 BK501.out) | ((with_reducible refine gate_dst (N := 10) rfl ?_); refine box_event ?hg (N := 10) ?hd (cs := #[.int .i64 0, .int .i64 0]) (t := 32) ?hr ?_; (case hd => rfl); (case hg => rfl); (case hr => first | (go_simp; done) | (go_simp; rfl)); intro gb517 hg w33 hbox hb; have n0_ := Aside0.mk (Kd.R_below (by (with_reducible repeat (first | apply Kd.R_alloc | apply Kd.R_drewN | apply Kd.R_drew)); exact (Kd.R_mono (Kd.R_far (p := ⟨gb516, 1, none⟩) (Kd.R_far (p := ⟨gb516, 0, none⟩) (Kd.R_types HO496.out BK516.out (by decide)) (fun _ hk => hk.2) (.int .i64 t514)) (fun _ hk => hk.2) (.int .i64 t515)) (fun _ h_ => h_.1))) hb); have n1_ := Aside0.mk (Kd.R_below (by (with_reducible repeat (first | apply Kd.R_alloc | apply Kd.R_drewN | apply Kd.R_drew)); exact (Kd.R_mono (Kd.R_far (p := ⟨gb516, 1, none⟩) (Kd.R_far (p := ⟨gb516, 0, none⟩) (Kd.R_types HO505.out BK516.out (by decide)) (fun _ hk => hk.2) (.int .i64 t514)) (fun _ hk => hk.2) (.int .i64 t515)) (fun _ h_ => h_.1))) hb); have n2_ := Aside0.mk (blk_below (g := gb501) (o := .cells #[.int .i64 t497, .int .i64 t498] 32 (0, 0)) (by (with_reducible repeat (first | refine blk_drewN ?_ _ | refine blk_drew ?_ | refine blk_alloc ?_ _)); refine blk_far ?_ NB501_516.out _; (with_reducible repeat (first | refine blk_drewN ?_ _ | refine blk_drew ?_ | refine blk_alloc ?_ _)); refine blk_far ?_ NB501_516.out _; (with_reducible repeat (first | refine blk_drewN ?_ _ | refine blk_drew ?_ | refine blk_alloc ?_ _)); exact BK501.out) hb); have n3_ := Aside0.mk (blk_below (g := gb506) (o := .cells #[.int .i64 t502, .slice Ao18 t503.length co18] 28 (0, 0)) (by (with_reducible repeat (first | refine blk_drewN ?_ _ | refine blk_drew ?_ | refine blk_alloc ?_ _)); refine blk_far ?_ NB506_516.out _; (with_reducible repeat (first | refine blk_drewN ?_ _ | refine blk_drew ?_ | refine blk_alloc ?_ _)); refine blk_far ?_ NB506_516.out _; (with_reducible repeat (first | refine blk_drewN ?_ _ | refine blk_drew ?_ | refine blk_alloc ?_ _)); exact BK506.out) hb); have n4_ := Aside0.mk (blk_below (g := gb513) (o := .cells #[.int .i64 t511, .int .i64 t512] 34 (0, 0)) (by (with_reducible repeat (first | refine blk_drewN ?_ _ | refine blk_drew ?_ | refine blk_alloc ?_ _)); refine blk_far ?_ NB513_516.out _; (with_reducible repeat (first | refine blk_drewN ?_ _ | refine blk_drew ?_ | refine blk_alloc ?_ _)); refine blk_far ?_ NB513_516.out _; (with_reducible repeat (first | refine blk_drewN ?_ _ | refine blk_drew ?_ | refine blk_alloc ?_ _)); exact BK513.out) hb); have n5_ := Aside0.mk (blk_below (g := gb516) (o := .cells #[.int .i64 t514, .int .i64 t515] 34 (0, 0)) (by (with_reducible repeat (first | refine blk_drewN ?_ _ | refine blk_drew ?_ | refine blk_alloc ?_ _)); refine blk_put (cs := #[.int .i64 t514, .int .i64 0]) ?_ 1 _ rfl; (with_reducible repeat (first | refine blk_drewN ?_ _ | refine blk_drew ?_ | refine blk_alloc ?_ _)); refine blk_put (cs := #[.int .i64 0, .int .i64 0]) ?_ 0 _ rfl; (with_reducible repeat (first | refine blk_drewN ?_ _ | refine blk_drew ?_ | refine blk_alloc ?_ _)); exact BK516.out) hb); have n6_ := Aside0.mk (below_step zb hb); have n7_ := Aside0.mk (hbox); have n8_ := Aside0.mk ((by rw [hg]; exact (below_size zb) : w.heap.size ≤ gb517)); have n9_ := n8_; have n10_ := Aside0.mk ((by rw [hg]; exact Nat.ne_of_lt (blk_lt (g := gb501) (o := .cells #[.int .i64 t497, .int .i64 t498] 32 (0, 0)) (by (with_reducible repeat (first | refine blk_drewN ?_ _ | refine blk_drew ?_ | refine blk_alloc ?_ _)); refine blk_far ?_ NB501_516.out _; (with_reducible repeat (first | refine blk_drewN ?_ _ | refine blk_drew ?_ | refine blk_alloc ?_ _)); refine blk_far ?_ NB501_516.out _; (with_reducible repeat (first | refine blk_drewN ?_ _ | refine blk_drew ?_ | refine blk_alloc ?_ _)); exact BK501.out)) : gb501 ≠ gb517)); have n11_ := Aside0.mk ((by rw [hg]; exact Nat.ne_of_gt (blk_lt (g := gb501) (o := .cells #[.int .i64 t497, .int .i64 t498] 32 (0, 0)) (by (with_reducible repeat (first | refine blk_drewN ?_ _ | refine blk_drew ?_ | refine blk_alloc ?_ _)); refine blk_far ?_ NB501_516.out _; (with_reducible repeat (first | refine blk_drewN ?_ _ | refine blk_drew ?_ | refine blk_alloc ?_ _)); refine blk_far ?_ NB501_516.out _; (with_reducible repeat (first | refine blk_drewN ?_ _ | refine blk_drew ?_ | refine blk_alloc ?_ _)); exact BK501.out)) : gb517 ≠ gb501)); have n12_ := Aside0.mk ((by rw [hg]; exact Nat.ne_of_lt (blk_lt (g := gb506) (o := .cells #[.int .i64 t502, .slice Ao18 t503.length co18] 28 (0, 0)) (by (with_reducible repeat (first | refine blk_drewN ?_ _ | refine blk_drew ?_ | refine blk_alloc ?_ _)); refine blk_far ?_ NB506_516.out _; (with_reducible repeat (first | refine blk_drewN ?_ _ | refine blk_drew ?_ | refine blk_alloc ?_ _)); refine blk_far ?_ NB506_516.out _; (with_reducible repeat (first | refine blk_drewN ?_ _ | refine blk_drew ?_ | refine blk_alloc ?_ _)); exact BK506.out)) : gb506 ≠ gb517)); have n13_ := Aside0.mk ((by rw [hg]; exact Nat.ne_of_gt (blk_lt (g := gb506) (o := .cells #[.int .i64 t502, .slice Ao18 t503.length co18] 28 (0, 0)) (by (with_reducible repeat (first | refine blk_drewN ?_ _ | refine blk_drew ?_ | refine blk_alloc ?_ _)); refine blk_far ?_ NB506_516.out _; (with_reducible repeat (first | refine blk_drewN ?_ _ | refine blk_drew ?_ | refine blk_alloc ?_ _)); refine blk_far ?_ NB506_516.out _; (with_reducible repeat (first | refine blk_drewN ?_ _ | refine blk_drew ?_ | refine blk_alloc ?_ _)); exact BK506.out)) : gb517 ≠ gb506)); have n14_ := Aside0.mk ((by rw [hg]; exact Nat.ne_of_lt (blk_lt (g := gb513) (o := .cells #[.int .i64 t511, .int .i64 t512] 34 (0, 0)) (by (with_reducible repeat (first | refine blk_drewN ?_ _ | refine blk_drew ?_ | refine blk_alloc ?_ _)); refine blk_far ?_ NB513_516.out _; (with_reducible repeat (first | refine blk_drewN ?_ _ | refine blk_drew ?_ | refine blk_alloc ?_ _)); refine blk_far ?_ NB513_516.out _; (with_reducible repeat (first | refine blk_drewN ?_ _ | refine blk_drew ?_ | refine blk_alloc ?_ _)); exact BK513.out)) : gb513 ≠ gb517)); have n15_ := Aside0.mk ((by rw [hg]; exact Nat.ne_of_gt (blk_lt (g := gb513) (o := .cells #[.int .i64 t511, .int .i64 t512] 34 (0, 0)) (by (with_reducible repeat (first | refine blk_drewN ?_ _ | refine blk_drew ?_ | refine blk_alloc ?_ _)); refine blk_far ?_ NB513_516.out _; (with_reducible repeat (first | refine blk_drewN ?_ _ | refine blk_drew ?_ | refine blk_alloc ?_ _)); refine blk_far ?_ NB513_516.out _; (with_reducible repeat (first | refine blk_drewN ?_ _ | refine blk_drew ?_ | refine blk_alloc ?_ _)); exact BK513.out)) : gb517 ≠ gb513)); have n16_ := Aside0.mk ((by rw [hg]; exact Nat.ne_of_lt (blk_lt (g := gb516) (o := .cells #[.int .i64 t514, .int .i64 t515] 34 (0, 0)) (by (with_reducible repeat (first | refine blk_drewN ?_ _ | refine blk_drew ?_ | refine blk_alloc ?_ _)); refine blk_put (cs := #[.int .i64 t514, .int .i64 0]) ?_ 1 _ rfl; (with_reducible repeat (first | refine blk_drewN ?_ _ | refine blk_drew ?_ | refine blk_alloc ?_ _)); refine blk_put (cs := #[.int .i64 0, .int .i64 0]) ?_ 0 _ rfl; (with_reducible repeat (first | refine blk_drewN ?_ _ | refine blk_drew ?_ | refine blk_alloc ?_ _)); exact BK516.out)) : gb516 ≠ gb517)); have n17_ := Aside0.mk ((by rw [hg]; exact Nat.ne_of_gt (blk_lt (g := gb516) (o := .cells #[.int .i64 t514, .int .i64 t515] 34 (0, 0)) (by (with_reducible repeat (first | refine blk_drewN ?_ _ | refine blk_drew ?_ | refine blk_alloc ?_ _)); refine blk_put (cs := #[.int .i64 t514, .int .i64 0]) ?_ 1 _ rfl; (with_reducible repeat (first | refine blk_drewN ?_ _ | refine blk_drew ?_ | refine blk_alloc ?_ _)); refine blk_put (cs := #[.int .i64 0, .int .i64 0]) ?_ 0 _ rfl; (with_reducible repeat (first | refine blk_drewN ?_ _ | refine blk_drew ?_ | refine blk_alloc ?_ _)); exact BK516.out)) : gb517 ≠ gb516)); clear HO496; clear HO505; clear BK501; clear BK506; clear BK513; clear BK516; clear HB; have HO496 := n0_; have HO505 := n1_; have BK501 := n2_; have BK506 := n3_; have BK513 := n4_; have BK516 := n5_; have HB := n6_; have BK517 := n7_; have GW517 := n8_; have GE517 := n9_; have NB501_517 := n10_; have NB517_501 := n11_; have NB506_517 := n12_; have NB517_506 := n13_; have NB513_517 := n14_; have NB517_513 := n15_; have NB516_517 := n16_; have NB517_516 := n17_; clear n0_ n1_ n2_ n3_ n4_ n5_ n6_ n7_ n8_ n9_ n10_ n11_ n12_ n13_ n14_ n15_ n16_ n17_; clear hb hbox hg; have hnb34 := NB517_501.out; have hnc34 := NB501_517.out; have hnb35 := NB517_506.out; have hnc35 := NB506_517.out; have hnb36 := NB517_513.out; have hnc36 := NB513_517.out; have hnb37 := NB517_516.out; have hnc37 := NB516_517.out; obtain ⟨hcz38_0, hcz38_1, hfz38_0, hfz38_1⟩ := Lv.blks2 BK517.out))
  (try simp only [Act.put, List.setIfInBounds_toArray, List.set_cons_zero, List.set_cons_succ])
  go_cut [99] (fun v99 wc => ∃ (kq : Nat) (x99_8 : Bool), v99 = .bool x99_8 ∧ Aside0 (laws_FnChains.j0 kq t494 t499 t500 x99_8 t497 t498 t502 t503 t497 (wrap64 ((Int.tmod t498 900) + 1)) = some true) ∧ Aside0 (kq ≤ k) ∧ Aside0 (Kd.R k51 51 wc w.heap.size (fun k_ => some k_ ≠ ((.slice Ao18 t503.length co18) : Value).ownBlock) (.slice Ao13 t494.length co13) t494) ∧ Aside0 (Kd.R k51 51 wc w.heap.size (fun k_ => some k_ ≠ ((.slice Ao13 t494.length co13) : Value).ownBlock) (.slice Ao18 t503.length co18) t503) ∧ Aside0 (wc.heap[gb501]? = some (.cells #[.int .i64 t497, .int .i64 t498] 32 (0, 0))) ∧ Aside0 (wc.heap[gb506]? = some (.cells #[.int .i64 t502, (.slice Ao18 t503.length co18)] 28 (0, 0))) ∧ Aside0 (wc.heap[gb513]? = some (.cells #[.int .i64 t511, .int .i64 t512] 34 (0, 0))) ∧ Aside0 (wc.heap[gb516]? = some (.cells #[.int .i64 t514, .int .i64 t515] 34 (0, 0))) ∧ Aside0 (wc.heap[gb517]? = some (.cells #[.int .i64 t497, .int .i64 (wrap64 ((Int.tmod t498 900) + 1))] 32 (0, 0))) ∧ Aside0 (Below w.heap.size w wc))
  case first =>
   have H := HC9.out
   clear HC9
   replace H := Option.bind_eq_some_iff.mp H
   obtain ⟨t518, A390, H⟩ := H
   replace H : (if t518 = 0 then (if (t499 != (t511 == 4)) = true then (laws_FnChains.j0 k t494 t499 t500 true t497 t498 t502 t503 t497 (wrap64 ((Int.tmod t498 900) + 1))) else (if t499 = true then (if t515 = t498 then ((impl_MayWrite.f k t503 t497 (wrap64 ((Int.tmod t498 900) + 1))).bind fun t519 => (if t519 = 9 then ((impl_SeenIn.f k t503 t497 (wrap64 ((Int.tmod t498 900) + 1))).bind fun bt520 => ((impl_SeenIn.f k t494 t497 (wrap64 ((Int.tmod t498 900) + 1))).bind fun bt522 => (laws_FnChains.j0 k t494 t499 t500 (!(bt520.1 == bt522.1) || (!(bt520.2 == bt522.2))) t497 t498 t502 t503 t497 (wrap64 ((Int.tmod t498 900) + 1))))) else (laws_FnChains.j0 k t494 t499 t500 true t497 t498 t502 t503 t497 (wrap64 ((Int.tmod t498 900) + 1))))) else (laws_FnChains.j0 k t494 t499 t500 true t497 t498 t502 t503 t497 (wrap64 ((Int.tmod t498 900) + 1)))) else (if t512 = t500 then (if t515 = t498 then ((impl_MayWrite.f k t503 t497 (wrap64 ((Int.tmod t498 900) + 1))).bind fun t524 => (if t524 = 9 then ((impl_SeenIn.f k t503 t497 (wrap64 ((Int.tmod t498 900) + 1))).bind fun bt525 => ((impl_SeenIn.f k t494 t497 (wrap64 ((Int.tmod t498 900) + 1))).bind fun bt527 => (laws_FnChains.j0 k t494 t499 t500 (!(bt525.1 == bt527.1) || (!(bt525.2 == bt527.2))) t497 t498 t502 t503 t497 (wrap64 ((Int.tmod t498 900) + 1))))) else (laws_FnChains.j0 k t494 t499 t500 true t497 t498 t502 t503 t497 (wrap64 ((Int.tmod t498 900) + 1))))) else (laws_FnChains.j0 k t494 t499 t500 true t497 t498 t502 t503 t497 (wrap64 ((Int.tmod t498 900) + 1)))) else (laws_FnChains.j0 k t494 t499 t500 true t497 t498 t502 t503 t497 (wrap64 ((Int.tmod t498 900) + 1)))))) else (laws_FnChains.j0 k t494 t499 t500 true t497 t498 t502 t503 t497 (wrap64 ((Int.tmod t498 900) + 1)))) = some true := H
   have A39 := Aside0.mk A390
   clear A390
   by_cases c40 : t518 = 0
   ·rw [if_pos c40] at H
    have c40b0 : (t518 == 0) = true := beq_iff_eq.mpr c40
    have c40b1 : (t518 != 0) = false := bne_eq_false_iff_eq.mpr c40
    clear c40
    (first | rw [c40b0] | (simp only [i64_w, i32_w]; rw [c40b0]) | skip)
    by_cases c41 : (t499 != (t511 == 4)) = true
    ·rw [if_pos c41] at H
     have c41b0 : (t499 != (t511 == 4)) = true := c41
     (try (have c41b1 : decide (t499 = (t511 == 4)) = false := by simpa using c41))
     (try (have c41b2 : (t499 == (t511 == 4)) = false := by simpa using c41))
     (try (have c41b3 : ¬ (t499 = (t511 == 4)) := by simpa using c41))
     clear c41
     exact absurd H (by cases k <;> simp [laws_FnChains.j0])
    rw [if_neg c41] at H
    have c41b0 : (t499 != (t511 == 4)) = false := by simpa using c41
    (try (have c41b1 : decide (t499 = (t511 == 4)) = true := by simpa using c41))
    (try (have c41b2 : (t499 == (t511 == 4)) = true := by simpa using c41))
    clear c41
    by_cases c45 : t499 = true
    ·subst c45
     have H1 : (if t515 = t498 then ((impl_MayWrite.f k t503 t497 (wrap64 ((Int.tmod t498 900) + 1))).bind fun t519 => (if t519 = 9 then ((impl_SeenIn.f k t503 t497 (wrap64 ((Int.tmod t498 900) + 1))).bind fun bt520 => ((impl_SeenIn.f k t494 t497 (wrap64 ((Int.tmod t498 900) + 1))).bind fun bt522 => (laws_FnChains.j0 k t494 true t500 (!(bt520.1 == bt522.1) || (!(bt520.2 == bt522.2))) t497 t498 t502 t503 t497 (wrap64 ((Int.tmod t498 900) + 1))))) else (laws_FnChains.j0 k t494 true t500 true t497 t498 t502 t503 t497 (wrap64 ((Int.tmod t498 900) + 1))))) else (laws_FnChains.j0 k t494 true t500 true t497 t498 t502 t503 t497 (wrap64 ((Int.tmod t498 900) + 1)))) = some true := by rw [if_pos rfl] at H; first | done | exact H
     clear H
     have H := H1
     clear H1
     by_cases c46 : t515 = t498
     ·rw [if_pos c46] at H
      have c46b0 : (t515 == t498) = true := beq_iff_eq.mpr c46
      have c46b1 : (t515 != t498) = false := bne_eq_false_iff_eq.mpr c46
      clear c46
      replace H := Option.bind_eq_some_iff.mp H
      obtain ⟨t519, A470, H⟩ := H
      replace H : (if t519 = 9 then ((impl_SeenIn.f k t503 t497 (wrap64 ((Int.tmod t498 900) + 1))).bind fun bt520 => ((impl_SeenIn.f k t494 t497 (wrap64 ((Int.tmod t498 900) + 1))).bind fun bt522 => (laws_FnChains.j0 k t494 true t500 (!(bt520.1 == bt522.1) || (!(bt520.2 == bt522.2))) t497 t498 t502 t503 t497 (wrap64 ((Int.tmod t498 900) + 1))))) else (laws_FnChains.j0 k t494 true t500 true t497 t498 t502 t503 t497 (wrap64 ((Int.tmod t498 900) + 1)))) = some true := H
      have A47 := Aside0.mk A470
      clear A470
      by_cases c48 : t519 = 9
      ·rw [if_pos c48] at H
       have c48b0 : (t519 == 9) = true := beq_iff_eq.mpr c48
       have c48b1 : (t519 != 9) = false := bne_eq_false_iff_eq.mpr c48
       clear c48
       replace H := Option.bind_eq_some_iff.mp H
       obtain ⟨⟨t520, t521⟩, A490, H⟩ := H
       replace H : ((impl_SeenIn.f k t494 t497 (wrap64 ((Int.tmod t498 900) + 1))).bind fun bt522 => (laws_FnChains.j0 k t494 true t500 (!(t520 == bt522.1) || (!(t521 == bt522.2))) t497 t498 t502 t503 t497 (wrap64 ((Int.tmod t498 900) + 1)))) = some true := H
       have A49 := Aside0.mk A490
       clear A490
       replace H := Option.bind_eq_some_iff.mp H
       obtain ⟨⟨t522, t523⟩, A500, H⟩ := H
       replace H : (laws_FnChains.j0 k t494 true t500 (!(t520 == t522) || (!(t521 == t523))) t497 t498 t502 t503 t497 (wrap64 ((Int.tmod t498 900) + 1))) = some true := H
       have A50 := Aside0.mk A500
       clear A500
       have H' := Aside0.mk H
       clear H
       try go_wp2
       have n0_ : Aside0 (Kd.R k51 51 ((w33.setCell ⟨gb517, 0, none⟩ (.int .i64 t497)).setCell ⟨gb517, 1, none⟩ (.int .i64 (wrap64 ((Int.tmod t498 900) + 1)))) w.heap.size (fun k_ => some k_ ≠ (.slice Ao18 t503.length co18 : Value).ownBlock) (.slice Ao13 t494.length co13) t494) := ⟨by (with_reducible repeat (first | apply Kd.R_alloc | apply Kd.R_drewN | apply Kd.R_drew)); exact Kd.R_mono (Kd.R_far (p := ⟨gb517, 1, none⟩) (Kd.R_far (p := ⟨gb517, 0, none⟩) (Kd.R_types HO496.out BK517.out (by decide)) (fun _ hk => hk.2) (.int .i64 t497)) (fun _ hk => hk.2) (.int .i64 (wrap64 ((Int.tmod t498 900) + 1)))) (fun _ hk => hk.1.2)⟩
       have n1_ : Aside0 (Kd.R k51 51 ((w33.setCell ⟨gb517, 0, none⟩ (.int .i64 t497)).setCell ⟨gb517, 1, none⟩ (.int .i64 (wrap64 ((Int.tmod t498 900) + 1)))) w.heap.size (fun k_ => some k_ ≠ (.slice Ao13 t494.length co13 : Value).ownBlock) (.slice Ao18 t503.length co18) t503) := ⟨by (with_reducible repeat (first | apply Kd.R_alloc | apply Kd.R_drewN | apply Kd.R_drew)); exact Kd.R_mono (Kd.R_far (p := ⟨gb517, 1, none⟩) (Kd.R_far (p := ⟨gb517, 0, none⟩) (Kd.R_types HO505.out BK517.out (by decide)) (fun _ hk => hk.2) (.int .i64 t497)) (fun _ hk => hk.2) (.int .i64 (wrap64 ((Int.tmod t498 900) + 1)))) (fun _ hk => hk.1.2)⟩
       have n2_ : Aside0 (((w33.setCell ⟨gb517, 0, none⟩ (.int .i64 t497)).setCell ⟨gb517, 1, none⟩ (.int .i64 (wrap64 ((Int.tmod t498 900) + 1)))).heap[gb501]? = some (.cells #[.int .i64 t497, .int .i64 t498] 32 (0, 0))) := ⟨by (with_reducible repeat (first | refine blk_drewN ?_ _ | refine blk_drew ?_ | refine blk_alloc ?_ _)); refine blk_far ?_ NB501_517.out _; (with_reducible repeat (first | refine blk_drewN ?_ _ | refine blk_drew ?_ | refine blk_alloc ?_ _)); refine blk_far ?_ NB501_517.out _; (with_reducible repeat (first | refine blk_drewN ?_ _ | refine blk_drew ?_ | refine blk_alloc ?_ _)); exact BK501.out⟩
       have n3_ : Aside0 (((w33.setCell ⟨gb517, 0, none⟩ (.int .i64 t497)).setCell ⟨gb517, 1, none⟩ (.int .i64 (wrap64 ((Int.tmod t498 900) + 1)))).heap[gb506]? = some (.cells #[.int .i64 t502, .slice Ao18 t503.length co18] 28 (0, 0))) := ⟨by (with_reducible repeat (first | refine blk_drewN ?_ _ | refine blk_drew ?_ | refine blk_alloc ?_ _)); refine blk_far ?_ NB506_517.out _; (with_reducible repeat (first | refine blk_drewN ?_ _ | refine blk_drew ?_ | refine blk_alloc ?_ _)); refine blk_far ?_ NB506_517.out _; (with_reducible repeat (first | refine blk_drewN ?_ _ | refine blk_drew ?_ | refine blk_alloc ?_ _)); exact BK506.out⟩
       have n4_ : Aside0 (((w33.setCell ⟨gb517, 0, none⟩ (.int .i64 t497)).setCell ⟨gb517, 1, none⟩ (.int .i64 (wrap64 ((Int.tmod t498 900) + 1)))).heap[gb513]? = some (.cells #[.int .i64 t511, .int .i64 t512] 34 (0, 0))) := ⟨by (with_reducible repeat (first | refine blk_drewN ?_ _ | refine blk_drew ?_ | refine blk_alloc ?_ _)); refine blk_far ?_ NB513_517.out _; (with_reducible repeat (first | refine blk_drewN ?_ _ | refine blk_drew ?_ | refine blk_alloc ?_ _)); refine blk_far ?_ NB513_517.out _; (with_reducible repeat (first | refine blk_drewN ?_ _ | refine blk_drew ?_ | refine blk_alloc ?_ _)); exact BK513.out⟩
       have n5_ : Aside0 (((w33.setCell ⟨gb517, 0, none⟩ (.int .i64 t497)).setCell ⟨gb517, 1, none⟩ (.int .i64 (wrap64 ((Int.tmod t498 900) + 1)))).heap[gb516]? = some (.cells #[.int .i64 t514, .int .i64 t515] 34 (0, 0))) := ⟨by (with_reducible repeat (first | refine blk_drewN ?_ _ | refine blk_drew ?_ | refine blk_alloc ?_ _)); refine blk_far ?_ NB516_517.out _; (with_reducible repeat (first | refine blk_drewN ?_ _ | refine blk_drew ?_ | refine blk_alloc ?_ _)); refine blk_far ?_ NB516_517.out _; (with_reducible repeat (first | refine blk_drewN ?_ _ | refine blk_drew ?_ | refine blk_alloc ?_ _)); exact BK516.out⟩
       have n6_ : Aside0 (((w33.setCell ⟨gb517, 0, none⟩ (.int .i64 t497)).setCell ⟨gb517, 1, none⟩ (.int .i64 (wrap64 ((Int.tmod t498 900) + 1)))).heap[gb517]? = some (.cells #[.int .i64 t497, .int .i64 (wrap64 ((Int.tmod t498 900) + 1))] 32 (0, 0))) := ⟨by (with_reducible repeat (first | refine blk_drewN ?_ _ | refine blk_drew ?_ | refine blk_alloc ?_ _)); refine blk_put (cs := #[.int .i64 t497, .int .i64 0]) ?_ 1 _ rfl; (with_reducible repeat (first | refine blk_drewN ?_ _ | refine blk_drew ?_ | refine blk_alloc ?_ _)); refine blk_put (cs := #[.int .i64 0, .int .i64 0]) ?_ 0 _ rfl; (with_reducible repeat (first | refine blk_drewN ?_ _ | refine blk_drew ?_ | refine blk_alloc ?_ _)); exact BK517.out⟩
       have n7_ : Aside0 (Below w.heap.size w ((w33.setCell ⟨gb517, 0, none⟩ (.int .i64 t497)).setCell ⟨gb517, 1, none⟩ (.int .i64 (wrap64 ((Int.tmod t498 900) + 1))))) := ⟨zb⟩
       (try clear HO496)
       (try clear HO505)
       (try clear BK501)
       (try clear BK506)
       (try clear BK513)
       (try clear BK516)
       (try clear BK517)
       (try clear HB)
       generalize ((w33.setCell ⟨gb517, 0, none⟩ (.int .i64 t497)).setCell ⟨gb517, 1, none⟩ (.int .i64 (wrap64 ((Int.tmod t498 900) + 1)))) = w51 at n0_ n1_ n2_ n3_ n4_ n5_ n6_ n7_ ⊢
       have HO496 := n0_
       have HO505 := n1_
       have BK501 := n2_
       have BK506 := n3_
       have BK513 := n4_
       have BK516 := n5_
       have BK517 := n6_
       have HB := n7_
       clear n0_ n1_ n2_ n3_ n4_ n5_ n6_ n7_
       have n0_ := Aside0.mk (Kd.R_drew HO496.out)
       have n1_ := Aside0.mk (Kd.R_drew HO505.out)
       have n2_ := Aside0.mk (blk_drew BK501.out)
       have n3_ := Aside0.mk (blk_drew BK506.out)
       have n4_ := Aside0.mk (blk_drew BK513.out)
       have n5_ := Aside0.mk (blk_drew BK516.out)
       have n6_ := Aside0.mk (blk_drew BK517.out)
       have n7_ := Aside0.mk (below_drew1 HB.out)
       clear HO496 HO505 BK501 BK506 BK513 BK516 BK517 HB
       have HO496 := n0_
       have HO505 := n1_
       have BK501 := n2_
       have BK506 := n3_
       have BK513 := n4_
       have BK516 := n5_
       have BK517 := n6_
       have HB := n7_
       clear n0_ n1_ n2_ n3_ n4_ n5_ n6_ n7_
       refine start_ (n := 45) (S := fun w' => w'.cell? ⟨gb506, 0, none⟩ = some (.int .i64 t502) ∧ w'.cell? ⟨gb506, 1, none⟩ = some (.slice Ao18 t503.length co18) ∧ w'.cell? ⟨gb513, 0, none⟩ = some (.int .i64 t511) ∧ w'.cell? ⟨gb513, 1, none⟩ = some (.int .i64 t512) ∧ w'.cell? ⟨gb516, 0, none⟩ = some (.int .i64 t514) ∧ w'.cell? ⟨gb516, 1, none⟩ = some (.int .i64 t515) ∧ w'.cell? ⟨gb501, 0, none⟩ = some (.int .i64 t497) ∧ w'.cell? ⟨gb501, 1, none⟩ = some (.int .i64 t498) ∧ w'.cell? ⟨gb517, 0, none⟩ = some (.int .i64 t497) ∧ w'.cell? ⟨gb517, 1, none⟩ = some (.int .i64 (wrap64 ((Int.tmod t498 900) + 1)))) (ds := []) #[false, false, false, false, false, false, false, false, false, false, false, false, false, false, false, false, false, false, false, false, false, false, false, false, false, false, false, false, false, false, false, false, false, false, false, false, false, false, false, false, false, false, false, false, false] (by kernel_rfl) rfl rfl ⟨(blk_cell BK506.out 0).trans rfl, (blk_cell BK506.out 1).trans rfl, (blk_cell BK513.out 0).trans rfl, (blk_cell BK513.out 1).trans rfl, (blk_cell BK516.out 0).trans rfl, (blk_cell BK516.out 1).trans rfl, (blk_cell BK501.out 0).trans rfl, (blk_cell BK501.out 1).trans rfl, (blk_cell BK517.out 0).trans rfl, (blk_cell BK517.out 1).trans rfl⟩ (fun hHeld => ?_); refine with_tabW laws_FnChains.tab10 laws_FnChains.bits10 (fun HT_ HW_ => ?_)
       generalize w51.drew = w52 at HO496 HO505 BK501 BK506 BK513 BK516 BK517 HB hHeld ⊢
       refine zp 0 55 ?_; refine zt 1 56 ?_
       refine one_ (i := 2) (N := some 57) #[true, true, true, false, false, false, false, false, false, false, false, false, false, false, false, false, false, false, false, false, false, false, false, false, false, false, false, false, false, false, false, false, false, false, false, false, false, false, false, false, false, false, false, false, false] rfl rfl (one_of HT_.out (by kernel_rfl)) (by decide) (fun K hK => ?_)
       refine goes_ Try.func9 (by kernel_rfl) rfl #[.slice Ao18 t503.length co18] (by rfl) rfl rfl zm ?_
       with_reducible refine (impl_ChainFault.calls k _ _ t503 t518 _ ?side1 ?side2 A39.out).mono ?_
       (case side1 => repeat (first | exact (Kd.R_reads' HO505.out).2.2 | (with_reducible first | refine Kd.C_alloc ?_ _ | refine Kd.C_drewN ?_ _ | refine Kd.C_drew ?_)))
       (case side2 => exact (Kd.R_reads' HO505.out).2.1)
       rintro e w53 ⟨rfl, hb⟩
       refine ⟨_, rfl, ?_⟩
       have n0_ := Aside0.mk (Kd.R_below (by (with_reducible repeat (first | apply Kd.R_alloc | apply Kd.R_drewN | apply Kd.R_drew)); exact HO496.out) hb)
       have n1_ := Aside0.mk (Kd.R_below (by (with_reducible repeat (first | apply Kd.R_alloc | apply Kd.R_drewN | apply Kd.R_drew)); exact HO505.out) hb)
       have n2_ := Aside0.mk (blk_below (g := gb501) (o := .cells #[.int .i64 t497, .int .i64 t498] 32 (0, 0)) zk hb)
       have n3_ := Aside0.mk (blk_below (g := gb506) (o := .cells #[.int .i64 t502, .slice Ao18 t503.length co18] 28 (0, 0)) zk hb)
       have n4_ := Aside0.mk (blk_below (g := gb513) (o := .cells #[.int .i64 t511, .int .i64 t512] 34 (0, 0)) zk hb)
       have n5_ := Aside0.mk (blk_below (g := gb516) (o := .cells #[.int .i64 t514, .int .i64 t515] 34 (0, 0)) zk hb)
       have n6_ := Aside0.mk (blk_below (g := gb517) (o := .cells #[.int .i64 t497, .int .i64 (wrap64 ((Int.tmod t498 900) + 1))] 32 (0, 0)) zk hb)
       have n7_ := Aside0.mk (below_step zb hb)
       clear HO496 HO505 BK501 BK506 BK513 BK516 BK517 HB
       have HO496 := n0_
       have HO505 := n1_
       have BK501 := n2_
       have BK506 := n3_
       have BK513 := n4_
       have BK516 := n5_
       have BK517 := n6_
       have HB := n7_
       clear n0_ n1_ n2_ n3_ n4_ n5_ n6_ n7_
       (try clear hb)
       (try clear hb2)
       (try clear hk)
       (try clear hi)
       refine hK.out _ _ ⟨(blk_cell BK506.out 0).trans rfl, (blk_cell BK506.out 1).trans rfl, (blk_cell BK513.out 0).trans rfl, (blk_cell BK513.out 1).trans rfl, (blk_cell BK516.out 0).trans rfl, (blk_cell BK516.out 1).trans rfl, (blk_cell BK501.out 0).trans rfl, (blk_cell BK501.out 1).trans rfl, (blk_cell BK517.out 0).trans rfl, (blk_cell BK517.out 1).trans rfl⟩ (fun hHeld => ?_)
       clear hK K
       refine norm_ (a' := ?_) ?_ ?_
       rotate_left
       ·show Act.put _ (some 57) _ = _
        simp only [Act.put, List.setIfInBounds_toArray, List.set_cons_zero, List.set_cons_succ, i64_w, i32_w]
        rfl
       refine zp 3 58 ?_; refine zp 4 59 ?_; refine zp 5 60 ?_; refine zp 6 61 ?_; refine zt 7 62 ?_; refine zp 8 63 ?_; refine zp 9 64 ?_; refine zp 10 65 ?_; refine zp 11 66 ?_; refine zp 12 67 ?_; refine zp 13 68 ?_; refine zp 14 69 ?_
       refine pure_ (i := 15) (N := some 70) (v := undef) (a' := ?_) #[true, true, true, true, true, true, true, true, true, true, true, true, true, true, true, true, false, false, false, false, false, false, false, false, false, false, false, false, false, false, false, false, false, false, false, false, false, false, false, false, false, false, false, false, false] rfl rfl (any_of HT_.out (by kernel_rfl)) (fun _ _ _ h => h) (Or.inr ⟨by rfl, rfl⟩) ?_ ?_
       rotate_left
       ·simp only [Act.put, List.setIfInBounds_toArray, List.set_cons_zero, List.set_cons_succ, i64_w, i32_w]
        rfl
       refine pure_ (i := 16) (N := some 71) (v := undef) (a' := ?_) #[true, true, true, true, true, true, true, true, true, true, true, true, true, true, true, true, true, false, false, false, false, false, false, false, false, false, false, false, false, false, false, false, false, false, false, false, false, false, false, false, false, false, false, false, false] rfl rfl (any_of HT_.out (by kernel_rfl)) (fun _ _ _ h => h) (Or.inr ⟨by rfl, rfl⟩) ?_ ?_
       rotate_left
       ·simp only [Act.put, List.setIfInBounds_toArray, List.set_cons_zero, List.set_cons_succ, i64_w, i32_w]
        rfl
       refine pure_ (i := 17) (N := some 72) (v := undef) (a' := ?_) #[true, true, true, true, true, true, true, true, true, true, true, true, true, true, true, true, true, true, false, false, false, false, false, false, false, false, false, false, false, false, false, false, false, false, false, false, false, false, false, false, false, false, false, false, false] rfl rfl (any_of HT_.out (by kernel_rfl)) (fun _ _ _ h => h) (Or.inr ⟨by rfl, rfl⟩) ?_ ?_
       rotate_left
       ·simp only [Act.put, List.setIfInBounds_toArray, List.set_cons_zero, List.set_cons_succ, i64_w, i32_w]
        rfl
       refine pure_ (i := 18) (N := some 73) (v := undef) (a' := ?_) #[true, true, true, true, true, true, true, true, true, true, true, true, true, true, true, true, true, true, true, false, false, false, false, false, false, false, false, false, false, false, false, false, false, false, false, false, false, false, false, false, false, false, false, false, false] rfl rfl (any_of HT_.out (by kernel_rfl)) (fun _ _ _ h => h) (Or.inr ⟨by rfl, rfl⟩) ?_ ?_
       rotate_left
       ·simp only [Act.put, List.setIfInBounds_toArray, List.set_cons_zero, List.set_cons_succ, i64_w, i32_w]
        rfl
       refine zp 19 74 ?_; refine zp 20 75 ?_; refine zp 21 76 ?_; refine zp 22 77 ?_; refine zp 24 79 ?_; refine zt 23 78 ?_; refine zt 25 80 ?_; refine zp 26 81 ?_; refine zp 27 82 ?_; refine zp 28 83 ?_; refine zp 29 84 ?_; refine zt 30 85 ?_; refine zt 31 86 ?_
       refine one_ (i := 32) (N := some 87) #[true, true, true, true, true, true, true, true, true, true, true, true, true, true, true, true, true, true, true, true, true, true, true, true, true, true, true, true, true, true, true, true, true, false, false, false, false, false, false, false, false, false, false, false, false] rfl rfl (one_of HT_.out (by kernel_rfl)) (by decide) (fun K hK => ?_)
       refine goes_ Try.func11 (by kernel_rfl) rfl #[.slice Ao18 t503.length co18, .agg #[.int .i64 t497, .int .i64 (wrap64 ((Int.tmod t498 900) + 1))]] (by rfl) rfl rfl zm ?_
       with_reducible refine (impl_MayWrite.calls k _ _ t503 t497 (wrap64 ((Int.tmod t498 900) + 1)) t519 _ ?side1 ?side2 A47.out).mono ?_
       (case side1 => repeat (first | exact (Kd.R_reads' HO505.out).2.2 | (with_reducible first | refine Kd.C_alloc ?_ _ | refine Kd.C_drewN ?_ _ | refine Kd.C_drew ?_)))
       (case side2 => exact (Kd.R_reads' HO505.out).2.1)
       rintro e w54 ⟨rfl, hb⟩
       refine ⟨_, rfl, ?_⟩
       have n0_ := Aside0.mk (Kd.R_below (by (with_reducible repeat (first | apply Kd.R_alloc | apply Kd.R_drewN | apply Kd.R_drew)); exact HO496.out) hb)
       have n1_ := Aside0.mk (Kd.R_below (by (with_reducible repeat (first | apply Kd.R_alloc | apply Kd.R_drewN | apply Kd.R_drew)); exact HO505.out) hb)
       have n2_ := Aside0.mk (blk_below (g := gb501) (o := .cells #[.int .i64 t497, .int .i64 t498] 32 (0, 0)) zk hb)
       have n3_ := Aside0.mk (blk_below (g := gb506) (o := .cells #[.int .i64 t502, .slice Ao18 t503.length co18] 28 (0, 0)) zk hb)
       have n4_ := Aside0.mk (blk_below (g := gb513) (o := .cells #[.int .i64 t511, .int .i64 t512] 34 (0, 0)) zk hb)
       have n5_ := Aside0.mk (blk_below (g := gb516) (o := .cells #[.int .i64 t514, .int .i64 t515] 34 (0, 0)) zk hb)
       have n6_ := Aside0.mk (blk_below (g := gb517) (o := .cells #[.int .i64 t497, .int .i64 (wrap64 ((Int.tmod t498 900) + 1))] 32 (0, 0)) zk hb)
       have n7_ := Aside0.mk (below_step zb hb)
       clear HO496 HO505 BK501 BK506 BK513 BK516 BK517 HB
       have HO496 := n0_
       have HO505 := n1_
       have BK501 := n2_
       have BK506 := n3_
       have BK513 := n4_
       have BK516 := n5_
       have BK517 := n6_
       have HB := n7_
       clear n0_ n1_ n2_ n3_ n4_ n5_ n6_ n7_
       (try clear hb)
       (try clear hb2)
       (try clear hk)
       (try clear hi)
       refine hK.out _ _ ⟨(blk_cell BK506.out 0).trans rfl, (blk_cell BK506.out 1).trans rfl, (blk_cell BK513.out 0).trans rfl, (blk_cell BK513.out 1).trans rfl, (blk_cell BK516.out 0).trans rfl, (blk_cell BK516.out 1).trans rfl, (blk_cell BK501.out 0).trans rfl, (blk_cell BK501.out 1).trans rfl, (blk_cell BK517.out 0).trans rfl, (blk_cell BK517.out 1).trans rfl⟩ (fun hHeld => ?_)
       clear hK K
       refine norm_ (a' := ?_) ?_ ?_
       rotate_left
       ·show Act.put _ (some 87) _ = _
        simp only [Act.put, List.setIfInBounds_toArray, List.set_cons_zero, List.set_cons_succ, i64_w, i32_w]
        rfl
       refine zp 33 88 ?_; refine zp 34 89 ?_; refine zp 35 90 ?_; refine zp 36 91 ?_; refine zp 40 95 ?_; refine zt 37 92 ?_; refine zt 38 93 ?_; refine zt 41 96 ?_
       refine one_ (i := 39) (N := some 94) #[true, true, true, true, true, true, true, true, true, true, true, true, true, true, true, true, true, true, true, true, true, true, true, true, true, true, true, true, true, true, true, true, true, true, true, true, true, true, true, true, true, true, false, false, false] rfl rfl (one_of HT_.out (by kernel_rfl)) (by decide) (fun K hK => ?_)
       refine goes_ Try.func10 (by kernel_rfl) rfl #[.slice Ao18 t503.length co18, .agg #[.int .i64 t497, .int .i64 (wrap64 ((Int.tmod t498 900) + 1))]] (by rfl) rfl rfl zm ?_
       with_reducible refine (impl_SeenIn.calls k _ _ t503 t497 (wrap64 ((Int.tmod t498 900) + 1)) t520 t521 _ ?side1 ?side2 A49.out).mono ?_
       (case side1 => repeat (first | exact (Kd.R_reads' HO505.out).2.2 | (with_reducible first | refine Kd.C_alloc ?_ _ | refine Kd.C_drewN ?_ _ | refine Kd.C_drew ?_)))
       (case side2 => exact (Kd.R_reads' HO505.out).2.1)
       rintro e w55 ⟨rfl, hb⟩
       refine ⟨_, rfl, ?_⟩
       have n0_ := Aside0.mk (Kd.R_below (by (with_reducible repeat (first | apply Kd.R_alloc | apply Kd.R_drewN | apply Kd.R_drew)); exact HO496.out) hb)
       have n1_ := Aside0.mk (Kd.R_below (by (with_reducible repeat (first | apply Kd.R_alloc | apply Kd.R_drewN | apply Kd.R_drew)); exact HO505.out) hb)
       have n2_ := Aside0.mk (blk_below (g := gb501) (o := .cells #[.int .i64 t497, .int .i64 t498] 32 (0, 0)) zk hb)
       have n3_ := Aside0.mk (blk_below (g := gb506) (o := .cells #[.int .i64 t502, .slice Ao18 t503.length co18] 28 (0, 0)) zk hb)
       have n4_ := Aside0.mk (blk_below (g := gb513) (o := .cells #[.int .i64 t511, .int .i64 t512] 34 (0, 0)) zk hb)
       have n5_ := Aside0.mk (blk_below (g := gb516) (o := .cells #[.int .i64 t514, .int .i64 t515] 34 (0, 0)) zk hb)
       have n6_ := Aside0.mk (blk_below (g := gb517) (o := .cells #[.int .i64 t497, .int .i64 (wrap64 ((Int.tmod t498 900) + 1))] 32 (0, 0)) zk hb)
       have n7_ := Aside0.mk (below_step zb hb)
       clear HO496 HO505 BK501 BK506 BK513 BK516 BK517 HB
       have HO496 := n0_
       have HO505 := n1_
       have BK501 := n2_
       have BK506 := n3_
       have BK513 := n4_
       have BK516 := n5_
       have BK517 := n6_
       have HB := n7_
       clear n0_ n1_ n2_ n3_ n4_ n5_ n6_ n7_
       (try clear hb)
       (try clear hb2)
       (try clear hk)
       (try clear hi)
       refine hK.out _ _ ⟨(blk_cell BK506.out 0).trans rfl, (blk_cell BK506.out 1).trans rfl, (blk_cell BK513.out 0).trans rfl, (blk_cell BK513.out 1).trans rfl, (blk_cell BK516.out 0).trans rfl, (blk_cell BK516.out 1).trans rfl, (blk_cell BK501.out 0).trans rfl, (blk_cell BK501.out 1).trans rfl, (blk_cell BK517.out 0).trans rfl, (blk_cell BK517.out 1).trans rfl⟩ (fun hHeld => ?_)
       clear hK K
       refine norm_ (a' := ?_) ?_ ?_
       rotate_left
       ·show Act.put _ (some 94) _ = _
        simp only [Act.put, List.setIfInBounds_toArray, List.set_cons_zero, List.set_cons_succ, i64_w, i32_w]
        rfl
       refine one_ (i := 42) (N := some 97) #[true, true, true, true, true, true, true, true, true, true, true, true, true, true, true, true, true, true, true, true, true, true, true, true, true, true, true, true, true, true, true, true, true, true, true, true, true, true, true, true, true, true, true, false, false] rfl rfl (one_of HT_.out (by kernel_rfl)) (by decide) (fun K hK => ?_)
       refine goes_ Try.func10 (by kernel_rfl) rfl #[.slice Ao13 t494.length co13, .agg #[.int .i64 t497, .int .i64 (wrap64 ((Int.tmod t498 900) + 1))]] (by rfl) rfl rfl zm ?_
       with_reducible refine (impl_SeenIn.calls k _ _ t494 t497 (wrap64 ((Int.tmod t498 900) + 1)) t522 t523 _ ?side1 ?side2 A50.out).mono ?_
       (case side1 => repeat (first | exact (Kd.R_reads' HO496.out).2.2 | (with_reducible first | refine Kd.C_alloc ?_ _ | refine Kd.C_drewN ?_ _ | refine Kd.C_drew ?_)))
       (case side2 => exact (Kd.R_reads' HO496.out).2.1)
       rintro e w56 ⟨rfl, hb⟩
       refine ⟨_, rfl, ?_⟩
       have n0_ := Aside0.mk (Kd.R_below (by (with_reducible repeat (first | apply Kd.R_alloc | apply Kd.R_drewN | apply Kd.R_drew)); exact HO496.out) hb)
       have n1_ := Aside0.mk (Kd.R_below (by (with_reducible repeat (first | apply Kd.R_alloc | apply Kd.R_drewN | apply Kd.R_drew)); exact HO505.out) hb)
       have n2_ := Aside0.mk (blk_below (g := gb501) (o := .cells #[.int .i64 t497, .int .i64 t498] 32 (0, 0)) zk hb)
       have n3_ := Aside0.mk (blk_below (g := gb506) (o := .cells #[.int .i64 t502, .slice Ao18 t503.length co18] 28 (0, 0)) zk hb)
       have n4_ := Aside0.mk (blk_below (g := gb513) (o := .cells #[.int .i64 t511, .int .i64 t512] 34 (0, 0)) zk hb)
       have n5_ := Aside0.mk (blk_below (g := gb516) (o := .cells #[.int .i64 t514, .int .i64 t515] 34 (0, 0)) zk hb)
       have n6_ := Aside0.mk (blk_below (g := gb517) (o := .cells #[.int .i64 t497, .int .i64 (wrap64 ((Int.tmod t498 900) + 1))] 32 (0, 0)) zk hb)
       have n7_ := Aside0.mk (below_step zb hb)
       clear HO496 HO505 BK501 BK506 BK513 BK516 BK517 HB
       have HO496 := n0_
       have HO505 := n1_
       have BK501 := n2_
       have BK506 := n3_
       have BK513 := n4_
       have BK516 := n5_
       have BK517 := n6_
       have HB := n7_
       clear n0_ n1_ n2_ n3_ n4_ n5_ n6_ n7_
       (try clear hb)
       (try clear hb2)
       (try clear hk)
       (try clear hi)
       refine hK.out _ _ ⟨(blk_cell BK506.out 0).trans rfl, (blk_cell BK506.out 1).trans rfl, (blk_cell BK513.out 0).trans rfl, (blk_cell BK513.out 1).trans rfl, (blk_cell BK516.out 0).trans rfl, (blk_cell BK516.out 1).trans rfl, (blk_cell BK501.out 0).trans rfl, (blk_cell BK501.out 1).trans rfl, (blk_cell BK517.out 0).trans rfl, (blk_cell BK517.out 1).trans rfl⟩ (fun hHeld => ?_)
       clear hK K
       refine norm_ (a' := ?_) ?_ ?_
       rotate_left
       ·show Act.put _ (some 97) _ = _
        simp only [Act.put, List.setIfInBounds_toArray, List.set_cons_zero, List.set_cons_succ, i64_w, i32_w]
        rfl
       refine zp 43 98 ?_; refine zp 44 99 ?_
       refine done_ (done_of HT_.out (by kernel_rfl)) ?_
       try go_wp2
       go_meet
       case rel => exact ⟨_, ((!(t520 == t522) || (!(t521 == t523)))), zs, H', ⟨by first | omega | exact Nat.le_refl _⟩, ⟨by (with_reducible repeat (first | apply Kd.R_alloc | apply Kd.R_drewN | apply Kd.R_drew)); exact HO496.out⟩, ⟨by (with_reducible repeat (first | apply Kd.R_alloc | apply Kd.R_drewN | apply Kd.R_drew)); exact HO505.out⟩, ⟨by (with_reducible repeat (first | refine blk_drewN ?_ _ | refine blk_drew ?_ | refine blk_alloc ?_ _)); exact BK501.out⟩, ⟨by (with_reducible repeat (first | refine blk_drewN ?_ _ | refine blk_drew ?_ | refine blk_alloc ?_ _)); exact BK506.out⟩, ⟨by (with_reducible repeat (first | refine blk_drewN ?_ _ | refine blk_drew ?_ | refine blk_alloc ?_ _)); exact BK513.out⟩, ⟨by (with_reducible repeat (first | refine blk_drewN ?_ _ | refine blk_drew ?_ | refine blk_alloc ?_ _)); exact BK516.out⟩, ⟨by (with_reducible repeat (first | refine blk_drewN ?_ _ | refine blk_drew ?_ | refine blk_alloc ?_ _)); exact BK517.out⟩, ⟨zb⟩⟩
      rw [if_neg c48] at H
      have c48b0 : (t519 == 9) = false := beq_eq_false_iff_ne.mpr c48
      have c48b1 : (t519 != 9) = true := bne_iff_ne.mpr c48
      exact absurd H (by cases k <;> simp [laws_FnChains.j0])
     rw [if_neg c46] at H
     have c46b0 : (t515 == t498) = false := beq_eq_false_iff_ne.mpr c46
     have c46b1 : (t515 != t498) = true := bne_iff_ne.mpr c46
     exact absurd H (by cases k <;> simp [laws_FnChains.j0])
    replace c45 := Bool.eq_false_iff.mpr c45
    subst c45
    have H1 : (if t512 = t500 then (if t515 = t498 then ((impl_MayWrite.f k t503 t497 (wrap64 ((Int.tmod t498 900) + 1))).bind fun t524 => (if t524 = 9 then ((impl_SeenIn.f k t503 t497 (wrap64 ((Int.tmod t498 900) + 1))).bind fun bt525 => ((impl_SeenIn.f k t494 t497 (wrap64 ((Int.tmod t498 900) + 1))).bind fun bt527 => (laws_FnChains.j0 k t494 false t500 (!(bt525.1 == bt527.1) || (!(bt525.2 == bt527.2))) t497 t498 t502 t503 t497 (wrap64 ((Int.tmod t498 900) + 1))))) else (laws_FnChains.j0 k t494 false t500 true t497 t498 t502 t503 t497 (wrap64 ((Int.tmod t498 900) + 1))))) else (laws_FnChains.j0 k t494 false t500 true t497 t498 t502 t503 t497 (wrap64 ((Int.tmod t498 900) + 1)))) else (laws_FnChains.j0 k t494 false t500 true t497 t498 t502 t503 t497 (wrap64 ((Int.tmod t498 900) + 1)))) = some true := by rw [if_neg (show ¬ (false = true) by decide)] at H; first | done | exact H
    clear H
    have H := H1
    clear H1
    by_cases c64 : t512 = t500
    ·rw [if_pos c64] at H
     have c64b0 : (t512 == t500) = true := beq_iff_eq.mpr c64
     have c64b1 : (t512 != t500) = false := bne_eq_false_iff_eq.mpr c64
     clear c64
     by_cases c65 : t515 = t498
     ·rw [if_pos c65] at H
      have c65b0 : (t515 == t498) = true := beq_iff_eq.mpr c65
      have c65b1 : (t515 != t498) = false := bne_eq_false_iff_eq.mpr c65
      clear c65
      replace H := Option.bind_eq_some_iff.mp H
      obtain ⟨t524, A660, H⟩ := H
      replace H : (if t524 = 9 then ((impl_SeenIn.f k t503 t497 (wrap64 ((Int.tmod t498 900) + 1))).bind fun bt525 => ((impl_SeenIn.f k t494 t497 (wrap64 ((Int.tmod t498 900) + 1))).bind fun bt527 => (laws_FnChains.j0 k t494 false t500 (!(bt525.1 == bt527.1) || (!(bt525.2 == bt527.2))) t497 t498 t502 t503 t497 (wrap64 ((Int.tmod t498 900) + 1))))) else (laws_FnChains.j0 k t494 false t500 true t497 t498 t502 t503 t497 (wrap64 ((Int.tmod t498 900) + 1)))) = some true := H
      have A66 := Aside0.mk A660
      clear A660
      by_cases c67 : t524 = 9
      ·rw [if_pos c67] at H
       have c67b0 : (t524 == 9) = true := beq_iff_eq.mpr c67
       have c67b1 : (t524 != 9) = false := bne_eq_false_iff_eq.mpr c67
       clear c67
       replace H := Option.bind_eq_some_iff.mp H
       obtain ⟨⟨t525, t526⟩, A680, H⟩ := H
       replace H : ((impl_SeenIn.f k t494 t497 (wrap64 ((Int.tmod t498 900) + 1))).bind fun bt527 => (laws_FnChains.j0 k t494 false t500 (!(t525 == bt527.1) || (!(t526 == bt527.2))) t497 t498 t502 t503 t497 (wrap64 ((Int.tmod t498 900) + 1)))) = some true := H
       have A68 := Aside0.mk A680
       clear A680
       replace H := Option.bind_eq_some_iff.mp H
       obtain ⟨⟨t527, t528⟩, A690, H⟩ := H
       replace H : (laws_FnChains.j0 k t494 false t500 (!(t525 == t527) || (!(t526 == t528))) t497 t498 t502 t503 t497 (wrap64 ((Int.tmod t498 900) + 1))) = some true := H
       have A69 := Aside0.mk A690
       clear A690
       have H' := Aside0.mk H
       clear H
       try go_wp2
       have n0_ : Aside0 (Kd.R k51 51 ((w33.setCell ⟨gb517, 0, none⟩ (.int .i64 t497)).setCell ⟨gb517, 1, none⟩ (.int .i64 (wrap64 ((Int.tmod t498 900) + 1)))) w.heap.size (fun k_ => some k_ ≠ (.slice Ao18 t503.length co18 : Value).ownBlock) (.slice Ao13 t494.length co13) t494) := ⟨by (with_reducible repeat (first | apply Kd.R_alloc | apply Kd.R_drewN | apply Kd.R_drew)); exact Kd.R_mono (Kd.R_far (p := ⟨gb517, 1, none⟩) (Kd.R_far (p := ⟨gb517, 0, none⟩) (Kd.R_types HO496.out BK517.out (by decide)) (fun _ hk => hk.2) (.int .i64 t497)) (fun _ hk => hk.2) (.int .i64 (wrap64 ((Int.tmod t498 900) + 1)))) (fun _ hk => hk.1.2)⟩
       have n1_ : Aside0 (Kd.R k51 51 ((w33.setCell ⟨gb517, 0, none⟩ (.int .i64 t497)).setCell ⟨gb517, 1, none⟩ (.int .i64 (wrap64 ((Int.tmod t498 900) + 1)))) w.heap.size (fun k_ => some k_ ≠ (.slice Ao13 t494.length co13 : Value).ownBlock) (.slice Ao18 t503.length co18) t503) := ⟨by (with_reducible repeat (first | apply Kd.R_alloc | apply Kd.R_drewN | apply Kd.R_drew)); exact Kd.R_mono (Kd.R_far (p := ⟨gb517, 1, none⟩) (Kd.R_far (p := ⟨gb517, 0, none⟩) (Kd.R_types HO505.out BK517.out (by decide)) (fun _ hk => hk.2) (.int .i64 t497)) (fun _ hk => hk.2) (.int .i64 (wrap64 ((Int.tmod t498 900) + 1)))) (fun _ hk => hk.1.2)⟩
       have n2_ : Aside0 (((w33.setCell ⟨gb517, 0, none⟩ (.int .i64 t497)).setCell ⟨gb517, 1, none⟩ (.int .i64 (wrap64 ((Int.tmod t498 900) + 1)))).heap[gb501]? = some (.cells #[.int .i64 t497, .int .i64 t498] 32 (0, 0))) := ⟨by (with_reducible repeat (first | refine blk_drewN ?_ _ | refine blk_drew ?_ | refine blk_alloc ?_ _)); refine blk_far ?_ NB501_517.out _; (with_reducible repeat (first | refine blk_drewN ?_ _ | refine blk_drew ?_ | refine blk_alloc ?_ _)); refine blk_far ?_ NB501_517.out _; (with_reducible repeat (first | refine blk_drewN ?_ _ | refine blk_drew ?_ | refine blk_alloc ?_ _)); exact BK501.out⟩
       have n3_ : Aside0 (((w33.setCell ⟨gb517, 0, none⟩ (.int .i64 t497)).setCell ⟨gb517, 1, none⟩ (.int .i64 (wrap64 ((Int.tmod t498 900) + 1)))).heap[gb506]? = some (.cells #[.int .i64 t502, .slice Ao18 t503.length co18] 28 (0, 0))) := ⟨by (with_reducible repeat (first | refine blk_drewN ?_ _ | refine blk_drew ?_ | refine blk_alloc ?_ _)); refine blk_far ?_ NB506_517.out _; (with_reducible repeat (first | refine blk_drewN ?_ _ | refine blk_drew ?_ | refine blk_alloc ?_ _)); refine blk_far ?_ NB506_517.out _; (with_reducible repeat (first | refine blk_drewN ?_ _ | refine blk_drew ?_ | refine blk_alloc ?_ _)); exact BK506.out⟩
       have n4_ : Aside0 (((w33.setCell ⟨gb517, 0, none⟩ (.int .i64 t497)).setCell ⟨gb517, 1, none⟩ (.int .i64 (wrap64 ((Int.tmod t498 900) + 1)))).heap[gb513]? = some (.cells #[.int .i64 t511, .int .i64 t512] 34 (0, 0))) := ⟨by (with_reducible repeat (first | refine blk_drewN ?_ _ | refine blk_drew ?_ | refine blk_alloc ?_ _)); refine blk_far ?_ NB513_517.out _; (with_reducible repeat (first | refine blk_drewN ?_ _ | refine blk_drew ?_ | refine blk_alloc ?_ _)); refine blk_far ?_ NB513_517.out _; (with_reducible repeat (first | refine blk_drewN ?_ _ | refine blk_drew ?_ | refine blk_alloc ?_ _)); exact BK513.out⟩
       have n5_ : Aside0 (((w33.setCell ⟨gb517, 0, none⟩ (.int .i64 t497)).setCell ⟨gb517, 1, none⟩ (.int .i64 (wrap64 ((Int.tmod t498 900) + 1)))).heap[gb516]? = some (.cells #[.int .i64 t514, .int .i64 t515] 34 (0, 0))) := ⟨by (with_reducible repeat (first | refine blk_drewN ?_ _ | refine blk_drew ?_ | refine blk_alloc ?_ _)); refine blk_far ?_ NB516_517.out _; (with_reducible repeat (first | refine blk_drewN ?_ _ | refine blk_drew ?_ | refine blk_alloc ?_ _)); refine blk_far ?_ NB516_517.out _; (with_reducible repeat (first | refine blk_drewN ?_ _ | refine blk_drew ?_ | refine blk_alloc ?_ _)); exact BK516.out⟩
       have n6_ : Aside0 (((w33.setCell ⟨gb517, 0, none⟩ (.int .i64 t497)).setCell ⟨gb517, 1, none⟩ (.int .i64 (wrap64 ((Int.tmod t498 900) + 1)))).heap[gb517]? = some (.cells #[.int .i64 t497, .int .i64 (wrap64 ((Int.tmod t498 900) + 1))] 32 (0, 0))) := ⟨by (with_reducible repeat (first | refine blk_drewN ?_ _ | refine blk_drew ?_ | refine blk_alloc ?_ _)); refine blk_put (cs := #[.int .i64 t497, .int .i64 0]) ?_ 1 _ rfl; (with_reducible repeat (first | refine blk_drewN ?_ _ | refine blk_drew ?_ | refine blk_alloc ?_ _)); refine blk_put (cs := #[.int .i64 0, .int .i64 0]) ?_ 0 _ rfl; (with_reducible repeat (first | refine blk_drewN ?_ _ | refine blk_drew ?_ | refine blk_alloc ?_ _)); exact BK517.out⟩
       have n7_ : Aside0 (Below w.heap.size w ((w33.setCell ⟨gb517, 0, none⟩ (.int .i64 t497)).setCell ⟨gb517, 1, none⟩ (.int .i64 (wrap64 ((Int.tmod t498 900) + 1))))) := ⟨zb⟩
       (try clear HO496)
       (try clear HO505)
       (try clear BK501)
       (try clear BK506)
       (try clear BK513)
       (try clear BK516)
       (try clear BK517)
       (try clear HB)
       generalize ((w33.setCell ⟨gb517, 0, none⟩ (.int .i64 t497)).setCell ⟨gb517, 1, none⟩ (.int .i64 (wrap64 ((Int.tmod t498 900) + 1)))) = w70 at n0_ n1_ n2_ n3_ n4_ n5_ n6_ n7_ ⊢
       have HO496 := n0_
       have HO505 := n1_
       have BK501 := n2_
       have BK506 := n3_
       have BK513 := n4_
       have BK516 := n5_
       have BK517 := n6_
       have HB := n7_
       clear n0_ n1_ n2_ n3_ n4_ n5_ n6_ n7_
       have n0_ := Aside0.mk (Kd.R_drew HO496.out)
       have n1_ := Aside0.mk (Kd.R_drew HO505.out)
       have n2_ := Aside0.mk (blk_drew BK501.out)
       have n3_ := Aside0.mk (blk_drew BK506.out)
       have n4_ := Aside0.mk (blk_drew BK513.out)
       have n5_ := Aside0.mk (blk_drew BK516.out)
       have n6_ := Aside0.mk (blk_drew BK517.out)
       have n7_ := Aside0.mk (below_drew1 HB.out)
       clear HO496 HO505 BK501 BK506 BK513 BK516 BK517 HB
       have HO496 := n0_
       have HO505 := n1_
       have BK501 := n2_
       have BK506 := n3_
       have BK513 := n4_
       have BK516 := n5_
       have BK517 := n6_
       have HB := n7_
       clear n0_ n1_ n2_ n3_ n4_ n5_ n6_ n7_
       refine start_ (n := 45) (S := fun w' => w'.cell? ⟨gb506, 0, none⟩ = some (.int .i64 t502) ∧ w'.cell? ⟨gb506, 1, none⟩ = some (.slice Ao18 t503.length co18) ∧ w'.cell? ⟨gb513, 0, none⟩ = some (.int .i64 t511) ∧ w'.cell? ⟨gb513, 1, none⟩ = some (.int .i64 t512) ∧ w'.cell? ⟨gb516, 0, none⟩ = some (.int .i64 t514) ∧ w'.cell? ⟨gb516, 1, none⟩ = some (.int .i64 t515) ∧ w'.cell? ⟨gb501, 0, none⟩ = some (.int .i64 t497) ∧ w'.cell? ⟨gb501, 1, none⟩ = some (.int .i64 t498) ∧ w'.cell? ⟨gb517, 0, none⟩ = some (.int .i64 t497) ∧ w'.cell? ⟨gb517, 1, none⟩ = some (.int .i64 (wrap64 ((Int.tmod t498 900) + 1)))) (ds := []) #[false, false, false, false, false, false, false, false, false, false, false, false, false, false, false, false, false, false, false, false, false, false, false, false, false, false, false, false, false, false, false, false, false, false, false, false, false, false, false, false, false, false, false, false, false] (by kernel_rfl) rfl rfl ⟨(blk_cell BK506.out 0).trans rfl, (blk_cell BK506.out 1).trans rfl, (blk_cell BK513.out 0).trans rfl, (blk_cell BK513.out 1).trans rfl, (blk_cell BK516.out 0).trans rfl, (blk_cell BK516.out 1).trans rfl, (blk_cell BK501.out 0).trans rfl, (blk_cell BK501.out 1).trans rfl, (blk_cell BK517.out 0).trans rfl, (blk_cell BK517.out 1).trans rfl⟩ (fun hHeld => ?_); refine with_tabW laws_FnChains.tab10 laws_FnChains.bits10 (fun HT_ HW_ => ?_)
       generalize w70.drew = w71 at HO496 HO505 BK501 BK506 BK513 BK516 BK517 HB hHeld ⊢
       refine zp 0 55 ?_; refine zt 1 56 ?_
       refine one_ (i := 2) (N := some 57) #[true, true, true, false, false, false, false, false, false, false, false, false, false, false, false, false, false, false, false, false, false, false, false, false, false, false, false, false, false, false, false, false, false, false, false, false, false, false, false, false, false, false, false, false, false] rfl rfl (one_of HT_.out (by kernel_rfl)) (by decide) (fun K hK => ?_)
       refine goes_ Try.func9 (by kernel_rfl) rfl #[.slice Ao18 t503.length co18] (by rfl) rfl rfl zm ?_
       with_reducible refine (impl_ChainFault.calls k _ _ t503 t518 _ ?side1 ?side2 A39.out).mono ?_
       (case side1 => repeat (first | exact (Kd.R_reads' HO505.out).2.2 | (with_reducible first | refine Kd.C_alloc ?_ _ | refine Kd.C_drewN ?_ _ | refine Kd.C_drew ?_)))
       (case side2 => exact (Kd.R_reads' HO505.out).2.1)
       rintro e w72 ⟨rfl, hb⟩
       refine ⟨_, rfl, ?_⟩
       have n0_ := Aside0.mk (Kd.R_below (by (with_reducible repeat (first | apply Kd.R_alloc | apply Kd.R_drewN | apply Kd.R_drew)); exact HO496.out) hb)
       have n1_ := Aside0.mk (Kd.R_below (by (with_reducible repeat (first | apply Kd.R_alloc | apply Kd.R_drewN | apply Kd.R_drew)); exact HO505.out) hb)
       have n2_ := Aside0.mk (blk_below (g := gb501) (o := .cells #[.int .i64 t497, .int .i64 t498] 32 (0, 0)) zk hb)
       have n3_ := Aside0.mk (blk_below (g := gb506) (o := .cells #[.int .i64 t502, .slice Ao18 t503.length co18] 28 (0, 0)) zk hb)
       have n4_ := Aside0.mk (blk_below (g := gb513) (o := .cells #[.int .i64 t511, .int .i64 t512] 34 (0, 0)) zk hb)
       have n5_ := Aside0.mk (blk_below (g := gb516) (o := .cells #[.int .i64 t514, .int .i64 t515] 34 (0, 0)) zk hb)
       have n6_ := Aside0.mk (blk_below (g := gb517) (o := .cells #[.int .i64 t497, .int .i64 (wrap64 ((Int.tmod t498 900) + 1))] 32 (0, 0)) zk hb)
       have n7_ := Aside0.mk (below_step zb hb)
       clear HO496 HO505 BK501 BK506 BK513 BK516 BK517 HB
       have HO496 := n0_
       have HO505 := n1_
       have BK501 := n2_
       have BK506 := n3_
       have BK513 := n4_
       have BK516 := n5_
       have BK517 := n6_
       have HB := n7_
       clear n0_ n1_ n2_ n3_ n4_ n5_ n6_ n7_
       (try clear hb)
       (try clear hb2)
       (try clear hk)
       (try clear hi)
       refine hK.out _ _ ⟨(blk_cell BK506.out 0).trans rfl, (blk_cell BK506.out 1).trans rfl, (blk_cell BK513.out 0).trans rfl, (blk_cell BK513.out 1).trans rfl, (blk_cell BK516.out 0).trans rfl, (blk_cell BK516.out 1).trans rfl, (blk_cell BK501.out 0).trans rfl, (blk_cell BK501.out 1).trans rfl, (blk_cell BK517.out 0).trans rfl, (blk_cell BK517.out 1).trans rfl⟩ (fun hHeld => ?_)
       clear hK K
       refine norm_ (a' := ?_) ?_ ?_
       rotate_left
       ·show Act.put _ (some 57) _ = _
        simp only [Act.put, List.setIfInBounds_toArray, List.set_cons_zero, List.set_cons_succ, i64_w, i32_w]
        rfl
       refine zp 3 58 ?_; refine zp 4 59 ?_; refine zp 5 60 ?_; refine zp 6 61 ?_; refine zt 7 62 ?_; refine zp 8 63 ?_; refine zp 9 64 ?_; refine zp 10 65 ?_; refine zp 11 66 ?_; refine zp 12 67 ?_; refine zp 13 68 ?_; refine zp 14 69 ?_; refine zp 15 70 ?_; refine zp 17 72 ?_; refine zt 16 71 ?_; refine zp 18 73 ?_; refine zp 19 74 ?_; refine zp 20 75 ?_; refine zp 21 76 ?_; refine zp 22 77 ?_; refine zp 24 79 ?_; refine zt 23 78 ?_; refine zt 25 80 ?_; refine zp 26 81 ?_; refine zp 27 82 ?_; refine zp 28 83 ?_; refine zp 29 84 ?_; refine zt 30 85 ?_; refine zt 31 86 ?_
       refine one_ (i := 32) (N := some 87) #[true, true, true, true, true, true, true, true, true, true, true, true, true, true, true, true, true, true, true, true, true, true, true, true, true, true, true, true, true, true, true, true, true, false, false, false, false, false, false, false, false, false, false, false, false] rfl rfl (one_of HT_.out (by kernel_rfl)) (by decide) (fun K hK => ?_)
       refine goes_ Try.func11 (by kernel_rfl) rfl #[.slice Ao18 t503.length co18, .agg #[.int .i64 t497, .int .i64 (wrap64 ((Int.tmod t498 900) + 1))]] (by rfl) rfl rfl zm ?_
       with_reducible refine (impl_MayWrite.calls k _ _ t503 t497 (wrap64 ((Int.tmod t498 900) + 1)) t524 _ ?side1 ?side2 A66.out).mono ?_
       (case side1 => repeat (first | exact (Kd.R_reads' HO505.out).2.2 | (with_reducible first | refine Kd.C_alloc ?_ _ | refine Kd.C_drewN ?_ _ | refine Kd.C_drew ?_)))
       (case side2 => exact (Kd.R_reads' HO505.out).2.1)
       rintro e w73 ⟨rfl, hb⟩
       refine ⟨_, rfl, ?_⟩
       have n0_ := Aside0.mk (Kd.R_below (by (with_reducible repeat (first | apply Kd.R_alloc | apply Kd.R_drewN | apply Kd.R_drew)); exact HO496.out) hb)
       have n1_ := Aside0.mk (Kd.R_below (by (with_reducible repeat (first | apply Kd.R_alloc | apply Kd.R_drewN | apply Kd.R_drew)); exact HO505.out) hb)
       have n2_ := Aside0.mk (blk_below (g := gb501) (o := .cells #[.int .i64 t497, .int .i64 t498] 32 (0, 0)) zk hb)
       have n3_ := Aside0.mk (blk_below (g := gb506) (o := .cells #[.int .i64 t502, .slice Ao18 t503.length co18] 28 (0, 0)) zk hb)
       have n4_ := Aside0.mk (blk_below (g := gb513) (o := .cells #[.int .i64 t511, .int .i64 t512] 34 (0, 0)) zk hb)
       have n5_ := Aside0.mk (blk_below (g := gb516) (o := .cells #[.int .i64 t514, .int .i64 t515] 34 (0, 0)) zk hb)
       have n6_ := Aside0.mk (blk_below (g := gb517) (o := .cells #[.int .i64 t497, .int .i64 (wrap64 ((Int.tmod t498 900) + 1))] 32 (0, 0)) zk hb)
       have n7_ := Aside0.mk (below_step zb hb)
       clear HO496 HO505 BK501 BK506 BK513 BK516 BK517 HB
       have HO496 := n0_
       have HO505 := n1_
       have BK501 := n2_
       have BK506 := n3_
       have BK513 := n4_
       have BK516 := n5_
       have BK517 := n6_
       have HB := n7_
       clear n0_ n1_ n2_ n3_ n4_ n5_ n6_ n7_
       (try clear hb)
       (try clear hb2)
       (try clear hk)
       (try clear hi)
       refine hK.out _ _ ⟨(blk_cell BK506.out 0).trans rfl, (blk_cell BK506.out 1).trans rfl, (blk_cell BK513.out 0).trans rfl, (blk_cell BK513.out 1).trans rfl, (blk_cell BK516.out 0).trans rfl, (blk_cell BK516.out 1).trans rfl, (blk_cell BK501.out 0).trans rfl, (blk_cell BK501.out 1).trans rfl, (blk_cell BK517.out 0).trans rfl, (blk_cell BK517.out 1).trans rfl⟩ (fun hHeld => ?_)
       clear hK K
       refine norm_ (a' := ?_) ?_ ?_
       rotate_left
       ·show Act.put _ (some 87) _ = _
        simp only [Act.put, List.setIfInBounds_toArray, List.set_cons_zero, List.set_cons_succ, i64_w, i32_w]
        rfl
       refine zp 33 88 ?_; refine zp 34 89 ?_; refine zp 35 90 ?_; refine zp 36 91 ?_; refine zp 40 95 ?_; refine zt 37 92 ?_; refine zt 38 93 ?_; refine zt 41 96 ?_
       refine one_ (i := 39) (N := some 94) #[true, true, true, true, true, true, true, true, true, true, true, true, true, true, true, true, true, true, true, true, true, true, true, true, true, true, true, true, true, true, true, true, true, true, true, true, true, true, true, true, true, true, false, false, false] rfl rfl (one_of HT_.out (by kernel_rfl)) (by decide) (fun K hK => ?_)
       refine goes_ Try.func10 (by kernel_rfl) rfl #[.slice Ao18 t503.length co18, .agg #[.int .i64 t497, .int .i64 (wrap64 ((Int.tmod t498 900) + 1))]] (by rfl) rfl rfl zm ?_
       with_reducible refine (impl_SeenIn.calls k _ _ t503 t497 (wrap64 ((Int.tmod t498 900) + 1)) t525 t526 _ ?side1 ?side2 A68.out).mono ?_
       (case side1 => repeat (first | exact (Kd.R_reads' HO505.out).2.2 | (with_reducible first | refine Kd.C_alloc ?_ _ | refine Kd.C_drewN ?_ _ | refine Kd.C_drew ?_)))
       (case side2 => exact (Kd.R_reads' HO505.out).2.1)
       rintro e w74 ⟨rfl, hb⟩
       refine ⟨_, rfl, ?_⟩
       have n0_ := Aside0.mk (Kd.R_below (by (with_reducible repeat (first | apply Kd.R_alloc | apply Kd.R_drewN | apply Kd.R_drew)); exact HO496.out) hb)
       have n1_ := Aside0.mk (Kd.R_below (by (with_reducible repeat (first | apply Kd.R_alloc | apply Kd.R_drewN | apply Kd.R_drew)); exact HO505.out) hb)
       have n2_ := Aside0.mk (blk_below (g := gb501) (o := .cells #[.int .i64 t497, .int .i64 t498] 32 (0, 0)) zk hb)
       have n3_ := Aside0.mk (blk_below (g := gb506) (o := .cells #[.int .i64 t502, .slice Ao18 t503.length co18] 28 (0, 0)) zk hb)
       have n4_ := Aside0.mk (blk_below (g := gb513) (o := .cells #[.int .i64 t511, .int .i64 t512] 34 (0, 0)) zk hb)
       have n5_ := Aside0.mk (blk_below (g := gb516) (o := .cells #[.int .i64 t514, .int .i64 t515] 34 (0, 0)) zk hb)
       have n6_ := Aside0.mk (blk_below (g := gb517) (o := .cells #[.int .i64 t497, .int .i64 (wrap64 ((Int.tmod t498 900) + 1))] 32 (0, 0)) zk hb)
       have n7_ := Aside0.mk (below_step zb hb)
       clear HO496 HO505 BK501 BK506 BK513 BK516 BK517 HB
       have HO496 := n0_
       have HO505 := n1_
       have BK501 := n2_
       have BK506 := n3_
       have BK513 := n4_
       have BK516 := n5_
       have BK517 := n6_
       have HB := n7_
       clear n0_ n1_ n2_ n3_ n4_ n5_ n6_ n7_
       (try clear hb)
       (try clear hb2)
       (try clear hk)
       (try clear hi)
       refine hK.out _ _ ⟨(blk_cell BK506.out 0).trans rfl, (blk_cell BK506.out 1).trans rfl, (blk_cell BK513.out 0).trans rfl, (blk_cell BK513.out 1).trans rfl, (blk_cell BK516.out 0).trans rfl, (blk_cell BK516.out 1).trans rfl, (blk_cell BK501.out 0).trans rfl, (blk_cell BK501.out 1).trans rfl, (blk_cell BK517.out 0).trans rfl, (blk_cell BK517.out 1).trans rfl⟩ (fun hHeld => ?_)
       clear hK K
       refine norm_ (a' := ?_) ?_ ?_
       rotate_left
       ·show Act.put _ (some 94) _ = _
        simp only [Act.put, List.setIfInBounds_toArray, List.set_cons_zero, List.set_cons_succ, i64_w, i32_w]
        rfl
       refine one_ (i := 42) (N := some 97) #[true, true, true, true, true, true, true, true, true, true, true, true, true, true, true, true, true, true, true, true, true, true, true, true, true, true, true, true, true, true, true, true, true, true, true, true, true, true, true, true, true, true, true, false, false] rfl rfl (one_of HT_.out (by kernel_rfl)) (by decide) (fun K hK => ?_)
       refine goes_ Try.func10 (by kernel_rfl) rfl #[.slice Ao13 t494.length co13, .agg #[.int .i64 t497, .int .i64 (wrap64 ((Int.tmod t498 900) + 1))]] (by rfl) rfl rfl zm ?_
       with_reducible refine (impl_SeenIn.calls k _ _ t494 t497 (wrap64 ((Int.tmod t498 900) + 1)) t527 t528 _ ?side1 ?side2 A69.out).mono ?_
       (case side1 => repeat (first | exact (Kd.R_reads' HO496.out).2.2 | (with_reducible first | refine Kd.C_alloc ?_ _ | refine Kd.C_drewN ?_ _ | refine Kd.C_drew ?_)))
       (case side2 => exact (Kd.R_reads' HO496.out).2.1)
       rintro e w75 ⟨rfl, hb⟩
       refine ⟨_, rfl, ?_⟩
       have n0_ := Aside0.mk (Kd.R_below (by (with_reducible repeat (first | apply Kd.R_alloc | apply Kd.R_drewN | apply Kd.R_drew)); exact HO496.out) hb)
       have n1_ := Aside0.mk (Kd.R_below (by (with_reducible repeat (first | apply Kd.R_alloc | apply Kd.R_drewN | apply Kd.R_drew)); exact HO505.out) hb)
       have n2_ := Aside0.mk (blk_below (g := gb501) (o := .cells #[.int .i64 t497, .int .i64 t498] 32 (0, 0)) zk hb)
       have n3_ := Aside0.mk (blk_below (g := gb506) (o := .cells #[.int .i64 t502, .slice Ao18 t503.length co18] 28 (0, 0)) zk hb)
       have n4_ := Aside0.mk (blk_below (g := gb513) (o := .cells #[.int .i64 t511, .int .i64 t512] 34 (0, 0)) zk hb)
       have n5_ := Aside0.mk (blk_below (g := gb516) (o := .cells #[.int .i64 t514, .int .i64 t515] 34 (0, 0)) zk hb)
       have n6_ := Aside0.mk (blk_below (g := gb517) (o := .cells #[.int .i64 t497, .int .i64 (wrap64 ((Int.tmod t498 900) + 1))] 32 (0, 0)) zk hb)
       have n7_ := Aside0.mk (below_step zb hb)
       clear HO496 HO505 BK501 BK506 BK513 BK516 BK517 HB
       have HO496 := n0_
       have HO505 := n1_
       have BK501 := n2_
       have BK506 := n3_
       have BK513 := n4_
       have BK516 := n5_
       have BK517 := n6_
       have HB := n7_
       clear n0_ n1_ n2_ n3_ n4_ n5_ n6_ n7_
       (try clear hb)
       (try clear hb2)
       (try clear hk)
       (try clear hi)
       refine hK.out _ _ ⟨(blk_cell BK506.out 0).trans rfl, (blk_cell BK506.out 1).trans rfl, (blk_cell BK513.out 0).trans rfl, (blk_cell BK513.out 1).trans rfl, (blk_cell BK516.out 0).trans rfl, (blk_cell BK516.out 1).trans rfl, (blk_cell BK501.out 0).trans rfl, (blk_cell BK501.out 1).trans rfl, (blk_cell BK517.out 0).trans rfl, (blk_cell BK517.out 1).trans rfl⟩ (fun hHeld => ?_)
       clear hK K
       refine norm_ (a' := ?_) ?_ ?_
       rotate_left
       ·show Act.put _ (some 97) _ = _
        simp only [Act.put, List.setIfInBounds_toArray, List.set_cons_zero, List.set_cons_succ, i64_w, i32_w]
        rfl
       refine zp 43 98 ?_; refine zp 44 99 ?_
       refine done_ (done_of HT_.out (by kernel_rfl)) ?_
       try go_wp2
       go_meet
       case rel => exact ⟨_, ((!(t525 == t527) || (!(t526 == t528)))), zs, H', ⟨by first | omega | exact Nat.le_refl _⟩, ⟨by (with_reducible repeat (first | apply Kd.R_alloc | apply Kd.R_drewN | apply Kd.R_drew)); exact HO496.out⟩, ⟨by (with_reducible repeat (first | apply Kd.R_alloc | apply Kd.R_drewN | apply Kd.R_drew)); exact HO505.out⟩, ⟨by (with_reducible repeat (first | refine blk_drewN ?_ _ | refine blk_drew ?_ | refine blk_alloc ?_ _)); exact BK501.out⟩, ⟨by (with_reducible repeat (first | refine blk_drewN ?_ _ | refine blk_drew ?_ | refine blk_alloc ?_ _)); exact BK506.out⟩, ⟨by (with_reducible repeat (first | refine blk_drewN ?_ _ | refine blk_drew ?_ | refine blk_alloc ?_ _)); exact BK513.out⟩, ⟨by (with_reducible repeat (first | refine blk_drewN ?_ _ | refine blk_drew ?_ | refine blk_alloc ?_ _)); exact BK516.out⟩, ⟨by (with_reducible repeat (first | refine blk_drewN ?_ _ | refine blk_drew ?_ | refine blk_alloc ?_ _)); exact BK517.out⟩, ⟨zb⟩⟩
      rw [if_neg c67] at H
      have c67b0 : (t524 == 9) = false := beq_eq_false_iff_ne.mpr c67
      have c67b1 : (t524 != 9) = true := bne_iff_ne.mpr c67
      exact absurd H (by cases k <;> simp [laws_FnChains.j0])
     rw [if_neg c65] at H
     have c65b0 : (t515 == t498) = false := beq_eq_false_iff_ne.mpr c65
     have c65b1 : (t515 != t498) = true := bne_iff_ne.mpr c65
     exact absurd H (by cases k <;> simp [laws_FnChains.j0])
    rw [if_neg c64] at H
    have c64b0 : (t512 == t500) = false := beq_eq_false_iff_ne.mpr c64
    have c64b1 : (t512 != t500) = true := bne_iff_ne.mpr c64
    exact absurd H (by cases k <;> simp [laws_FnChains.j0])
   rw [if_neg c40] at H
   have c40b0 : (t518 == 0) = false := beq_eq_false_iff_ne.mpr c40
   have c40b1 : (t518 != 0) = true := bne_iff_ne.mpr c40
   (first | rw [c40b0] | (simp only [i64_w, i32_w]; rw [c40b0]) | skip)
   exact absurd H (by cases k <;> simp [laws_FnChains.j0])
  case rest =>
   clear HC9
   try clear p2
   try clear c4
   try clear p6
   try clear c9
   try clear c40
   try clear c40b0
   try clear c40b1
   try clear p64
   obtain ⟨kq, x99_8, rfl, HA, HJ8, HO_3, HO_251, BK501, BK506, BK513, BK516, BK517, HB⟩ := hcut
   cases kq with
   | zero => exact absurd HA.out (by simp [laws_FnChains.j0])
   | succ kj8 =>
    have H := HA.out
    clear HA
    simp only [laws_FnChains.j0] at H
    by_cases c89 : x99_8 = true
    ·subst c89
     have H1 : (some false) = some true := by rw [if_pos rfl] at H; first | done | exact H
     clear H
     have H := H1
     clear H1
     exact absurd H (by simp)
    replace c89 := Bool.eq_false_iff.mpr c89
    subst c89
    have H1 : ((impl_CommitChain.f kj8 t503 t498 (wrap64 (t497 + 1))).bind fun bt529 => (if bt529.1 = 0 then ((impl_SeenIn.f kj8 bt529.2 (wrap64 (t497 + 1)) (wrap64 ((Int.tmod t498 900) + 1))).bind fun bt538 => ((impl_RollChain.f kj8 t503 t498).bind fun bt541 => ((impl_SeenIn.f kj8 bt529.2 t497 (wrap64 ((Int.tmod t498 900) + 1))).bind fun bt546 => ((impl_SeenIn.f kj8 t494 t497 (wrap64 ((Int.tmod t498 900) + 1))).bind fun bt548 => (if (bt546.1 == bt548.1 && (bt546.2 == bt548.2)) = true then (if (t499 == (bt538.1 == 4)) = true then (if t499 = true then ((impl_MayWrite.f kj8 bt529.2 t497 (wrap64 ((Int.tmod t498 900) + 1))).bind fun t550 => (if t550 = 9 then ((impl_ChainFault.f kj8 bt529.2).bind fun t551 => (if t551 = 0 then (if bt541.1 = 0 then ((impl_SeenIn.f kj8 bt541.2 t497 (wrap64 ((Int.tmod t498 900) + 1))).bind fun bt552 => ((impl_SeenIn.f kj8 t494 t497 (wrap64 ((Int.tmod t498 900) + 1))).bind fun bt554 => (some (bt552.1 == bt554.1 && (bt552.2 == bt554.2))))) else (some false)) else (some false))) else (some false))) else (if bt538.2 = t500 then ((impl_MayWrite.f kj8 bt529.2 t497 (wrap64 ((Int.tmod t498 900) + 1))).bind fun t556 => (if t556 = 9 then ((impl_ChainFault.f kj8 bt529.2).bind fun t557 => (if t557 = 0 then (if bt541.1 = 0 then ((impl_SeenIn.f kj8 bt541.2 t497 (wrap64 ((Int.tmod t498 900) + 1))).bind fun bt558 => ((impl_SeenIn.f kj8 t494 t497 (wrap64 ((Int.tmod t498 900) + 1))).bind fun bt560 => (some (bt558.1 == bt560.1 && (bt558.2 == bt560.2))))) else (some false)) else (some false))) else (some false))) else (some false))) else (some false)) else (some false)))))) else ((spec_CommitChain.f kj8 t503 t498 (wrap64 (t497 + 1))).bind fun bt534 => (some (bt534.1 == bt529.1))))) = some true := by rw [if_neg (show ¬ (false = true) by decide)] at H; first | done | exact H
    clear H
    have H := H1
    clear H1
    replace H := Option.bind_eq_some_iff.mp H
    obtain ⟨⟨t529, t530⟩, A900, H⟩ := H
    replace H : (if t529 = 0 then ((impl_SeenIn.f kj8 t530 (wrap64 (t497 + 1)) (wrap64 ((Int.tmod t498 900) + 1))).bind fun bt538 => ((impl_RollChain.f kj8 t503 t498).bind fun bt541 => ((impl_SeenIn.f kj8 t530 t497 (wrap64 ((Int.tmod t498 900) + 1))).bind fun bt546 => ((impl_SeenIn.f kj8 t494 t497 (wrap64 ((Int.tmod t498 900) + 1))).bind fun bt548 => (if (bt546.1 == bt548.1 && (bt546.2 == bt548.2)) = true then (if (t499 == (bt538.1 == 4)) = true then (if t499 = true then ((impl_MayWrite.f kj8 t530 t497 (wrap64 ((Int.tmod t498 900) + 1))).bind fun t550 => (if t550 = 9 then ((impl_ChainFault.f kj8 t530).bind fun t551 => (if t551 = 0 then (if bt541.1 = 0 then ((impl_SeenIn.f kj8 bt541.2 t497 (wrap64 ((Int.tmod t498 900) + 1))).bind fun bt552 => ((impl_SeenIn.f kj8 t494 t497 (wrap64 ((Int.tmod t498 900) + 1))).bind fun bt554 => (some (bt552.1 == bt554.1 && (bt552.2 == bt554.2))))) else (some false)) else (some false))) else (some false))) else (if bt538.2 = t500 then ((impl_MayWrite.f kj8 t530 t497 (wrap64 ((Int.tmod t498 900) + 1))).bind fun t556 => (if t556 = 9 then ((impl_ChainFault.f kj8 t530).bind fun t557 => (if t557 = 0 then (if bt541.1 = 0 then ((impl_SeenIn.f kj8 bt541.2 t497 (wrap64 ((Int.tmod t498 900) + 1))).bind fun bt558 => ((impl_SeenIn.f kj8 t494 t497 (wrap64 ((Int.tmod t498 900) + 1))).bind fun bt560 => (some (bt558.1 == bt560.1 && (bt558.2 == bt560.2))))) else (some false)) else (some false))) else (some false))) else (some false))) else (some false)) else (some false)))))) else ((spec_CommitChain.f kj8 t503 t498 (wrap64 (t497 + 1))).bind fun bt534 => (some (bt534.1 == t529)))) = some true := H
    have A90 := Aside0.mk A900
    clear A900
    by_cases c91 : t529 = 0
    ·rw [if_pos c91] at H
     have c91b0 : (t529 == 0) = true := beq_iff_eq.mpr c91
     have c91b1 : (t529 != 0) = false := bne_eq_false_iff_eq.mpr c91
     clear c91
     replace H := Option.bind_eq_some_iff.mp H
     obtain ⟨⟨t538, t539⟩, A920, H⟩ := H
     replace H : ((impl_RollChain.f kj8 t503 t498).bind fun bt541 => ((impl_SeenIn.f kj8 t530 t497 (wrap64 ((Int.tmod t498 900) + 1))).bind fun bt546 => ((impl_SeenIn.f kj8 t494 t497 (wrap64 ((Int.tmod t498 900) + 1))).bind fun bt548 => (if (bt546.1 == bt548.1 && (bt546.2 == bt548.2)) = true then (if (t499 == (t538 == 4)) = true then (if t499 = true then ((impl_MayWrite.f kj8 t530 t497 (wrap64 ((Int.tmod t498 900) + 1))).bind fun t550 => (if t550 = 9 then ((impl_ChainFault.f kj8 t530).bind fun t551 => (if t551 = 0 then (if bt541.1 = 0 then ((impl_SeenIn.f kj8 bt541.2 t497 (wrap64 ((Int.tmod t498 900) + 1))).bind fun bt552 => ((impl_SeenIn.f kj8 t494 t497 (wrap64 ((Int.tmod t498 900) + 1))).bind fun bt554 => (some (bt552.1 == bt554.1 && (bt552.2 == bt554.2))))) else (some false)) else (some false))) else (some false))) else (if t539 = t500 then ((impl_MayWrite.f kj8 t530 t497 (wrap64 ((Int.tmod t498 900) + 1))).bind fun t556 => (if t556 = 9 then ((impl_ChainFault.f kj8 t530).bind fun t557 => (if t557 = 0 then (if bt541.1 = 0 then ((impl_SeenIn.f kj8 bt541.2 t497 (wrap64 ((Int.tmod t498 900) + 1))).bind fun bt558 => ((impl_SeenIn.f kj8 t494 t497 (wrap64 ((Int.tmod t498 900) + 1))).bind fun bt560 => (some (bt558.1 == bt560.1 && (bt558.2 == bt560.2))))) else (some false)) else (some false))) else (some false))) else (some false))) else (some false)) else (some false))))) = some true := H
     have A92 := Aside0.mk A920
     clear A920
     replace H := Option.bind_eq_some_iff.mp H
     obtain ⟨⟨t541, t542⟩, A930, H⟩ := H
     replace H : ((impl_SeenIn.f kj8 t530 t497 (wrap64 ((Int.tmod t498 900) + 1))).bind fun bt546 => ((impl_SeenIn.f kj8 t494 t497 (wrap64 ((Int.tmod t498 900) + 1))).bind fun bt548 => (if (bt546.1 == bt548.1 && (bt546.2 == bt548.2)) = true then (if (t499 == (t538 == 4)) = true then (if t499 = true then ((impl_MayWrite.f kj8 t530 t497 (wrap64 ((Int.tmod t498 900) + 1))).bind fun t550 => (if t550 = 9 then ((impl_ChainFault.f kj8 t530).bind fun t551 => (if t551 = 0 then (if t541 = 0 then ((impl_SeenIn.f kj8 t542 t497 (wrap64 ((Int.tmod t498 900) + 1))).bind fun bt552 => ((impl_SeenIn.f kj8 t494 t497 (wrap64 ((Int.tmod t498 900) + 1))).bind fun bt554 => (some (bt552.1 == bt554.1 && (bt552.2 == bt554.2))))) else (some false)) else (some false))) else (some false))) else (if t539 = t500 then ((impl_MayWrite.f kj8 t530 t497 (wrap64 ((Int.tmod t498 900) + 1))).bind fun t556 => (if t556 = 9 then ((impl_ChainFault.f kj8 t530).bind fun t557 => (if t557 = 0 then (if t541 = 0 then ((impl_SeenIn.f kj8 t542 t497 (wrap64 ((Int.tmod t498 900) + 1))).bind fun bt558 => ((impl_SeenIn.f kj8 t494 t497 (wrap64 ((Int.tmod t498 900) + 1))).bind fun bt560 => (some (bt558.1 == bt560.1 && (bt558.2 == bt560.2))))) else (some false)) else (some false))) else (some false))) else (some false))) else (some false)) else (some false)))) = some true := H
     have A93 := Aside0.mk A930
     clear A930
     replace H := Option.bind_eq_some_iff.mp H
     obtain ⟨⟨t546, t547⟩, A940, H⟩ := H
     replace H : ((impl_SeenIn.f kj8 t494 t497 (wrap64 ((Int.tmod t498 900) + 1))).bind fun bt548 => (if (t546 == bt548.1 && (t547 == bt548.2)) = true then (if (t499 == (t538 == 4)) = true then (if t499 = true then ((impl_MayWrite.f kj8 t530 t497 (wrap64 ((Int.tmod t498 900) + 1))).bind fun t550 => (if t550 = 9 then ((impl_ChainFault.f kj8 t530).bind fun t551 => (if t551 = 0 then (if t541 = 0 then ((impl_SeenIn.f kj8 t542 t497 (wrap64 ((Int.tmod t498 900) + 1))).bind fun bt552 => ((impl_SeenIn.f kj8 t494 t497 (wrap64 ((Int.tmod t498 900) + 1))).bind fun bt554 => (some (bt552.1 == bt554.1 && (bt552.2 == bt554.2))))) else (some false)) else (some false))) else (some false))) else (if t539 = t500 then ((impl_MayWrite.f kj8 t530 t497 (wrap64 ((Int.tmod t498 900) + 1))).bind fun t556 => (if t556 = 9 then ((impl_ChainFault.f kj8 t530).bind fun t557 => (if t557 = 0 then (if t541 = 0 then ((impl_SeenIn.f kj8 t542 t497 (wrap64 ((Int.tmod t498 900) + 1))).bind fun bt558 => ((impl_SeenIn.f kj8 t494 t497 (wrap64 ((Int.tmod t498 900) + 1))).bind fun bt560 => (some (bt558.1 == bt560.1 && (bt558.2 == bt560.2))))) else (some false)) else (some false))) else (some false))) else (some false))) else (some false)) else (some false))) = some true := H
     have A94 := Aside0.mk A940
     clear A940
     replace H := Option.bind_eq_some_iff.mp H
     obtain ⟨⟨t548, t549⟩, A950, H⟩ := H
     replace H : (if (t546 == t548 && (t547 == t549)) = true then (if (t499 == (t538 == 4)) = true then (if t499 = true then ((impl_MayWrite.f kj8 t530 t497 (wrap64 ((Int.tmod t498 900) + 1))).bind fun t550 => (if t550 = 9 then ((impl_ChainFault.f kj8 t530).bind fun t551 => (if t551 = 0 then (if t541 = 0 then ((impl_SeenIn.f kj8 t542 t497 (wrap64 ((Int.tmod t498 900) + 1))).bind fun bt552 => ((impl_SeenIn.f kj8 t494 t497 (wrap64 ((Int.tmod t498 900) + 1))).bind fun bt554 => (some (bt552.1 == bt554.1 && (bt552.2 == bt554.2))))) else (some false)) else (some false))) else (some false))) else (if t539 = t500 then ((impl_MayWrite.f kj8 t530 t497 (wrap64 ((Int.tmod t498 900) + 1))).bind fun t556 => (if t556 = 9 then ((impl_ChainFault.f kj8 t530).bind fun t557 => (if t557 = 0 then (if t541 = 0 then ((impl_SeenIn.f kj8 t542 t497 (wrap64 ((Int.tmod t498 900) + 1))).bind fun bt558 => ((impl_SeenIn.f kj8 t494 t497 (wrap64 ((Int.tmod t498 900) + 1))).bind fun bt560 => (some (bt558.1 == bt560.1 && (bt558.2 == bt560.2))))) else (some false)) else (some false))) else (some false))) else (some false))) else (some false)) else (some false)) = some true := H
     have A95 := Aside0.mk A950
     clear A950
     by_cases c96 : (t546 == t548 && (t547 == t549)) = true
     ·rw [if_pos c96] at H
      have c96b0 : (t546 == t548 && (t547 == t549)) = true := c96
      (try (have c96b1 : decide (t546 = t548 && (t547 == t549)) = true := by simpa using c96))
      (try (have c96b2 : (t546 == t548 && (t547 == t549)) = true := by simpa using c96))
      clear c96
      by_cases c97 : (t499 == (t538 == 4)) = true
      ·rw [if_pos c97] at H
       have c97b0 : (t499 == (t538 == 4)) = true := c97
       (try (have c97b1 : decide (t499 = (t538 == 4)) = true := by simpa using c97))
       (try (have c97b2 : (t499 == (t538 == 4)) = true := by simpa using c97))
       clear c97
       by_cases c98 : t499 = true
       ·subst c98
        have H1 : ((impl_MayWrite.f kj8 t530 t497 (wrap64 ((Int.tmod t498 900) + 1))).bind fun t550 => (if t550 = 9 then ((impl_ChainFault.f kj8 t530).bind fun t551 => (if t551 = 0 then (if t541 = 0 then ((impl_SeenIn.f kj8 t542 t497 (wrap64 ((Int.tmod t498 900) + 1))).bind fun bt552 => ((impl_SeenIn.f kj8 t494 t497 (wrap64 ((Int.tmod t498 900) + 1))).bind fun bt554 => (some (bt552.1 == bt554.1 && (bt552.2 == bt554.2))))) else (some false)) else (some false))) else (some false))) = some true := by rw [if_pos rfl] at H; first | done | exact H
        clear H
        have H := H1
        clear H1
        replace H := Option.bind_eq_some_iff.mp H
        obtain ⟨t550, A990, H⟩ := H
        replace H : (if t550 = 9 then ((impl_ChainFault.f kj8 t530).bind fun t551 => (if t551 = 0 then (if t541 = 0 then ((impl_SeenIn.f kj8 t542 t497 (wrap64 ((Int.tmod t498 900) + 1))).bind fun bt552 => ((impl_SeenIn.f kj8 t494 t497 (wrap64 ((Int.tmod t498 900) + 1))).bind fun bt554 => (some (bt552.1 == bt554.1 && (bt552.2 == bt554.2))))) else (some false)) else (some false))) else (some false)) = some true := H
        have A99 := Aside0.mk A990
        clear A990
        by_cases c100 : t550 = 9
        ·rw [if_pos c100] at H
         have c100b0 : (t550 == 9) = true := beq_iff_eq.mpr c100
         have c100b1 : (t550 != 9) = false := bne_eq_false_iff_eq.mpr c100
         clear c100
         replace H := Option.bind_eq_some_iff.mp H
         obtain ⟨t551, A252, H⟩ := H
         replace H : (if t551 = 0 then (if t541 = 0 then ((impl_SeenIn.f kj8 t542 t497 (wrap64 ((Int.tmod t498 900) + 1))).bind fun bt552 => ((impl_SeenIn.f kj8 t494 t497 (wrap64 ((Int.tmod t498 900) + 1))).bind fun bt554 => (some (bt552.1 == bt554.1 && (bt552.2 == bt554.2))))) else (some false)) else (some false)) = some true := H
         have A101 := Aside0.mk A252
         clear A252
         by_cases c102 : t551 = 0
         ·rw [if_pos c102] at H
          have c102b0 : (t551 == 0) = true := beq_iff_eq.mpr c102
          have c102b1 : (t551 != 0) = false := bne_eq_false_iff_eq.mpr c102
          clear c102
          by_cases c103 : t541 = 0
          ·rw [if_pos c103] at H
           have c103b0 : (t541 == 0) = true := beq_iff_eq.mpr c103
           have c103b1 : (t541 != 0) = false := bne_eq_false_iff_eq.mpr c103
           clear c103
           replace H := Option.bind_eq_some_iff.mp H
           obtain ⟨⟨t552, t553⟩, A253, H⟩ := H
           replace H : ((impl_SeenIn.f kj8 t494 t497 (wrap64 ((Int.tmod t498 900) + 1))).bind fun bt554 => (some (t552 == bt554.1 && (t553 == bt554.2)))) = some true := H
           have A104 := Aside0.mk A253
           clear A253
           replace H := Option.bind_eq_some_iff.mp H
           obtain ⟨⟨t554, t555⟩, A254, H⟩ := H
           replace H : (some (t552 == t554 && (t553 == t555))) = some true := H
           have A105 := Aside0.mk A254
           clear A254
           have HT_ := Aside0.mk (Option.some.inj H)
           have hnb106 := NB501_506.out
           have hnc106 := NB506_501.out
           have hnb107 := NB501_513.out
           have hnc107 := NB513_501.out
           have hnb108 := NB501_516.out
           have hnc108 := NB516_501.out
           have hnb109 := NB501_517.out
           have hnc109 := NB517_501.out
           obtain ⟨hcz110_0, hcz110_1, hfz110_0, hfz110_1⟩ := Lv.blks2 BK501.out
           have hnb111 := NB506_513.out
           have hnc111 := NB513_506.out
           have hnb112 := NB506_516.out
           have hnc112 := NB516_506.out
           have hnb113 := NB506_517.out
           have hnc113 := NB517_506.out
           obtain ⟨hcz114_0, hcz114_1, hfz114_0, hfz114_1⟩ := Lv.blks2 BK506.out
           try go_wp2_with (first | ((with_reducible refine gate_callee (f := 16) rfl ?_); refine goesL_ (some 108) rfl rfl Try.func16 (by kernel_rfl) rfl #[.slice Ao18 t503.length co18, .int .i64 t498, .int .i64 (wrap64 (t497 + 1))] rfl zm ?_; (with_reducible refine (impl_CommitChain.calls kj8 _ _ t503 t498 (wrap64 (t497 + 1)) t529 t530 _ ?side1 ?side2 A90.out).mono ?_); (case side1 => repeat (first | exact (Kd.R_reads' HO_251.out).2.2 | (with_reducible first | refine Kd.C_alloc ?_ _ | refine Kd.C_drewN ?_ _ | refine Kd.C_drew ?_))); (case side2 => exact (Kd.R_reads' HO_251.out).2.1); rintro e w115 ⟨v531, rfl, ho0, hb⟩; refine ⟨_, rfl, ?_⟩; have n0_ := Aside0.mk (Kd.R_elder' (by (with_reducible repeat (first | apply Kd.R_alloc | apply Kd.R_drewN | apply Kd.R_drew)); exact HO_3.out) (Kd.R_base ho0) hb); have n1_ := Aside0.mk (Kd.R_elder' (by (with_reducible repeat (first | apply Kd.R_alloc | apply Kd.R_drewN | apply Kd.R_drew)); exact HO_251.out) (Kd.R_base ho0) hb); have n2_ := Aside0.mk (Kd.R_lower (Kd.R_new' (Kd.R_new' ho0 (Kd.R_lt (by (with_reducible repeat (first | apply Kd.R_alloc | apply Kd.R_drewN | apply Kd.R_drew)); exact HO_3.out))) (Kd.R_lt (by (with_reducible repeat (first | apply Kd.R_alloc | apply Kd.R_drewN | apply Kd.R_drew)); exact HO_251.out))) (below_size zb)); have n3_ := Aside0.mk (blk_below (g := gb501) (o := .cells #[.int .i64 t497, .int .i64 t498] 32 (0, 0)) zk hb); have n4_ := Aside0.mk (blk_below (g := gb506) (o := .cells #[.int .i64 t502, .slice Ao18 t503.length co18] 28 (0, 0)) zk hb); have n5_ := Aside0.mk (blk_below (g := gb513) (o := .cells #[.int .i64 t511, .int .i64 t512] 34 (0, 0)) zk hb); have n6_ := Aside0.mk (blk_below (g := gb516) (o := .cells #[.int .i64 t514, .int .i64 t515] 34 (0, 0)) zk hb); have n7_ := Aside0.mk (blk_below (g := gb517) (o := .cells #[.int .i64 t497, .int .i64 (wrap64 ((Int.tmod t498 900) + 1))] 32 (0, 0)) zk hb); have n8_ := Aside0.mk (below_step zb hb); clear HO_3; clear HO_251; clear BK501; clear BK506; clear BK513; clear BK516; clear BK517; clear HB; have HO_3 := n0_; have HO_251 := n1_; have HO532 := n2_; have BK501 := n3_; have BK506 := n4_; have BK513 := n5_; have BK516 := n6_; have BK517 := n7_; have HB := n8_; clear n0_ n1_ n2_ n3_ n4_ n5_ n6_ n7_ n8_; (try clear hb); (try clear hb2); (try clear hk); (try clear hi); (try clear ho0)) | ((with_reducible refine gate_dst (N := 12) rfl ?_); refine box_event ?hg (N := 12) ?hd (cs := #[.int .i64 0, .slice none 0 0]) (t := 28) ?hr ?_; (case hd => rfl); (case hg => rfl); (case hr => first | (go_simp; done) | (go_simp; rfl)); intro gb533 hg w116 hbox hb; have n0_ := Aside0.mk (Kd.R_below (by (with_reducible repeat (first | apply Kd.R_alloc | apply Kd.R_drewN | apply Kd.R_drew)); exact HO_3.out) hb); have n1_ := Aside0.mk (Kd.R_below (by (with_reducible repeat (first | apply Kd.R_alloc | apply Kd.R_drewN | apply Kd.R_drew)); exact HO_251.out) hb); have n2_ := Aside0.mk (Kd.R_below (by (with_reducible repeat (first | apply Kd.R_alloc | apply Kd.R_drewN | apply Kd.R_drew)); exact HO532.out) hb); have n3_ := Aside0.mk (blk_below (g := gb501) (o := .cells #[.int .i64 t497, .int .i64 t498] 32 (0, 0)) zk hb); have n4_ := Aside0.mk (blk_below (g := gb506) (o := .cells #[.int .i64 t502, .slice Ao18 t503.length co18] 28 (0, 0)) zk hb); have n5_ := Aside0.mk (blk_below (g := gb513) (o := .cells #[.int .i64 t511, .int .i64 t512] 34 (0, 0)) zk hb); have n6_ := Aside0.mk (blk_below (g := gb516) (o := .cells #[.int .i64 t514, .int .i64 t515] 34 (0, 0)) zk hb); have n7_ := Aside0.mk (blk_below (g := gb517) (o := .cells #[.int .i64 t497, .int .i64 (wrap64 ((Int.tmod t498 900) + 1))] 32 (0, 0)) zk hb); have n8_ := Aside0.mk (below_step zb hb); have n9_ := Aside0.mk (hbox); have n10_ := Aside0.mk ((by rw [hg]; exact (below_size zb) : w.heap.size ≤ gb533)); have n11_ := n10_; have n12_ := Aside0.mk ((by rw [hg]; exact Nat.ne_of_lt (blk_lt (g := gb501) (o := .cells #[.int .i64 t497, .int .i64 t498] 32 (0, 0)) zk) : gb501 ≠ gb533)); have n13_ := Aside0.mk ((by rw [hg]; exact Nat.ne_of_gt (blk_lt (g := gb501) (o := .cells #[.int .i64 t497, .int .i64 t498] 32 (0, 0)) zk) : gb533 ≠ gb501)); have n14_ := Aside0.mk ((by rw [hg]; exact Nat.ne_of_lt (blk_lt (g := gb506) (o := .cells #[.int .i64 t502, .slice Ao18 t503.length co18] 28 (0, 0)) zk) : gb506 ≠ gb533)); have n15_ := Aside0.mk ((by rw [hg]; exact Nat.ne_of_gt (blk_lt (g := gb506) (o := .cells #[.int .i64 t502, .slice Ao18 t503.length co18] 28 (0, 0)) zk) : gb533 ≠ gb506)); have n16_ := Aside0.mk ((by rw [hg]; exact Nat.ne_of_lt (blk_lt (g := gb513) (o := .cells #[.int .i64 t511, .int .i64 t512] 34 (0, 0)) zk) : gb513 ≠ gb533)); have n17_ := Aside0.mk ((by rw [hg]; exact Nat.ne_of_gt (blk_lt (g := gb513) (o := .cells #[.int .i64 t511, .int .i64 t512] 34 (0, 0)) zk) : gb533 ≠ gb513)); have n18_ := Aside0.mk ((by rw [hg]; exact Nat.ne_of_lt (blk_lt (g := gb516) (o := .cells #[.int .i64 t514, .int .i64 t515] 34 (0, 0)) zk) : gb516 ≠ gb533)); have n19_ := Aside0.mk ((by rw [hg]; exact Nat.ne_of_gt (blk_lt (g := gb516) (o := .cells #[.int .i64 t514, .int .i64 t515] 34 (0, 0)) zk) : gb533 ≠ gb516)); have n20_ := Aside0.mk ((by rw [hg]; exact Nat.ne_of_lt (blk_lt (g := gb517) (o := .cells #[.int .i64 t497, .int .i64 (wrap64 ((Int.tmod t498 900) + 1))] 32 (0, 0)) zk) : gb517 ≠ gb533)); have n21_ := Aside0.mk ((by rw [hg]; exact Nat.ne_of_gt (blk_lt (g := gb517) (o := .cells #[.int .i64 t497, .int .i64 (wrap64 ((Int.tmod t498 900) + 1))] 32 (0, 0)) zk) : gb533 ≠ gb517)); clear HO_3; clear HO_251; clear HO532; clear BK501; clear BK506; clear BK513; clear BK516; clear BK517; clear HB; have HO_3 := n0_; have HO_251 := n1_; have HO532 := n2_; have BK501 := n3_; have BK506 := n4_; have BK513 := n5_; have BK516 := n6_; have BK517 := n7_; have HB := n8_; have BK533 := n9_; have GW533 := n10_; have GE533 := n11_; have NB501_533 := n12_; have NB533_501 := n13_; have NB506_533 := n14_; have NB533_506 := n15_; have NB513_533 := n16_; have NB533_513 := n17_; have NB516_533 := n18_; have NB533_516 := n19_; have NB517_533 := n20_; have NB533_517 := n21_; clear n0_ n1_ n2_ n3_ n4_ n5_ n6_ n7_ n8_ n9_ n10_ n11_ n12_ n13_ n14_ n15_ n16_ n17_ n18_ n19_ n20_ n21_; clear hb hbox hg; have hnb117 := NB533_501.out; have hnc117 := NB501_533.out; have hnb118 := NB533_506.out; have hnc118 := NB506_533.out; have hnb119 := NB533_513.out; have hnc119 := NB513_533.out; have hnb120 := NB533_516.out; have hnc120 := NB516_533.out; have hnb121 := NB533_517.out; have hnc121 := NB517_533.out; obtain ⟨hcz122_0, hcz122_1, hfz122_0, hfz122_1⟩ := Lv.blks2 BK533.out; obtain ⟨Ao123, co123, eo123⟩ := Kd.R_slice HO532.out; subst eo123; have hnb124 := NB517_513.out; have hnc124 := NB513_517.out; have hnb125 := NB517_516.out; have hnc125 := NB516_517.out; obtain ⟨hcz126_0, hcz126_1, hfz126_0, hfz126_1⟩ := Lv.blks2 BK517.out) | ((with_reducible refine gate_callee (f := 10) rfl ?_); refine goesL_ (some 128) rfl rfl Try.func10 (by kernel_rfl) rfl #[.slice Ao123 t530.length co123, .agg #[.int .i64 (wrap64 (t497 + 1)), .int .i64 (wrap64 ((Int.tmod t498 900) + 1))]] rfl zm ?_; (with_reducible refine (impl_SeenIn.calls kj8 _ _ t530 (wrap64 (t497 + 1)) (wrap64 ((Int.tmod t498 900) + 1)) t538 t539 _ ?side1 ?side2 A92.out).mono ?_); (case side1 => refine (Kd.R_reads' (e := 51) (base := w.heap.size) (ok := fun k_ => ((True ∧ some k_ ≠ (.slice Ao13 t494.length co13 : Value).ownBlock) ∧ some k_ ≠ (.slice Ao18 t503.length co18 : Value).ownBlock)) (n := t530.length) (c := co123) ?_).2.2; exact (by (with_reducible repeat (first | apply Kd.R_alloc | apply Kd.R_drewN | apply Kd.R_drew)); exact (Kd.R_mono (Kd.R_far (p := ⟨gb533, 1, none⟩) (Kd.R_far (p := ⟨gb533, 0, none⟩) (Kd.R_types HO532.out BK533.out (by decide)) (fun _ hk => hk.2) (.int .i64 t529)) (fun _ hk => hk.2) (.slice Ao123 t530.length co123)) (fun _ h_ => h_.1)))); (case side2 => exact (Kd.R_reads' HO532.out).2.1); rintro e w127 ⟨rfl, hb⟩; refine ⟨_, rfl, ?_⟩; have n0_ := Aside0.mk (Kd.R_below (by (with_reducible repeat (first | apply Kd.R_alloc | apply Kd.R_drewN | apply Kd.R_drew)); exact (Kd.R_mono (Kd.R_far (p := ⟨gb533, 1, none⟩) (Kd.R_far (p := ⟨gb533, 0, none⟩) (Kd.R_types HO_3.out BK533.out (by decide)) (fun _ hk => hk.2) (.int .i64 t529)) (fun _ hk => hk.2) (.slice Ao123 t530.length co123)) (fun _ h_ => h_.1))) hb); have n1_ := Aside0.mk (Kd.R_below (by (with_reducible repeat (first | apply Kd.R_alloc | apply Kd.R_drewN | apply Kd.R_drew)); exact (Kd.R_mono (Kd.R_far (p := ⟨gb533, 1, none⟩) (Kd.R_far (p := ⟨gb533, 0, none⟩) (Kd.R_types HO_251.out BK533.out (by decide)) (fun _ hk => hk.2) (.int .i64 t529)) (fun _ hk => hk.2) (.slice Ao123 t530.length co123)) (fun _ h_ => h_.1))) hb); have n2_ := Aside0.mk (Kd.R_below (by (with_reducible repeat (first | apply Kd.R_alloc | apply Kd.R_drewN | apply Kd.R_drew)); exact (Kd.R_mono (Kd.R_far (p := ⟨gb533, 1, none⟩) (Kd.R_far (p := ⟨gb533, 0, none⟩) (Kd.R_types HO532.out BK533.out (by decide)) (fun _ hk => hk.2) (.int .i64 t529)) (fun _ hk => hk.2) (.slice Ao123 t530.length co123)) (fun _ h_ => h_.1))) hb); have n3_ := Aside0.mk (blk_below (g := gb501) (o := .cells #[.int .i64 t497, .int .i64 t498] 32 (0, 0)) (by (with_reducible repeat (first | refine blk_drewN ?_ _ | refine blk_drew ?_ | refine blk_alloc ?_ _)); refine blk_far ?_ NB501_533.out _; (with_reducible repeat (first | refine blk_drewN ?_ _ | refine blk_drew ?_ | refine blk_alloc ?_ _)); refine blk_far ?_ NB501_533.out _; (with_reducible repeat (first | refine blk_drewN ?_ _ | refine blk_drew ?_ | refine blk_alloc ?_ _)); exact BK501.out) hb); have n4_ := Aside0.mk (blk_below (g := gb506) (o := .cells #[.int .i64 t502, .slice Ao18 t503.length co18] 28 (0, 0)) (by (with_reducible repeat (first | refine blk_drewN ?_ _ | refine blk_drew ?_ | refine blk_alloc ?_ _)); refine blk_far ?_ NB506_533.out _; (with_reducible repeat (first | refine blk_drewN ?_ _ | refine blk_drew ?_ | refine blk_alloc ?_ _)); refine blk_far ?_ NB506_533.out _; (with_reducible repeat (first | refine blk_drewN ?_ _ | refine blk_drew ?_ | refine blk_alloc ?_ _)); exact BK506.out) hb); have n5_ := Aside0.mk (blk_below (g := gb513) (o := .cells #[.int .i64 t511, .int .i64 t512] 34 (0, 0)) (by (with_reducible repeat (first | refine blk_drewN ?_ _ | refine blk_drew ?_ | refine blk_alloc ?_ _)); refine blk_far ?_ NB513_533.out _; (with_reducible repeat (first | refine blk_drewN ?_ _ | refine blk_drew ?_ | refine blk_alloc ?_ _)); refine blk_far ?_ NB513_533.out _; (with_reducible repeat (first | refine blk_drewN ?_ _ | refine blk_drew ?_ | refine blk_alloc ?_ _)); exact BK513.out) hb); have n6_ := Aside0.mk (blk_below (g := gb516) (o := .cells #[.int .i64 t514, .int .i64 t515] 34 (0, 0)) (by (with_reducible repeat (first | refine blk_drewN ?_ _ | refine blk_drew ?_ | refine blk_alloc ?_ _)); refine blk_far ?_ NB516_533.out _; (with_reducible repeat (first | refine blk_drewN ?_ _ | refine blk_drew ?_ | refine blk_alloc ?_ _)); refine blk_far ?_ NB516_533.out _; (with_reducible repeat (first | refine blk_drewN ?_ _ | refine blk_drew ?_ | refine blk_alloc ?_ _)); exact BK516.out) hb); have n7_ := Aside0.mk (blk_below (g := gb517) (o := .cells #[.int .i64 t497, .int .i64 (wrap64 ((Int.tmod t498 900) + 1))] 32 (0, 0)) (by (with_reducible repeat (first | refine blk_drewN ?_ _ | refine blk_drew ?_ | refine blk_alloc ?_ _)); refine blk_far ?_ NB517_533.out _; (with_reducible repeat (first | refine blk_drewN ?_ _ | refine blk_drew ?_ | refine blk_alloc ?_ _)); refine blk_far ?_ NB517_533.out _; (with_reducible repeat (first | refine blk_drewN ?_ _ | refine blk_drew ?_ | refine blk_alloc ?_ _)); exact BK517.out) hb); have n8_ := Aside0.mk (blk_below (g := gb533) (o := .cells #[.int .i64 t529, .slice Ao123 t530.length co123] 28 (0, 0)) (by (with_reducible repeat (first | refine blk_drewN ?_ _ | refine blk_drew ?_ | refine blk_alloc ?_ _)); refine blk_put (cs := #[.int .i64 t529, .slice none 0 0]) ?_ 1 _ rfl; (with_reducible repeat (first | refine blk_drewN ?_ _ | refine blk_drew ?_ | refine blk_alloc ?_ _)); refine blk_put (cs := #[.int .i64 0, .slice none 0 0]) ?_ 0 _ rfl; (with_reducible repeat (first | refine blk_drewN ?_ _ | refine blk_drew ?_ | refine blk_alloc ?_ _)); exact BK533.out) hb); have n9_ := Aside0.mk (below_step zb hb); clear HO_3; clear HO_251; clear HO532; clear BK501; clear BK506; clear BK513; clear BK516; clear BK517; clear BK533; clear HB; have HO_3 := n0_; have HO_251 := n1_; have HO532 := n2_; have BK501 := n3_; have BK506 := n4_; have BK513 := n5_; have BK516 := n6_; have BK517 := n7_; have BK533 := n8_; have HB := n9_; clear n0_ n1_ n2_ n3_ n4_ n5_ n6_ n7_ n8_ n9_; (try clear hb); (try clear hb2); (try clear hk); (try clear hi)) | ((with_reducible refine gate_dst (N := 13) rfl ?_); refine box_event ?hg (N := 13) ?hd (cs := #[.int .i64 0, .int .i64 0]) (t := 34) ?hr ?_; (case hd => rfl); (case hg => rfl); (case hr => first | (go_simp; done) | (go_simp; rfl)); intro gb540 hg w128 hbox hb; have n0_ := Aside0.mk (Kd.R_below (by (with_reducible repeat (first | apply Kd.R_alloc | apply Kd.R_drewN | apply Kd.R_drew)); exact HO_3.out) hb); have n1_ := Aside0.mk (Kd.R_below (by (with_reducible repeat (first | apply Kd.R_alloc | apply Kd.R_drewN | apply Kd.R_drew)); exact HO_251.out) hb); have n2_ := Aside0.mk (Kd.R_below (by (with_reducible repeat (first | apply Kd.R_alloc | apply Kd.R_drewN | apply Kd.R_drew)); exact HO532.out) hb); have n3_ := Aside0.mk (blk_below (g := gb501) (o := .cells #[.int .i64 t497, .int .i64 t498] 32 (0, 0)) zk hb); have n4_ := Aside0.mk (blk_below (g := gb506) (o := .cells #[.int .i64 t502, .slice Ao18 t503.length co18] 28 (0, 0)) zk hb); have n5_ := Aside0.mk (blk_below (g := gb513) (o := .cells #[.int .i64 t511, .int .i64 t512] 34 (0, 0)) zk hb); have n6_ := Aside0.mk (blk_below (g := gb516) (o := .cells #[.int .i64 t514, .int .i64 t515] 34 (0, 0)) zk hb); have n7_ := Aside0.mk (blk_below (g := gb517) (o := .cells #[.int .i64 t497, .int .i64 (wrap64 ((Int.tmod t498 900) + 1))] 32 (0, 0)) zk hb); have n8_ := Aside0.mk (blk_below (g := gb533) (o := .cells #[.int .i64 t529, .slice Ao123 t530.length co123] 28 (0, 0)) zk hb); have n9_ := Aside0.mk (below_step zb hb); have n10_ := Aside0.mk (hbox); have n11_ := Aside0.mk ((by rw [hg]; exact (below_size zb) : w.heap.size ≤ gb540)); have n12_ := n11_; have n13_ := Aside0.mk ((by rw [hg]; exact Nat.ne_of_lt (blk_lt (g := gb501) (o := .cells #[.int .i64 t497, .int .i64 t498] 32 (0, 0)) zk) : gb501 ≠ gb540)); have n14_ := Aside0.mk ((by rw [hg]; exact Nat.ne_of_gt (blk_lt (g := gb501) (o := .cells #[.int .i64 t497, .int .i64 t498] 32 (0, 0)) zk) : gb540 ≠ gb501)); have n15_ := Aside0.mk ((by rw [hg]; exact Nat.ne_of_lt (blk_lt (g := gb506) (o := .cells #[.int .i64 t502, .slice Ao18 t503.length co18] 28 (0, 0)) zk) : gb506 ≠ gb540)); have n16_ := Aside0.mk ((by rw [hg]; exact Nat.ne_of_gt (blk_lt (g := gb506) (o := .cells #[.int .i64 t502, .slice Ao18 t503.length co18] 28 (0, 0)) zk) : gb540 ≠ gb506)); have n17_ := Aside0.mk ((by rw [hg]; exact Nat.ne_of_lt (blk_lt (g := gb513) (o := .cells #[.int .i64 t511, .int .i64 t512] 34 (0, 0)) zk) : gb513 ≠ gb540)); have n18_ := Aside0.mk ((by rw [hg]; exact Nat.ne_of_gt (blk_lt (g := gb513) (o := .cells #[.int .i64 t511, .int .i64 t512] 34 (0, 0)) zk) : gb540 ≠ gb513)); have n19_ := Aside0.mk ((by rw [hg]; exact Nat.ne_of_lt (blk_lt (g := gb516) (o := .cells #[.int .i64 t514, .int .i64 t515] 34 (0, 0)) zk) : gb516 ≠ gb540)); have n20_ := Aside0.mk ((by rw [hg]; exact Nat.ne_of_gt (blk_lt (g := gb516) (o := .cells #[.int .i64 t514, .int .i64 t515] 34 (0, 0)) zk) : gb540 ≠ gb516)); have n21_ := Aside0.mk ((by rw [hg]; exact Nat.ne_of_lt (blk_lt (g := gb517) (o := .cells #[.int .i64 t497, .int .i64 (wrap64 ((Int.tmod t498 900) + 1))] 32 (0, 0)) zk) : gb517 ≠ gb540)); have n22_ := Aside0.mk ((by rw [hg]; exact Nat.ne_of_gt (blk_lt (g := gb517) (o := .cells #[.int .i64 t497, .int .i64 (wrap64 ((Int.tmod t498 900) + 1))] 32 (0, 0)) zk) : gb540 ≠ gb517)); have n23_ := Aside0.mk ((by rw [hg]; exact Nat.ne_of_lt (blk_lt (g := gb533) (o := .cells #[.int .i64 t529, .slice Ao123 t530.length co123] 28 (0, 0)) zk) : gb533 ≠ gb540)); have n24_ := Aside0.mk ((by rw [hg]; exact Nat.ne_of_gt (blk_lt (g := gb533) (o := .cells #[.int .i64 t529, .slice Ao123 t530.length co123] 28 (0, 0)) zk) : gb540 ≠ gb533)); clear HO_3; clear HO_251; clear HO532; clear BK501; clear BK506; clear BK513; clear BK516; clear BK517; clear BK533; clear HB; have HO_3 := n0_; have HO_251 := n1_; have HO532 := n2_; have BK501 := n3_; have BK506 := n4_; have BK513 := n5_; have BK516 := n6_; have BK517 := n7_; have BK533 := n8_; have HB := n9_; have BK540 := n10_; have GW540 := n11_; have GE540 := n12_; have NB501_540 := n13_; have NB540_501 := n14_; have NB506_540 := n15_; have NB540_506 := n16_; have NB513_540 := n17_; have NB540_513 := n18_; have NB516_540 := n19_; have NB540_516 := n20_; have NB517_540 := n21_; have NB540_517 := n22_; have NB533_540 := n23_; have NB540_533 := n24_; clear n0_ n1_ n2_ n3_ n4_ n5_ n6_ n7_ n8_ n9_ n10_ n11_ n12_ n13_ n14_ n15_ n16_ n17_ n18_ n19_ n20_ n21_ n22_ n23_ n24_; clear hb hbox hg; have hnb129 := NB540_501.out; have hnc129 := NB501_540.out; have hnb130 := NB540_506.out; have hnc130 := NB506_540.out; have hnb131 := NB540_513.out; have hnc131 := NB513_540.out; have hnb132 := NB540_516.out; have hnc132 := NB516_540.out; have hnb133 := NB540_517.out; have hnc133 := NB517_540.out; have hnb134 := NB540_533.out; have hnc134 := NB533_540.out; obtain ⟨hcz135_0, hcz135_1, hfz135_0, hfz135_1⟩ := Lv.blks2 BK540.out; obtain ⟨hcz136_0, hcz136_1, hfz136_0, hfz136_1⟩ := Lv.blks2 BK506.out; obtain ⟨hcz137_0, hcz137_1, hfz137_0, hfz137_1⟩ := Lv.blks2 BK501.out) | ((with_reducible refine gate_callee (f := 18) rfl ?_); refine goesL_ (some 133) rfl rfl Try.func18 (by kernel_rfl) rfl #[.slice Ao18 t503.length co18, .int .i64 t498] rfl zm ?_; (with_reducible refine (impl_RollChain.calls kj8 _ _ t503 t498 t541 t542 _ ?side1 ?side2 A93.out).mono ?_); (case side1 => refine (Kd.R_reads' (e := 51) (base := w.heap.size) (ok := fun k_ => (some k_ ≠ (.slice Ao13 t494.length co13 : Value).ownBlock ∧ some k_ ≠ (.slice Ao123 t530.length co123 : Value).ownBlock)) (n := t503.length) (c := co18) ?_).2.2; exact (by (with_reducible repeat (first | apply Kd.R_alloc | apply Kd.R_drewN | apply Kd.R_drew)); exact (Kd.R_mono (Kd.R_far (p := ⟨gb540, 1, none⟩) (Kd.R_far (p := ⟨gb540, 0, none⟩) (Kd.R_types HO_251.out BK540.out (by decide)) (fun _ hk => hk.2) (.int .i64 t538)) (fun _ hk => hk.2) (.int .i64 t539)) (fun _ h_ => h_.1)))); (case side2 => exact (Kd.R_reads' HO_251.out).2.1); rintro e w138 ⟨v543, rfl, ho0, hb⟩; refine ⟨_, rfl, ?_⟩; have n0_ := Aside0.mk (Kd.R_elder' (by (with_reducible repeat (first | apply Kd.R_alloc | apply Kd.R_drewN | apply Kd.R_drew)); exact (Kd.R_mono (Kd.R_far (p := ⟨gb540, 1, none⟩) (Kd.R_far (p := ⟨gb540, 0, none⟩) (Kd.R_types HO_3.out BK540.out (by decide)) (fun _ hk => hk.2) (.int .i64 t538)) (fun _ hk => hk.2) (.int .i64 t539)) (fun _ h_ => h_.1))) (Kd.R_base ho0) hb); have n1_ := Aside0.mk (Kd.R_elder' (by (with_reducible repeat (first | apply Kd.R_alloc | apply Kd.R_drewN | apply Kd.R_drew)); exact (Kd.R_mono (Kd.R_far (p := ⟨gb540, 1, none⟩) (Kd.R_far (p := ⟨gb540, 0, none⟩) (Kd.R_types HO_251.out BK540.out (by decide)) (fun _ hk => hk.2) (.int .i64 t538)) (fun _ hk => hk.2) (.int .i64 t539)) (fun _ h_ => h_.1))) (Kd.R_base ho0) hb); have n2_ := Aside0.mk (Kd.R_elder' (by (with_reducible repeat (first | apply Kd.R_alloc | apply Kd.R_drewN | apply Kd.R_drew)); exact (Kd.R_mono (Kd.R_far (p := ⟨gb540, 1, none⟩) (Kd.R_far (p := ⟨gb540, 0, none⟩) (Kd.R_types HO532.out BK540.out (by decide)) (fun _ hk => hk.2) (.int .i64 t538)) (fun _ hk => hk.2) (.int .i64 t539)) (fun _ h_ => h_.1))) (Kd.R_base ho0) hb); have n3_ := Aside0.mk (Kd.R_lower (Kd.R_new' (Kd.R_new' (Kd.R_new' ho0 (Kd.R_lt (by (with_reducible repeat (first | apply Kd.R_alloc | apply Kd.R_drewN | apply Kd.R_drew)); exact (Kd.R_mono (Kd.R_far (p := ⟨gb540, 1, none⟩) (Kd.R_far (p := ⟨gb540, 0, none⟩) (Kd.R_types HO_3.out BK540.out (by decide)) (fun _ hk => hk.2) (.int .i64 t538)) (fun _ hk => hk.2) (.int .i64 t539)) (fun _ h_ => h_.1))))) (Kd.R_lt (by (with_reducible repeat (first | apply Kd.R_alloc | apply Kd.R_drewN | apply Kd.R_drew)); exact (Kd.R_mono (Kd.R_far (p := ⟨gb540, 1, none⟩) (Kd.R_far (p := ⟨gb540, 0, none⟩) (Kd.R_types HO_251.out BK540.out (by decide)) (fun _ hk => hk.2) (.int .i64 t538)) (fun _ hk => hk.2) (.int .i64 t539)) (fun _ h_ => h_.1))))) (Kd.R_lt (by (with_reducible repeat (first | apply Kd.R_alloc | apply Kd.R_drewN | apply Kd.R_drew)); exact (Kd.R_mono (Kd.R_far (p := ⟨gb540, 1, none⟩) (Kd.R_far (p := ⟨gb540, 0, none⟩) (Kd.R_types HO532.out BK540.out (by decide)) (fun _ hk => hk.2) (.int .i64 t538)) (fun _ hk => hk.2) (.int .i64 t539)) (fun _ h_ => h_.1))))) (below_size zb)); have n4_ := Aside0.mk (blk_below (g := gb501) (o := .cells #[.int .i64 t497, .int .i64 t498] 32 (0, 0)) (by (with_reducible repeat (first | refine blk_drewN ?_ _ | refine blk_drew ?_ | refine blk_alloc ?_ _)); refine blk_far ?_ NB501_540.out _; (with_reducible repeat (first | refine blk_drewN ?_ _ | refine blk_drew ?_ | refine blk_alloc ?_ _)); refine blk_far ?_ NB501_540.out _; (with_reducible repeat (first | refine blk_drewN ?_ _ | refine blk_drew ?_ | refine blk_alloc ?_ _)); exact BK501.out) hb); have n5_ := Aside0.mk (blk_below (g := gb506) (o := .cells #[.int .i64 t502, .slice Ao18 t503.length co18] 28 (0, 0)) (by (with_reducible repeat (first | refine blk_drewN ?_ _ | refine blk_drew ?_ | refine blk_alloc ?_ _)); refine blk_far ?_ NB506_540.out _; (with_reducible repeat (first | refine blk_drewN ?_ _ | refine blk_drew ?_ | refine blk_alloc ?_ _)); refine blk_far ?_ NB506_540.out _; (with_reducible repeat (first | refine blk_drewN ?_ _ | refine blk_drew ?_ | refine blk_alloc ?_ _)); exact BK506.out) hb); have n6_ := Aside0.mk (blk_below (g := gb513) (o := .cells #[.int .i64 t511, .int .i64 t512] 34 (0, 0)) (by (with_reducible repeat (first | refine blk_drewN ?_ _ | refine blk_drew ?_ | refine blk_alloc ?_ _)); refine blk_far ?_ NB513_540.out _; (with_reducible repeat (first | refine blk_drewN ?_ _ | refine blk_drew ?_ | refine blk_alloc ?_ _)); refine blk_far ?_ NB513_540.out _; (with_reducible repeat (first | refine blk_drewN ?_ _ | refine blk_drew ?_ | refine blk_alloc ?_ _)); exact BK513.out) hb); have n7_ := Aside0.mk (blk_below (g := gb516) (o := .cells #[.int .i64 t514, .int .i64 t515] 34 (0, 0)) (by (with_reducible repeat (first | refine blk_drewN ?_ _ | refine blk_drew ?_ | refine blk_alloc ?_ _)); refine blk_far ?_ NB516_540.out _; (with_reducible repeat (first | refine blk_drewN ?_ _ | refine blk_drew ?_ | refine blk_alloc ?_ _)); refine blk_far ?_ NB516_540.out _; (with_reducible repeat (first | refine blk_drewN ?_ _ | refine blk_drew ?_ | refine blk_alloc ?_ _)); exact BK516.out) hb); have n8_ := Aside0.mk (blk_below (g := gb517) (o := .cells #[.int .i64 t497, .int .i64 (wrap64 ((Int.tmod t498 900) + 1))] 32 (0, 0)) (by (with_reducible repeat (first | refine blk_drewN ?_ _ | refine blk_drew ?_ | refine blk_alloc ?_ _)); refine blk_far ?_ NB517_540.out _; (with_reducible repeat (first | refine blk_drewN ?_ _ | refine blk_drew ?_ | refine blk_alloc ?_ _)); refine blk_far ?_ NB517_540.out _; (with_reducible repeat (first | refine blk_drewN ?_ _ | refine blk_drew ?_ | refine blk_alloc ?_ _)); exact BK517.out) hb); have n9_ := Aside0.mk (blk_below (g := gb533) (o := .cells #[.int .i64 t529, .slice Ao123 t530.length co123] 28 (0, 0)) (by (with_reducible repeat (first | refine blk_drewN ?_ _ | refine blk_drew ?_ | refine blk_alloc ?_ _)); refine blk_far ?_ NB533_540.out _; (with_reducible repeat (first | refine blk_drewN ?_ _ | refine blk_drew ?_ | refine blk_alloc ?_ _)); refine blk_far ?_ NB533_540.out _; (with_reducible repeat (first | refine blk_drewN ?_ _ | refine blk_drew ?_ | refine blk_alloc ?_ _)); exact BK533.out) hb); have n10_ := Aside0.mk (blk_below (g := gb540) (o := .cells #[.int .i64 t538, .int .i64 t539] 34 (0, 0)) (by (with_reducible repeat (first | refine blk_drewN ?_ _ | refine blk_drew ?_ | refine blk_alloc ?_ _)); refine blk_put (cs := #[.int .i64 t538, .int .i64 0]) ?_ 1 _ rfl; (with_reducible repeat (first | refine blk_drewN ?_ _ | refine blk_drew ?_ | refine blk_alloc ?_ _)); refine blk_put (cs := #[.int .i64 0, .int .i64 0]) ?_ 0 _ rfl; (with_reducible repeat (first | refine blk_drewN ?_ _ | refine blk_drew ?_ | refine blk_alloc ?_ _)); exact BK540.out) hb); have n11_ := Aside0.mk (below_step zb hb); clear HO_3; clear HO_251; clear HO532; clear BK501; clear BK506; clear BK513; clear BK516; clear BK517; clear BK533; clear BK540; clear HB; have HO_3 := n0_; have HO_251 := n1_; have HO532 := n2_; have HO544 := n3_; have BK501 := n4_; have BK506 := n5_; have BK513 := n6_; have BK516 := n7_; have BK517 := n8_; have BK533 := n9_; have BK540 := n10_; have HB := n11_; clear n0_ n1_ n2_ n3_ n4_ n5_ n6_ n7_ n8_ n9_ n10_ n11_; (try clear hb); (try clear hb2); (try clear hk); (try clear hi); (try clear ho0)) | ((with_reducible refine gate_dst (N := 14) rfl ?_); refine box_event ?hg (N := 14) ?hd (cs := #[.int .i64 0, .slice none 0 0]) (t := 28) ?hr ?_; (case hd => rfl); (case hg => rfl); (case hr => first | (go_simp; done) | (go_simp; rfl)); intro gb545 hg w139 hbox hb; have n0_ := Aside0.mk (Kd.R_below (by (with_reducible repeat (first | apply Kd.R_alloc | apply Kd.R_drewN | apply Kd.R_drew)); exact HO_3.out) hb); have n1_ := Aside0.mk (Kd.R_below (by (with_reducible repeat (first | apply Kd.R_alloc | apply Kd.R_drewN | apply Kd.R_drew)); exact HO_251.out) hb); have n2_ := Aside0.mk (Kd.R_below (by (with_reducible repeat (first | apply Kd.R_alloc | apply Kd.R_drewN | apply Kd.R_drew)); exact HO532.out) hb); have n3_ := Aside0.mk (Kd.R_below (by (with_reducible repeat (first | apply Kd.R_alloc | apply Kd.R_drewN | apply Kd.R_drew)); exact HO544.out) hb); have n4_ := Aside0.mk (blk_below (g := gb501) (o := .cells #[.int .i64 t497, .int .i64 t498] 32 (0, 0)) zk hb); have n5_ := Aside0.mk (blk_below (g := gb506) (o := .cells #[.int .i64 t502, .slice Ao18 t503.length co18] 28 (0, 0)) zk hb); have n6_ := Aside0.mk (blk_below (g := gb513) (o := .cells #[.int .i64 t511, .int .i64 t512] 34 (0, 0)) zk hb); have n7_ := Aside0.mk (blk_below (g := gb516) (o := .cells #[.int .i64 t514, .int .i64 t515] 34 (0, 0)) zk hb); have n8_ := Aside0.mk (blk_below (g := gb517) (o := .cells #[.int .i64 t497, .int .i64 (wrap64 ((Int.tmod t498 900) + 1))] 32 (0, 0)) zk hb); have n9_ := Aside0.mk (blk_below (g := gb533) (o := .cells #[.int .i64 t529, .slice Ao123 t530.length co123] 28 (0, 0)) zk hb); have n10_ := Aside0.mk (blk_below (g := gb540) (o := .cells #[.int .i64 t538, .int .i64 t539] 34 (0, 0)) zk hb); have n11_ := Aside0.mk (below_step zb hb); have n12_ := Aside0.mk (hbox); have n13_ := Aside0.mk ((by rw [hg]; exact (below_size zb) : w.heap.size ≤ gb545)); have n14_ := n13_; have n15_ := Aside0.mk ((by rw [hg]; exact Nat.ne_of_lt (blk_lt (g := gb501) (o := .cells #[.int .i64 t497, .int .i64 t498] 32 (0, 0)) zk) : gb501 ≠ gb545)); have n16_ := Aside0.mk ((by rw [hg]; exact Nat.ne_of_gt (blk_lt (g := gb501) (o := .cells #[.int .i64 t497, .int .i64 t498] 32 (0, 0)) zk) : gb545 ≠ gb501)); have n17_ := Aside0.mk ((by rw [hg]; exact Nat.ne_of_lt (blk_lt (g := gb506) (o := .cells #[.int .i64 t502, .slice Ao18 t503.length co18] 28 (0, 0)) zk) : gb506 ≠ gb545)); have n18_ := Aside0.mk ((by rw [hg]; exact Nat.ne_of_gt (blk_lt (g := gb506) (o := .cells #[.int .i64 t502, .slice Ao18 t503.length co18] 28 (0, 0)) zk) : gb545 ≠ gb506)); have n19_ := Aside0.mk ((by rw [hg]; exact Nat.ne_of_lt (blk_lt (g := gb513) (o := .cells #[.int .i64 t511, .int .i64 t512] 34 (0, 0)) zk) : gb513 ≠ gb545)); have n20_ := Aside0.mk ((by rw [hg]; exact Nat.ne_of_gt (blk_lt (g := gb513) (o := .cells #[.int .i64 t511, .int .i64 t512] 34 (0, 0)) zk) : gb545 ≠ gb513)); have n21_ := Aside0.mk ((by rw [hg]; exact Nat.ne_of_lt (blk_lt (g := gb516) (o := .cells #[.int .i64 t514, .int .i64 t515] 34 (0, 0)) zk) : gb516 ≠ gb545)); have n22_ := Aside0.mk ((by rw [hg]; exact Nat.ne_of_gt (blk_lt (g := gb516) (o := .cells #[.int .i64 t514, .int .i64 t515] 34 (0, 0)) zk) : gb545 ≠ gb516)); have n23_ := Aside0.mk ((by rw [hg]; exact Nat.ne_of_lt (blk_lt (g := gb517) (o := .cells #[.int .i64 t497, .int .i64 (wrap64 ((Int.tmod t498 900) + 1))] 32 (0, 0)) zk) : gb517 ≠ gb545)); have n24_ := Aside0.mk ((by rw [hg]; exact Nat.ne_of_gt (blk_lt (g := gb517) (o := .cells #[.int .i64 t497, .int .i64 (wrap64 ((Int.tmod t498 900) + 1))] 32 (0, 0)) zk) : gb545 ≠ gb517)); have n25_ := Aside0.mk ((by rw [hg]; exact Nat.ne_of_lt (blk_lt (g := gb533) (o := .cells #[.int .i64 t529, .slice Ao123 t530.length co123] 28 (0, 0)) zk) : gb533 ≠ gb545)); have n26_ := Aside0.mk ((by rw [hg]; exact Nat.ne_of_gt (blk_lt (g := gb533) (o := .cells #[.int .i64 t529, .slice Ao123 t530.length co123] 28 (0, 0)) zk) : gb545 ≠ gb533)); have n27_ := Aside0.mk ((by rw [hg]; exact Nat.ne_of_lt (blk_lt (g := gb540) (o := .cells #[.int .i64 t538, .int .i64 t539] 34 (0, 0)) zk) : gb540 ≠ gb545)); have n28_ := Aside0.mk ((by rw [hg]; exact Nat.ne_of_gt (blk_lt (g := gb540) (o := .cells #[.int .i64 t538, .int .i64 t539] 34 (0, 0)) zk) : gb545 ≠ gb540)); clear HO_3; clear HO_251; clear HO532; clear HO544; clear BK501; clear BK506; clear BK513; clear BK516; clear BK517; clear BK533; clear BK540; clear HB; have HO_3 := n0_; have HO_251 := n1_; have HO532 := n2_; have HO544 := n3_; have BK501 := n4_; have BK506 := n5_; have BK513 := n6_; have BK516 := n7_; have BK517 := n8_; have BK533 := n9_; have BK540 := n10_; have HB := n11_; have BK545 := n12_; have GW545 := n13_; have GE545 := n14_; have NB501_545 := n15_; have NB545_501 := n16_; have NB506_545 := n17_; have NB545_506 := n18_; have NB513_545 := n19_; have NB545_513 := n20_; have NB516_545 := n21_; have NB545_516 := n22_; have NB517_545 := n23_; have NB545_517 := n24_; have NB533_545 := n25_; have NB545_533 := n26_; have NB540_545 := n27_; have NB545_540 := n28_; clear n0_ n1_ n2_ n3_ n4_ n5_ n6_ n7_ n8_ n9_ n10_ n11_ n12_ n13_ n14_ n15_ n16_ n17_ n18_ n19_ n20_ n21_ n22_ n23_ n24_ n25_ n26_ n27_ n28_; clear hb hbox hg; have hnb140 := NB545_501.out; have hnc140 := NB501_545.out; have hnb141 := NB545_506.out; have hnc141 := NB506_545.out; have hnb142 := NB545_513.out; have hnc142 := NB513_545.out; have hnb143 := NB545_516.out; have hnc143 := NB516_545.out; have hnb144 := NB545_517.out; have hnc144 := NB517_545.out; have hnb145 := NB545_533.out; have hnc145 := NB533_545.out; have hnb146 := NB545_540.out; have hnc146 := NB540_545.out; obtain ⟨hcz147_0, hcz147_1, hfz147_0, hfz147_1⟩ := Lv.blks2 BK545.out; obtain ⟨Ao148, co148, eo148⟩ := Kd.R_slice HO544.out; subst eo148))
           have n0_ : Aside0 (Kd.R k51 51 ((w139.setCell ⟨gb545, 0, none⟩ (.int .i64 t541)).setCell ⟨gb545, 1, none⟩ (.slice Ao148 t542.length co148)) w.heap.size (fun k_ => some k_ ≠ (.slice Ao18 t503.length co18 : Value).ownBlock ∧ some k_ ≠ (.slice Ao123 t530.length co123 : Value).ownBlock ∧ some k_ ≠ (.slice Ao148 t542.length co148 : Value).ownBlock) (.slice Ao13 t494.length co13) t494) := ⟨by (with_reducible repeat (first | apply Kd.R_alloc | apply Kd.R_drewN | apply Kd.R_drew)); exact Kd.R_mono (Kd.R_far (p := ⟨gb545, 1, none⟩) (Kd.R_far (p := ⟨gb545, 0, none⟩) (Kd.R_types HO_3.out BK545.out (by decide)) (fun _ hk => hk.2) (.int .i64 t541)) (fun _ hk => hk.2) (.slice Ao148 t542.length co148)) (fun _ hk => ⟨hk.1.1.1, ⟨hk.1.1.2, hk.1.2⟩⟩)⟩
           have n1_ : Aside0 (Kd.R k51 51 ((w139.setCell ⟨gb545, 0, none⟩ (.int .i64 t541)).setCell ⟨gb545, 1, none⟩ (.slice Ao148 t542.length co148)) w.heap.size (fun k_ => some k_ ≠ (.slice Ao13 t494.length co13 : Value).ownBlock ∧ some k_ ≠ (.slice Ao123 t530.length co123 : Value).ownBlock ∧ some k_ ≠ (.slice Ao148 t542.length co148 : Value).ownBlock) (.slice Ao18 t503.length co18) t503) := ⟨by (with_reducible repeat (first | apply Kd.R_alloc | apply Kd.R_drewN | apply Kd.R_drew)); exact Kd.R_mono (Kd.R_far (p := ⟨gb545, 1, none⟩) (Kd.R_far (p := ⟨gb545, 0, none⟩) (Kd.R_types HO_251.out BK545.out (by decide)) (fun _ hk => hk.2) (.int .i64 t541)) (fun _ hk => hk.2) (.slice Ao148 t542.length co148)) (fun _ hk => ⟨hk.1.1.1, ⟨hk.1.1.2, hk.1.2⟩⟩)⟩
           have n2_ : Aside0 (Kd.R k51 51 ((w139.setCell ⟨gb545, 0, none⟩ (.int .i64 t541)).setCell ⟨gb545, 1, none⟩ (.slice Ao148 t542.length co148)) w.heap.size (fun k_ => some k_ ≠ (.slice Ao13 t494.length co13 : Value).ownBlock ∧ some k_ ≠ (.slice Ao18 t503.length co18 : Value).ownBlock ∧ some k_ ≠ (.slice Ao148 t542.length co148 : Value).ownBlock) (.slice Ao123 t530.length co123) t530) := ⟨by (with_reducible repeat (first | apply Kd.R_alloc | apply Kd.R_drewN | apply Kd.R_drew)); exact Kd.R_mono (Kd.R_far (p := ⟨gb545, 1, none⟩) (Kd.R_far (p := ⟨gb545, 0, none⟩) (Kd.R_types HO532.out BK545.out (by decide)) (fun _ hk => hk.2) (.int .i64 t541)) (fun _ hk => hk.2) (.slice Ao148 t542.length co148)) (fun _ hk => ⟨hk.1.1.1.2, ⟨hk.1.1.2, hk.1.2⟩⟩)⟩
           have n3_ : Aside0 (Kd.R k51 51 ((w139.setCell ⟨gb545, 0, none⟩ (.int .i64 t541)).setCell ⟨gb545, 1, none⟩ (.slice Ao148 t542.length co148)) w.heap.size (fun k_ => some k_ ≠ (.slice Ao13 t494.length co13 : Value).ownBlock ∧ some k_ ≠ (.slice Ao18 t503.length co18 : Value).ownBlock ∧ some k_ ≠ (.slice Ao123 t530.length co123 : Value).ownBlock) (.slice Ao148 t542.length co148) t542) := ⟨by (with_reducible repeat (first | apply Kd.R_alloc | apply Kd.R_drewN | apply Kd.R_drew)); exact Kd.R_mono (Kd.R_far (p := ⟨gb545, 1, none⟩) (Kd.R_far (p := ⟨gb545, 0, none⟩) (Kd.R_types HO544.out BK545.out (by decide)) (fun _ hk => hk.2) (.int .i64 t541)) (fun _ hk => hk.2) (.slice Ao148 t542.length co148)) (fun _ hk => ⟨hk.1.1.1.2, ⟨hk.1.1.2, hk.1.2⟩⟩)⟩
           have n4_ : Aside0 (((w139.setCell ⟨gb545, 0, none⟩ (.int .i64 t541)).setCell ⟨gb545, 1, none⟩ (.slice Ao148 t542.length co148)).heap[gb501]? = some (.cells #[.int .i64 t497, .int .i64 t498] 32 (0, 0))) := ⟨by (with_reducible repeat (first | refine blk_drewN ?_ _ | refine blk_drew ?_ | refine blk_alloc ?_ _)); refine blk_far ?_ NB501_545.out _; (with_reducible repeat (first | refine blk_drewN ?_ _ | refine blk_drew ?_ | refine blk_alloc ?_ _)); refine blk_far ?_ NB501_545.out _; (with_reducible repeat (first | refine blk_drewN ?_ _ | refine blk_drew ?_ | refine blk_alloc ?_ _)); exact BK501.out⟩
           have n5_ : Aside0 (((w139.setCell ⟨gb545, 0, none⟩ (.int .i64 t541)).setCell ⟨gb545, 1, none⟩ (.slice Ao148 t542.length co148)).heap[gb506]? = some (.cells #[.int .i64 t502, .slice Ao18 t503.length co18] 28 (0, 0))) := ⟨by (with_reducible repeat (first | refine blk_drewN ?_ _ | refine blk_drew ?_ | refine blk_alloc ?_ _)); refine blk_far ?_ NB506_545.out _; (with_reducible repeat (first | refine blk_drewN ?_ _ | refine blk_drew ?_ | refine blk_alloc ?_ _)); refine blk_far ?_ NB506_545.out _; (with_reducible repeat (first | refine blk_drewN ?_ _ | refine blk_drew ?_ | refine blk_alloc ?_ _)); exact BK506.out⟩
           have n6_ : Aside0 (((w139.setCell ⟨gb545, 0, none⟩ (.int .i64 t541)).setCell ⟨gb545, 1, none⟩ (.slice Ao148 t542.length co148)).heap[gb513]? = some (.cells #[.int .i64 t511, .int .i64 t512] 34 (0, 0))) := ⟨by (with_reducible repeat (first | refine blk_drewN ?_ _ | refine blk_drew ?_ | refine blk_alloc ?_ _)); refine blk_far ?_ NB513_545.out _; (with_reducible repeat (first | refine blk_drewN ?_ _ | refine blk_drew ?_ | refine blk_alloc ?_ _)); refine blk_far ?_ NB513_545.out _; (with_reducible repeat (first | refine blk_drewN ?_ _ | refine blk_drew ?_ | refine blk_alloc ?_ _)); exact BK513.out⟩
           have n7_ : Aside0 (((w139.setCell ⟨gb545, 0, none⟩ (.int .i64 t541)).setCell ⟨gb545, 1, none⟩ (.slice Ao148 t542.length co148)).heap[gb516]? = some (.cells #[.int .i64 t514, .int .i64 t515] 34 (0, 0))) := ⟨by (with_reducible repeat (first | refine blk_drewN ?_ _ | refine blk_drew ?_ | refine blk_alloc ?_ _)); refine blk_far ?_ NB516_545.out _; (with_reducible repeat (first | refine blk_drewN ?_ _ | refine blk_drew ?_ | refine blk_alloc ?_ _)); refine blk_far ?_ NB516_545.out _; (with_reducible repeat (first | refine blk_drewN ?_ _ | refine blk_drew ?_ | refine blk_alloc ?_ _)); exact BK516.out⟩
           have n8_ : Aside0 (((w139.setCell ⟨gb545, 0, none⟩ (.int .i64 t541)).setCell ⟨gb545, 1, none⟩ (.slice Ao148 t542.length co148)).heap[gb517]? = some (.cells #[.int .i64 t497, .int .i64 (wrap64 ((Int.tmod t498 900) + 1))] 32 (0, 0))) := ⟨by (with_reducible repeat (first | refine blk_drewN ?_ _ | refine blk_drew ?_ | refine blk_alloc ?_ _)); refine blk_far ?_ NB517_545.out _; (with_reducible repeat (first | refine blk_drewN ?_ _ | refine blk_drew ?_ | refine blk_alloc ?_ _)); refine blk_far ?_ NB517_545.out _; (with_reducible repeat (first | refine blk_drewN ?_ _ | refine blk_drew ?_ | refine blk_alloc ?_ _)); exact BK517.out⟩
           have n9_ : Aside0 (((w139.setCell ⟨gb545, 0, none⟩ (.int .i64 t541)).setCell ⟨gb545, 1, none⟩ (.slice Ao148 t542.length co148)).heap[gb533]? = some (.cells #[.int .i64 t529, .slice Ao123 t530.length co123] 28 (0, 0))) := ⟨by (with_reducible repeat (first | refine blk_drewN ?_ _ | refine blk_drew ?_ | refine blk_alloc ?_ _)); refine blk_far ?_ NB533_545.out _; (with_reducible repeat (first | refine blk_drewN ?_ _ | refine blk_drew ?_ | refine blk_alloc ?_ _)); refine blk_far ?_ NB533_545.out _; (with_reducible repeat (first | refine blk_drewN ?_ _ | refine blk_drew ?_ | refine blk_alloc ?_ _)); exact BK533.out⟩
           have n10_ : Aside0 (((w139.setCell ⟨gb545, 0, none⟩ (.int .i64 t541)).setCell ⟨gb545, 1, none⟩ (.slice Ao148 t542.length co148)).heap[gb540]? = some (.cells #[.int .i64 t538, .int .i64 t539] 34 (0, 0))) := ⟨by (with_reducible repeat (first | refine blk_drewN ?_ _ | refine blk_drew ?_ | refine blk_alloc ?_ _)); refine blk_far ?_ NB540_545.out _; (with_reducible repeat (first | refine blk_drewN ?_ _ | refine blk_drew ?_ | refine blk_alloc ?_ _)); refine blk_far ?_ NB540_545.out _; (with_reducible repeat (first | refine blk_drewN ?_ _ | refine blk_drew ?_ | refine blk_alloc ?_ _)); exact BK540.out⟩
           have n11_ : Aside0 (((w139.setCell ⟨gb545, 0, none⟩ (.int .i64 t541)).setCell ⟨gb545, 1, none⟩ (.slice Ao148 t542.length co148)).heap[gb545]? = some (.cells #[.int .i64 t541, .slice Ao148 t542.length co148] 28 (0, 0))) := ⟨by (with_reducible repeat (first | refine blk_drewN ?_ _ | refine blk_drew ?_ | refine blk_alloc ?_ _)); refine blk_put (cs := #[.int .i64 t541, .slice none 0 0]) ?_ 1 _ rfl; (with_reducible repeat (first | refine blk_drewN ?_ _ | refine blk_drew ?_ | refine blk_alloc ?_ _)); refine blk_put (cs := #[.int .i64 0, .slice none 0 0]) ?_ 0 _ rfl; (with_reducible repeat (first | refine blk_drewN ?_ _ | refine blk_drew ?_ | refine blk_alloc ?_ _)); exact BK545.out⟩
           have n12_ : Aside0 (Below w.heap.size w ((w139.setCell ⟨gb545, 0, none⟩ (.int .i64 t541)).setCell ⟨gb545, 1, none⟩ (.slice Ao148 t542.length co148))) := ⟨zb⟩
           (try clear HO_3)
           (try clear HO_251)
           (try clear HO532)
           (try clear HO544)
           (try clear BK501)
           (try clear BK506)
           (try clear BK513)
           (try clear BK516)
           (try clear BK517)
           (try clear BK533)
           (try clear BK540)
           (try clear BK545)
           (try clear HB)
           generalize ((w139.setCell ⟨gb545, 0, none⟩ (.int .i64 t541)).setCell ⟨gb545, 1, none⟩ (.slice Ao148 t542.length co148)) = w149 at n0_ n1_ n2_ n3_ n4_ n5_ n6_ n7_ n8_ n9_ n10_ n11_ n12_ ⊢
           have HO_3 := n0_
           have HO_251 := n1_
           have HO532 := n2_
           have HO544 := n3_
           have BK501 := n4_
           have BK506 := n5_
           have BK513 := n6_
           have BK516 := n7_
           have BK517 := n8_
           have BK533 := n9_
           have BK540 := n10_
           have BK545 := n11_
           have HB := n12_
           clear n0_ n1_ n2_ n3_ n4_ n5_ n6_ n7_ n8_ n9_ n10_ n11_ n12_
           have n0_ := Aside0.mk (Kd.R_drew HO_3.out)
           have n1_ := Aside0.mk (Kd.R_drew HO_251.out)
           have n2_ := Aside0.mk (Kd.R_drew HO532.out)
           have n3_ := Aside0.mk (Kd.R_drew HO544.out)
           have n4_ := Aside0.mk (blk_drew BK501.out)
           have n5_ := Aside0.mk (blk_drew BK506.out)
           have n6_ := Aside0.mk (blk_drew BK513.out)
           have n7_ := Aside0.mk (blk_drew BK516.out)
           have n8_ := Aside0.mk (blk_drew BK517.out)
           have n9_ := Aside0.mk (blk_drew BK533.out)
           have n10_ := Aside0.mk (blk_drew BK540.out)
           have n11_ := Aside0.mk (blk_drew BK545.out)
           have n12_ := Aside0.mk (below_drew1 HB.out)
           clear HO_3 HO_251 HO532 HO544 BK501 BK506 BK513 BK516 BK517 BK533 BK540 BK545 HB
           have HO_3 := n0_
           have HO_251 := n1_
           have HO532 := n2_
           have HO544 := n3_
           have BK501 := n4_
           have BK506 := n5_
           have BK513 := n6_
           have BK516 := n7_
           have BK517 := n8_
           have BK533 := n9_
           have BK540 := n10_
           have BK545 := n11_
           have HB := n12_
           clear n0_ n1_ n2_ n3_ n4_ n5_ n6_ n7_ n8_ n9_ n10_ n11_ n12_
           refine start_ (n := 53) (S := fun w' => w'.cell? ⟨gb533, 0, none⟩ = some (.int .i64 t529) ∧ w'.cell? ⟨gb533, 1, none⟩ = some (.slice Ao123 t530.length co123) ∧ w'.cell? ⟨gb517, 0, none⟩ = some (.int .i64 t497) ∧ w'.cell? ⟨gb517, 1, none⟩ = some (.int .i64 (wrap64 ((Int.tmod t498 900) + 1))) ∧ w'.cell? ⟨gb540, 0, none⟩ = some (.int .i64 t538) ∧ w'.cell? ⟨gb540, 1, none⟩ = some (.int .i64 t539) ∧ w'.cell? ⟨gb545, 0, none⟩ = some (.int .i64 t541) ∧ w'.cell? ⟨gb545, 1, none⟩ = some (.slice Ao148 t542.length co148)) (ds := []) #[false, false, false, false, false, false, false, false, false, false, false, false, false, false, false, false, false, false, false, false, false, false, false, false, false, false, false, false, false, false, false, false, false, false, false, false, false, false, false, false, false, false, false, false, false, false, false, false, false, false, false, false, false] (by kernel_rfl) rfl rfl ⟨(blk_cell BK533.out 0).trans rfl, (blk_cell BK533.out 1).trans rfl, (blk_cell BK517.out 0).trans rfl, (blk_cell BK517.out 1).trans rfl, (blk_cell BK540.out 0).trans rfl, (blk_cell BK540.out 1).trans rfl, (blk_cell BK545.out 0).trans rfl, (blk_cell BK545.out 1).trans rfl⟩ (fun hHeld => ?_); refine with_tabW laws_FnChains.tab18 laws_FnChains.bits18 (fun HT_ HW_ => ?_)
           generalize w149.drew = w150 at HO_3 HO_251 HO532 HO544 BK501 BK506 BK513 BK516 BK517 BK533 BK540 BK545 HB hHeld ⊢
           refine zp 0 134 ?_; refine zp 4 138 ?_; refine zt 1 135 ?_; refine zt 2 136 ?_; refine zt 5 139 ?_
           refine one_ (i := 3) (N := some 137) #[true, true, true, true, true, true, false, false, false, false, false, false, false, false, false, false, false, false, false, false, false, false, false, false, false, false, false, false, false, false, false, false, false, false, false, false, false, false, false, false, false, false, false, false, false, false, false, false, false, false, false, false, false] rfl rfl (one_of HT_.out (by kernel_rfl)) (by decide) (fun K hK => ?_)
           refine goes_ Try.func10 (by kernel_rfl) rfl #[.slice Ao123 t530.length co123, .agg #[.int .i64 t497, .int .i64 (wrap64 ((Int.tmod t498 900) + 1))]] (by rfl) rfl rfl zm ?_
           with_reducible refine (impl_SeenIn.calls kj8 _ _ t530 t497 (wrap64 ((Int.tmod t498 900) + 1)) t546 t547 _ ?side1 ?side2 A94.out).mono ?_
           (case side1 => repeat (first | exact (Kd.R_reads' HO532.out).2.2 | (with_reducible first | refine Kd.C_alloc ?_ _ | refine Kd.C_drewN ?_ _ | refine Kd.C_drew ?_)))
           (case side2 => exact (Kd.R_reads' HO532.out).2.1)
           rintro e w151 ⟨rfl, hb⟩
           refine ⟨_, rfl, ?_⟩
           have n0_ := Aside0.mk (Kd.R_below (by (with_reducible repeat (first | apply Kd.R_alloc | apply Kd.R_drewN | apply Kd.R_drew)); exact HO_3.out) hb)
           have n1_ := Aside0.mk (Kd.R_below (by (with_reducible repeat (first | apply Kd.R_alloc | apply Kd.R_drewN | apply Kd.R_drew)); exact HO_251.out) hb)
           have n2_ := Aside0.mk (Kd.R_below (by (with_reducible repeat (first | apply Kd.R_alloc | apply Kd.R_drewN | apply Kd.R_drew)); exact HO532.out) hb)
           have n3_ := Aside0.mk (Kd.R_below (by (with_reducible repeat (first | apply Kd.R_alloc | apply Kd.R_drewN | apply Kd.R_drew)); exact HO544.out) hb)
           have n4_ := Aside0.mk (blk_below (g := gb501) (o := .cells #[.int .i64 t497, .int .i64 t498] 32 (0, 0)) zk hb)
           have n5_ := Aside0.mk (blk_below (g := gb506) (o := .cells #[.int .i64 t502, .slice Ao18 t503.length co18] 28 (0, 0)) zk hb)
           have n6_ := Aside0.mk (blk_below (g := gb513) (o := .cells #[.int .i64 t511, .int .i64 t512] 34 (0, 0)) zk hb)
           have n7_ := Aside0.mk (blk_below (g := gb516) (o := .cells #[.int .i64 t514, .int .i64 t515] 34 (0, 0)) zk hb)
           have n8_ := Aside0.mk (blk_below (g := gb517) (o := .cells #[.int .i64 t497, .int .i64 (wrap64 ((Int.tmod t498 900) + 1))] 32 (0, 0)) zk hb)
           have n9_ := Aside0.mk (blk_below (g := gb533) (o := .cells #[.int .i64 t529, .slice Ao123 t530.length co123] 28 (0, 0)) zk hb)
           have n10_ := Aside0.mk (blk_below (g := gb540) (o := .cells #[.int .i64 t538, .int .i64 t539] 34 (0, 0)) zk hb)
           have n11_ := Aside0.mk (blk_below (g := gb545) (o := .cells #[.int .i64 t541, .slice Ao148 t542.length co148] 28 (0, 0)) zk hb)
           have n12_ := Aside0.mk (below_step zb hb)
           clear HO_3 HO_251 HO532 HO544 BK501 BK506 BK513 BK516 BK517 BK533 BK540 BK545 HB
           have HO_3 := n0_
           have HO_251 := n1_
           have HO532 := n2_
           have HO544 := n3_
           have BK501 := n4_
           have BK506 := n5_
           have BK513 := n6_
           have BK516 := n7_
           have BK517 := n8_
           have BK533 := n9_
           have BK540 := n10_
           have BK545 := n11_
           have HB := n12_
           clear n0_ n1_ n2_ n3_ n4_ n5_ n6_ n7_ n8_ n9_ n10_ n11_ n12_
           (try clear hb)
           (try clear hb2)
           (try clear hk)
           (try clear hi)
           refine hK.out _ _ ⟨(blk_cell BK533.out 0).trans rfl, (blk_cell BK533.out 1).trans rfl, (blk_cell BK517.out 0).trans rfl, (blk_cell BK517.out 1).trans rfl, (blk_cell BK540.out 0).trans rfl, (blk_cell BK540.out 1).trans rfl, (blk_cell BK545.out 0).trans rfl, (blk_cell BK545.out 1).trans rfl⟩ (fun hHeld => ?_)
           clear hK K
           refine norm_ (a' := ?_) ?_ ?_
           rotate_left
           ·show Act.put _ (some 137) _ = _
            simp only [Act.put, List.setIfInBounds_toArray, List.set_cons_zero, List.set_cons_succ, i64_w, i32_w]
            rfl
           refine one_ (i := 6) (N := some 140) #[true, true, true, true, true, true, true, false, false, false, false, false, false, false, false, false, false, false, false, false, false, false, false, false, false, false, false, false, false, false, false, false, false, false, false, false, false, false, false, false, false, false, false, false, false, false, false, false, false, false, false, false, false] rfl rfl (one_of HT_.out (by kernel_rfl)) (by decide) (fun K hK => ?_)
           refine goes_ Try.func10 (by kernel_rfl) rfl #[.slice Ao13 t494.length co13, .agg #[.int .i64 t497, .int .i64 (wrap64 ((Int.tmod t498 900) + 1))]] (by rfl) rfl rfl zm ?_
           with_reducible refine (impl_SeenIn.calls kj8 _ _ t494 t497 (wrap64 ((Int.tmod t498 900) + 1)) t548 t549 _ ?side1 ?side2 A95.out).mono ?_
           (case side1 => repeat (first | exact (Kd.R_reads' HO_3.out).2.2 | (with_reducible first | refine Kd.C_alloc ?_ _ | refine Kd.C_drewN ?_ _ | refine Kd.C_drew ?_)))
           (case side2 => exact (Kd.R_reads' HO_3.out).2.1)
           rintro e w152 ⟨rfl, hb⟩
           refine ⟨_, rfl, ?_⟩
           have n0_ := Aside0.mk (Kd.R_below (by (with_reducible repeat (first | apply Kd.R_alloc | apply Kd.R_drewN | apply Kd.R_drew)); exact HO_3.out) hb)
           have n1_ := Aside0.mk (Kd.R_below (by (with_reducible repeat (first | apply Kd.R_alloc | apply Kd.R_drewN | apply Kd.R_drew)); exact HO_251.out) hb)
           have n2_ := Aside0.mk (Kd.R_below (by (with_reducible repeat (first | apply Kd.R_alloc | apply Kd.R_drewN | apply Kd.R_drew)); exact HO532.out) hb)
           have n3_ := Aside0.mk (Kd.R_below (by (with_reducible repeat (first | apply Kd.R_alloc | apply Kd.R_drewN | apply Kd.R_drew)); exact HO544.out) hb)
           have n4_ := Aside0.mk (blk_below (g := gb501) (o := .cells #[.int .i64 t497, .int .i64 t498] 32 (0, 0)) zk hb)
           have n5_ := Aside0.mk (blk_below (g := gb506) (o := .cells #[.int .i64 t502, .slice Ao18 t503.length co18] 28 (0, 0)) zk hb)
           have n6_ := Aside0.mk (blk_below (g := gb513) (o := .cells #[.int .i64 t511, .int .i64 t512] 34 (0, 0)) zk hb)
           have n7_ := Aside0.mk (blk_below (g := gb516) (o := .cells #[.int .i64 t514, .int .i64 t515] 34 (0, 0)) zk hb)
           have n8_ := Aside0.mk (blk_below (g := gb517) (o := .cells #[.int .i64 t497, .int .i64 (wrap64 ((Int.tmod t498 900) + 1))] 32 (0, 0)) zk hb)
           have n9_ := Aside0.mk (blk_below (g := gb533) (o := .cells #[.int .i64 t529, .slice Ao123 t530.length co123] 28 (0, 0)) zk hb)
           have n10_ := Aside0.mk (blk_below (g := gb540) (o := .cells #[.int .i64 t538, .int .i64 t539] 34 (0, 0)) zk hb)
           have n11_ := Aside0.mk (blk_below (g := gb545) (o := .cells #[.int .i64 t541, .slice Ao148 t542.length co148] 28 (0, 0)) zk hb)
           have n12_ := Aside0.mk (below_step zb hb)
           clear HO_3 HO_251 HO532 HO544 BK501 BK506 BK513 BK516 BK517 BK533 BK540 BK545 HB
           have HO_3 := n0_
           have HO_251 := n1_
           have HO532 := n2_
           have HO544 := n3_
           have BK501 := n4_
           have BK506 := n5_
           have BK513 := n6_
           have BK516 := n7_
           have BK517 := n8_
           have BK533 := n9_
           have BK540 := n10_
           have BK545 := n11_
           have HB := n12_
           clear n0_ n1_ n2_ n3_ n4_ n5_ n6_ n7_ n8_ n9_ n10_ n11_ n12_
           (try clear hb)
           (try clear hb2)
           (try clear hk)
           (try clear hi)
           refine hK.out _ _ ⟨(blk_cell BK533.out 0).trans rfl, (blk_cell BK533.out 1).trans rfl, (blk_cell BK517.out 0).trans rfl, (blk_cell BK517.out 1).trans rfl, (blk_cell BK540.out 0).trans rfl, (blk_cell BK540.out 1).trans rfl, (blk_cell BK545.out 0).trans rfl, (blk_cell BK545.out 1).trans rfl⟩ (fun hHeld => ?_)
           clear hK K
           refine norm_ (a' := ?_) ?_ ?_
           rotate_left
           ·show Act.put _ (some 140) _ = _
            simp only [Act.put, List.setIfInBounds_toArray, List.set_cons_zero, List.set_cons_succ, i64_w, i32_w]
            rfl
           refine zp 7 141 ?_; refine zp 8 142 ?_; refine zp 9 143 ?_; refine zp 10 144 ?_; refine zt 11 145 ?_; refine zp 12 146 ?_; refine zp 13 147 ?_; refine zp 14 148 ?_; refine zp 15 149 ?_; refine zp 16 150 ?_; refine zp 17 151 ?_
           refine pure_ (i := 18) (N := some 152) (v := undef) (a' := ?_) #[true, true, true, true, true, true, true, true, true, true, true, true, true, true, true, true, true, true, true, false, false, false, false, false, false, false, false, false, false, false, false, false, false, false, false, false, false, false, false, false, false, false, false, false, false, false, false, false, false, false, false, false, false] rfl rfl (any_of HT_.out (by kernel_rfl)) (fun _ _ _ h => h) (Or.inr ⟨by rfl, rfl⟩) ?_ ?_
           rotate_left
           ·simp only [Act.put, List.setIfInBounds_toArray, List.set_cons_zero, List.set_cons_succ, i64_w, i32_w]
            rfl
           refine pure_ (i := 19) (N := some 153) (v := undef) (a' := ?_) #[true, true, true, true, true, true, true, true, true, true, true, true, true, true, true, true, true, true, true, true, false, false, false, false, false, false, false, false, false, false, false, false, false, false, false, false, false, false, false, false, false, false, false, false, false, false, false, false, false, false, false, false, false] rfl rfl (any_of HT_.out (by kernel_rfl)) (fun _ _ _ h => h) (Or.inr ⟨by rfl, rfl⟩) ?_ ?_
           rotate_left
           ·simp only [Act.put, List.setIfInBounds_toArray, List.set_cons_zero, List.set_cons_succ, i64_w, i32_w]
            rfl
           refine pure_ (i := 20) (N := some 154) (v := undef) (a' := ?_) #[true, true, true, true, true, true, true, true, true, true, true, true, true, true, true, true, true, true, true, true, true, false, false, false, false, false, false, false, false, false, false, false, false, false, false, false, false, false, false, false, false, false, false, false, false, false, false, false, false, false, false, false, false] rfl rfl (any_of HT_.out (by kernel_rfl)) (fun _ _ _ h => h) (Or.inr ⟨by rfl, rfl⟩) ?_ ?_
           rotate_left
           ·simp only [Act.put, List.setIfInBounds_toArray, List.set_cons_zero, List.set_cons_succ, i64_w, i32_w]
            rfl
           refine pure_ (i := 21) (N := some 155) (v := undef) (a' := ?_) #[true, true, true, true, true, true, true, true, true, true, true, true, true, true, true, true, true, true, true, true, true, true, false, false, false, false, false, false, false, false, false, false, false, false, false, false, false, false, false, false, false, false, false, false, false, false, false, false, false, false, false, false, false] rfl rfl (any_of HT_.out (by kernel_rfl)) (fun _ _ _ h => h) (Or.inr ⟨by rfl, rfl⟩) ?_ ?_
           rotate_left
           ·simp only [Act.put, List.setIfInBounds_toArray, List.set_cons_zero, List.set_cons_succ, i64_w, i32_w]
            rfl
           refine zp 22 156 ?_; refine zp 23 157 ?_; refine zp 24 158 ?_; refine zp 25 159 ?_; refine zt 26 160 ?_; refine zt 27 161 ?_
           refine one_ (i := 28) (N := some 162) #[true, true, true, true, true, true, true, true, true, true, true, true, true, true, true, true, true, true, true, true, true, true, true, true, true, true, true, true, true, false, false, false, false, false, false, false, false, false, false, false, false, false, false, false, false, false, false, false, false, false, false, false, false] rfl rfl (one_of HT_.out (by kernel_rfl)) (by decide) (fun K hK => ?_)
           refine goes_ Try.func11 (by kernel_rfl) rfl #[.slice Ao123 t530.length co123, .agg #[.int .i64 t497, .int .i64 (wrap64 ((Int.tmod t498 900) + 1))]] (by rfl) rfl rfl zm ?_
           with_reducible refine (impl_MayWrite.calls kj8 _ _ t530 t497 (wrap64 ((Int.tmod t498 900) + 1)) t550 _ ?side1 ?side2 A99.out).mono ?_
           (case side1 => repeat (first | exact (Kd.R_reads' HO532.out).2.2 | (with_reducible first | refine Kd.C_alloc ?_ _ | refine Kd.C_drewN ?_ _ | refine Kd.C_drew ?_)))
           (case side2 => exact (Kd.R_reads' HO532.out).2.1)
           rintro e w153 ⟨rfl, hb⟩
           refine ⟨_, rfl, ?_⟩
           have n0_ := Aside0.mk (Kd.R_below (by (with_reducible repeat (first | apply Kd.R_alloc | apply Kd.R_drewN | apply Kd.R_drew)); exact HO_3.out) hb)
           have n1_ := Aside0.mk (Kd.R_below (by (with_reducible repeat (first | apply Kd.R_alloc | apply Kd.R_drewN | apply Kd.R_drew)); exact HO_251.out) hb)
           have n2_ := Aside0.mk (Kd.R_below (by (with_reducible repeat (first | apply Kd.R_alloc | apply Kd.R_drewN | apply Kd.R_drew)); exact HO532.out) hb)
           have n3_ := Aside0.mk (Kd.R_below (by (with_reducible repeat (first | apply Kd.R_alloc | apply Kd.R_drewN | apply Kd.R_drew)); exact HO544.out) hb)
           have n4_ := Aside0.mk (blk_below (g := gb501) (o := .cells #[.int .i64 t497, .int .i64 t498] 32 (0, 0)) zk hb)
           have n5_ := Aside0.mk (blk_below (g := gb506) (o := .cells #[.int .i64 t502, .slice Ao18 t503.length co18] 28 (0, 0)) zk hb)
           have n6_ := Aside0.mk (blk_below (g := gb513) (o := .cells #[.int .i64 t511, .int .i64 t512] 34 (0, 0)) zk hb)
           have n7_ := Aside0.mk (blk_below (g := gb516) (o := .cells #[.int .i64 t514, .int .i64 t515] 34 (0, 0)) zk hb)
           have n8_ := Aside0.mk (blk_below (g := gb517) (o := .cells #[.int .i64 t497, .int .i64 (wrap64 ((Int.tmod t498 900) + 1))] 32 (0, 0)) zk hb)
           have n9_ := Aside0.mk (blk_below (g := gb533) (o := .cells #[.int .i64 t529, .slice Ao123 t530.length co123] 28 (0, 0)) zk hb)
           have n10_ := Aside0.mk (blk_below (g := gb540) (o := .cells #[.int .i64 t538, .int .i64 t539] 34 (0, 0)) zk hb)
           have n11_ := Aside0.mk (blk_below (g := gb545) (o := .cells #[.int .i64 t541, .slice Ao148 t542.length co148] 28 (0, 0)) zk hb)
           have n12_ := Aside0.mk (below_step zb hb)
           clear HO_3 HO_251 HO532 HO544 BK501 BK506 BK513 BK516 BK517 BK533 BK540 BK545 HB
           have HO_3 := n0_
           have HO_251 := n1_
           have HO532 := n2_
           have HO544 := n3_
           have BK501 := n4_
           have BK506 := n5_
           have BK513 := n6_
           have BK516 := n7_
           have BK517 := n8_
           have BK533 := n9_
           have BK540 := n10_
           have BK545 := n11_
           have HB := n12_
           clear n0_ n1_ n2_ n3_ n4_ n5_ n6_ n7_ n8_ n9_ n10_ n11_ n12_
           (try clear hb)
           (try clear hb2)
           (try clear hk)
           (try clear hi)
           refine hK.out _ _ ⟨(blk_cell BK533.out 0).trans rfl, (blk_cell BK533.out 1).trans rfl, (blk_cell BK517.out 0).trans rfl, (blk_cell BK517.out 1).trans rfl, (blk_cell BK540.out 0).trans rfl, (blk_cell BK540.out 1).trans rfl, (blk_cell BK545.out 0).trans rfl, (blk_cell BK545.out 1).trans rfl⟩ (fun hHeld => ?_)
           clear hK K
           refine norm_ (a' := ?_) ?_ ?_
           rotate_left
           ·show Act.put _ (some 162) _ = _
            simp only [Act.put, List.setIfInBounds_toArray, List.set_cons_zero, List.set_cons_succ, i64_w, i32_w]
            rfl
           refine zp 29 163 ?_; refine zp 30 164 ?_; refine zp 31 165 ?_; refine zp 32 166 ?_; refine zt 33 167 ?_
           refine one_ (i := 34) (N := some 168) #[true, true, true, true, true, true, true, true, true, true, true, true, true, true, true, true, true, true, true, true, true, true, true, true, true, true, true, true, true, true, true, true, true, true, true, false, false, false, false, false, false, false, false, false, false, false, false, false, false, false, false, false, false] rfl rfl (one_of HT_.out (by kernel_rfl)) (by decide) (fun K hK => ?_)
           refine goes_ Try.func9 (by kernel_rfl) rfl #[.slice Ao123 t530.length co123] (by rfl) rfl rfl zm ?_
           with_reducible refine (impl_ChainFault.calls kj8 _ _ t530 t551 _ ?side1 ?side2 A101.out).mono ?_
           (case side1 => repeat (first | exact (Kd.R_reads' HO532.out).2.2 | (with_reducible first | refine Kd.C_alloc ?_ _ | refine Kd.C_drewN ?_ _ | refine Kd.C_drew ?_)))
           (case side2 => exact (Kd.R_reads' HO532.out).2.1)
           rintro e w154 ⟨rfl, hb⟩
           refine ⟨_, rfl, ?_⟩
           have n0_ := Aside0.mk (Kd.R_below (by (with_reducible repeat (first | apply Kd.R_alloc | apply Kd.R_drewN | apply Kd.R_drew)); exact HO_3.out) hb)
           have n1_ := Aside0.mk (Kd.R_below (by (with_reducible repeat (first | apply Kd.R_alloc | apply Kd.R_drewN | apply Kd.R_drew)); exact HO_251.out) hb)
           have n2_ := Aside0.mk (Kd.R_below (by (with_reducible repeat (first | apply Kd.R_alloc | apply Kd.R_drewN | apply Kd.R_drew)); exact HO532.out) hb)
           have n3_ := Aside0.mk (Kd.R_below (by (with_reducible repeat (first | apply Kd.R_alloc | apply Kd.R_drewN | apply Kd.R_drew)); exact HO544.out) hb)
           have n4_ := Aside0.mk (blk_below (g := gb501) (o := .cells #[.int .i64 t497, .int .i64 t498] 32 (0, 0)) zk hb)
           have n5_ := Aside0.mk (blk_below (g := gb506) (o := .cells #[.int .i64 t502, .slice Ao18 t503.length co18] 28 (0, 0)) zk hb)
           have n6_ := Aside0.mk (blk_below (g := gb513) (o := .cells #[.int .i64 t511, .int .i64 t512] 34 (0, 0)) zk hb)
           have n7_ := Aside0.mk (blk_below (g := gb516) (o := .cells #[.int .i64 t514, .int .i64 t515] 34 (0, 0)) zk hb)
           have n8_ := Aside0.mk (blk_below (g := gb517) (o := .cells #[.int .i64 t497, .int .i64 (wrap64 ((Int.tmod t498 900) + 1))] 32 (0, 0)) zk hb)
           have n9_ := Aside0.mk (blk_below (g := gb533) (o := .cells #[.int .i64 t529, .slice Ao123 t530.length co123] 28 (0, 0)) zk hb)
           have n10_ := Aside0.mk (blk_below (g := gb540) (o := .cells #[.int .i64 t538, .int .i64 t539] 34 (0, 0)) zk hb)
           have n11_ := Aside0.mk (blk_below (g := gb545) (o := .cells #[.int .i64 t541, .slice Ao148 t542.length co148] 28 (0, 0)) zk hb)
           have n12_ := Aside0.mk (below_step zb hb)
           clear HO_3 HO_251 HO532 HO544 BK501 BK506 BK513 BK516 BK517 BK533 BK540 BK545 HB
           have HO_3 := n0_
           have HO_251 := n1_
           have HO532 := n2_
           have HO544 := n3_
           have BK501 := n4_
           have BK506 := n5_
           have BK513 := n6_
           have BK516 := n7_
           have BK517 := n8_
           have BK533 := n9_
           have BK540 := n10_
           have BK545 := n11_
           have HB := n12_
           clear n0_ n1_ n2_ n3_ n4_ n5_ n6_ n7_ n8_ n9_ n10_ n11_ n12_
           (try clear hb)
           (try clear hb2)
           (try clear hk)
           (try clear hi)
           refine hK.out _ _ ⟨(blk_cell BK533.out 0).trans rfl, (blk_cell BK533.out 1).trans rfl, (blk_cell BK517.out 0).trans rfl, (blk_cell BK517.out 1).trans rfl, (blk_cell BK540.out 0).trans rfl, (blk_cell BK540.out 1).trans rfl, (blk_cell BK545.out 0).trans rfl, (blk_cell BK545.out 1).trans rfl⟩ (fun hHeld => ?_)
           clear hK K
           refine norm_ (a' := ?_) ?_ ?_
           rotate_left
           ·show Act.put _ (some 168) _ = _
            simp only [Act.put, List.setIfInBounds_toArray, List.set_cons_zero, List.set_cons_succ, i64_w, i32_w]
            rfl
           refine zp 35 169 ?_; refine zp 36 170 ?_; refine zp 37 171 ?_; refine zp 38 172 ?_; refine zt 39 173 ?_; refine zp 40 174 ?_; refine zp 41 175 ?_; refine zp 42 176 ?_; refine zp 43 177 ?_; refine zp 47 181 ?_; refine zt 44 178 ?_; refine zt 45 179 ?_; refine zt 48 182 ?_
           refine one_ (i := 46) (N := some 180) #[true, true, true, true, true, true, true, true, true, true, true, true, true, true, true, true, true, true, true, true, true, true, true, true, true, true, true, true, true, true, true, true, true, true, true, true, true, true, true, true, true, true, true, true, true, true, true, true, true, false, false, false, false] rfl rfl (one_of HT_.out (by kernel_rfl)) (by decide) (fun K hK => ?_)
           refine goes_ Try.func10 (by kernel_rfl) rfl #[.slice Ao148 t542.length co148, .agg #[.int .i64 t497, .int .i64 (wrap64 ((Int.tmod t498 900) + 1))]] (by rfl) rfl rfl zm ?_
           with_reducible refine (impl_SeenIn.calls kj8 _ _ t542 t497 (wrap64 ((Int.tmod t498 900) + 1)) t552 t553 _ ?side1 ?side2 A104.out).mono ?_
           (case side1 => repeat (first | exact (Kd.R_reads' HO544.out).2.2 | (with_reducible first | refine Kd.C_alloc ?_ _ | refine Kd.C_drewN ?_ _ | refine Kd.C_drew ?_)))
           (case side2 => exact (Kd.R_reads' HO544.out).2.1)
           rintro e w155 ⟨rfl, hb⟩
           refine ⟨_, rfl, ?_⟩
           have n0_ := Aside0.mk (Kd.R_below (by (with_reducible repeat (first | apply Kd.R_alloc | apply Kd.R_drewN | apply Kd.R_drew)); exact HO_3.out) hb)
           have n1_ := Aside0.mk (Kd.R_below (by (with_reducible repeat (first | apply Kd.R_alloc | apply Kd.R_drewN | apply Kd.R_drew)); exact HO_251.out) hb)
           have n2_ := Aside0.mk (Kd.R_below (by (with_reducible repeat (first | apply Kd.R_alloc | apply Kd.R_drewN | apply Kd.R_drew)); exact HO532.out) hb)
           have n3_ := Aside0.mk (Kd.R_below (by (with_reducible repeat (first | apply Kd.R_alloc | apply Kd.R_drewN | apply Kd.R_drew)); exact HO544.out) hb)
           have n4_ := Aside0.mk (blk_below (g := gb501) (o := .cells #[.int .i64 t497, .int .i64 t498] 32 (0, 0)) zk hb)
           have n5_ := Aside0.mk (blk_below (g := gb506) (o := .cells #[.int .i64 t502, .slice Ao18 t503.length co18] 28 (0, 0)) zk hb)
           have n6_ := Aside0.mk (blk_below (g := gb513) (o := .cells #[.int .i64 t511, .int .i64 t512] 34 (0, 0)) zk hb)
           have n7_ := Aside0.mk (blk_below (g := gb516) (o := .cells #[.int .i64 t514, .int .i64 t515] 34 (0, 0)) zk hb)
           have n8_ := Aside0.mk (blk_below (g := gb517) (o := .cells #[.int .i64 t497, .int .i64 (wrap64 ((Int.tmod t498 900) + 1))] 32 (0, 0)) zk hb)
           have n9_ := Aside0.mk (blk_below (g := gb533) (o := .cells #[.int .i64 t529, .slice Ao123 t530.length co123] 28 (0, 0)) zk hb)
           have n10_ := Aside0.mk (blk_below (g := gb540) (o := .cells #[.int .i64 t538, .int .i64 t539] 34 (0, 0)) zk hb)
           have n11_ := Aside0.mk (blk_below (g := gb545) (o := .cells #[.int .i64 t541, .slice Ao148 t542.length co148] 28 (0, 0)) zk hb)
           have n12_ := Aside0.mk (below_step zb hb)
           clear HO_3 HO_251 HO532 HO544 BK501 BK506 BK513 BK516 BK517 BK533 BK540 BK545 HB
           have HO_3 := n0_
           have HO_251 := n1_
           have HO532 := n2_
           have HO544 := n3_
           have BK501 := n4_
           have BK506 := n5_
           have BK513 := n6_
           have BK516 := n7_
           have BK517 := n8_
           have BK533 := n9_
           have BK540 := n10_
           have BK545 := n11_
           have HB := n12_
           clear n0_ n1_ n2_ n3_ n4_ n5_ n6_ n7_ n8_ n9_ n10_ n11_ n12_
           (try clear hb)
           (try clear hb2)
           (try clear hk)
           (try clear hi)
           refine hK.out _ _ ⟨(blk_cell BK533.out 0).trans rfl, (blk_cell BK533.out 1).trans rfl, (blk_cell BK517.out 0).trans rfl, (blk_cell BK517.out 1).trans rfl, (blk_cell BK540.out 0).trans rfl, (blk_cell BK540.out 1).trans rfl, (blk_cell BK545.out 0).trans rfl, (blk_cell BK545.out 1).trans rfl⟩ (fun hHeld => ?_)
           clear hK K
           refine norm_ (a' := ?_) ?_ ?_
           rotate_left
           ·show Act.put _ (some 180) _ = _
            simp only [Act.put, List.setIfInBounds_toArray, List.set_cons_zero, List.set_cons_succ, i64_w, i32_w]
            rfl
           refine one_ (i := 49) (N := some 183) #[true, true, true, true, true, true, true, true, true, true, true, true, true, true, true, true, true, true, true, true, true, true, true, true, true, true, true, true, true, true, true, true, true, true, true, true, true, true, true, true, true, true, true, true, true, true, true, true, true, true, false, false, false] rfl rfl (one_of HT_.out (by kernel_rfl)) (by decide) (fun K hK => ?_)
           refine goes_ Try.func10 (by kernel_rfl) rfl #[.slice Ao13 t494.length co13, .agg #[.int .i64 t497, .int .i64 (wrap64 ((Int.tmod t498 900) + 1))]] (by rfl) rfl rfl zm ?_
           with_reducible refine (impl_SeenIn.calls kj8 _ _ t494 t497 (wrap64 ((Int.tmod t498 900) + 1)) t554 t555 _ ?side1 ?side2 A105.out).mono ?_
           (case side1 => repeat (first | exact (Kd.R_reads' HO_3.out).2.2 | (with_reducible first | refine Kd.C_alloc ?_ _ | refine Kd.C_drewN ?_ _ | refine Kd.C_drew ?_)))
           (case side2 => exact (Kd.R_reads' HO_3.out).2.1)
           rintro e w156 ⟨rfl, hb⟩
           refine ⟨_, rfl, ?_⟩
           have n0_ := Aside0.mk (Kd.R_below (by (with_reducible repeat (first | apply Kd.R_alloc | apply Kd.R_drewN | apply Kd.R_drew)); exact HO_3.out) hb)
           have n1_ := Aside0.mk (Kd.R_below (by (with_reducible repeat (first | apply Kd.R_alloc | apply Kd.R_drewN | apply Kd.R_drew)); exact HO_251.out) hb)
           have n2_ := Aside0.mk (Kd.R_below (by (with_reducible repeat (first | apply Kd.R_alloc | apply Kd.R_drewN | apply Kd.R_drew)); exact HO532.out) hb)
           have n3_ := Aside0.mk (Kd.R_below (by (with_reducible repeat (first | apply Kd.R_alloc | apply Kd.R_drewN | apply Kd.R_drew)); exact HO544.out) hb)
           have n4_ := Aside0.mk (blk_below (g := gb501) (o := .cells #[.int .i64 t497, .int .i64 t498] 32 (0, 0)) zk hb)
           have n5_ := Aside0.mk (blk_below (g := gb506) (o := .cells #[.int .i64 t502, .slice Ao18 t503.length co18] 28 (0, 0)) zk hb)
           have n6_ := Aside0.mk (blk_below (g := gb513) (o := .cells #[.int .i64 t511, .int .i64 t512] 34 (0, 0)) zk hb)
           have n7_ := Aside0.mk (blk_below (g := gb516) (o := .cells #[.int .i64 t514, .int .i64 t515] 34 (0, 0)) zk hb)
           have n8_ := Aside0.mk (blk_below (g := gb517) (o := .cells #[.int .i64 t497, .int .i64 (wrap64 ((Int.tmod t498 900) + 1))] 32 (0, 0)) zk hb)
           have n9_ := Aside0.mk (blk_below (g := gb533) (o := .cells #[.int .i64 t529, .slice Ao123 t530.length co123] 28 (0, 0)) zk hb)
           have n10_ := Aside0.mk (blk_below (g := gb540) (o := .cells #[.int .i64 t538, .int .i64 t539] 34 (0, 0)) zk hb)
           have n11_ := Aside0.mk (blk_below (g := gb545) (o := .cells #[.int .i64 t541, .slice Ao148 t542.length co148] 28 (0, 0)) zk hb)
           have n12_ := Aside0.mk (below_step zb hb)
           clear HO_3 HO_251 HO532 HO544 BK501 BK506 BK513 BK516 BK517 BK533 BK540 BK545 HB
           have HO_3 := n0_
           have HO_251 := n1_
           have HO532 := n2_
           have HO544 := n3_
           have BK501 := n4_
           have BK506 := n5_
           have BK513 := n6_
           have BK516 := n7_
           have BK517 := n8_
           have BK533 := n9_
           have BK540 := n10_
           have BK545 := n11_
           have HB := n12_
           clear n0_ n1_ n2_ n3_ n4_ n5_ n6_ n7_ n8_ n9_ n10_ n11_ n12_
           (try clear hb)
           (try clear hb2)
           (try clear hk)
           (try clear hi)
           refine hK.out _ _ ⟨(blk_cell BK533.out 0).trans rfl, (blk_cell BK533.out 1).trans rfl, (blk_cell BK517.out 0).trans rfl, (blk_cell BK517.out 1).trans rfl, (blk_cell BK540.out 0).trans rfl, (blk_cell BK540.out 1).trans rfl, (blk_cell BK545.out 0).trans rfl, (blk_cell BK545.out 1).trans rfl⟩ (fun hHeld => ?_)
           clear hK K
           refine norm_ (a' := ?_) ?_ ?_
           rotate_left
           ·show Act.put _ (some 183) _ = _
            simp only [Act.put, List.setIfInBounds_toArray, List.set_cons_zero, List.set_cons_succ, i64_w, i32_w]
            rfl
           refine zp 50 184 ?_; refine zp 51 185 ?_; refine zp 52 2 ?_
           refine done_ (done_of HT_.out (by kernel_rfl)) ?_
           try go_wp2
           go_ret
           exact ⟨by first | rfl | (simp [errW_none, errW_some] <;> rfl) | (simp [*, errW_none, errW_some] <;> rfl) | (exact congrArg (fun b_ => Ending.returned (Value.bool b_)) HT_.out) | (have HT2_ := HT_.out; simp_all), zb⟩
          rw [if_neg c103] at H
          have c103b0 : (t541 == 0) = false := beq_eq_false_iff_ne.mpr c103
          have c103b1 : (t541 != 0) = true := bne_iff_ne.mpr c103
          exact absurd H (by simp)
         rw [if_neg c102] at H
         have c102b0 : (t551 == 0) = false := beq_eq_false_iff_ne.mpr c102
         have c102b1 : (t551 != 0) = true := bne_iff_ne.mpr c102
         exact absurd H (by simp)
        rw [if_neg c100] at H
        have c100b0 : (t550 == 9) = false := beq_eq_false_iff_ne.mpr c100
        have c100b1 : (t550 != 9) = true := bne_iff_ne.mpr c100
        exact absurd H (by simp)
       replace c98 := Bool.eq_false_iff.mpr c98
       subst c98
       have H1 : (if t539 = t500 then ((impl_MayWrite.f kj8 t530 t497 (wrap64 ((Int.tmod t498 900) + 1))).bind fun t556 => (if t556 = 9 then ((impl_ChainFault.f kj8 t530).bind fun t557 => (if t557 = 0 then (if t541 = 0 then ((impl_SeenIn.f kj8 t542 t497 (wrap64 ((Int.tmod t498 900) + 1))).bind fun bt558 => ((impl_SeenIn.f kj8 t494 t497 (wrap64 ((Int.tmod t498 900) + 1))).bind fun bt560 => (some (bt558.1 == bt560.1 && (bt558.2 == bt560.2))))) else (some false)) else (some false))) else (some false))) else (some false)) = some true := by rw [if_neg (show ¬ (false = true) by decide)] at H; first | done | exact H
       clear H
       have H := H1
       clear H1
       by_cases c157 : t539 = t500
       ·rw [if_pos c157] at H
        have c157b0 : (t539 == t500) = true := beq_iff_eq.mpr c157
        have c157b1 : (t539 != t500) = false := bne_eq_false_iff_eq.mpr c157
        clear c157
        replace H := Option.bind_eq_some_iff.mp H
        obtain ⟨t556, A255, H⟩ := H
        replace H : (if t556 = 9 then ((impl_ChainFault.f kj8 t530).bind fun t557 => (if t557 = 0 then (if t541 = 0 then ((impl_SeenIn.f kj8 t542 t497 (wrap64 ((Int.tmod t498 900) + 1))).bind fun bt558 => ((impl_SeenIn.f kj8 t494 t497 (wrap64 ((Int.tmod t498 900) + 1))).bind fun bt560 => (some (bt558.1 == bt560.1 && (bt558.2 == bt560.2))))) else (some false)) else (some false))) else (some false)) = some true := H
        have A158 := Aside0.mk A255
        clear A255
        by_cases c159 : t556 = 9
        ·rw [if_pos c159] at H
         have c159b0 : (t556 == 9) = true := beq_iff_eq.mpr c159
         have c159b1 : (t556 != 9) = false := bne_eq_false_iff_eq.mpr c159
         clear c159
         replace H := Option.bind_eq_some_iff.mp H
         obtain ⟨t557, A256, H⟩ := H
         replace H : (if t557 = 0 then (if t541 = 0 then ((impl_SeenIn.f kj8 t542 t497 (wrap64 ((Int.tmod t498 900) + 1))).bind fun bt558 => ((impl_SeenIn.f kj8 t494 t497 (wrap64 ((Int.tmod t498 900) + 1))).bind fun bt560 => (some (bt558.1 == bt560.1 && (bt558.2 == bt560.2))))) else (some false)) else (some false)) = some true := H
         have A160 := Aside0.mk A256
         clear A256
         by_cases c161 : t557 = 0
         ·rw [if_pos c161] at H
          have c161b0 : (t557 == 0) = true := beq_iff_eq.mpr c161
          have c161b1 : (t557 != 0) = false := bne_eq_false_iff_eq.mpr c161
          clear c161
          by_cases c162 : t541 = 0
          ·rw [if_pos c162] at H
           have c162b0 : (t541 == 0) = true := beq_iff_eq.mpr c162
           have c162b1 : (t541 != 0) = false := bne_eq_false_iff_eq.mpr c162
           clear c162
           replace H := Option.bind_eq_some_iff.mp H
           obtain ⟨⟨t558, t559⟩, A257, H⟩ := H
           replace H : ((impl_SeenIn.f kj8 t494 t497 (wrap64 ((Int.tmod t498 900) + 1))).bind fun bt560 => (some (t558 == bt560.1 && (t559 == bt560.2)))) = some true := H
           have A163 := Aside0.mk A257
           clear A257
           replace H := Option.bind_eq_some_iff.mp H
           obtain ⟨⟨t560, t561⟩, A258, H⟩ := H
           replace H : (some (t558 == t560 && (t559 == t561))) = some true := H
           have A164 := Aside0.mk A258
           clear A258
           have HT_ := Aside0.mk (Option.some.inj H)
           have hnb165 := NB501_506.out
           have hnc165 := NB506_501.out
           have hnb166 := NB501_513.out
           have hnc166 := NB513_501.out
           have hnb167 := NB501_516.out
           have hnc167 := NB516_501.out
           have hnb168 := NB501_517.out
           have hnc168 := NB517_501.out
           obtain ⟨hcz169_0, hcz169_1, hfz169_0, hfz169_1⟩ := Lv.blks2 BK501.out
           have hnb170 := NB506_513.out
           have hnc170 := NB513_506.out
           have hnb171 := NB506_516.out
           have hnc171 := NB516_506.out
           have hnb172 := NB506_517.out
           have hnc172 := NB517_506.out
           obtain ⟨hcz173_0, hcz173_1, hfz173_0, hfz173_1⟩ := Lv.blks2 BK506.out
           try go_wp2_with (first | ((with_reducible refine gate_callee (f := 16) rfl ?_); refine goesL_ (some 108) rfl rfl Try.func16 (by kernel_rfl) rfl #[.slice Ao18 t503.length co18, .int .i64 t498, .int .i64 (wrap64 (t497 + 1))] rfl zm ?_; (with_reducible refine (impl_CommitChain.calls kj8 _ _ t503 t498 (wrap64 (t497 + 1)) t529 t530 _ ?side1 ?side2 A90.out).mono ?_); (case side1 => repeat (first | exact (Kd.R_reads' HO_251.out).2.2 | (with_reducible first | refine Kd.C_alloc ?_ _ | refine Kd.C_drewN ?_ _ | refine Kd.C_drew ?_))); (case side2 => exact (Kd.R_reads' HO_251.out).2.1); rintro e w174 ⟨v531, rfl, ho0, hb⟩; refine ⟨_, rfl, ?_⟩; have n0_ := Aside0.mk (Kd.R_elder' (by (with_reducible repeat (first | apply Kd.R_alloc | apply Kd.R_drewN | apply Kd.R_drew)); exact HO_3.out) (Kd.R_base ho0) hb); have n1_ := Aside0.mk (Kd.R_elder' (by (with_reducible repeat (first | apply Kd.R_alloc | apply Kd.R_drewN | apply Kd.R_drew)); exact HO_251.out) (Kd.R_base ho0) hb); have n2_ := Aside0.mk (Kd.R_lower (Kd.R_new' (Kd.R_new' ho0 (Kd.R_lt (by (with_reducible repeat (first | apply Kd.R_alloc | apply Kd.R_drewN | apply Kd.R_drew)); exact HO_3.out))) (Kd.R_lt (by (with_reducible repeat (first | apply Kd.R_alloc | apply Kd.R_drewN | apply Kd.R_drew)); exact HO_251.out))) (below_size zb)); have n3_ := Aside0.mk (blk_below (g := gb501) (o := .cells #[.int .i64 t497, .int .i64 t498] 32 (0, 0)) zk hb); have n4_ := Aside0.mk (blk_below (g := gb506) (o := .cells #[.int .i64 t502, .slice Ao18 t503.length co18] 28 (0, 0)) zk hb); have n5_ := Aside0.mk (blk_below (g := gb513) (o := .cells #[.int .i64 t511, .int .i64 t512] 34 (0, 0)) zk hb); have n6_ := Aside0.mk (blk_below (g := gb516) (o := .cells #[.int .i64 t514, .int .i64 t515] 34 (0, 0)) zk hb); have n7_ := Aside0.mk (blk_below (g := gb517) (o := .cells #[.int .i64 t497, .int .i64 (wrap64 ((Int.tmod t498 900) + 1))] 32 (0, 0)) zk hb); have n8_ := Aside0.mk (below_step zb hb); clear HO_3; clear HO_251; clear BK501; clear BK506; clear BK513; clear BK516; clear BK517; clear HB; have HO_3 := n0_; have HO_251 := n1_; have HO532 := n2_; have BK501 := n3_; have BK506 := n4_; have BK513 := n5_; have BK516 := n6_; have BK517 := n7_; have HB := n8_; clear n0_ n1_ n2_ n3_ n4_ n5_ n6_ n7_ n8_; (try clear hb); (try clear hb2); (try clear hk); (try clear hi); (try clear ho0)) | ((with_reducible refine gate_dst (N := 12) rfl ?_); refine box_event ?hg (N := 12) ?hd (cs := #[.int .i64 0, .slice none 0 0]) (t := 28) ?hr ?_; (case hd => rfl); (case hg => rfl); (case hr => first | (go_simp; done) | (go_simp; rfl)); intro gb533 hg w175 hbox hb; have n0_ := Aside0.mk (Kd.R_below (by (with_reducible repeat (first | apply Kd.R_alloc | apply Kd.R_drewN | apply Kd.R_drew)); exact HO_3.out) hb); have n1_ := Aside0.mk (Kd.R_below (by (with_reducible repeat (first | apply Kd.R_alloc | apply Kd.R_drewN | apply Kd.R_drew)); exact HO_251.out) hb); have n2_ := Aside0.mk (Kd.R_below (by (with_reducible repeat (first | apply Kd.R_alloc | apply Kd.R_drewN | apply Kd.R_drew)); exact HO532.out) hb); have n3_ := Aside0.mk (blk_below (g := gb501) (o := .cells #[.int .i64 t497, .int .i64 t498] 32 (0, 0)) zk hb); have n4_ := Aside0.mk (blk_below (g := gb506) (o := .cells #[.int .i64 t502, .slice Ao18 t503.length co18] 28 (0, 0)) zk hb); have n5_ := Aside0.mk (blk_below (g := gb513) (o := .cells #[.int .i64 t511, .int .i64 t512] 34 (0, 0)) zk hb); have n6_ := Aside0.mk (blk_below (g := gb516) (o := .cells #[.int .i64 t514, .int .i64 t515] 34 (0, 0)) zk hb); have n7_ := Aside0.mk (blk_below (g := gb517) (o := .cells #[.int .i64 t497, .int .i64 (wrap64 ((Int.tmod t498 900) + 1))] 32 (0, 0)) zk hb); have n8_ := Aside0.mk (below_step zb hb); have n9_ := Aside0.mk (hbox); have n10_ := Aside0.mk ((by rw [hg]; exact (below_size zb) : w.heap.size ≤ gb533)); have n11_ := n10_; have n12_ := Aside0.mk ((by rw [hg]; exact Nat.ne_of_lt (blk_lt (g := gb501) (o := .cells #[.int .i64 t497, .int .i64 t498] 32 (0, 0)) zk) : gb501 ≠ gb533)); have n13_ := Aside0.mk ((by rw [hg]; exact Nat.ne_of_gt (blk_lt (g := gb501) (o := .cells #[.int .i64 t497, .int .i64 t498] 32 (0, 0)) zk) : gb533 ≠ gb501)); have n14_ := Aside0.mk ((by rw [hg]; exact Nat.ne_of_lt (blk_lt (g := gb506) (o := .cells #[.int .i64 t502, .slice Ao18 t503.length co18] 28 (0, 0)) zk) : gb506 ≠ gb533)); have n15_ := Aside0.mk ((by rw [hg]; exact Nat.ne_of_gt (blk_lt (g := gb506) (o := .cells #[.int .i64 t502, .slice Ao18 t503.length co18] 28 (0, 0)) zk) : gb533 ≠ gb506)); have n16_ := Aside0.mk ((by rw [hg]; exact Nat.ne_of_lt (blk_lt (g := gb513) (o := .cells #[.int .i64 t511, .int .i64 t512] 34 (0, 0)) zk) : gb513 ≠ gb533)); have n17_ := Aside0.mk ((by rw [hg]; exact Nat.ne_of_gt (blk_lt (g := gb513) (o := .cells #[.int .i64 t511, .int .i64 t512] 34 (0, 0)) zk) : gb533 ≠ gb513)); have n18_ := Aside0.mk ((by rw [hg]; exact Nat.ne_of_lt (blk_lt (g := gb516) (o := .cells #[.int .i64 t514, .int .i64 t515] 34 (0, 0)) zk) : gb516 ≠ gb533)); have n19_ := Aside0.mk ((by rw [hg]; exact Nat.ne_of_gt (blk_lt (g := gb516) (o := .cells #[.int .i64 t514, .int .i64 t515] 34 (0, 0)) zk) : gb533 ≠ gb516)); have n20_ := Aside0.mk ((by rw [hg]; exact Nat.ne_of_lt (blk_lt (g := gb517) (o := .cells #[.int .i64 t497, .int .i64 (wrap64 ((Int.tmod t498 900) + 1))] 32 (0, 0)) zk) : gb517 ≠ gb533)); have n21_ := Aside0.mk ((by rw [hg]; exact Nat.ne_of_gt (blk_lt (g := gb517) (o := .cells #[.int .i64 t497, .int .i64 (wrap64 ((Int.tmod t498 900) + 1))] 32 (0, 0)) zk) : gb533 ≠ gb517)); clear HO_3; clear HO_251; clear HO532; clear BK501; clear BK506; clear BK513; clear BK516; clear BK517; clear HB; have HO_3 := n0_; have HO_251 := n1_; have HO532 := n2_; have BK501 := n3_; have BK506 := n4_; have BK513 := n5_; have BK516 := n6_; have BK517 := n7_; have HB := n8_; have BK533 := n9_; have GW533 := n10_; have GE533 := n11_; have NB501_533 := n12_; have NB533_501 := n13_; have NB506_533 := n14_; have NB533_506 := n15_; have NB513_533 := n16_; have NB533_513 := n17_; have NB516_533 := n18_; have NB533_516 := n19_; have NB517_533 := n20_; have NB533_517 := n21_; clear n0_ n1_ n2_ n3_ n4_ n5_ n6_ n7_ n8_ n9_ n10_ n11_ n12_ n13_ n14_ n15_ n16_ n17_ n18_ n19_ n20_ n21_; clear hb hbox hg; have hnb176 := NB533_501.out; have hnc176 := NB501_533.out; have hnb177 := NB533_506.out; have hnc177 := NB506_533.out; have hnb178 := NB533_513.out; have hnc178 := NB513_533.out; have hnb179 := NB533_516.out; have hnc179 := NB516_533.out; have hnb180 := NB533_517.out; have hnc180 := NB517_533.out; obtain ⟨hcz181_0, hcz181_1, hfz181_0, hfz181_1⟩ := Lv.blks2 BK533.out; obtain ⟨Ao182, co182, eo182⟩ := Kd.R_slice HO532.out; subst eo182; have hnb183 := NB517_513.out; have hnc183 := NB513_517.out; have hnb184 := NB517_516.out; have hnc184 := NB516_517.out; obtain ⟨hcz185_0, hcz185_1, hfz185_0, hfz185_1⟩ := Lv.blks2 BK517.out) | ((with_reducible refine gate_callee (f := 10) rfl ?_); refine goesL_ (some 128) rfl rfl Try.func10 (by kernel_rfl) rfl #[.slice Ao182 t530.length co182, .agg #[.int .i64 (wrap64 (t497 + 1)), .int .i64 (wrap64 ((Int.tmod t498 900) + 1))]] rfl zm ?_; (with_reducible refine (impl_SeenIn.calls kj8 _ _ t530 (wrap64 (t497 + 1)) (wrap64 ((Int.tmod t498 900) + 1)) t538 t539 _ ?side1 ?side2 A92.out).mono ?_); (case side1 => refine (Kd.R_reads' (e := 51) (base := w.heap.size) (ok := fun k_ => ((True ∧ some k_ ≠ (.slice Ao13 t494.length co13 : Value).ownBlock) ∧ some k_ ≠ (.slice Ao18 t503.length co18 : Value).ownBlock)) (n := t530.length) (c := co182) ?_).2.2; exact (by (with_reducible repeat (first | apply Kd.R_alloc | apply Kd.R_drewN | apply Kd.R_drew)); exact (Kd.R_mono (Kd.R_far (p := ⟨gb533, 1, none⟩) (Kd.R_far (p := ⟨gb533, 0, none⟩) (Kd.R_types HO532.out BK533.out (by decide)) (fun _ hk => hk.2) (.int .i64 t529)) (fun _ hk => hk.2) (.slice Ao182 t530.length co182)) (fun _ h_ => h_.1)))); (case side2 => exact (Kd.R_reads' HO532.out).2.1); rintro e w186 ⟨rfl, hb⟩; refine ⟨_, rfl, ?_⟩; have n0_ := Aside0.mk (Kd.R_below (by (with_reducible repeat (first | apply Kd.R_alloc | apply Kd.R_drewN | apply Kd.R_drew)); exact (Kd.R_mono (Kd.R_far (p := ⟨gb533, 1, none⟩) (Kd.R_far (p := ⟨gb533, 0, none⟩) (Kd.R_types HO_3.out BK533.out (by decide)) (fun _ hk => hk.2) (.int .i64 t529)) (fun _ hk => hk.2) (.slice Ao182 t530.length co182)) (fun _ h_ => h_.1))) hb); have n1_ := Aside0.mk (Kd.R_below (by (with_reducible repeat (first | apply Kd.R_alloc | apply Kd.R_drewN | apply Kd.R_drew)); exact (Kd.R_mono (Kd.R_far (p := ⟨gb533, 1, none⟩) (Kd.R_far (p := ⟨gb533, 0, none⟩) (Kd.R_types HO_251.out BK533.out (by decide)) (fun _ hk => hk.2) (.int .i64 t529)) (fun _ hk => hk.2) (.slice Ao182 t530.length co182)) (fun _ h_ => h_.1))) hb); have n2_ := Aside0.mk (Kd.R_below (by (with_reducible repeat (first | apply Kd.R_alloc | apply Kd.R_drewN | apply Kd.R_drew)); exact (Kd.R_mono (Kd.R_far (p := ⟨gb533, 1, none⟩) (Kd.R_far (p := ⟨gb533, 0, none⟩) (Kd.R_types HO532.out BK533.out (by decide)) (fun _ hk => hk.2) (.int .i64 t529)) (fun _ hk => hk.2) (.slice Ao182 t530.length co182)) (fun _ h_ => h_.1))) hb); have n3_ := Aside0.mk (blk_below (g := gb501) (o := .cells #[.int .i64 t497, .int .i64 t498] 32 (0, 0)) (by (with_reducible repeat (first | refine blk_drewN ?_ _ | refine blk_drew ?_ | refine blk_alloc ?_ _)); refine blk_far ?_ NB501_533.out _; (with_reducible repeat (first | refine blk_drewN ?_ _ | refine blk_drew ?_ | refine blk_alloc ?_ _)); refine blk_far ?_ NB501_533.out _; (with_reducible repeat (first | refine blk_drewN ?_ _ | refine blk_drew ?_ | refine blk_alloc ?_ _)); exact BK501.out) hb); have n4_ := Aside0.mk (blk_below (g := gb506) (o := .cells #[.int .i64 t502, .slice Ao18 t503.length co18] 28 (0, 0)) (by (with_reducible repeat (first | refine blk_drewN ?_ _ | refine blk_drew ?_ | refine blk_alloc ?_ _)); refine blk_far ?_ NB506_533.out _; (with_reducible repeat (first | refine blk_drewN ?_ _ | refine blk_drew ?_ | refine blk_alloc ?_ _)); refine blk_far ?_ NB506_533.out _; (with_reducible repeat (first | refine blk_drewN ?_ _ | refine blk_drew ?_ | refine blk_alloc ?_ _)); exact BK506.out) hb); have n5_ := Aside0.mk (blk_below (g := gb513) (o := .cells #[.int .i64 t511, .int .i64 t512] 34 (0, 0)) (by (with_reducible repeat (first | refine blk_drewN ?_ _ | refine blk_drew ?_ | refine blk_alloc ?_ _)); refine blk_far ?_ NB513_533.out _; (with_reducible repeat (first | refine blk_drewN ?_ _ | refine blk_drew ?_ | refine blk_alloc ?_ _)); refine blk_far ?_ NB513_533.out _; (with_reducible repeat (first | refine blk_drewN ?_ _ | refine blk_drew ?_ | refine blk_alloc ?_ _)); exact BK513.out) hb); have n6_ := Aside0.mk (blk_below (g := gb516) (o := .cells #[.int .i64 t514, .int .i64 t515] 34 (0, 0)) (by (with_reducible repeat (first | refine blk_drewN ?_ _ | refine blk_drew ?_ | refine blk_alloc ?_ _)); refine blk_far ?_ NB516_533.out _; (with_reducible repeat (first | refine blk_drewN ?_ _ | refine blk_drew ?_ | refine blk_alloc ?_ _)); refine blk_far ?_ NB516_533.out _; (with_reducible repeat (first | refine blk_drewN ?_ _ | refine blk_drew ?_ | refine blk_alloc ?_ _)); exact BK516.out) hb); have n7_ := Aside0.mk (blk_below (g := gb517) (o := .cells #[.int .i64 t497, .int .i64 (wrap64 ((Int.tmod t498 900) + 1))] 32 (0, 0)) (by (with_reducible repeat (first | refine blk_drewN ?_ _ | refine blk_drew ?_ | refine blk_alloc ?_ _)); refine blk_far ?_ NB517_533.out _; (with_reducible repeat (first | refine blk_drewN ?_ _ | refine blk_drew ?_ | refine blk_alloc ?_ _)); refine blk_far ?_ NB517_533.out _; (with_reducible repeat (first | refine blk_drewN ?_ _ | refine blk_drew ?_ | refine blk_alloc ?_ _)); exact BK517.out) hb); have n8_ := Aside0.mk (blk_below (g := gb533) (o := .cells #[.int .i64 t529, .slice Ao182 t530.length co182] 28 (0, 0)) (by (with_reducible repeat (first | refine blk_drewN ?_ _ | refine blk_drew ?_ | refine blk_alloc ?_ _)); refine blk_put (cs := #[.int .i64 t529, .slice none 0 0]) ?_ 1 _ rfl; (with_reducible repeat (first | refine blk_drewN ?_ _ | refine blk_drew ?_ | refine blk_alloc ?_ _)); refine blk_put (cs := #[.int .i64 0, .slice none 0 0]) ?_ 0 _ rfl; (with_reducible repeat (first | refine blk_drewN ?_ _ | refine blk_drew ?_ | refine blk_alloc ?_ _)); exact BK533.out) hb); have n9_ := Aside0.mk (below_step zb hb); clear HO_3; clear HO_251; clear HO532; clear BK501; clear BK506; clear BK513; clear BK516; clear BK517; clear BK533; clear HB; have HO_3 := n0_; have HO_251 := n1_; have HO532 := n2_; have BK501 := n3_; have BK506 := n4_; have BK513 := n5_; have BK516 := n6_; have BK517 := n7_; have BK533 := n8_; have HB := n9_; clear n0_ n1_ n2_ n3_ n4_ n5_ n6_ n7_ n8_ n9_; (try clear hb); (try clear hb2); (try clear hk); (try clear hi)) | ((with_reducible refine gate_dst (N := 13) rfl ?_); refine box_event ?hg (N := 13) ?hd (cs := #[.int .i64 0, .int .i64 0]) (t := 34) ?hr ?_; (case hd => rfl); (case hg => rfl); (case hr => first | (go_simp; done) | (go_simp; rfl)); intro gb540 hg w187 hbox hb; have n0_ := Aside0.mk (Kd.R_below (by (with_reducible repeat (first | apply Kd.R_alloc | apply Kd.R_drewN | apply Kd.R_drew)); exact HO_3.out) hb); have n1_ := Aside0.mk (Kd.R_below (by (with_reducible repeat (first | apply Kd.R_alloc | apply Kd.R_drewN | apply Kd.R_drew)); exact HO_251.out) hb); have n2_ := Aside0.mk (Kd.R_below (by (with_reducible repeat (first | apply Kd.R_alloc | apply Kd.R_drewN | apply Kd.R_drew)); exact HO532.out) hb); have n3_ := Aside0.mk (blk_below (g := gb501) (o := .cells #[.int .i64 t497, .int .i64 t498] 32 (0, 0)) zk hb); have n4_ := Aside0.mk (blk_below (g := gb506) (o := .cells #[.int .i64 t502, .slice Ao18 t503.length co18] 28 (0, 0)) zk hb); have n5_ := Aside0.mk (blk_below (g := gb513) (o := .cells #[.int .i64 t511, .int .i64 t512] 34 (0, 0)) zk hb); have n6_ := Aside0.mk (blk_below (g := gb516) (o := .cells #[.int .i64 t514, .int .i64 t515] 34 (0, 0)) zk hb); have n7_ := Aside0.mk (blk_below (g := gb517) (o := .cells #[.int .i64 t497, .int .i64 (wrap64 ((Int.tmod t498 900) + 1))] 32 (0, 0)) zk hb); have n8_ := Aside0.mk (blk_below (g := gb533) (o := .cells #[.int .i64 t529, .slice Ao182 t530.length co182] 28 (0, 0)) zk hb); have n9_ := Aside0.mk (below_step zb hb); have n10_ := Aside0.mk (hbox); have n11_ := Aside0.mk ((by rw [hg]; exact (below_size zb) : w.heap.size ≤ gb540)); have n12_ := n11_; have n13_ := Aside0.mk ((by rw [hg]; exact Nat.ne_of_lt (blk_lt (g := gb501) (o := .cells #[.int .i64 t497, .int .i64 t498] 32 (0, 0)) zk) : gb501 ≠ gb540)); have n14_ := Aside0.mk ((by rw [hg]; exact Nat.ne_of_gt (blk_lt (g := gb501) (o := .cells #[.int .i64 t497, .int .i64 t498] 32 (0, 0)) zk) : gb540 ≠ gb501)); have n15_ := Aside0.mk ((by rw [hg]; exact Nat.ne_of_lt (blk_lt (g := gb506) (o := .cells #[.int .i64 t502, .slice Ao18 t503.length co18] 28 (0, 0)) zk) : gb506 ≠ gb540)); have n16_ := Aside0.mk ((by rw [hg]; exact Nat.ne_of_gt (blk_lt (g := gb506) (o := .cells #[.int .i64 t502, .slice Ao18 t503.length co18] 28 (0, 0)) zk) : gb540 ≠ gb506)); have n17_ := Aside0.mk ((by rw [hg]; exact Nat.ne_of_lt (blk_lt (g := gb513) (o := .cells #[.int .i64 t511, .int .i64 t512] 34 (0, 0)) zk) : gb513 ≠ gb540)); have n18_ := Aside0.mk ((by rw [hg]; exact Nat.ne_of_gt (blk_lt (g := gb513) (o := .cells #[.int .i64 t511, .int .i64 t512] 34 (0, 0)) zk) : gb540 ≠ gb513)); have n19_ := Aside0.mk ((by rw [hg]; exact Nat.ne_of_lt (blk_lt (g := gb516) (o := .cells #[.int .i64 t514, .int .i64 t515] 34 (0, 0)) zk) : gb516 ≠ gb540)); have n20_ := Aside0.mk ((by rw [hg]; exact Nat.ne_of_gt (blk_lt (g := gb516) (o := .cells #[.int .i64 t514, .int .i64 t515] 34 (0, 0)) zk) : gb540 ≠ gb516)); have n21_ := Aside0.mk ((by rw [hg]; exact Nat.ne_of_lt (blk_lt (g := gb517) (o := .cells #[.int .i64 t497, .int .i64 (wrap64 ((Int.tmod t498 900) + 1))] 32 (0, 0)) zk) : gb517 ≠ gb540)); have n22_ := Aside0.mk ((by rw [hg]; exact Nat.ne_of_gt (blk_lt (g := gb517) (o := .cells #[.int .i64 t497, .int .i64 (wrap64 ((Int.tmod t498 900) + 1))] 32 (0, 0)) zk) : gb540 ≠ gb517)); have n23_ := Aside0.mk ((by rw [hg]; exact Nat.ne_of_lt (blk_lt (g := gb533) (o := .cells #[.int .i64 t529, .slice Ao182 t530.length co182] 28 (0, 0)) zk) : gb533 ≠ gb540)); have n24_ := Aside0.mk ((by rw [hg]; exact Nat.ne_of_gt (blk_lt (g := gb533) (o := .cells #[.int .i64 t529, .slice Ao182 t530.length co182] 28 (0, 0)) zk) : gb540 ≠ gb533)); clear HO_3; clear HO_251; clear HO532; clear BK501; clear BK506; clear BK513; clear BK516; clear BK517; clear BK533; clear HB; have HO_3 := n0_; have HO_251 := n1_; have HO532 := n2_; have BK501 := n3_; have BK506 := n4_; have BK513 := n5_; have BK516 := n6_; have BK517 := n7_; have BK533 := n8_; have HB := n9_; have BK540 := n10_; have GW540 := n11_; have GE540 := n12_; have NB501_540 := n13_; have NB540_501 := n14_; have NB506_540 := n15_; have NB540_506 := n16_; have NB513_540 := n17_; have NB540_513 := n18_; have NB516_540 := n19_; have NB540_516 := n20_; have NB517_540 := n21_; have NB540_517 := n22_; have NB533_540 := n23_; have NB540_533 := n24_; clear n0_ n1_ n2_ n3_ n4_ n5_ n6_ n7_ n8_ n9_ n10_ n11_ n12_ n13_ n14_ n15_ n16_ n17_ n18_ n19_ n20_ n21_ n22_ n23_ n24_; clear hb hbox hg; have hnb188 := NB540_501.out; have hnc188 := NB501_540.out; have hnb189 := NB540_506.out; have hnc189 := NB506_540.out; have hnb190 := NB540_513.out; have hnc190 := NB513_540.out; have hnb191 := NB540_516.out; have hnc191 := NB516_540.out; have hnb192 := NB540_517.out; have hnc192 := NB517_540.out; have hnb193 := NB540_533.out; have hnc193 := NB533_540.out; obtain ⟨hcz194_0, hcz194_1, hfz194_0, hfz194_1⟩ := Lv.blks2 BK540.out; obtain ⟨hcz195_0, hcz195_1, hfz195_0, hfz195_1⟩ := Lv.blks2 BK506.out; obtain ⟨hcz196_0, hcz196_1, hfz196_0, hfz196_1⟩ := Lv.blks2 BK501.out) | ((with_reducible refine gate_callee (f := 18) rfl ?_); refine goesL_ (some 133) rfl rfl Try.func18 (by kernel_rfl) rfl #[.slice Ao18 t503.length co18, .int .i64 t498] rfl zm ?_; (with_reducible refine (impl_RollChain.calls kj8 _ _ t503 t498 t541 t542 _ ?side1 ?side2 A93.out).mono ?_); (case side1 => refine (Kd.R_reads' (e := 51) (base := w.heap.size) (ok := fun k_ => (some k_ ≠ (.slice Ao13 t494.length co13 : Value).ownBlock ∧ some k_ ≠ (.slice Ao182 t530.length co182 : Value).ownBlock)) (n := t503.length) (c := co18) ?_).2.2; exact (by (with_reducible repeat (first | apply Kd.R_alloc | apply Kd.R_drewN | apply Kd.R_drew)); exact (Kd.R_mono (Kd.R_far (p := ⟨gb540, 1, none⟩) (Kd.R_far (p := ⟨gb540, 0, none⟩) (Kd.R_types HO_251.out BK540.out (by decide)) (fun _ hk => hk.2) (.int .i64 t538)) (fun _ hk => hk.2) (.int .i64 t539)) (fun _ h_ => h_.1)))); (case side2 => exact (Kd.R_reads' HO_251.out).2.1); rintro e w197 ⟨v543, rfl, ho0, hb⟩; refine ⟨_, rfl, ?_⟩; have n0_ := Aside0.mk (Kd.R_elder' (by (with_reducible repeat (first | apply Kd.R_alloc | apply Kd.R_drewN | apply Kd.R_drew)); exact (Kd.R_mono (Kd.R_far (p := ⟨gb540, 1, none⟩) (Kd.R_far (p := ⟨gb540, 0, none⟩) (Kd.R_types HO_3.out BK540.out (by decide)) (fun _ hk => hk.2) (.int .i64 t538)) (fun _ hk => hk.2) (.int .i64 t539)) (fun _ h_ => h_.1))) (Kd.R_base ho0) hb); have n1_ := Aside0.mk (Kd.R_elder' (by (with_reducible repeat (first | apply Kd.R_alloc | apply Kd.R_drewN | apply Kd.R_drew)); exact (Kd.R_mono (Kd.R_far (p := ⟨gb540, 1, none⟩) (Kd.R_far (p := ⟨gb540, 0, none⟩) (Kd.R_types HO_251.out BK540.out (by decide)) (fun _ hk => hk.2) (.int .i64 t538)) (fun _ hk => hk.2) (.int .i64 t539)) (fun _ h_ => h_.1))) (Kd.R_base ho0) hb); have n2_ := Aside0.mk (Kd.R_elder' (by (with_reducible repeat (first | apply Kd.R_alloc | apply Kd.R_drewN | apply Kd.R_drew)); exact (Kd.R_mono (Kd.R_far (p := ⟨gb540, 1, none⟩) (Kd.R_far (p := ⟨gb540, 0, none⟩) (Kd.R_types HO532.out BK540.out (by decide)) (fun _ hk => hk.2) (.int .i64 t538)) (fun _ hk => hk.2) (.int .i64 t539)) (fun _ h_ => h_.1))) (Kd.R_base ho0) hb); have n3_ := Aside0.mk (Kd.R_lower (Kd.R_new' (Kd.R_new' (Kd.R_new' ho0 (Kd.R_lt (by (with_reducible repeat (first | apply Kd.R_alloc | apply Kd.R_drewN | apply Kd.R_drew)); exact (Kd.R_mono (Kd.R_far (p := ⟨gb540, 1, none⟩) (Kd.R_far (p := ⟨gb540, 0, none⟩) (Kd.R_types HO_3.out BK540.out (by decide)) (fun _ hk => hk.2) (.int .i64 t538)) (fun _ hk => hk.2) (.int .i64 t539)) (fun _ h_ => h_.1))))) (Kd.R_lt (by (with_reducible repeat (first | apply Kd.R_alloc | apply Kd.R_drewN | apply Kd.R_drew)); exact (Kd.R_mono (Kd.R_far (p := ⟨gb540, 1, none⟩) (Kd.R_far (p := ⟨gb540, 0, none⟩) (Kd.R_types HO_251.out BK540.out (by decide)) (fun _ hk => hk.2) (.int .i64 t538)) (fun _ hk => hk.2) (.int .i64 t539)) (fun _ h_ => h_.1))))) (Kd.R_lt (by (with_reducible repeat (first | apply Kd.R_alloc | apply Kd.R_drewN | apply Kd.R_drew)); exact (Kd.R_mono (Kd.R_far (p := ⟨gb540, 1, none⟩) (Kd.R_far (p := ⟨gb540, 0, none⟩) (Kd.R_types HO532.out BK540.out (by decide)) (fun _ hk => hk.2) (.int .i64 t538)) (fun _ hk => hk.2) (.int .i64 t539)) (fun _ h_ => h_.1))))) (below_size zb)); have n4_ := Aside0.mk (blk_below (g := gb501) (o := .cells #[.int .i64 t497, .int .i64 t498] 32 (0, 0)) (by (with_reducible repeat (first | refine blk_drewN ?_ _ | refine blk_drew ?_ | refine blk_alloc ?_ _)); refine blk_far ?_ NB501_540.out _; (with_reducible repeat (first | refine blk_drewN ?_ _ | refine blk_drew ?_ | refine blk_alloc ?_ _)); refine blk_far ?_ NB501_540.out _; (with_reducible repeat (first | refine blk_drewN ?_ _ | refine blk_drew ?_ | refine blk_alloc ?_ _)); exact BK501.out) hb); have n5_ := Aside0.mk (blk_below (g := gb506) (o := .cells #[.int .i64 t502, .slice Ao18 t503.length co18] 28 (0, 0)) (by (with_reducible repeat (first | refine blk_drewN ?_ _ | refine blk_drew ?_ | refine blk_alloc ?_ _)); refine blk_far ?_ NB506_540.out _; (with_reducible repeat (first | refine blk_drewN ?_ _ | refine blk_drew ?_ | refine blk_alloc ?_ _)); refine blk_far ?_ NB506_540.out _; (with_reducible repeat (first | refine blk_drewN ?_ _ | refine blk_drew ?_ | refine blk_alloc ?_ _)); exact BK506.out) hb); have n6_ := Aside0.mk (blk_below (g := gb513) (o := .cells #[.int .i64 t511, .int .i64 t512] 34 (0, 0)) (by (with_reducible repeat (first | refine blk_drewN ?_ _ | refine blk_drew ?_ | refine blk_alloc ?_ _)); refine blk_far ?_ NB513_540.out _; (with_reducible repeat (first | refine blk_drewN ?_ _ | refine blk_drew ?_ | refine blk_alloc ?_ _)); refine blk_far ?_ NB513_540.out _; (with_reducible repeat (first | refine blk_drewN ?_ _ | refine blk_drew ?_ | refine blk_alloc ?_ _)); exact BK513.out) hb); have n7_ := Aside0.mk (blk_below (g := gb516) (o := .cells #[.int .i64 t514, .int .i64 t515] 34 (0, 0)) (by (with_reducible repeat (first | refine blk_drewN ?_ _ | refine blk_drew ?_ | refine blk_alloc ?_ _)); refine blk_far ?_ NB516_540.out _; (with_reducible repeat (first | refine blk_drewN ?_ _ | refine blk_drew ?_ | refine blk_alloc ?_ _)); refine blk_far ?_ NB516_540.out _; (with_reducible repeat (first | refine blk_drewN ?_ _ | refine blk_drew ?_ | refine blk_alloc ?_ _)); exact BK516.out) hb); have n8_ := Aside0.mk (blk_below (g := gb517) (o := .cells #[.int .i64 t497, .int .i64 (wrap64 ((Int.tmod t498 900) + 1))] 32 (0, 0)) (by (with_reducible repeat (first | refine blk_drewN ?_ _ | refine blk_drew ?_ | refine blk_alloc ?_ _)); refine blk_far ?_ NB517_540.out _; (with_reducible repeat (first | refine blk_drewN ?_ _ | refine blk_drew ?_ | refine blk_alloc ?_ _)); refine blk_far ?_ NB517_540.out _; (with_reducible repeat (first | refine blk_drewN ?_ _ | refine blk_drew ?_ | refine blk_alloc ?_ _)); exact BK517.out) hb); have n9_ := Aside0.mk (blk_below (g := gb533) (o := .cells #[.int .i64 t529, .slice Ao182 t530.length co182] 28 (0, 0)) (by (with_reducible repeat (first | refine blk_drewN ?_ _ | refine blk_drew ?_ | refine blk_alloc ?_ _)); refine blk_far ?_ NB533_540.out _; (with_reducible repeat (first | refine blk_drewN ?_ _ | refine blk_drew ?_ | refine blk_alloc ?_ _)); refine blk_far ?_ NB533_540.out _; (with_reducible repeat (first | refine blk_drewN ?_ _ | refine blk_drew ?_ | refine blk_alloc ?_ _)); exact BK533.out) hb); have n10_ := Aside0.mk (blk_below (g := gb540) (o := .cells #[.int .i64 t538, .int .i64 t539] 34 (0, 0)) (by (with_reducible repeat (first | refine blk_drewN ?_ _ | refine blk_drew ?_ | refine blk_alloc ?_ _)); refine blk_put (cs := #[.int .i64 t538, .int .i64 0]) ?_ 1 _ rfl; (with_reducible repeat (first | refine blk_drewN ?_ _ | refine blk_drew ?_ | refine blk_alloc ?_ _)); refine blk_put (cs := #[.int .i64 0, .int .i64 0]) ?_ 0 _ rfl; (with_reducible repeat (first | refine blk_drewN ?_ _ | refine blk_drew ?_ | refine blk_alloc ?_ _)); exact BK540.out) hb); have n11_ := Aside0.mk (below_step zb hb); clear HO_3; clear HO_251; clear HO532; clear BK501; clear BK506; clear BK513; clear BK516; clear BK517; clear BK533; clear BK540; clear HB; have HO_3 := n0_; have HO_251 := n1_; have HO532 := n2_; have HO544 := n3_; have BK501 := n4_; have BK506 := n5_; have BK513 := n6_; have BK516 := n7_; have BK517 := n8_; have BK533 := n9_; have BK540 := n10_; have HB := n11_; clear n0_ n1_ n2_ n3_ n4_ n5_ n6_ n7_ n8_ n9_ n10_ n11_; (try clear hb); (try clear hb2); (try clear hk); (try clear hi); (try clear ho0)) | ((with_reducible refine gate_dst (N := 14) rfl ?_); refine box_event ?hg (N := 14) ?hd (cs := #[.int .i64 0, .slice none 0 0]) (t := 28) ?hr ?_; (case hd => rfl); (case hg => rfl); (case hr => first | (go_simp; done) | (go_simp; rfl)); intro gb545 hg w198 hbox hb; have n0_ := Aside0.mk (Kd.R_below (by (with_reducible repeat (first | apply Kd.R_alloc | apply Kd.R_drewN | apply Kd.R_drew)); exact HO_3.out) hb); have n1_ := Aside0.mk (Kd.R_below (by (with_reducible repeat (first | apply Kd.R_alloc | apply Kd.R_drewN | apply Kd.R_drew)); exact HO_251.out) hb); have n2_ := Aside0.mk (Kd.R_below (by (with_reducible repeat (first | apply Kd.R_alloc | apply Kd.R_drewN | apply Kd.R_drew)); exact HO532.out) hb); have n3_ := Aside0.mk (Kd.R_below (by (with_reducible repeat (first | apply Kd.R_alloc | apply Kd.R_drewN | apply Kd.R_drew)); exact HO544.out) hb); have n4_ := Aside0.mk (blk_below (g := gb501) (o := .cells #[.int .i64 t497, .int .i64 t498] 32 (0, 0)) zk hb); have n5_ := Aside0.mk (blk_below (g := gb506) (o := .cells #[.int .i64 t502, .slice Ao18 t503.length co18] 28 (0, 0)) zk hb); have n6_ := Aside0.mk (blk_below (g := gb513) (o := .cells #[.int .i64 t511, .int .i64 t512] 34 (0, 0)) zk hb); have n7_ := Aside0.mk (blk_below (g := gb516) (o := .cells #[.int .i64 t514, .int .i64 t515] 34 (0, 0)) zk hb); have n8_ := Aside0.mk (blk_below (g := gb517) (o := .cells #[.int .i64 t497, .int .i64 (wrap64 ((Int.tmod t498 900) + 1))] 32 (0, 0)) zk hb); have n9_ := Aside0.mk (blk_below (g := gb533) (o := .cells #[.int .i64 t529, .slice Ao182 t530.length co182] 28 (0, 0)) zk hb); have n10_ := Aside0.mk (blk_below (g := gb540) (o := .cells #[.int .i64 t538, .int .i64 t539] 34 (0, 0)) zk hb); have n11_ := Aside0.mk (below_step zb hb); have n12_ := Aside0.mk (hbox); have n13_ := Aside0.mk ((by rw [hg]; exact (below_size zb) : w.heap.size ≤ gb545)); have n14_ := n13_; have n15_ := Aside0.mk ((by rw [hg]; exact Nat.ne_of_lt (blk_lt (g := gb501) (o := .cells #[.int .i64 t497, .int .i64 t498] 32 (0, 0)) zk) : gb501 ≠ gb545)); have n16_ := Aside0.mk ((by rw [hg]; exact Nat.ne_of_gt (blk_lt (g := gb501) (o := .cells #[.int .i64 t497, .int .i64 t498] 32 (0, 0)) zk) : gb545 ≠ gb501)); have n17_ := Aside0.mk ((by rw [hg]; exact Nat.ne_of_lt (blk_lt (g := gb506) (o := .cells #[.int .i64 t502, .slice Ao18 t503.length co18] 28 (0, 0)) zk) : gb506 ≠ gb545)); have n18_ := Aside0.mk ((by rw [hg]; exact Nat.ne_of_gt (blk_lt (g := gb506) (o := .cells #[.int .i64 t502, .slice Ao18 t503.length co18] 28 (0, 0)) zk) : gb545 ≠ gb506)); have n19_ := Aside0.mk ((by rw [hg]; exact Nat.ne_of_lt (blk_lt (g := gb513) (o := .cells #[.int .i64 t511, .int .i64 t512] 34 (0, 0)) zk) : gb513 ≠ gb545)); have n20_ := Aside0.mk ((by rw [hg]; exact Nat.ne_of_gt (blk_lt (g := gb513) (o := .cells #[.int .i64 t511, .int .i64 t512] 34 (0, 0)) zk) : gb545 ≠ gb513)); have n21_ := Aside0.mk ((by rw [hg]; exact Nat.ne_of_lt (blk_lt (g := gb516) (o := .cells #[.int .i64 t514, .int .i64 t515] 34 (0, 0)) zk) : gb516 ≠ gb545)); have n22_ := Aside0.mk ((by rw [hg]; exact Nat.ne_of_gt (blk_lt (g := gb516) (o := .cells #[.int .i64 t514, .int .i64 t515] 34 (0, 0)) zk) : gb545 ≠ gb516)); have n23_ := Aside0.mk ((by rw [hg]; exact Nat.ne_of_lt (blk_lt (g := gb517) (o := .cells #[.int .i64 t497, .int .i64 (wrap64 ((Int.tmod t498 900) + 1))] 32 (0, 0)) zk) : gb517 ≠ gb545)); have n24_ := Aside0.mk ((by rw [hg]; exact Nat.ne_of_gt (blk_lt (g := gb517) (o := .cells #[.int .i64 t497, .int .i64 (wrap64 ((Int.tmod t498 900) + 1))] 32 (0, 0)) zk) : gb545 ≠ gb517)); have n25_ := Aside0.mk ((by rw [hg]; exact Nat.ne_of_lt (blk_lt (g := gb533) (o := .cells #[.int .i64 t529, .slice Ao182 t530.length co182] 28 (0, 0)) zk) : gb533 ≠ gb545)); have n26_ := Aside0.mk ((by rw [hg]; exact Nat.ne_of_gt (blk_lt (g := gb533) (o := .cells #[.int .i64 t529, .slice Ao182 t530.length co182] 28 (0, 0)) zk) : gb545 ≠ gb533)); have n27_ := Aside0.mk ((by rw [hg]; exact Nat.ne_of_lt (blk_lt (g := gb540) (o := .cells #[.int .i64 t538, .int .i64 t539] 34 (0, 0)) zk) : gb540 ≠ gb545)); have n28_ := Aside0.mk ((by rw [hg]; exact Nat.ne_of_gt (blk_lt (g := gb540) (o := .cells #[.int .i64 t538, .int .i64 t539] 34 (0, 0)) zk) : gb545 ≠ gb540)); clear HO_3; clear HO_251; clear HO532; clear HO544; clear BK501; clear BK506; clear BK513; clear BK516; clear BK517; clear BK533; clear BK540; clear HB; have HO_3 := n0_; have HO_251 := n1_; have HO532 := n2_; have HO544 := n3_; have BK501 := n4_; have BK506 := n5_; have BK513 := n6_; have BK516 := n7_; have BK517 := n8_; have BK533 := n9_; have BK540 := n10_; have HB := n11_; have BK545 := n12_; have GW545 := n13_; have GE545 := n14_; have NB501_545 := n15_; have NB545_501 := n16_; have NB506_545 := n17_; have NB545_506 := n18_; have NB513_545 := n19_; have NB545_513 := n20_; have NB516_545 := n21_; have NB545_516 := n22_; have NB517_545 := n23_; have NB545_517 := n24_; have NB533_545 := n25_; have NB545_533 := n26_; have NB540_545 := n27_; have NB545_540 := n28_; clear n0_ n1_ n2_ n3_ n4_ n5_ n6_ n7_ n8_ n9_ n10_ n11_ n12_ n13_ n14_ n15_ n16_ n17_ n18_ n19_ n20_ n21_ n22_ n23_ n24_ n25_ n26_ n27_ n28_; clear hb hbox hg; have hnb199 := NB545_501.out; have hnc199 := NB501_545.out; have hnb200 := NB545_506.out; have hnc200 := NB506_545.out; have hnb201 := NB545_513.out; have hnc201 := NB513_545.out; have hnb202 := NB545_516.out; have hnc202 := NB516_545.out; have hnb203 := NB545_517.out; have hnc203 := NB517_545.out; have hnb204 := NB545_533.out; have hnc204 := NB533_545.out; have hnb205 := NB545_540.out; have hnc205 := NB540_545.out; obtain ⟨hcz206_0, hcz206_1, hfz206_0, hfz206_1⟩ := Lv.blks2 BK545.out; obtain ⟨Ao207, co207, eo207⟩ := Kd.R_slice HO544.out; subst eo207))
           have n0_ : Aside0 (Kd.R k51 51 ((w198.setCell ⟨gb545, 0, none⟩ (.int .i64 t541)).setCell ⟨gb545, 1, none⟩ (.slice Ao207 t542.length co207)) w.heap.size (fun k_ => some k_ ≠ (.slice Ao18 t503.length co18 : Value).ownBlock ∧ some k_ ≠ (.slice Ao182 t530.length co182 : Value).ownBlock ∧ some k_ ≠ (.slice Ao207 t542.length co207 : Value).ownBlock) (.slice Ao13 t494.length co13) t494) := ⟨by (with_reducible repeat (first | apply Kd.R_alloc | apply Kd.R_drewN | apply Kd.R_drew)); exact Kd.R_mono (Kd.R_far (p := ⟨gb545, 1, none⟩) (Kd.R_far (p := ⟨gb545, 0, none⟩) (Kd.R_types HO_3.out BK545.out (by decide)) (fun _ hk => hk.2) (.int .i64 t541)) (fun _ hk => hk.2) (.slice Ao207 t542.length co207)) (fun _ hk => ⟨hk.1.1.1, ⟨hk.1.1.2, hk.1.2⟩⟩)⟩
           have n1_ : Aside0 (Kd.R k51 51 ((w198.setCell ⟨gb545, 0, none⟩ (.int .i64 t541)).setCell ⟨gb545, 1, none⟩ (.slice Ao207 t542.length co207)) w.heap.size (fun k_ => some k_ ≠ (.slice Ao13 t494.length co13 : Value).ownBlock ∧ some k_ ≠ (.slice Ao182 t530.length co182 : Value).ownBlock ∧ some k_ ≠ (.slice Ao207 t542.length co207 : Value).ownBlock) (.slice Ao18 t503.length co18) t503) := ⟨by (with_reducible repeat (first | apply Kd.R_alloc | apply Kd.R_drewN | apply Kd.R_drew)); exact Kd.R_mono (Kd.R_far (p := ⟨gb545, 1, none⟩) (Kd.R_far (p := ⟨gb545, 0, none⟩) (Kd.R_types HO_251.out BK545.out (by decide)) (fun _ hk => hk.2) (.int .i64 t541)) (fun _ hk => hk.2) (.slice Ao207 t542.length co207)) (fun _ hk => ⟨hk.1.1.1, ⟨hk.1.1.2, hk.1.2⟩⟩)⟩
           have n2_ : Aside0 (Kd.R k51 51 ((w198.setCell ⟨gb545, 0, none⟩ (.int .i64 t541)).setCell ⟨gb545, 1, none⟩ (.slice Ao207 t542.length co207)) w.heap.size (fun k_ => some k_ ≠ (.slice Ao13 t494.length co13 : Value).ownBlock ∧ some k_ ≠ (.slice Ao18 t503.length co18 : Value).ownBlock ∧ some k_ ≠ (.slice Ao207 t542.length co207 : Value).ownBlock) (.slice Ao182 t530.length co182) t530) := ⟨by (with_reducible repeat (first | apply Kd.R_alloc | apply Kd.R_drewN | apply Kd.R_drew)); exact Kd.R_mono (Kd.R_far (p := ⟨gb545, 1, none⟩) (Kd.R_far (p := ⟨gb545, 0, none⟩) (Kd.R_types HO532.out BK545.out (by decide)) (fun _ hk => hk.2) (.int .i64 t541)) (fun _ hk => hk.2) (.slice Ao207 t542.length co207)) (fun _ hk => ⟨hk.1.1.1.2, ⟨hk.1.1.2, hk.1.2⟩⟩)⟩
           have n3_ : Aside0 (Kd.R k51 51 ((w198.setCell ⟨gb545, 0, none⟩ (.int .i64 t541)).setCell ⟨gb545, 1, none⟩ (.slice Ao207 t542.length co207)) w.heap.size (fun k_ => some k_ ≠ (.slice Ao13 t494.length co13 : Value).ownBlock ∧ some k_ ≠ (.slice Ao18 t503.length co18 : Value).ownBlock ∧ some k_ ≠ (.slice Ao182 t530.length co182 : Value).ownBlock) (.slice Ao207 t542.length co207) t542) := ⟨by (with_reducible repeat (first | apply Kd.R_alloc | apply Kd.R_drewN | apply Kd.R_drew)); exact Kd.R_mono (Kd.R_far (p := ⟨gb545, 1, none⟩) (Kd.R_far (p := ⟨gb545, 0, none⟩) (Kd.R_types HO544.out BK545.out (by decide)) (fun _ hk => hk.2) (.int .i64 t541)) (fun _ hk => hk.2) (.slice Ao207 t542.length co207)) (fun _ hk => ⟨hk.1.1.1.2, ⟨hk.1.1.2, hk.1.2⟩⟩)⟩
           have n4_ : Aside0 (((w198.setCell ⟨gb545, 0, none⟩ (.int .i64 t541)).setCell ⟨gb545, 1, none⟩ (.slice Ao207 t542.length co207)).heap[gb501]? = some (.cells #[.int .i64 t497, .int .i64 t498] 32 (0, 0))) := ⟨by (with_reducible repeat (first | refine blk_drewN ?_ _ | refine blk_drew ?_ | refine blk_alloc ?_ _)); refine blk_far ?_ NB501_545.out _; (with_reducible repeat (first | refine blk_drewN ?_ _ | refine blk_drew ?_ | refine blk_alloc ?_ _)); refine blk_far ?_ NB501_545.out _; (with_reducible repeat (first | refine blk_drewN ?_ _ | refine blk_drew ?_ | refine blk_alloc ?_ _)); exact BK501.out⟩
           have n5_ : Aside0 (((w198.setCell ⟨gb545, 0, none⟩ (.int .i64 t541)).setCell ⟨gb545, 1, none⟩ (.slice Ao207 t542.length co207)).heap[gb506]? = some (.cells #[.int .i64 t502, .slice Ao18 t503.length co18] 28 (0, 0))) := ⟨by (with_reducible repeat (first | refine blk_drewN ?_ _ | refine blk_drew ?_ | refine blk_alloc ?_ _)); refine blk_far ?_ NB506_545.out _; (with_reducible repeat (first | refine blk_drewN ?_ _ | refine blk_drew ?_ | refine blk_alloc ?_ _)); refine blk_far ?_ NB506_545.out _; (with_reducible repeat (first | refine blk_drewN ?_ _ | refine blk_drew ?_ | refine blk_alloc ?_ _)); exact BK506.out⟩
           have n6_ : Aside0 (((w198.setCell ⟨gb545, 0, none⟩ (.int .i64 t541)).setCell ⟨gb545, 1, none⟩ (.slice Ao207 t542.length co207)).heap[gb513]? = some (.cells #[.int .i64 t511, .int .i64 t512] 34 (0, 0))) := ⟨by (with_reducible repeat (first | refine blk_drewN ?_ _ | refine blk_drew ?_ | refine blk_alloc ?_ _)); refine blk_far ?_ NB513_545.out _; (with_reducible repeat (first | refine blk_drewN ?_ _ | refine blk_drew ?_ | refine blk_alloc ?_ _)); refine blk_far ?_ NB513_545.out _; (with_reducible repeat (first | refine blk_drewN ?_ _ | refine blk_drew ?_ | refine blk_alloc ?_ _)); exact BK513.out⟩
           have n7_ : Aside0 (((w198.setCell ⟨gb545, 0, none⟩ (.int .i64 t541)).setCell ⟨gb545, 1, none⟩ (.slice Ao207 t542.length co207)).heap[gb516]? = some (.cells #[.int .i64 t514, .int .i64 t515] 34 (0, 0))) := ⟨by (with_reducible repeat (first | refine blk_drewN ?_ _ | refine blk_drew ?_ | refine blk_alloc ?_ _)); refine blk_far ?_ NB516_545.out _; (with_reducible repeat (first | refine blk_drewN ?_ _ | refine blk_drew ?_ | refine blk_alloc ?_ _)); refine blk_far ?_ NB516_545.out _; (with_reducible repeat (first | refine blk_drewN ?_ _ | refine blk_drew ?_ | refine blk_alloc ?_ _)); exact BK516.out⟩
           have n8_ : Aside0 (((w198.setCell ⟨gb545, 0, none⟩ (.int .i64 t541)).setCell ⟨gb545, 1, none⟩ (.slice Ao207 t542.length co207)).heap[gb517]? = some (.cells #[.int .i64 t497, .int .i64 (wrap64 ((Int.tmod t498 900) + 1))] 32 (0, 0))) := ⟨by (with_reducible repeat (first | refine blk_drewN ?_ _ | refine blk_drew ?_ | refine blk_alloc ?_ _)); refine blk_far ?_ NB517_545.out _; (with_reducible repeat (first | refine blk_drewN ?_ _ | refine blk_drew ?_ | refine blk_alloc ?_ _)); refine blk_far ?_ NB517_545.out _; (with_reducible repeat (first | refine blk_drewN ?_ _ | refine blk_drew ?_ | refine blk_alloc ?_ _)); exact BK517.out⟩
           have n9_ : Aside0 (((w198.setCell ⟨gb545, 0, none⟩ (.int .i64 t541)).setCell ⟨gb545, 1, none⟩ (.slice Ao207 t542.length co207)).heap[gb533]? = some (.cells #[.int .i64 t529, .slice Ao182 t530.length co182] 28 (0, 0))) := ⟨by (with_reducible repeat (first | refine blk_drewN ?_ _ | refine blk_drew ?_ | refine blk_alloc ?_ _)); refine blk_far ?_ NB533_545.out _; (with_reducible repeat (first | refine blk_drewN ?_ _ | refine blk_drew ?_ | refine blk_alloc ?_ _)); refine blk_far ?_ NB533_545.out _; (with_reducible repeat (first | refine blk_drewN ?_ _ | refine blk_drew ?_ | refine blk_alloc ?_ _)); exact BK533.out⟩
           have n10_ : Aside0 (((w198.setCell ⟨gb545, 0, none⟩ (.int .i64 t541)).setCell ⟨gb545, 1, none⟩ (.slice Ao207 t542.length co207)).heap[gb540]? = some (.cells #[.int .i64 t538, .int .i64 t539] 34 (0, 0))) := ⟨by (with_reducible repeat (first | refine blk_drewN ?_ _ | refine blk_drew ?_ | refine blk_alloc ?_ _)); refine blk_far ?_ NB540_545.out _; (with_reducible repeat (first | refine blk_drewN ?_ _ | refine blk_drew ?_ | refine blk_alloc ?_ _)); refine blk_far ?_ NB540_545.out _; (with_reducible repeat (first | refine blk_drewN ?_ _ | refine blk_drew ?_ | refine blk_alloc ?_ _)); exact BK540.out⟩
           have n11_ : Aside0 (((w198.setCell ⟨gb545, 0, none⟩ (.int .i64 t541)).setCell ⟨gb545, 1, none⟩ (.slice Ao207 t542.length co207)).heap[gb545]? = some (.cells #[.int .i64 t541, .slice Ao207 t542.length co207] 28 (0, 0))) := ⟨by (with_reducible repeat (first | refine blk_drewN ?_ _ | refine blk_drew ?_ | refine blk_alloc ?_ _)); refine blk_put (cs := #[.int .i64 t541, .slice none 0 0]) ?_ 1 _ rfl; (with_reducible repeat (first | refine blk_drewN ?_ _ | refine blk_drew ?_ | refine blk_alloc ?_ _)); refine blk_put (cs := #[.int .i64 0, .slice none 0 0]) ?_ 0 _ rfl; (with_reducible repeat (first | refine blk_drewN ?_ _ | refine blk_drew ?_ | refine blk_alloc ?_ _)); exact BK545.out⟩
           have n12_ : Aside0 (Below w.heap.size w ((w198.setCell ⟨gb545, 0, none⟩ (.int .i64 t541)).setCell ⟨gb545, 1, none⟩ (.slice Ao207 t542.length co207))) := ⟨zb⟩
           (try clear HO_3)
           (try clear HO_251)
           (try clear HO532)
           (try clear HO544)
           (try clear BK501)
           (try clear BK506)
           (try clear BK513)
           (try clear BK516)
           (try clear BK517)
           (try clear BK533)
           (try clear BK540)
           (try clear BK545)
           (try clear HB)
           generalize ((w198.setCell ⟨gb545, 0, none⟩ (.int .i64 t541)).setCell ⟨gb545, 1, none⟩ (.slice Ao207 t542.length co207)) = w208 at n0_ n1_ n2_ n3_ n4_ n5_ n6_ n7_ n8_ n9_ n10_ n11_ n12_ ⊢
           have HO_3 := n0_
           have HO_251 := n1_
           have HO532 := n2_
           have HO544 := n3_
           have BK501 := n4_
           have BK506 := n5_
           have BK513 := n6_
           have BK516 := n7_
           have BK517 := n8_
           have BK533 := n9_
           have BK540 := n10_
           have BK545 := n11_
           have HB := n12_
           clear n0_ n1_ n2_ n3_ n4_ n5_ n6_ n7_ n8_ n9_ n10_ n11_ n12_
           have n0_ := Aside0.mk (Kd.R_drew HO_3.out)
           have n1_ := Aside0.mk (Kd.R_drew HO_251.out)
           have n2_ := Aside0.mk (Kd.R_drew HO532.out)
           have n3_ := Aside0.mk (Kd.R_drew HO544.out)
           have n4_ := Aside0.mk (blk_drew BK501.out)
           have n5_ := Aside0.mk (blk_drew BK506.out)
           have n6_ := Aside0.mk (blk_drew BK513.out)
           have n7_ := Aside0.mk (blk_drew BK516.out)
           have n8_ := Aside0.mk (blk_drew BK517.out)
           have n9_ := Aside0.mk (blk_drew BK533.out)
           have n10_ := Aside0.mk (blk_drew BK540.out)
           have n11_ := Aside0.mk (blk_drew BK545.out)
           have n12_ := Aside0.mk (below_drew1 HB.out)
           clear HO_3 HO_251 HO532 HO544 BK501 BK506 BK513 BK516 BK517 BK533 BK540 BK545 HB
           have HO_3 := n0_
           have HO_251 := n1_
           have HO532 := n2_
           have HO544 := n3_
           have BK501 := n4_
           have BK506 := n5_
           have BK513 := n6_
           have BK516 := n7_
           have BK517 := n8_
           have BK533 := n9_
           have BK540 := n10_
           have BK545 := n11_
           have HB := n12_
           clear n0_ n1_ n2_ n3_ n4_ n5_ n6_ n7_ n8_ n9_ n10_ n11_ n12_
           refine start_ (n := 53) (S := fun w' => w'.cell? ⟨gb533, 0, none⟩ = some (.int .i64 t529) ∧ w'.cell? ⟨gb533, 1, none⟩ = some (.slice Ao182 t530.length co182) ∧ w'.cell? ⟨gb517, 0, none⟩ = some (.int .i64 t497) ∧ w'.cell? ⟨gb517, 1, none⟩ = some (.int .i64 (wrap64 ((Int.tmod t498 900) + 1))) ∧ w'.cell? ⟨gb540, 0, none⟩ = some (.int .i64 t538) ∧ w'.cell? ⟨gb540, 1, none⟩ = some (.int .i64 t539) ∧ w'.cell? ⟨gb545, 0, none⟩ = some (.int .i64 t541) ∧ w'.cell? ⟨gb545, 1, none⟩ = some (.slice Ao207 t542.length co207)) (ds := []) #[false, false, false, false, false, false, false, false, false, false, false, false, false, false, false, false, false, false, false, false, false, false, false, false, false, false, false, false, false, false, false, false, false, false, false, false, false, false, false, false, false, false, false, false, false, false, false, false, false, false, false, false, false] (by kernel_rfl) rfl rfl ⟨(blk_cell BK533.out 0).trans rfl, (blk_cell BK533.out 1).trans rfl, (blk_cell BK517.out 0).trans rfl, (blk_cell BK517.out 1).trans rfl, (blk_cell BK540.out 0).trans rfl, (blk_cell BK540.out 1).trans rfl, (blk_cell BK545.out 0).trans rfl, (blk_cell BK545.out 1).trans rfl⟩ (fun hHeld => ?_); refine with_tabW laws_FnChains.tab18 laws_FnChains.bits18 (fun HT_ HW_ => ?_)
           generalize w208.drew = w209 at HO_3 HO_251 HO532 HO544 BK501 BK506 BK513 BK516 BK517 BK533 BK540 BK545 HB hHeld ⊢
           refine zp 0 134 ?_; refine zp 4 138 ?_; refine zt 1 135 ?_; refine zt 2 136 ?_; refine zt 5 139 ?_
           refine one_ (i := 3) (N := some 137) #[true, true, true, true, true, true, false, false, false, false, false, false, false, false, false, false, false, false, false, false, false, false, false, false, false, false, false, false, false, false, false, false, false, false, false, false, false, false, false, false, false, false, false, false, false, false, false, false, false, false, false, false, false] rfl rfl (one_of HT_.out (by kernel_rfl)) (by decide) (fun K hK => ?_)
           refine goes_ Try.func10 (by kernel_rfl) rfl #[.slice Ao182 t530.length co182, .agg #[.int .i64 t497, .int .i64 (wrap64 ((Int.tmod t498 900) + 1))]] (by rfl) rfl rfl zm ?_
           with_reducible refine (impl_SeenIn.calls kj8 _ _ t530 t497 (wrap64 ((Int.tmod t498 900) + 1)) t546 t547 _ ?side1 ?side2 A94.out).mono ?_
           (case side1 => repeat (first | exact (Kd.R_reads' HO532.out).2.2 | (with_reducible first | refine Kd.C_alloc ?_ _ | refine Kd.C_drewN ?_ _ | refine Kd.C_drew ?_)))
           (case side2 => exact (Kd.R_reads' HO532.out).2.1)
           rintro e w210 ⟨rfl, hb⟩
           refine ⟨_, rfl, ?_⟩
           have n0_ := Aside0.mk (Kd.R_below (by (with_reducible repeat (first | apply Kd.R_alloc | apply Kd.R_drewN | apply Kd.R_drew)); exact HO_3.out) hb)
           have n1_ := Aside0.mk (Kd.R_below (by (with_reducible repeat (first | apply Kd.R_alloc | apply Kd.R_drewN | apply Kd.R_drew)); exact HO_251.out) hb)
           have n2_ := Aside0.mk (Kd.R_below (by (with_reducible repeat (first | apply Kd.R_alloc | apply Kd.R_drewN | apply Kd.R_drew)); exact HO532.out) hb)
           have n3_ := Aside0.mk (Kd.R_below (by (with_reducible repeat (first | apply Kd.R_alloc | apply Kd.R_drewN | apply Kd.R_drew)); exact HO544.out) hb)
           have n4_ := Aside0.mk (blk_below (g := gb501) (o := .cells #[.int .i64 t497, .int .i64 t498] 32 (0, 0)) zk hb)
           have n5_ := Aside0.mk (blk_below (g := gb506) (o := .cells #[.int .i64 t502, .slice Ao18 t503.length co18] 28 (0, 0)) zk hb)
           have n6_ := Aside0.mk (blk_below (g := gb513) (o := .cells #[.int .i64 t511, .int .i64 t512] 34 (0, 0)) zk hb)
           have n7_ := Aside0.mk (blk_below (g := gb516) (o := .cells #[.int .i64 t514, .int .i64 t515] 34 (0, 0)) zk hb)
           have n8_ := Aside0.mk (blk_below (g := gb517) (o := .cells #[.int .i64 t497, .int .i64 (wrap64 ((Int.tmod t498 900) + 1))] 32 (0, 0)) zk hb)
           have n9_ := Aside0.mk (blk_below (g := gb533) (o := .cells #[.int .i64 t529, .slice Ao182 t530.length co182] 28 (0, 0)) zk hb)
           have n10_ := Aside0.mk (blk_below (g := gb540) (o := .cells #[.int .i64 t538, .int .i64 t539] 34 (0, 0)) zk hb)
           have n11_ := Aside0.mk (blk_below (g := gb545) (o := .cells #[.int .i64 t541, .slice Ao207 t542.length co207] 28 (0, 0)) zk hb)
           have n12_ := Aside0.mk (below_step zb hb)
           clear HO_3 HO_251 HO532 HO544 BK501 BK506 BK513 BK516 BK517 BK533 BK540 BK545 HB
           have HO_3 := n0_
           have HO_251 := n1_
           have HO532 := n2_
           have HO544 := n3_
           have BK501 := n4_
           have BK506 := n5_
           have BK513 := n6_
           have BK516 := n7_
           have BK517 := n8_
           have BK533 := n9_
           have BK540 := n10_
           have BK545 := n11_
           have HB := n12_
           clear n0_ n1_ n2_ n3_ n4_ n5_ n6_ n7_ n8_ n9_ n10_ n11_ n12_
           (try clear hb)
           (try clear hb2)
           (try clear hk)
           (try clear hi)
           refine hK.out _ _ ⟨(blk_cell BK533.out 0).trans rfl, (blk_cell BK533.out 1).trans rfl, (blk_cell BK517.out 0).trans rfl, (blk_cell BK517.out 1).trans rfl, (blk_cell BK540.out 0).trans rfl, (blk_cell BK540.out 1).trans rfl, (blk_cell BK545.out 0).trans rfl, (blk_cell BK545.out 1).trans rfl⟩ (fun hHeld => ?_)
           clear hK K
           refine norm_ (a' := ?_) ?_ ?_
           rotate_left
           ·show Act.put _ (some 137) _ = _
            simp only [Act.put, List.setIfInBounds_toArray, List.set_cons_zero, List.set_cons_succ, i64_w, i32_w]
            rfl
           refine one_ (i := 6) (N := some 140) #[true, true, true, true, true, true, true, false, false, false, false, false, false, false, false, false, false, false, false, false, false, false, false, false, false, false, false, false, false, false, false, false, false, false, false, false, false, false, false, false, false, false, false, false, false, false, false, false, false, false, false, false, false] rfl rfl (one_of HT_.out (by kernel_rfl)) (by decide) (fun K hK => ?_)
           refine goes_ Try.func10 (by kernel_rfl) rfl #[.slice Ao13 t494.length co13, .agg #[.int .i64 t497, .int .i64 (wrap64 ((Int.tmod t498 900) + 1))]] (by rfl) rfl rfl zm ?_
           with_reducible refine (impl_SeenIn.calls kj8 _ _ t494 t497 (wrap64 ((Int.tmod t498 900) + 1)) t548 t549 _ ?side1 ?side2 A95.out).mono ?_
           (case side1 => repeat (first | exact (Kd.R_reads' HO_3.out).2.2 | (with_reducible first | refine Kd.C_alloc ?_ _ | refine Kd.C_drewN ?_ _ | refine Kd.C_drew ?_)))
           (case side2 => exact (Kd.R_reads' HO_3.out).2.1)
           rintro e w211 ⟨rfl, hb⟩
           refine ⟨_, rfl, ?_⟩
           have n0_ := Aside0.mk (Kd.R_below (by (with_reducible repeat (first | apply Kd.R_alloc | apply Kd.R_drewN | apply Kd.R_drew)); exact HO_3.out) hb)
           have n1_ := Aside0.mk (Kd.R_below (by (with_reducible repeat (first | apply Kd.R_alloc | apply Kd.R_drewN | apply Kd.R_drew)); exact HO_251.out) hb)
           have n2_ := Aside0.mk (Kd.R_below (by (with_reducible repeat (first | apply Kd.R_alloc | apply Kd.R_drewN | apply Kd.R_drew)); exact HO532.out) hb)
           have n3_ := Aside0.mk (Kd.R_below (by (with_reducible repeat (first | apply Kd.R_alloc | apply Kd.R_drewN | apply Kd.R_drew)); exact HO544.out) hb)
           have n4_ := Aside0.mk (blk_below (g := gb501) (o := .cells #[.int .i64 t497, .int .i64 t498] 32 (0, 0)) zk hb)
           have n5_ := Aside0.mk (blk_below (g := gb506) (o := .cells #[.int .i64 t502, .slice Ao18 t503.length co18] 28 (0, 0)) zk hb)
           have n6_ := Aside0.mk (blk_below (g := gb513) (o := .cells #[.int .i64 t511, .int .i64 t512] 34 (0, 0)) zk hb)
           have n7_ := Aside0.mk (blk_below (g := gb516) (o := .cells #[.int .i64 t514, .int .i64 t515] 34 (0, 0)) zk hb)
           have n8_ := Aside0.mk (blk_below (g := gb517) (o := .cells #[.int .i64 t497, .int .i64 (wrap64 ((Int.tmod t498 900) + 1))] 32 (0, 0)) zk hb)
           have n9_ := Aside0.mk (blk_below (g := gb533) (o := .cells #[.int .i64 t529, .slice Ao182 t530.length co182] 28 (0, 0)) zk hb)
           have n10_ := Aside0.mk (blk_below (g := gb540) (o := .cells #[.int .i64 t538, .int .i64 t539] 34 (0, 0)) zk hb)
           have n11_ := Aside0.mk (blk_below (g := gb545) (o := .cells #[.int .i64 t541, .slice Ao207 t542.length co207] 28 (0, 0)) zk hb)
           have n12_ := Aside0.mk (below_step zb hb)
           clear HO_3 HO_251 HO532 HO544 BK501 BK506 BK513 BK516 BK517 BK533 BK540 BK545 HB
           have HO_3 := n0_
           have HO_251 := n1_
           have HO532 := n2_
           have HO544 := n3_
           have BK501 := n4_
           have BK506 := n5_
           have BK513 := n6_
           have BK516 := n7_
           have BK517 := n8_
           have BK533 := n9_
           have BK540 := n10_
           have BK545 := n11_
           have HB := n12_
           clear n0_ n1_ n2_ n3_ n4_ n5_ n6_ n7_ n8_ n9_ n10_ n11_ n12_
           (try clear hb)
           (try clear hb2)
           (try clear hk)
           (try clear hi)
           refine hK.out _ _ ⟨(blk_cell BK533.out 0).trans rfl, (blk_cell BK533.out 1).trans rfl, (blk_cell BK517.out 0).trans rfl, (blk_cell BK517.out 1).trans rfl, (blk_cell BK540.out 0).trans rfl, (blk_cell BK540.out 1).trans rfl, (blk_cell BK545.out 0).trans rfl, (blk_cell BK545.out 1).trans rfl⟩ (fun hHeld => ?_)
           clear hK K
           refine norm_ (a' := ?_) ?_ ?_
           rotate_left
           ·show Act.put _ (some 140) _ = _
            simp only [Act.put, List.setIfInBounds_toArray, List.set_cons_zero, List.set_cons_succ, i64_w, i32_w]
            rfl
           refine zp 7 141 ?_; refine zp 8 142 ?_; refine zp 9 143 ?_; refine zp 10 144 ?_; refine zt 11 145 ?_; refine zp 12 146 ?_; refine zp 13 147 ?_; refine zp 14 148 ?_; refine zp 15 149 ?_; refine zp 16 150 ?_; refine zp 17 151 ?_; refine zp 18 152 ?_; refine zp 20 154 ?_; refine zt 19 153 ?_; refine zp 21 155 ?_; refine zp 22 156 ?_; refine zp 23 157 ?_; refine zp 24 158 ?_; refine zp 25 159 ?_; refine zt 26 160 ?_; refine zt 27 161 ?_
           refine one_ (i := 28) (N := some 162) #[true, true, true, true, true, true, true, true, true, true, true, true, true, true, true, true, true, true, true, true, true, true, true, true, true, true, true, true, true, false, false, false, false, false, false, false, false, false, false, false, false, false, false, false, false, false, false, false, false, false, false, false, false] rfl rfl (one_of HT_.out (by kernel_rfl)) (by decide) (fun K hK => ?_)
           refine goes_ Try.func11 (by kernel_rfl) rfl #[.slice Ao182 t530.length co182, .agg #[.int .i64 t497, .int .i64 (wrap64 ((Int.tmod t498 900) + 1))]] (by rfl) rfl rfl zm ?_
           with_reducible refine (impl_MayWrite.calls kj8 _ _ t530 t497 (wrap64 ((Int.tmod t498 900) + 1)) t556 _ ?side1 ?side2 A158.out).mono ?_
           (case side1 => repeat (first | exact (Kd.R_reads' HO532.out).2.2 | (with_reducible first | refine Kd.C_alloc ?_ _ | refine Kd.C_drewN ?_ _ | refine Kd.C_drew ?_)))
           (case side2 => exact (Kd.R_reads' HO532.out).2.1)
           rintro e w212 ⟨rfl, hb⟩
           refine ⟨_, rfl, ?_⟩
           have n0_ := Aside0.mk (Kd.R_below (by (with_reducible repeat (first | apply Kd.R_alloc | apply Kd.R_drewN | apply Kd.R_drew)); exact HO_3.out) hb)
           have n1_ := Aside0.mk (Kd.R_below (by (with_reducible repeat (first | apply Kd.R_alloc | apply Kd.R_drewN | apply Kd.R_drew)); exact HO_251.out) hb)
           have n2_ := Aside0.mk (Kd.R_below (by (with_reducible repeat (first | apply Kd.R_alloc | apply Kd.R_drewN | apply Kd.R_drew)); exact HO532.out) hb)
           have n3_ := Aside0.mk (Kd.R_below (by (with_reducible repeat (first | apply Kd.R_alloc | apply Kd.R_drewN | apply Kd.R_drew)); exact HO544.out) hb)
           have n4_ := Aside0.mk (blk_below (g := gb501) (o := .cells #[.int .i64 t497, .int .i64 t498] 32 (0, 0)) zk hb)
           have n5_ := Aside0.mk (blk_below (g := gb506) (o := .cells #[.int .i64 t502, .slice Ao18 t503.length co18] 28 (0, 0)) zk hb)
           have n6_ := Aside0.mk (blk_below (g := gb513) (o := .cells #[.int .i64 t511, .int .i64 t512] 34 (0, 0)) zk hb)
           have n7_ := Aside0.mk (blk_below (g := gb516) (o := .cells #[.int .i64 t514, .int .i64 t515] 34 (0, 0)) zk hb)
           have n8_ := Aside0.mk (blk_below (g := gb517) (o := .cells #[.int .i64 t497, .int .i64 (wrap64 ((Int.tmod t498 900) + 1))] 32 (0, 0)) zk hb)
           have n9_ := Aside0.mk (blk_below (g := gb533) (o := .cells #[.int .i64 t529, .slice Ao182 t530.length co182] 28 (0, 0)) zk hb)
           have n10_ := Aside0.mk (blk_below (g := gb540) (o := .cells #[.int .i64 t538, .int .i64 t539] 34 (0, 0)) zk hb)
           have n11_ := Aside0.mk (blk_below (g := gb545) (o := .cells #[.int .i64 t541, .slice Ao207 t542.length co207] 28 (0, 0)) zk hb)
           have n12_ := Aside0.mk (below_step zb hb)
           clear HO_3 HO_251 HO532 HO544 BK501 BK506 BK513 BK516 BK517 BK533 BK540 BK545 HB
           have HO_3 := n0_
           have HO_251 := n1_
           have HO532 := n2_
           have HO544 := n3_
           have BK501 := n4_
           have BK506 := n5_
           have BK513 := n6_
           have BK516 := n7_
           have BK517 := n8_
           have BK533 := n9_
           have BK540 := n10_
           have BK545 := n11_
           have HB := n12_
           clear n0_ n1_ n2_ n3_ n4_ n5_ n6_ n7_ n8_ n9_ n10_ n11_ n12_
           (try clear hb)
           (try clear hb2)
           (try clear hk)
           (try clear hi)
           refine hK.out _ _ ⟨(blk_cell BK533.out 0).trans rfl, (blk_cell BK533.out 1).trans rfl, (blk_cell BK517.out 0).trans rfl, (blk_cell BK517.out 1).trans rfl, (blk_cell BK540.out 0).trans rfl, (blk_cell BK540.out 1).trans rfl, (blk_cell BK545.out 0).trans rfl, (blk_cell BK545.out 1).trans rfl⟩ (fun hHeld => ?_)
           clear hK K
           refine norm_ (a' := ?_) ?_ ?_
           rotate_left
           ·show Act.put _ (some 162) _ = _
            simp only [Act.put, List.setIfInBounds_toArray, List.set_cons_zero, List.set_cons_succ, i64_w, i32_w]
            rfl
           refine zp 29 163 ?_; refine zp 30 164 ?_; refine zp 31 165 ?_; refine zp 32 166 ?_; refine zt 33 167 ?_
           refine one_ (i := 34) (N := some 168) #[true, true, true, true, true, true, true, true, true, true, true, true, true, true, true, true, true, true, true, true, true, true, true, true, true, true, true, true, true, true, true, true, true, true, true, false, false, false, false, false, false, false, false, false, false, false, false, false, false, false, false, false, false] rfl rfl (one_of HT_.out (by kernel_rfl)) (by decide) (fun K hK => ?_)
           refine goes_ Try.func9 (by kernel_rfl) rfl #[.slice Ao182 t530.length co182] (by rfl) rfl rfl zm ?_
           with_reducible refine (impl_ChainFault.calls kj8 _ _ t530 t557 _ ?side1 ?side2 A160.out).mono ?_
           (case side1 => repeat (first | exact (Kd.R_reads' HO532.out).2.2 | (with_reducible first | refine Kd.C_alloc ?_ _ | refine Kd.C_drewN ?_ _ | refine Kd.C_drew ?_)))
           (case side2 => exact (Kd.R_reads' HO532.out).2.1)
           rintro e w213 ⟨rfl, hb⟩
           refine ⟨_, rfl, ?_⟩
           have n0_ := Aside0.mk (Kd.R_below (by (with_reducible repeat (first | apply Kd.R_alloc | apply Kd.R_drewN | apply Kd.R_drew)); exact HO_3.out) hb)
           have n1_ := Aside0.mk (Kd.R_below (by (with_reducible repeat (first | apply Kd.R_alloc | apply Kd.R_drewN | apply Kd.R_drew)); exact HO_251.out) hb)
           have n2_ := Aside0.mk (Kd.R_below (by (with_reducible repeat (first | apply Kd.R_alloc | apply Kd.R_drewN | apply Kd.R_drew)); exact HO532.out) hb)
           have n3_ := Aside0.mk (Kd.R_below (by (with_reducible repeat (first | apply Kd.R_alloc | apply Kd.R_drewN | apply Kd.R_drew)); exact HO544.out) hb)
           have n4_ := Aside0.mk (blk_below (g := gb501) (o := .cells #[.int .i64 t497, .int .i64 t498] 32 (0, 0)) zk hb)
           have n5_ := Aside0.mk (blk_below (g := gb506) (o := .cells #[.int .i64 t502, .slice Ao18 t503.length co18] 28 (0, 0)) zk hb)
           have n6_ := Aside0.mk (blk_below (g := gb513) (o := .cells #[.int .i64 t511, .int .i64 t512] 34 (0, 0)) zk hb)
           have n7_ := Aside0.mk (blk_below (g := gb516) (o := .cells #[.int .i64 t514, .int .i64 t515] 34 (0, 0)) zk hb)
           have n8_ := Aside0.mk (blk_below (g := gb517) (o := .cells #[.int .i64 t497, .int .i64 (wrap64 ((Int.tmod t498 900) + 1))] 32 (0, 0)) zk hb)
           have n9_ := Aside0.mk (blk_below (g := gb533) (o := .cells #[.int .i64 t529, .slice Ao182 t530.length co182] 28 (0, 0)) zk hb)
           have n10_ := Aside0.mk (blk_below (g := gb540) (o := .cells #[.int .i64 t538, .int .i64 t539] 34 (0, 0)) zk hb)
           have n11_ := Aside0.mk (blk_below (g := gb545) (o := .cells #[.int .i64 t541, .slice Ao207 t542.length co207] 28 (0, 0)) zk hb)
           have n12_ := Aside0.mk (below_step zb hb)
           clear HO_3 HO_251 HO532 HO544 BK501 BK506 BK513 BK516 BK517 BK533 BK540 BK545 HB
           have HO_3 := n0_
           have HO_251 := n1_
           have HO532 := n2_
           have HO544 := n3_
           have BK501 := n4_
           have BK506 := n5_
           have BK513 := n6_
           have BK516 := n7_
           have BK517 := n8_
           have BK533 := n9_
           have BK540 := n10_
           have BK545 := n11_
           have HB := n12_
           clear n0_ n1_ n2_ n3_ n4_ n5_ n6_ n7_ n8_ n9_ n10_ n11_ n12_
           (try clear hb)
           (try clear hb2)
           (try clear hk)
           (try clear hi)
           refine hK.out _ _ ⟨(blk_cell BK533.out 0).trans rfl, (blk_cell BK533.out 1).trans rfl, (blk_cell BK517.out 0).trans rfl, (blk_cell BK517.out 1).trans rfl, (blk_cell BK540.out 0).trans rfl, (blk_cell BK540.out 1).trans rfl, (blk_cell BK545.out 0).trans rfl, (blk_cell BK545.out 1).trans rfl⟩ (fun hHeld => ?_)
           clear hK K
           refine norm_ (a' := ?_) ?_ ?_
           rotate_left
           ·show Act.put _ (some 168) _ = _
            simp only [Act.put, List.setIfInBounds_toArray, List.set_cons_zero, List.set_cons_succ, i64_w, i32_w]
            rfl
           refine zp 35 169 ?_; refine zp 36 170 ?_; refine zp 37 171 ?_; refine zp 38 172 ?_; refine zt 39 173 ?_; refine zp 40 174 ?_; refine zp 41 175 ?_; refine zp 42 176 ?_; refine zp 43 177 ?_; refine zp 47 181 ?_; refine zt 44 178 ?_; refine zt 45 179 ?_; refine zt 48 182 ?_
           refine one_ (i := 46) (N := some 180) #[true, true, true, true, true, true, true, true, true, true, true, true, true, true, true, true, true, true, true, true, true, true, true, true, true, true, true, true, true, true, true, true, true, true, true, true, true, true, true, true, true, true, true, true, true, true, true, true, true, false, false, false, false] rfl rfl (one_of HT_.out (by kernel_rfl)) (by decide) (fun K hK => ?_)
           refine goes_ Try.func10 (by kernel_rfl) rfl #[.slice Ao207 t542.length co207, .agg #[.int .i64 t497, .int .i64 (wrap64 ((Int.tmod t498 900) + 1))]] (by rfl) rfl rfl zm ?_
           with_reducible refine (impl_SeenIn.calls kj8 _ _ t542 t497 (wrap64 ((Int.tmod t498 900) + 1)) t558 t559 _ ?side1 ?side2 A163.out).mono ?_
           (case side1 => repeat (first | exact (Kd.R_reads' HO544.out).2.2 | (with_reducible first | refine Kd.C_alloc ?_ _ | refine Kd.C_drewN ?_ _ | refine Kd.C_drew ?_)))
           (case side2 => exact (Kd.R_reads' HO544.out).2.1)
           rintro e w214 ⟨rfl, hb⟩
           refine ⟨_, rfl, ?_⟩
           have n0_ := Aside0.mk (Kd.R_below (by (with_reducible repeat (first | apply Kd.R_alloc | apply Kd.R_drewN | apply Kd.R_drew)); exact HO_3.out) hb)
           have n1_ := Aside0.mk (Kd.R_below (by (with_reducible repeat (first | apply Kd.R_alloc | apply Kd.R_drewN | apply Kd.R_drew)); exact HO_251.out) hb)
           have n2_ := Aside0.mk (Kd.R_below (by (with_reducible repeat (first | apply Kd.R_alloc | apply Kd.R_drewN | apply Kd.R_drew)); exact HO532.out) hb)
           have n3_ := Aside0.mk (Kd.R_below (by (with_reducible repeat (first | apply Kd.R_alloc | apply Kd.R_drewN | apply Kd.R_drew)); exact HO544.out) hb)
           have n4_ := Aside0.mk (blk_below (g := gb501) (o := .cells #[.int .i64 t497, .int .i64 t498] 32 (0, 0)) zk hb)
           have n5_ := Aside0.mk (blk_below (g := gb506) (o := .cells #[.int .i64 t502, .slice Ao18 t503.length co18] 28 (0, 0)) zk hb)
           have n6_ := Aside0.mk (blk_below (g := gb513) (o := .cells #[.int .i64 t511, .int .i64 t512] 34 (0, 0)) zk hb)
           have n7_ := Aside0.mk (blk_below (g := gb516) (o := .cells #[.int .i64 t514, .int .i64 t515] 34 (0, 0)) zk hb)
           have n8_ := Aside0.mk (blk_below (g := gb517) (o := .cells #[.int .i64 t497, .int .i64 (wrap64 ((Int.tmod t498 900) + 1))] 32 (0, 0)) zk hb)
           have n9_ := Aside0.mk (blk_below (g := gb533) (o := .cells #[.int .i64 t529, .slice Ao182 t530.length co182] 28 (0, 0)) zk hb)
           have n10_ := Aside0.mk (blk_below (g := gb540) (o := .cells #[.int .i64 t538, .int .i64 t539] 34 (0, 0)) zk hb)
           have n11_ := Aside0.mk (blk_below (g := gb545) (o := .cells #[.int .i64 t541, .slice Ao207 t542.length co207] 28 (0, 0)) zk hb)
           have n12_ := Aside0.mk (below_step zb hb)
           clear HO_3 HO_251 HO532 HO544 BK501 BK506 BK513 BK516 BK517 BK533 BK540 BK545 HB
           have HO_3 := n0_
           have HO_251 := n1_
           have HO532 := n2_
           have HO544 := n3_
           have BK501 := n4_
           have BK506 := n5_
           have BK513 := n6_
           have BK516 := n7_
           have BK517 := n8_
           have BK533 := n9_
           have BK540 := n10_
           have BK545 := n11_
           have HB := n12_
           clear n0_ n1_ n2_ n3_ n4_ n5_ n6_ n7_ n8_ n9_ n10_ n11_ n12_
           (try clear hb)
           (try clear hb2)
           (try clear hk)
           (try clear hi)
           refine hK.out _ _ ⟨(blk_cell BK533.out 0).trans rfl, (blk_cell BK533.out 1).trans rfl, (blk_cell BK517.out 0).trans rfl, (blk_cell BK517.out 1).trans rfl, (blk_cell BK540.out 0).trans rfl, (blk_cell BK540.out 1).trans rfl, (blk_cell BK545.out 0).trans rfl, (blk_cell BK545.out 1).trans rfl⟩ (fun hHeld => ?_)
           clear hK K
           refine norm_ (a' := ?_) ?_ ?_
           rotate_left
           ·show Act.put _ (some 180) _ = _
            simp only [Act.put, List.setIfInBounds_toArray, List.set_cons_zero, List.set_cons_succ, i64_w, i32_w]
            rfl
           refine one_ (i := 49) (N := some 183) #[true, true, true, true, true, true, true, true, true, true, true, true, true, true, true, true, true, true, true, true, true, true, true, true, true, true, true, true, true, true, true, true, true, true, true, true, true, true, true, true, true, true, true, true, true, true, true, true, true, true, false, false, false] rfl rfl (one_of HT_.out (by kernel_rfl)) (by decide) (fun K hK => ?_)
           refine goes_ Try.func10 (by kernel_rfl) rfl #[.slice Ao13 t494.length co13, .agg #[.int .i64 t497, .int .i64 (wrap64 ((Int.tmod t498 900) + 1))]] (by rfl) rfl rfl zm ?_
           with_reducible refine (impl_SeenIn.calls kj8 _ _ t494 t497 (wrap64 ((Int.tmod t498 900) + 1)) t560 t561 _ ?side1 ?side2 A164.out).mono ?_
           (case side1 => repeat (first | exact (Kd.R_reads' HO_3.out).2.2 | (with_reducible first | refine Kd.C_alloc ?_ _ | refine Kd.C_drewN ?_ _ | refine Kd.C_drew ?_)))
           (case side2 => exact (Kd.R_reads' HO_3.out).2.1)
           rintro e w215 ⟨rfl, hb⟩
           refine ⟨_, rfl, ?_⟩
           have n0_ := Aside0.mk (Kd.R_below (by (with_reducible repeat (first | apply Kd.R_alloc | apply Kd.R_drewN | apply Kd.R_drew)); exact HO_3.out) hb)
           have n1_ := Aside0.mk (Kd.R_below (by (with_reducible repeat (first | apply Kd.R_alloc | apply Kd.R_drewN | apply Kd.R_drew)); exact HO_251.out) hb)
           have n2_ := Aside0.mk (Kd.R_below (by (with_reducible repeat (first | apply Kd.R_alloc | apply Kd.R_drewN | apply Kd.R_drew)); exact HO532.out) hb)
           have n3_ := Aside0.mk (Kd.R_below (by (with_reducible repeat (first | apply Kd.R_alloc | apply Kd.R_drewN | apply Kd.R_drew)); exact HO544.out) hb)
           have n4_ := Aside0.mk (blk_below (g := gb501) (o := .cells #[.int .i64 t497, .int .i64 t498] 32 (0, 0)) zk hb)
           have n5_ := Aside0.mk (blk_below (g := gb506) (o := .cells #[.int .i64 t502, .slice Ao18 t503.length co18] 28 (0, 0)) zk hb)
           have n6_ := Aside0.mk (blk_below (g := gb513) (o := .cells #[.int .i64 t511, .int .i64 t512] 34 (0, 0)) zk hb)
           have n7_ := Aside0.mk (blk_below (g := gb516) (o := .cells #[.int .i64 t514, .int .i64 t515] 34 (0, 0)) zk hb)
           have n8_ := Aside0.mk (blk_below (g := gb517) (o := .cells #[.int .i64 t497, .int .i64 (wrap64 ((Int.tmod t498 900) + 1))] 32 (0, 0)) zk hb)
           have n9_ := Aside0.mk (blk_below (g := gb533) (o := .cells #[.int .i64 t529, .slice Ao182 t530.length co182] 28 (0, 0)) zk hb)
           have n10_ := Aside0.mk (blk_below (g := gb540) (o := .cells #[.int .i64 t538, .int .i64 t539] 34 (0, 0)) zk hb)
           have n11_ := Aside0.mk (blk_below (g := gb545) (o := .cells #[.int .i64 t541, .slice Ao207 t542.length co207] 28 (0, 0)) zk hb)
           have n12_ := Aside0.mk (below_step zb hb)
           clear HO_3 HO_251 HO532 HO544 BK501 BK506 BK513 BK516 BK517 BK533 BK540 BK545 HB
           have HO_3 := n0_
           have HO_251 := n1_
           have HO532 := n2_
           have HO544 := n3_
           have BK501 := n4_
           have BK506 := n5_
           have BK513 := n6_
           have BK516 := n7_
           have BK517 := n8_
           have BK533 := n9_
           have BK540 := n10_
           have BK545 := n11_
           have HB := n12_
           clear n0_ n1_ n2_ n3_ n4_ n5_ n6_ n7_ n8_ n9_ n10_ n11_ n12_
           (try clear hb)
           (try clear hb2)
           (try clear hk)
           (try clear hi)
           refine hK.out _ _ ⟨(blk_cell BK533.out 0).trans rfl, (blk_cell BK533.out 1).trans rfl, (blk_cell BK517.out 0).trans rfl, (blk_cell BK517.out 1).trans rfl, (blk_cell BK540.out 0).trans rfl, (blk_cell BK540.out 1).trans rfl, (blk_cell BK545.out 0).trans rfl, (blk_cell BK545.out 1).trans rfl⟩ (fun hHeld => ?_)
           clear hK K
           refine norm_ (a' := ?_) ?_ ?_
           rotate_left
           ·show Act.put _ (some 183) _ = _
            simp only [Act.put, List.setIfInBounds_toArray, List.set_cons_zero, List.set_cons_succ, i64_w, i32_w]
            rfl
           refine zp 50 184 ?_; refine zp 51 185 ?_; refine zp 52 2 ?_
           refine done_ (done_of HT_.out (by kernel_rfl)) ?_
           try go_wp2
           go_ret
           exact ⟨by first | rfl | (simp [errW_none, errW_some] <;> rfl) | (simp [*, errW_none, errW_some] <;> rfl) | (exact congrArg (fun b_ => Ending.returned (Value.bool b_)) HT_.out) | (have HT2_ := HT_.out; simp_all), zb⟩
          rw [if_neg c162] at H
          have c162b0 : (t541 == 0) = false := beq_eq_false_iff_ne.mpr c162
          have c162b1 : (t541 != 0) = true := bne_iff_ne.mpr c162
          exact absurd H (by simp)
         rw [if_neg c161] at H
         have c161b0 : (t557 == 0) = false := beq_eq_false_iff_ne.mpr c161
         have c161b1 : (t557 != 0) = true := bne_iff_ne.mpr c161
         exact absurd H (by simp)
        rw [if_neg c159] at H
        have c159b0 : (t556 == 9) = false := beq_eq_false_iff_ne.mpr c159
        have c159b1 : (t556 != 9) = true := bne_iff_ne.mpr c159
        exact absurd H (by simp)
       rw [if_neg c157] at H
       have c157b0 : (t539 == t500) = false := beq_eq_false_iff_ne.mpr c157
       have c157b1 : (t539 != t500) = true := bne_iff_ne.mpr c157
       exact absurd H (by simp)
      rw [if_neg c97] at H
      have c97b0 : (t499 == (t538 == 4)) = false := by simpa using c97
      (try (have c97b1 : decide (t499 = (t538 == 4)) = false := by simpa using c97))
      (try (have c97b2 : (t499 == (t538 == 4)) = false := by simpa using c97))
      (try (have c97b3 : ¬ (t499 = (t538 == 4)) := by simpa using c97))
      clear c97
      exact absurd H (by simp)
     rw [if_neg c96] at H
     have c96b0 : (t546 == t548 && (t547 == t549)) = false := by simpa using c96
     (try (have c96b1 : decide (t546 = t548 && (t547 == t549)) = false := by simpa using c96))
     (try (have c96b2 : (t546 == t548 && (t547 == t549)) = false := by simpa using c96))
     (try (have c96b3 : ¬ (t546 = t548 && (t547 == t549)) := by simpa using c96))
     clear c96
     exact absurd H (by simp)
    rw [if_neg c91] at H
    have c91b0 : (t529 == 0) = false := beq_eq_false_iff_ne.mpr c91
    have c91b1 : (t529 != 0) = true := bne_iff_ne.mpr c91
    replace H := Option.bind_eq_some_iff.mp H
    obtain ⟨⟨t534, t535⟩, A259, H⟩ := H
    replace H : (some (t534 == t529)) = some true := H
    have A216 := Aside0.mk A259
    clear A259
    have HT_ := Aside0.mk (Option.some.inj H)
    have hnb217 := NB501_506.out
    have hnc217 := NB506_501.out
    have hnb218 := NB501_513.out
    have hnc218 := NB513_501.out
    have hnb219 := NB501_516.out
    have hnc219 := NB516_501.out
    have hnb220 := NB501_517.out
    have hnc220 := NB517_501.out
    obtain ⟨hcz221_0, hcz221_1, hfz221_0, hfz221_1⟩ := Lv.blks2 BK501.out
    have hnb222 := NB506_513.out
    have hnc222 := NB513_506.out
    have hnb223 := NB506_516.out
    have hnc223 := NB516_506.out
    have hnb224 := NB506_517.out
    have hnc224 := NB517_506.out
    obtain ⟨hcz225_0, hcz225_1, hfz225_0, hfz225_1⟩ := Lv.blks2 BK506.out
    try go_wp2_with (first | ((with_reducible refine gate_callee (f := 16) rfl ?_); refine goesL_ (some 108) rfl rfl Try.func16 (by kernel_rfl) rfl #[.slice Ao18 t503.length co18, .int .i64 t498, .int .i64 (wrap64 (t497 + 1))] rfl zm ?_; (with_reducible refine (impl_CommitChain.calls kj8 _ _ t503 t498 (wrap64 (t497 + 1)) t529 t530 _ ?side1 ?side2 A90.out).mono ?_); (case side1 => repeat (first | exact (Kd.R_reads' HO_251.out).2.2 | (with_reducible first | refine Kd.C_alloc ?_ _ | refine Kd.C_drewN ?_ _ | refine Kd.C_drew ?_))); (case side2 => exact (Kd.R_reads' HO_251.out).2.1); rintro e w226 ⟨v531, rfl, ho0, hb⟩; refine ⟨_, rfl, ?_⟩; have n0_ := Aside0.mk (Kd.R_elder' (by (with_reducible repeat (first | apply Kd.R_alloc | apply Kd.R_drewN | apply Kd.R_drew)); exact HO_3.out) (Kd.R_base ho0) hb); have n1_ := Aside0.mk (Kd.R_elder' (by (with_reducible repeat (first | apply Kd.R_alloc | apply Kd.R_drewN | apply Kd.R_drew)); exact HO_251.out) (Kd.R_base ho0) hb); have n2_ := Aside0.mk (Kd.R_lower (Kd.R_new' (Kd.R_new' ho0 (Kd.R_lt (by (with_reducible repeat (first | apply Kd.R_alloc | apply Kd.R_drewN | apply Kd.R_drew)); exact HO_3.out))) (Kd.R_lt (by (with_reducible repeat (first | apply Kd.R_alloc | apply Kd.R_drewN | apply Kd.R_drew)); exact HO_251.out))) (below_size zb)); have n3_ := Aside0.mk (blk_below (g := gb501) (o := .cells #[.int .i64 t497, .int .i64 t498] 32 (0, 0)) zk hb); have n4_ := Aside0.mk (blk_below (g := gb506) (o := .cells #[.int .i64 t502, .slice Ao18 t503.length co18] 28 (0, 0)) zk hb); have n5_ := Aside0.mk (blk_below (g := gb513) (o := .cells #[.int .i64 t511, .int .i64 t512] 34 (0, 0)) zk hb); have n6_ := Aside0.mk (blk_below (g := gb516) (o := .cells #[.int .i64 t514, .int .i64 t515] 34 (0, 0)) zk hb); have n7_ := Aside0.mk (blk_below (g := gb517) (o := .cells #[.int .i64 t497, .int .i64 (wrap64 ((Int.tmod t498 900) + 1))] 32 (0, 0)) zk hb); have n8_ := Aside0.mk (below_step zb hb); clear HO_3; clear HO_251; clear BK501; clear BK506; clear BK513; clear BK516; clear BK517; clear HB; have HO_3 := n0_; have HO_251 := n1_; have HO532 := n2_; have BK501 := n3_; have BK506 := n4_; have BK513 := n5_; have BK516 := n6_; have BK517 := n7_; have HB := n8_; clear n0_ n1_ n2_ n3_ n4_ n5_ n6_ n7_ n8_; (try clear hb); (try clear hb2); (try clear hk); (try clear hi); (try clear ho0)) | ((with_reducible refine gate_dst (N := 12) rfl ?_); refine box_event ?hg (N := 12) ?hd (cs := #[.int .i64 0, .slice none 0 0]) (t := 28) ?hr ?_; (case hd => rfl); (case hg => rfl); (case hr => first | (go_simp; done) | (go_simp; rfl)); intro gb533 hg w227 hbox hb; have n0_ := Aside0.mk (Kd.R_below (by (with_reducible repeat (first | apply Kd.R_alloc | apply Kd.R_drewN | apply Kd.R_drew)); exact HO_3.out) hb); have n1_ := Aside0.mk (Kd.R_below (by (with_reducible repeat (first | apply Kd.R_alloc | apply Kd.R_drewN | apply Kd.R_drew)); exact HO_251.out) hb); have n2_ := Aside0.mk (Kd.R_below (by (with_reducible repeat (first | apply Kd.R_alloc | apply Kd.R_drewN | apply Kd.R_drew)); exact HO532.out) hb); have n3_ := Aside0.mk (blk_below (g := gb501) (o := .cells #[.int .i64 t497, .int .i64 t498] 32 (0, 0)) zk hb); have n4_ := Aside0.mk (blk_below (g := gb506) (o := .cells #[.int .i64 t502, .slice Ao18 t503.length co18] 28 (0, 0)) zk hb); have n5_ := Aside0.mk (blk_below (g := gb513) (o := .cells #[.int .i64 t511, .int .i64 t512] 34 (0, 0)) zk hb); have n6_ := Aside0.mk (blk_below (g := gb516) (o := .cells #[.int .i64 t514, .int .i64 t515] 34 (0, 0)) zk hb); have n7_ := Aside0.mk (blk_below (g := gb517) (o := .cells #[.int .i64 t497, .int .i64 (wrap64 ((Int.tmod t498 900) + 1))] 32 (0, 0)) zk hb); have n8_ := Aside0.mk (below_step zb hb); have n9_ := Aside0.mk (hbox); have n10_ := Aside0.mk ((by rw [hg]; exact (below_size zb) : w.heap.size ≤ gb533)); have n11_ := n10_; have n12_ := Aside0.mk ((by rw [hg]; exact Nat.ne_of_lt (blk_lt (g := gb501) (o := .cells #[.int .i64 t497, .int .i64 t498] 32 (0, 0)) zk) : gb501 ≠ gb533)); have n13_ := Aside0.mk ((by rw [hg]; exact Nat.ne_of_gt (blk_lt (g := gb501) (o := .cells #[.int .i64 t497, .int .i64 t498] 32 (0, 0)) zk) : gb533 ≠ gb501)); have n14_ := Aside0.mk ((by rw [hg]; exact Nat.ne_of_lt (blk_lt (g := gb506) (o := .cells #[.int .i64 t502, .slice Ao18 t503.length co18] 28 (0, 0)) zk) : gb506 ≠ gb533)); have n15_ := Aside0.mk ((by rw [hg]; exact Nat.ne_of_gt (blk_lt (g := gb506) (o := .cells #[.int .i64 t502, .slice Ao18 t503.length co18] 28 (0, 0)) zk) : gb533 ≠ gb506)); have n16_ := Aside0.mk ((by rw [hg]; exact Nat.ne_of_lt (blk_lt (g := gb513) (o := .cells #[.int .i64 t511, .int .i64 t512] 34 (0, 0)) zk) : gb513 ≠ gb533)); have n17_ := Aside0.mk ((by rw [hg]; exact Nat.ne_of_gt (blk_lt (g := gb513) (o := .cells #[.int .i64 t511, .int .i64 t512] 34 (0, 0)) zk) : gb533 ≠ gb513)); have n18_ := Aside0.mk ((by rw [hg]; exact Nat.ne_of_lt (blk_lt (g := gb516) (o := .cells #[.int .i64 t514, .int .i64 t515] 34 (0, 0)) zk) : gb516 ≠ gb533)); have n19_ := Aside0.mk ((by rw [hg]; exact Nat.ne_of_gt (blk_lt (g := gb516) (o := .cells #[.int .i64 t514, .int .i64 t515] 34 (0, 0)) zk) : gb533 ≠ gb516)); have n20_ := Aside0.mk ((by rw [hg]; exact Nat.ne_of_lt (blk_lt (g := gb517) (o := .cells #[.int .i64 t497, .int .i64 (wrap64 ((Int.tmod t498 900) + 1))] 32 (0, 0)) zk) : gb517 ≠ gb533)); have n21_ := Aside0.mk ((by rw [hg]; exact Nat.ne_of_gt (blk_lt (g := gb517) (o := .cells #[.int .i64 t497, .int .i64 (wrap64 ((Int.tmod t498 900) + 1))] 32 (0, 0)) zk) : gb533 ≠ gb517)); clear HO_3; clear HO_251; clear HO532; clear BK501; clear BK506; clear BK513; clear BK516; clear BK517; clear HB; have HO_3 := n0_; have HO_251 := n1_; have HO532 := n2_; have BK501 := n3_; have BK506 := n4_; have BK513 := n5_; have BK516 := n6_; have BK517 := n7_; have HB := n8_; have BK533 := n9_; have GW533 := n10_; have GE533 := n11_; have NB501_533 := n12_; have NB533_501 := n13_; have NB506_533 := n14_; have NB533_506 := n15_; have NB513_533 := n16_; have NB533_513 := n17_; have NB516_533 := n18_; have NB533_516 := n19_; have NB517_533 := n20_; have NB533_517 := n21_; clear n0_ n1_ n2_ n3_ n4_ n5_ n6_ n7_ n8_ n9_ n10_ n11_ n12_ n13_ n14_ n15_ n16_ n17_ n18_ n19_ n20_ n21_; clear hb hbox hg; have hnb228 := NB533_501.out; have hnc228 := NB501_533.out; have hnb229 := NB533_506.out; have hnc229 := NB506_533.out; have hnb230 := NB533_513.out; have hnc230 := NB513_533.out; have hnb231 := NB533_516.out; have hnc231 := NB516_533.out; have hnb232 := NB533_517.out; have hnc232 := NB517_533.out; obtain ⟨hcz233_0, hcz233_1, hfz233_0, hfz233_1⟩ := Lv.blks2 BK533.out; obtain ⟨Ao234, co234, eo234⟩ := Kd.R_slice HO532.out; subst eo234))
    have n0_ : Aside0 (Kd.R k51 51 ((w227.setCell ⟨gb533, 0, none⟩ (.int .i64 t529)).setCell ⟨gb533, 1, none⟩ (.slice Ao234 t530.length co234)) w.heap.size (fun k_ => some k_ ≠ (.slice Ao18 t503.length co18 : Value).ownBlock ∧ some k_ ≠ (.slice Ao234 t530.length co234 : Value).ownBlock) (.slice Ao13 t494.length co13) t494) := ⟨by (with_reducible repeat (first | apply Kd.R_alloc | apply Kd.R_drewN | apply Kd.R_drew)); exact Kd.R_mono (Kd.R_far (p := ⟨gb533, 1, none⟩) (Kd.R_far (p := ⟨gb533, 0, none⟩) (Kd.R_types HO_3.out BK533.out (by decide)) (fun _ hk => hk.2) (.int .i64 t529)) (fun _ hk => hk.2) (.slice Ao234 t530.length co234)) (fun _ hk => ⟨hk.1.1, hk.1.2⟩)⟩
    have n1_ : Aside0 (Kd.R k51 51 ((w227.setCell ⟨gb533, 0, none⟩ (.int .i64 t529)).setCell ⟨gb533, 1, none⟩ (.slice Ao234 t530.length co234)) w.heap.size (fun k_ => some k_ ≠ (.slice Ao13 t494.length co13 : Value).ownBlock ∧ some k_ ≠ (.slice Ao234 t530.length co234 : Value).ownBlock) (.slice Ao18 t503.length co18) t503) := ⟨by (with_reducible repeat (first | apply Kd.R_alloc | apply Kd.R_drewN | apply Kd.R_drew)); exact Kd.R_mono (Kd.R_far (p := ⟨gb533, 1, none⟩) (Kd.R_far (p := ⟨gb533, 0, none⟩) (Kd.R_types HO_251.out BK533.out (by decide)) (fun _ hk => hk.2) (.int .i64 t529)) (fun _ hk => hk.2) (.slice Ao234 t530.length co234)) (fun _ hk => ⟨hk.1.1, hk.1.2⟩)⟩
    have n2_ : Aside0 (Kd.R k51 51 ((w227.setCell ⟨gb533, 0, none⟩ (.int .i64 t529)).setCell ⟨gb533, 1, none⟩ (.slice Ao234 t530.length co234)) w.heap.size (fun k_ => some k_ ≠ (.slice Ao13 t494.length co13 : Value).ownBlock ∧ some k_ ≠ (.slice Ao18 t503.length co18 : Value).ownBlock) (.slice Ao234 t530.length co234) t530) := ⟨by (with_reducible repeat (first | apply Kd.R_alloc | apply Kd.R_drewN | apply Kd.R_drew)); exact Kd.R_mono (Kd.R_far (p := ⟨gb533, 1, none⟩) (Kd.R_far (p := ⟨gb533, 0, none⟩) (Kd.R_types HO532.out BK533.out (by decide)) (fun _ hk => hk.2) (.int .i64 t529)) (fun _ hk => hk.2) (.slice Ao234 t530.length co234)) (fun _ hk => ⟨hk.1.1.2, hk.1.2⟩)⟩
    have n3_ : Aside0 (((w227.setCell ⟨gb533, 0, none⟩ (.int .i64 t529)).setCell ⟨gb533, 1, none⟩ (.slice Ao234 t530.length co234)).heap[gb501]? = some (.cells #[.int .i64 t497, .int .i64 t498] 32 (0, 0))) := ⟨by (with_reducible repeat (first | refine blk_drewN ?_ _ | refine blk_drew ?_ | refine blk_alloc ?_ _)); refine blk_far ?_ NB501_533.out _; (with_reducible repeat (first | refine blk_drewN ?_ _ | refine blk_drew ?_ | refine blk_alloc ?_ _)); refine blk_far ?_ NB501_533.out _; (with_reducible repeat (first | refine blk_drewN ?_ _ | refine blk_drew ?_ | refine blk_alloc ?_ _)); exact BK501.out⟩
    have n4_ : Aside0 (((w227.setCell ⟨gb533, 0, none⟩ (.int .i64 t529)).setCell ⟨gb533, 1, none⟩ (.slice Ao234 t530.length co234)).heap[gb506]? = some (.cells #[.int .i64 t502, .slice Ao18 t503.length co18] 28 (0, 0))) := ⟨by (with_reducible repeat (first | refine blk_drewN ?_ _ | refine blk_drew ?_ | refine blk_alloc ?_ _)); refine blk_far ?_ NB506_533.out _; (with_reducible repeat (first | refine blk_drewN ?_ _ | refine blk_drew ?_ | refine blk_alloc ?_ _)); refine blk_far ?_ NB506_533.out _; (with_reducible repeat (first | refine blk_drewN ?_ _ | refine blk_drew ?_ | refine blk_alloc ?_ _)); exact BK506.out⟩
    have n5_ : Aside0 (((w227.setCell ⟨gb533, 0, none⟩ (.int .i64 t529)).setCell ⟨gb533, 1, none⟩ (.slice Ao234 t530.length co234)).heap[gb513]? = some (.cells #[.int .i64 t511, .int .i64 t512] 34 (0, 0))) := ⟨by (with_reducible repeat (first | refine blk_drewN ?_ _ | refine blk_drew ?_ | refine blk_alloc ?_ _)); refine blk_far ?_ NB513_533.out _; (with_reducible repeat (first | refine blk_drewN ?_ _ | refine blk_drew ?_ | refine blk_alloc ?_ _)); refine blk_far ?_ NB513_533.out _; (with_reducible repeat (first | refine blk_drewN ?_ _ | refine blk_drew ?_ | refine blk_alloc ?_ _)); exact BK513.out⟩
    have n6_ : Aside0 (((w227.setCell ⟨gb533, 0, none⟩ (.int .i64 t529)).setCell ⟨gb533, 1, none⟩ (.slice Ao234 t530.length co234)).heap[gb516]? = some (.cells #[.int .i64 t514, .int .i64 t515] 34 (0, 0))) := ⟨by (with_reducible repeat (first | refine blk_drewN ?_ _ | refine blk_drew ?_ | refine blk_alloc ?_ _)); refine blk_far ?_ NB516_533.out _; (with_reducible repeat (first | refine blk_drewN ?_ _ | refine blk_drew ?_ | refine blk_alloc ?_ _)); refine blk_far ?_ NB516_533.out _; (with_reducible repeat (first | refine blk_drewN ?_ _ | refine blk_drew ?_ | refine blk_alloc ?_ _)); exact BK516.out⟩
    have n7_ : Aside0 (((w227.setCell ⟨gb533, 0, none⟩ (.int .i64 t529)).setCell ⟨gb533, 1, none⟩ (.slice Ao234 t530.length co234)).heap[gb517]? = some (.cells #[.int .i64 t497, .int .i64 (wrap64 ((Int.tmod t498 900) + 1))] 32 (0, 0))) := ⟨by (with_reducible repeat (first | refine blk_drewN ?_ _ | refine blk_drew ?_ | refine blk_alloc ?_ _)); refine blk_far ?_ NB517_533.out _; (with_reducible repeat (first | refine blk_drewN ?_ _ | refine blk_drew ?_ | refine blk_alloc ?_ _)); refine blk_far ?_ NB517_533.out _; (with_reducible repeat (first | refine blk_drewN ?_ _ | refine blk_drew ?_ | refine blk_alloc ?_ _)); exact BK517.out⟩
    have n8_ : Aside0 (((w227.setCell ⟨gb533, 0, none⟩ (.int .i64 t529)).setCell ⟨gb533, 1, none⟩ (.slice Ao234 t530.length co234)).heap[gb533]? = some (.cells #[.int .i64 t529, .slice Ao234 t530.length co234] 28 (0, 0))) := ⟨by (with_reducible repeat (first | refine blk_drewN ?_ _ | refine blk_drew ?_ | refine blk_alloc ?_ _)); refine blk_put (cs := #[.int .i64 t529, .slice none 0 0]) ?_ 1 _ rfl; (with_reducible repeat (first | refine blk_drewN ?_ _ | refine blk_drew ?_ | refine blk_alloc ?_ _)); refine blk_put (cs := #[.int .i64 0, .slice none 0 0]) ?_ 0 _ rfl; (with_reducible repeat (first | refine blk_drewN ?_ _ | refine blk_drew ?_ | refine blk_alloc ?_ _)); exact BK533.out⟩
    have n9_ : Aside0 (Below w.heap.size w ((w227.setCell ⟨gb533, 0, none⟩ (.int .i64 t529)).setCell ⟨gb533, 1, none⟩ (.slice Ao234 t530.length co234))) := ⟨zb⟩
    (try clear HO_3)
    (try clear HO_251)
    (try clear HO532)
    (try clear BK501)
    (try clear BK506)
    (try clear BK513)
    (try clear BK516)
    (try clear BK517)
    (try clear BK533)
    (try clear HB)
    generalize ((w227.setCell ⟨gb533, 0, none⟩ (.int .i64 t529)).setCell ⟨gb533, 1, none⟩ (.slice Ao234 t530.length co234)) = w235 at n0_ n1_ n2_ n3_ n4_ n5_ n6_ n7_ n8_ n9_ ⊢
    have HO_3 := n0_
    have HO_251 := n1_
    have HO532 := n2_
    have BK501 := n3_
    have BK506 := n4_
    have BK513 := n5_
    have BK516 := n6_
    have BK517 := n7_
    have BK533 := n8_
    have HB := n9_
    clear n0_ n1_ n2_ n3_ n4_ n5_ n6_ n7_ n8_ n9_
    have n0_ := Aside0.mk (Kd.R_drew HO_3.out)
    have n1_ := Aside0.mk (Kd.R_drew HO_251.out)
    have n2_ := Aside0.mk (Kd.R_drew HO532.out)
    have n3_ := Aside0.mk (blk_drew BK501.out)
    have n4_ := Aside0.mk (blk_drew BK506.out)
    have n5_ := Aside0.mk (blk_drew BK513.out)
    have n6_ := Aside0.mk (blk_drew BK516.out)
    have n7_ := Aside0.mk (blk_drew BK517.out)
    have n8_ := Aside0.mk (blk_drew BK533.out)
    have n9_ := Aside0.mk (below_drew1 HB.out)
    clear HO_3 HO_251 HO532 BK501 BK506 BK513 BK516 BK517 BK533 HB
    have HO_3 := n0_
    have HO_251 := n1_
    have HO532 := n2_
    have BK501 := n3_
    have BK506 := n4_
    have BK513 := n5_
    have BK516 := n6_
    have BK517 := n7_
    have BK533 := n8_
    have HB := n9_
    clear n0_ n1_ n2_ n3_ n4_ n5_ n6_ n7_ n8_ n9_
    refine start_ (n := 11) (S := fun w' => w'.cell? ⟨gb506, 0, none⟩ = some (.int .i64 t502) ∧ w'.cell? ⟨gb506, 1, none⟩ = some (.slice Ao18 t503.length co18) ∧ w'.cell? ⟨gb501, 0, none⟩ = some (.int .i64 t497) ∧ w'.cell? ⟨gb501, 1, none⟩ = some (.int .i64 t498) ∧ w'.cell? ⟨gb533, 0, none⟩ = some (.int .i64 t529) ∧ w'.cell? ⟨gb533, 1, none⟩ = some (.slice Ao234 t530.length co234)) (ds := []) #[false, false, false, false, false, false, false, false, false, false, false] (by kernel_rfl) rfl rfl ⟨(blk_cell BK506.out 0).trans rfl, (blk_cell BK506.out 1).trans rfl, (blk_cell BK501.out 0).trans rfl, (blk_cell BK501.out 1).trans rfl, (blk_cell BK533.out 0).trans rfl, (blk_cell BK533.out 1).trans rfl⟩ (fun hHeld => ?_); refine with_tabW laws_FnChains.tab15 laws_FnChains.bits15 (fun HT_ HW_ => ?_)
    generalize w235.drew = w236 at HO_3 HO_251 HO532 BK501 BK506 BK513 BK516 BK517 BK533 HB hHeld ⊢
    refine zp 0 112 ?_; refine zp 2 114 ?_; refine zp 4 116 ?_; refine zp 7 119 ?_; refine zt 1 113 ?_; refine zt 3 115 ?_; refine zt 8 120 ?_
    refine one_ (i := 5) (N := some 117) #[true, true, true, true, true, true, false, true, true, false, false] rfl rfl (one_of HT_.out (by kernel_rfl)) (by decide) (fun K hK => ?_)
    refine goes_ Try.func17 (by kernel_rfl) rfl #[.slice Ao18 t503.length co18, .int .i64 t498, .int .i64 (wrap64 (t497 + 1))] (by rfl) rfl rfl zm ?_
    with_reducible refine (spec_CommitChain.calls kj8 _ _ t503 t498 (wrap64 (t497 + 1)) t534 t535 _ ?side1 ?side2 A216.out).mono ?_
    (case side1 => repeat (first | exact (Kd.R_reads' HO_251.out).2.2 | (with_reducible first | refine Kd.C_alloc ?_ _ | refine Kd.C_drewN ?_ _ | refine Kd.C_drew ?_)))
    (case side2 => exact (Kd.R_reads' HO_251.out).2.1)
    rintro e w237 ⟨v536, rfl, ho0, hb⟩
    refine ⟨_, rfl, ?_⟩
    have n0_ := Aside0.mk (Kd.R_elder' (by (with_reducible repeat (first | apply Kd.R_alloc | apply Kd.R_drewN | apply Kd.R_drew)); exact HO_3.out) (Kd.R_base ho0) hb)
    have n1_ := Aside0.mk (Kd.R_elder' (by (with_reducible repeat (first | apply Kd.R_alloc | apply Kd.R_drewN | apply Kd.R_drew)); exact HO_251.out) (Kd.R_base ho0) hb)
    have n2_ := Aside0.mk (Kd.R_elder' (by (with_reducible repeat (first | apply Kd.R_alloc | apply Kd.R_drewN | apply Kd.R_drew)); exact HO532.out) (Kd.R_base ho0) hb)
    have n3_ := Aside0.mk (Kd.R_lower (Kd.R_new' (Kd.R_new' (Kd.R_new' ho0 (Kd.R_lt (by (with_reducible repeat (first | apply Kd.R_alloc | apply Kd.R_drewN | apply Kd.R_drew)); exact HO_3.out))) (Kd.R_lt (by (with_reducible repeat (first | apply Kd.R_alloc | apply Kd.R_drewN | apply Kd.R_drew)); exact HO_251.out))) (Kd.R_lt (by (with_reducible repeat (first | apply Kd.R_alloc | apply Kd.R_drewN | apply Kd.R_drew)); exact HO532.out))) (below_size zb))
    have n4_ := Aside0.mk (blk_below (g := gb501) (o := .cells #[.int .i64 t497, .int .i64 t498] 32 (0, 0)) zk hb)
    have n5_ := Aside0.mk (blk_below (g := gb506) (o := .cells #[.int .i64 t502, .slice Ao18 t503.length co18] 28 (0, 0)) zk hb)
    have n6_ := Aside0.mk (blk_below (g := gb513) (o := .cells #[.int .i64 t511, .int .i64 t512] 34 (0, 0)) zk hb)
    have n7_ := Aside0.mk (blk_below (g := gb516) (o := .cells #[.int .i64 t514, .int .i64 t515] 34 (0, 0)) zk hb)
    have n8_ := Aside0.mk (blk_below (g := gb517) (o := .cells #[.int .i64 t497, .int .i64 (wrap64 ((Int.tmod t498 900) + 1))] 32 (0, 0)) zk hb)
    have n9_ := Aside0.mk (blk_below (g := gb533) (o := .cells #[.int .i64 t529, .slice Ao234 t530.length co234] 28 (0, 0)) zk hb)
    have n10_ := Aside0.mk (below_step zb hb)
    clear HO_3 HO_251 HO532 BK501 BK506 BK513 BK516 BK517 BK533 HB
    have HO_3 := n0_
    have HO_251 := n1_
    have HO532 := n2_
    have HO537 := n3_
    have BK501 := n4_
    have BK506 := n5_
    have BK513 := n6_
    have BK516 := n7_
    have BK517 := n8_
    have BK533 := n9_
    have HB := n10_
    clear n0_ n1_ n2_ n3_ n4_ n5_ n6_ n7_ n8_ n9_ n10_
    (try clear hb)
    (try clear hb2)
    (try clear hk)
    (try clear hi)
    (try clear ho0)
    refine hK.out _ _ ⟨(blk_cell BK506.out 0).trans rfl, (blk_cell BK506.out 1).trans rfl, (blk_cell BK501.out 0).trans rfl, (blk_cell BK501.out 1).trans rfl, (blk_cell BK533.out 0).trans rfl, (blk_cell BK533.out 1).trans rfl⟩ (fun hHeld => ?_)
    clear hK K
    refine norm_ (a' := ?_) ?_ ?_
    rotate_left
    ·show Act.put _ (some 117) _ = _
     simp only [Act.put, List.setIfInBounds_toArray, List.set_cons_zero, List.set_cons_succ, i64_w, i32_w]
     rfl
    refine zp 6 118 ?_; refine zp 9 121 ?_; refine zp 10 2 ?_
    refine done_ (done_of HT_.out (by kernel_rfl)) ?_
    try go_wp2
    go_ret
    exact ⟨by first | rfl | (simp [errW_none, errW_some] <;> rfl) | (simp [*, errW_none, errW_some] <;> rfl) | (exact congrArg (fun b_ => Ending.returned (Value.bool b_)) HT_.out) | (have HT2_ := HT_.out; simp_all), zb⟩
 rw [if_neg c6] at H
 have c6b0 : (t502 == 0) = false := beq_eq_false_iff_ne.mpr c6
 have c6b1 : (t502 != 0) = true := bne_iff_ne.mpr c6
 replace H := Option.bind_eq_some_iff.mp H
 obtain ⟨⟨t507, t508⟩, A260, H⟩ := H
 replace H : (some (t507 == t502)) = some true := H
 have A238 := Aside0.mk A260
 clear A260
 have HT_ := Aside0.mk (Option.some.inj H)
 go_enter Try.func4, Try.ntmps4
 try go_wp2_with (first | ((with_reducible refine gate_callee (f := 5) rfl ?_); refine goesL_ (some 16) rfl rfl Try.func5 (by kernel_rfl) rfl #[.slice A0 l0.length c0] rfl zm ?_; (with_reducible refine (laws_lwBig.calls _ _ l0 false _ ?side1 ?side2 A2.out).mono ?_); (case side1 => repeat (first | exact HR0.out | (with_reducible first | refine Kd.C_alloc ?_ _ | refine Kd.C_drewN ?_ _ | refine Kd.C_drew ?_))); (case side2 => exact HC0.out); rintro e w' ⟨rfl, ⟨nd, rfl⟩⟩; refine ⟨_, rfl, ?_⟩) | ((with_reducible refine gate_callee (f := 12) rfl ?_); refine goesL_ (some 19) rfl rfl Try.func12 (by kernel_rfl) rfl #[.slice A0 l0.length c0] rfl zm ?_; (with_reducible refine (spec_DrawPushVersion.calls k _ _ l0 t494 t497 t498 t499 t500 _ ?side1 ?side2 A4.out).mono ?_); (case side1 => repeat (first | exact HR0.out | (with_reducible first | refine Kd.C_alloc ?_ _ | refine Kd.C_drewN ?_ _ | refine Kd.C_drew ?_))); (case side2 => exact HC0.out); rintro e w239 ⟨v495, rfl, ho0, hb⟩; refine ⟨_, rfl, ?_⟩; have n0_ := Aside0.mk (Kd.R_lower ho0 (below_size zb)); have n1_ := Aside0.mk (below_step zb hb); clear HB; have HO496 := n0_; have HB := n1_; clear n0_ n1_; (try clear hb); (try clear hb2); (try clear hk); (try clear hi); (try clear ho0)) | ((with_reducible refine gate_dst (N := 4) rfl ?_); refine box_event ?hg (N := 4) ?hd (cs := #[.int .i64 0, .int .i64 0]) (t := 32) ?hr ?_; (case hd => rfl); (case hg => rfl); (case hr => first | (go_simp; done) | (go_simp; rfl)); intro gb501 hg w240 hbox hb; have n0_ := Aside0.mk (Kd.R_below (by (with_reducible repeat (first | apply Kd.R_alloc | apply Kd.R_drewN | apply Kd.R_drew)); exact HO496.out) hb); have n1_ := Aside0.mk (below_step zb hb); have n2_ := Aside0.mk (hbox); have n3_ := Aside0.mk ((by rw [hg]; exact (below_size zb) : w.heap.size ≤ gb501)); have n4_ := n3_; clear HO496; clear HB; have HO496 := n0_; have HB := n1_; have BK501 := n2_; have GW501 := n3_; have GE501 := n4_; clear n0_ n1_ n2_ n3_ n4_; clear hb hbox hg; obtain ⟨hcz241_0, hcz241_1, hfz241_0, hfz241_1⟩ := Lv.blks2 BK501.out; obtain ⟨Ao242, co242, eo242⟩ := Kd.R_slice HO496.out; subst eo242) | ((with_reducible refine gate_callee (f := 13) rfl ?_); refine goesL_ (some 28) rfl rfl Try.func13 (by kernel_rfl) rfl #[.slice Ao242 t494.length co242, .agg #[.int .i64 t497, .int .i64 t498], .bool t499, .int .i64 t500] rfl zm ?_; (with_reducible refine (impl_PushVersion.calls k _ _ t494 t497 t498 t499 t500 t502 t503 _ ?side1 ?side2 A5.out).mono ?_); (case side1 => refine (Kd.R_reads' (e := 51) (base := w.heap.size) (ok := fun k_ => True) (n := t494.length) (c := co242) ?_).2.2; exact (by (with_reducible repeat (first | apply Kd.R_alloc | apply Kd.R_drewN | apply Kd.R_drew)); exact (Kd.R_mono (Kd.R_far (p := ⟨gb501, 1, none⟩) (Kd.R_far (p := ⟨gb501, 0, none⟩) (Kd.R_types HO496.out BK501.out (by decide)) (fun _ hk => hk.2) (.int .i64 t497)) (fun _ hk => hk.2) (.int .i64 t498)) (fun _ h_ => h_.1)))); (case side2 => exact (Kd.R_reads' HO496.out).2.1); rintro e w243 ⟨v504, rfl, ho0, hb⟩; refine ⟨_, rfl, ?_⟩; have n0_ := Aside0.mk (Kd.R_elder' (by (with_reducible repeat (first | apply Kd.R_alloc | apply Kd.R_drewN | apply Kd.R_drew)); exact (Kd.R_mono (Kd.R_far (p := ⟨gb501, 1, none⟩) (Kd.R_far (p := ⟨gb501, 0, none⟩) (Kd.R_types HO496.out BK501.out (by decide)) (fun _ hk => hk.2) (.int .i64 t497)) (fun _ hk => hk.2) (.int .i64 t498)) (fun _ h_ => h_.1))) (Kd.R_base ho0) hb); have n1_ := Aside0.mk (Kd.R_lower (Kd.R_new' ho0 (Kd.R_lt (by (with_reducible repeat (first | apply Kd.R_alloc | apply Kd.R_drewN | apply Kd.R_drew)); exact (Kd.R_mono (Kd.R_far (p := ⟨gb501, 1, none⟩) (Kd.R_far (p := ⟨gb501, 0, none⟩) (Kd.R_types HO496.out BK501.out (by decide)) (fun _ hk => hk.2) (.int .i64 t497)) (fun _ hk => hk.2) (.int .i64 t498)) (fun _ h_ => h_.1))))) (below_size zb)); have n2_ := Aside0.mk (blk_below (g := gb501) (o := .cells #[.int .i64 t497, .int .i64 t498] 32 (0, 0)) (by (with_reducible repeat (first | refine blk_drewN ?_ _ | refine blk_drew ?_ | refine blk_alloc ?_ _)); refine blk_put (cs := #[.int .i64 t497, .int .i64 0]) ?_ 1 _ rfl; (with_reducible repeat (first | refine blk_drewN ?_ _ | refine blk_drew ?_ | refine blk_alloc ?_ _)); refine blk_put (cs := #[.int .i64 0, .int .i64 0]) ?_ 0 _ rfl; (with_reducible repeat (first | refine blk_drewN ?_ _ | refine blk_drew ?_ | refine blk_alloc ?_ _)); exact BK501.out) hb); have n3_ := Aside0.mk (below_step zb hb); clear HO496; clear BK501; clear HB; have HO496 := n0_; have HO505 := n1_; have BK501 := n2_; have HB := n3_; clear n0_ n1_ n2_ n3_; (try clear hb); (try clear hb2); (try clear hk); (try clear hi); (try clear ho0)) | ((with_reducible refine gate_dst (N := 7) rfl ?_); refine box_event ?hg (N := 7) ?hd (cs := #[.int .i64 0, .slice none 0 0]) (t := 28) ?hr ?_; (case hd => rfl); (case hg => rfl); (case hr => first | (go_simp; done) | (go_simp; rfl)); intro gb506 hg w244 hbox hb; have n0_ := Aside0.mk (Kd.R_below (by (with_reducible repeat (first | apply Kd.R_alloc | apply Kd.R_drewN | apply Kd.R_drew)); exact HO496.out) hb); have n1_ := Aside0.mk (Kd.R_below (by (with_reducible repeat (first | apply Kd.R_alloc | apply Kd.R_drewN | apply Kd.R_drew)); exact HO505.out) hb); have n2_ := Aside0.mk (blk_below (g := gb501) (o := .cells #[.int .i64 t497, .int .i64 t498] 32 (0, 0)) zk hb); have n3_ := Aside0.mk (below_step zb hb); have n4_ := Aside0.mk (hbox); have n5_ := Aside0.mk ((by rw [hg]; exact (below_size zb) : w.heap.size ≤ gb506)); have n6_ := n5_; have n7_ := Aside0.mk ((by rw [hg]; exact Nat.ne_of_lt (blk_lt (g := gb501) (o := .cells #[.int .i64 t497, .int .i64 t498] 32 (0, 0)) zk) : gb501 ≠ gb506)); have n8_ := Aside0.mk ((by rw [hg]; exact Nat.ne_of_gt (blk_lt (g := gb501) (o := .cells #[.int .i64 t497, .int .i64 t498] 32 (0, 0)) zk) : gb506 ≠ gb501)); clear HO496; clear HO505; clear BK501; clear HB; have HO496 := n0_; have HO505 := n1_; have BK501 := n2_; have HB := n3_; have BK506 := n4_; have GW506 := n5_; have GE506 := n6_; have NB501_506 := n7_; have NB506_501 := n8_; clear n0_ n1_ n2_ n3_ n4_ n5_ n6_ n7_ n8_; clear hb hbox hg; have hnb245 := NB506_501.out; have hnc245 := NB501_506.out; obtain ⟨hcz246_0, hcz246_1, hfz246_0, hfz246_1⟩ := Lv.blks2 BK506.out; obtain ⟨Ao247, co247, eo247⟩ := Kd.R_slice HO505.out; subst eo247))
 have n0_ : Aside0 (Kd.R k51 51 ((w244.setCell ⟨gb506, 0, none⟩ (.int .i64 t502)).setCell ⟨gb506, 1, none⟩ (.slice Ao247 t503.length co247)) w.heap.size (fun k_ => some k_ ≠ (.slice Ao247 t503.length co247 : Value).ownBlock) (.slice Ao242 t494.length co242) t494) := ⟨by (with_reducible repeat (first | apply Kd.R_alloc | apply Kd.R_drewN | apply Kd.R_drew)); exact Kd.R_mono (Kd.R_far (p := ⟨gb506, 1, none⟩) (Kd.R_far (p := ⟨gb506, 0, none⟩) (Kd.R_types HO496.out BK506.out (by decide)) (fun _ hk => hk.2) (.int .i64 t502)) (fun _ hk => hk.2) (.slice Ao247 t503.length co247)) (fun _ hk => hk.1.2)⟩
 have n1_ : Aside0 (Kd.R k51 51 ((w244.setCell ⟨gb506, 0, none⟩ (.int .i64 t502)).setCell ⟨gb506, 1, none⟩ (.slice Ao247 t503.length co247)) w.heap.size (fun k_ => some k_ ≠ (.slice Ao242 t494.length co242 : Value).ownBlock) (.slice Ao247 t503.length co247) t503) := ⟨by (with_reducible repeat (first | apply Kd.R_alloc | apply Kd.R_drewN | apply Kd.R_drew)); exact Kd.R_mono (Kd.R_far (p := ⟨gb506, 1, none⟩) (Kd.R_far (p := ⟨gb506, 0, none⟩) (Kd.R_types HO505.out BK506.out (by decide)) (fun _ hk => hk.2) (.int .i64 t502)) (fun _ hk => hk.2) (.slice Ao247 t503.length co247)) (fun _ hk => hk.1.2)⟩
 have n2_ : Aside0 (((w244.setCell ⟨gb506, 0, none⟩ (.int .i64 t502)).setCell ⟨gb506, 1, none⟩ (.slice Ao247 t503.length co247)).heap[gb501]? = some (.cells #[.int .i64 t497, .int .i64 t498] 32 (0, 0))) := ⟨by (with_reducible repeat (first | refine blk_drewN ?_ _ | refine blk_drew ?_ | refine blk_alloc ?_ _)); refine blk_far ?_ NB501_506.out _; (with_reducible repeat (first | refine blk_drewN ?_ _ | refine blk_drew ?_ | refine blk_alloc ?_ _)); refine blk_far ?_ NB501_506.out _; (with_reducible repeat (first | refine blk_drewN ?_ _ | refine blk_drew ?_ | refine blk_alloc ?_ _)); exact BK501.out⟩
 have n3_ : Aside0 (((w244.setCell ⟨gb506, 0, none⟩ (.int .i64 t502)).setCell ⟨gb506, 1, none⟩ (.slice Ao247 t503.length co247)).heap[gb506]? = some (.cells #[.int .i64 t502, .slice Ao247 t503.length co247] 28 (0, 0))) := ⟨by (with_reducible repeat (first | refine blk_drewN ?_ _ | refine blk_drew ?_ | refine blk_alloc ?_ _)); refine blk_put (cs := #[.int .i64 t502, .slice none 0 0]) ?_ 1 _ rfl; (with_reducible repeat (first | refine blk_drewN ?_ _ | refine blk_drew ?_ | refine blk_alloc ?_ _)); refine blk_put (cs := #[.int .i64 0, .slice none 0 0]) ?_ 0 _ rfl; (with_reducible repeat (first | refine blk_drewN ?_ _ | refine blk_drew ?_ | refine blk_alloc ?_ _)); exact BK506.out⟩
 have n4_ : Aside0 (Below w.heap.size w ((w244.setCell ⟨gb506, 0, none⟩ (.int .i64 t502)).setCell ⟨gb506, 1, none⟩ (.slice Ao247 t503.length co247))) := ⟨zb⟩
 (try clear HO496)
 (try clear HO505)
 (try clear BK501)
 (try clear BK506)
 (try clear HB)
 generalize ((w244.setCell ⟨gb506, 0, none⟩ (.int .i64 t502)).setCell ⟨gb506, 1, none⟩ (.slice Ao247 t503.length co247)) = w248 at n0_ n1_ n2_ n3_ n4_ ⊢
 have HO496 := n0_
 have HO505 := n1_
 have BK501 := n2_
 have BK506 := n3_
 have HB := n4_
 clear n0_ n1_ n2_ n3_ n4_
 have n0_ := Aside0.mk (Kd.R_drew HO496.out)
 have n1_ := Aside0.mk (Kd.R_drew HO505.out)
 have n2_ := Aside0.mk (blk_drew BK501.out)
 have n3_ := Aside0.mk (blk_drew BK506.out)
 have n4_ := Aside0.mk (below_drew1 HB.out)
 clear HO496 HO505 BK501 BK506 HB
 have HO496 := n0_
 have HO505 := n1_
 have BK501 := n2_
 have BK506 := n3_
 have HB := n4_
 clear n0_ n1_ n2_ n3_ n4_
 refine start_ (n := 10) (S := fun w' => w'.cell? ⟨gb501, 0, none⟩ = some (.int .i64 t497) ∧ w'.cell? ⟨gb501, 1, none⟩ = some (.int .i64 t498) ∧ w'.cell? ⟨gb506, 0, none⟩ = some (.int .i64 t502) ∧ w'.cell? ⟨gb506, 1, none⟩ = some (.slice Ao247 t503.length co247)) (ds := []) #[false, false, false, false, false, false, false, false, false, false] (by kernel_rfl) rfl rfl ⟨(blk_cell BK501.out 0).trans rfl, (blk_cell BK501.out 1).trans rfl, (blk_cell BK506.out 0).trans rfl, (blk_cell BK506.out 1).trans rfl⟩ (fun hHeld => ?_); refine with_tabW laws_FnChains.tab6 laws_FnChains.bits6 (fun HT_ HW_ => ?_)
 generalize w248.drew = w249 at HO496 HO505 BK501 BK506 HB hHeld ⊢
 refine zp 0 32 ?_; refine zp 2 34 ?_; refine zp 3 35 ?_; refine zp 6 38 ?_; refine zt 1 33 ?_; refine zt 7 39 ?_
 refine one_ (i := 4) (N := some 36) #[true, true, true, true, true, false, true, true, false, false] rfl rfl (one_of HT_.out (by kernel_rfl)) (by decide) (fun K hK => ?_)
 refine goes_ Try.func14 (by kernel_rfl) rfl #[.slice Ao242 t494.length co242, .agg #[.int .i64 t497, .int .i64 t498], .bool t499, .int .i64 t500] (by rfl) rfl rfl zm ?_
 with_reducible refine (spec_PushVersion.calls k (fun k_ => some k_ = (.slice Ao242 t494.length co242 : Value).ownBlock) (.slice Ao242 t494.length co242) t494 t497 t498 t499 t500 t507 t508 w _ ?side1 ?side2 A238.out).mono ?_
 (case side1 => repeat (first | (with_reducible first | exact HB.out | apply below_alloc | apply pw_below_drewN | apply below_drew1 | refine below_set ?_ GE501.out | refine below_set ?_ GE506.out) | exact HB.out))
 (case side2 => exact Kd.R_tight rfl HO496.out)
 rintro e w250 ⟨v509, rfl, ho0, hb, hkp⟩
 refine ⟨_, rfl, ?_⟩
 have n0_ := Aside0.mk (blk_kept zk hkp (fun hs_ => (fun e_ => (Kd.R_ne HO496.out BK501.out (by decide)) e_) hs_))
 have n1_ := Aside0.mk (Kd.R_mono (ok' := fun k_ => some k_ ≠ (v509 : Value).ownBlock) (Kd.R_keptB (HO505.out) hkp (fun k_ hk_ hs_ => (hk_) hs_)) (fun k_ hk_ => fun e_ => Or.elim (ho0.1 k_ e_.symm) (fun hs_ => hk_.2.1 hs_) (fun hn_ => Nat.not_le.2 hk_.2.2 hn_)))
 have n2_ := Aside0.mk (blk_kept zk hkp (fun hs_ => (fun e_ => (Kd.R_ne HO496.out BK506.out (by decide)) e_) hs_))
 have n3_ := Aside0.mk (Kd.R_mono (ok' := fun k_ => some k_ ≠ (.slice Ao247 t503.length co247 : Value).ownBlock) ho0 (fun k_ hk_ => Or.elim hk_ (fun hs_ => fun e_ => (((HO505.out).1 k_ e_.symm)) hs_) (fun hn_ => (Kd.fresh' (Kd.R_lt (by (with_reducible repeat (first | apply Kd.R_alloc | apply Kd.R_drewN | apply Kd.R_drew)); exact HO505.out)) k_ hn_))))
 have n4_ := Aside0.mk (hb)
 clear BK501 HO505 BK506 HB HO496
 have BK501 := n0_
 have HO505 := n1_
 have BK506 := n2_
 have HO510 := n3_
 have HB := n4_
 clear n0_ n1_ n2_ n3_ n4_
 (try clear hb)
 (try clear hkp)
 (try clear ho0)
 refine hK.out _ _ ⟨(blk_cell BK501.out 0).trans rfl, (blk_cell BK501.out 1).trans rfl, (blk_cell BK506.out 0).trans rfl, (blk_cell BK506.out 1).trans rfl⟩ (fun hHeld => ?_)
 clear hK K
 refine norm_ (a' := ?_) ?_ ?_
 rotate_left
 ·show Act.put _ (some 36) _ = _
  simp only [Act.put, List.setIfInBounds_toArray, List.set_cons_zero, List.set_cons_succ, i64_w, i32_w]
  rfl
 refine zp 5 37 ?_; refine zp 8 40 ?_; refine zp 9 2 ?_
 refine done_ (done_of HT_.out (by kernel_rfl)) ?_
 try go_wp2
 go_ret
 exact ⟨by first | rfl | (simp [errW_none, errW_some] <;> rfl) | (simp [*, errW_none, errW_some] <;> rfl) | (exact congrArg (fun b_ => Ending.returned (Value.bool b_)) HT_.out) | (have HT2_ := HT_.out; simp_all), zb⟩
end Go.Proofs.Ytkaammmkejiafaa.P
