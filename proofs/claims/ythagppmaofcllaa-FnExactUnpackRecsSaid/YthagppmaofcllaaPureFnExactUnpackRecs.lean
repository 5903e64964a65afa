/- The pure statement of UnpackRecs' exact law. -/
import Derived.Test.YthagppmaofcllaaUFnExactUnpackRecs
import Derived.Test.YthagppmaofcllaaQlg
import Derived.Test.YthagppmaofcllaaP0
import Derived.Test.YthagppmaofcllaaPDm1
namespace Go.Proofs.Ythagppmaofcllaa.Pure
open Go.RowKit Go.Proofs.Ythagppmaofcllaa.P Go.Proofs.Ythagppmaofcllaa.Q Go.Proofs.YthagppmaofcllaaW.PrintWords Go.Proofs.YthagppmaofcllaaW.PrintLast Go.Proofs.YthagppmaofcllaaW.PrintMore Go.Proofs.Ythagppmaofcllaa.Lb
theorem FnExactUnpackRecs : laws_FnExactUnpackRecs.Pure := by
  intro l0 h0
  refine Ev.rounds ?_
  unfold laws_FnExactUnpackRecs.f
  refine evIte (fun _ => evRet rfl) (fun h => ?_)
  have hl : l0.length ≤ 1048576 := by omega
  have hB : isB l0 := fun x hx => wf8 (h0.2.2 x hx)
  have S := specUnr l0 hB hl
  have I := implUnr l0 hB hl
  have hR := unr_len l0 hl
  generalize unr l0 = r at S I hR
  obtain ⟨c, n, out⟩ := r
  simp only at hR
  refine evCall (toByteS l0 (by omega)) (evCall S (evCall (toByteS l0 (by omega)) (evCall I ?_)))
  refine evCall (eqRecsResult c n out (by omega)) (evIte (fun _ => ?_) (fun h => absurd rfl h))
  refine evCall (toByteS l0 (by omega)) (evCall (eqByteS l0 (by omega)) (evIte (fun _ => ?_) (fun h => absurd rfl h)))
  refine evCall (markByteS l0 1 (by omega) (by omega) (by omega)) (evIte (fun h => absurd h (by omega)) (fun _ => ?_))
  refine evCall (eqRecsResult c n out (by omega)) (evSucc ?_)
  simp only [laws_FnExactUnpackRecs.j0]
  refine evIte (fun h => absurd h (by decide)) (fun _ => ?_)
  refine evCall (markRecsResult c n out (by omega)) (evCall (heldRecsResult c n out.length (by omega)) (evIte (fun h => absurd h (by omega)) (fun _ => evIte (fun _ => ?_) (fun h => absurd rfl h))))
  refine evCall (toByteS l0 (by omega)) (evCall I (evCall (eqRecsResult c n out (by omega)) (evIte (fun _ => ?_) (fun h => absurd rfl h))))
  exact evCall (heldRecsResult c n out.length (by omega)) (evIte (fun h => absurd h (by omega)) (fun _ => evIte (fun _ => evRet rfl) (fun h => absurd rfl h)))
end Go.Proofs.Ythagppmaofcllaa.Pure
