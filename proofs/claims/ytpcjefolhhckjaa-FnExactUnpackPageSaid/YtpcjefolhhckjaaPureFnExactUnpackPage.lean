/- The pure statement of UnpackPage's exact law. -/
import Derived.Test.YtpcjefolhhckjaaUFnExactUnpackPage
import Derived.Test.YtpcjefolhhckjaaQn
import Derived.Test.YtpcjefolhhckjaaP0
import Derived.Test.YtpcjefolhhckjaaPD0
namespace Go.Proofs.Ytpcjefolhhckjaa.Pure
open Go.RowKit Go.Proofs.Ytpcjefolhhckjaa.P Go.Proofs.Ytpcjefolhhckjaa.Q Go.Proofs.YtpcjefolhhckjaaW.PrintWords Go.Proofs.YtpcjefolhhckjaaW.PrintLast Go.Proofs.YtpcjefolhhckjaaW.PrintMore Go.Proofs.Ytpcjefolhhckjaa.Lb
theorem FnExactUnpackPage : laws_FnExactUnpackPage.Pure := by
  intro l0 h0
  refine Ev.rounds ?_
  unfold laws_FnExactUnpackPage.f
  refine evIte (fun _ => evRet rfl) (fun h => ?_)
  have hl : l0.length ≤ 1048576 := by omega
  have hB : isB l0 := fun x hx => wf8 (h0.2.2 x hx)
  have S := specUnpk l0 hB
  have I := implUnpk l0 hB
  have hR := unpk_len l0
  generalize unpk l0 = r at S I hR
  obtain ⟨c, id, lsn, out⟩ := r
  simp only at hR
  refine evCall (toByteS l0 (by omega)) (evCall S (evCall (toByteS l0 (by omega)) (evCall I ?_)))
  refine evCall (eqPageResult c id lsn out (by omega)) (evIte (fun _ => ?_) (fun h => absurd rfl h))
  refine evCall (toByteS l0 (by omega)) (evCall (eqByteS l0 (by omega)) (evIte (fun _ => ?_) (fun h => absurd rfl h)))
  refine evCall (markByteS l0 1 (by omega) (by omega) (by omega)) (evIte (fun h => absurd h (by omega)) (fun _ => ?_))
  refine evCall (eqPageResult c id lsn out (by omega)) (evSucc ?_)
  simp only [laws_FnExactUnpackPage.j0]
  refine evIte (fun h => absurd h (by decide)) (fun _ => ?_)
  refine evCall (markPageResult c id lsn out (by omega)) (evCall (heldPageResult c id lsn out.length (by omega)) (evIte (fun h => absurd h (by omega)) (fun _ => evIte (fun _ => ?_) (fun h => absurd rfl h))))
  refine evCall (toByteS l0 (by omega)) (evCall I (evCall (eqPageResult c id lsn out (by omega)) (evIte (fun _ => ?_) (fun h => absurd rfl h))))
  exact evCall (heldPageResult c id lsn out.length (by omega)) (evIte (fun h => absurd h (by omega)) (fun _ => evIte (fun _ => evRet rfl) (fun h => absurd rfl h)))
end Go.Proofs.Ytpcjefolhhckjaa.Pure
