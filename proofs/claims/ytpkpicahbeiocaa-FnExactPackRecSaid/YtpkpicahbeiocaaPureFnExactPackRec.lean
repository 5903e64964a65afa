/- The pure statement of PackRec's exact law. -/
import Derived.Test.YtpkpicahbeiocaaUFnExactPackRec
import Derived.Test.YtpkpicahbeiocaaQm
import Derived.Test.YtpkpicahbeiocaaQb
import Derived.Test.YtpkpicahbeiocaaP0
import Derived.Test.YtpkpicahbeiocaaPD0
namespace Go.Proofs.Ytpkpicahbeiocaa.Pure
open Go.RowKit Go.Proofs.Ytpkpicahbeiocaa.P Go.Proofs.Ytpkpicahbeiocaa.Q Go.Proofs.YtpkpicahbeiocaaW.PrintWords Go.Proofs.YtpkpicahbeiocaaW.PrintLast Go.Proofs.YtpkpicahbeiocaaW.PrintMore Go.Proofs.Ytpkpicahbeiocaa.Lb
theorem FnExactPackRec : laws_FnExactPackRec.Pure := by
  intro a0 a1 a2 a3 a4 a5 a6 a7 _ _ _ _ _ _
  refine Ev.rounds ?_
  unfold laws_FnExactPackRec.f
  have S := specPkR a0 a1 a2 a3 a4 a5 a6 a7
  have I := implPkR a0 a1 a2 a3 a4 a5 a6 a7
  have hR := pkR_len a0 a1 a2 a3 a4 a5 a6 a7
  generalize pkR a0 a1 a2 a3 a4 a5 a6 a7 = r at S I hR
  obtain ⟨c, out⟩ := r
  simp only at hR
  have T : laws_toRec.f a0 a1 a2 a3 a4 a5 a6 a7 = some (a0, a1, a2, a3, a4, a5, a6, a7) := rfl
  refine evSeq T (evCall S (evSeq T (evCall I ?_)))
  refine evCall (eqBytesResult c out (by omega)) (evIte (fun _ => ?_) (fun h => absurd rfl h))
  refine evCall (markBytesResult c out (by omega)) (evCall (heldBytesResult c out.length (by omega)) (evIte (fun h => absurd h (by omega)) (fun _ => evIte (fun _ => ?_) (fun h => absurd rfl h))))
  refine evSeq T (evCall I (evCall (eqBytesResult c out (by omega)) (evIte (fun _ => ?_) (fun h => absurd rfl h))))
  exact evCall (heldBytesResult c out.length (by omega)) (evIte (fun h => absurd h (by omega)) (fun _ => evIte (fun _ => evRet rfl) (fun h => absurd rfl h)))
end Go.Proofs.Ytpkpicahbeiocaa.Pure
