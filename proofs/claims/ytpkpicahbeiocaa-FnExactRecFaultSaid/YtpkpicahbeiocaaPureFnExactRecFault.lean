/- The pure statement of RecFault's exact law. -/
import Derived.Test.YtpkpicahbeiocaaUFnExactRecFault
import Derived.Test.YtpkpicahbeiocaaQr
import Derived.Test.YtpkpicahbeiocaaP0
import Derived.Test.YtpkpicahbeiocaaPD0
namespace Go.Proofs.Ytpkpicahbeiocaa.Pure
open Go.RowKit Go.Proofs.Ytpkpicahbeiocaa.P Go.Proofs.Ytpkpicahbeiocaa.Q Go.Proofs.YtpkpicahbeiocaaW.PrintWords Go.Proofs.YtpkpicahbeiocaaW.PrintLast Go.Proofs.YtpkpicahbeiocaaW.PrintMore Go.Proofs.Ytpkpicahbeiocaa.Lb
theorem FnExactRecFault : laws_FnExactRecFault.Pure := by
  intro a0 a1 a2 a3 a4 a5 a6 a7 _ _ _ _ _ _
  refine Ev.rounds ?_
  unfold laws_FnExactRecFault.f
  refine evSeq (a := (a0, a1, a2, a3, a4, a5, a6, a7)) rfl (evCall (specRF a0 a1 a2 a3 a4 a5 a6 a7) ?_)
  refine evSeq (a := (a0, a1, a2, a3, a4, a5, a6, a7)) rfl (evCall (implRF a0 a1 a2 a3 a4 a5 a6 a7) ?_)
  exact evIte (fun _ => evRet rfl) (fun h => absurd rfl h)
end Go.Proofs.Ytpkpicahbeiocaa.Pure
