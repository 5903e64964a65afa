/- The pure statement of LogFault's exact law. -/
import Derived.Test.YthagppmaofcllaaUFnExactLogFault
import Derived.Test.YthagppmaofcllaaQlg
import Derived.Test.YthagppmaofcllaaP0
import Derived.Test.YthagppmaofcllaaPDm1
namespace Go.Proofs.Ythagppmaofcllaa.Pure
open Go.RowKit Go.Proofs.Ythagppmaofcllaa.P Go.Proofs.Ythagppmaofcllaa.Q Go.Proofs.YthagppmaofcllaaW.PrintWords Go.Proofs.YthagppmaofcllaaW.PrintLast Go.Proofs.YthagppmaofcllaaW.PrintMore Go.Proofs.Ythagppmaofcllaa.Lb
theorem FnExactLogFault : laws_FnExactLogFault.Pure := by
  intro a b h0 h1
  refine Ev.rounds ?_
  unfold laws_FnExactLogFault.f
  have hA : isB a := fun x hx => wf8 (h0.2.2 x hx)
  have hB : isB b := fun x hx => wf8 (h1.2.2 x hx)
  obtain ⟨t, ht, hs⟩ := szLog a b (by have := h0.2.1; unfold maxLen at this; omega) (by have := h1.2.1; unfold maxLen at this; omega)
  refine evSeq ht (evIte (fun _ => evRet rfl) (fun h => ?_))
  have hl := hs h
  refine evCall (toLog a b hl) (evCall (specLogF a b hA hB hl) (evCall (toLog a b hl) (evCall (implLogF a b hA hB hl) (evIte (fun _ => ?_) (fun h => absurd rfl h)))))
  exact evCall (toLog a b hl) (evCall (eqLog a b hl) (evIte (fun _ => evRet rfl) (fun h => absurd rfl h)))
end Go.Proofs.Ythagppmaofcllaa.Pure
