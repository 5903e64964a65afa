/- The pure statement of RecsOf's exact law. -/
import Derived.Test.YthagppmaofcllaaUFnExactRecsOf
import Derived.Test.YthagppmaofcllaaQlr
import Derived.Test.YthagppmaofcllaaP0
import Derived.Test.YthagppmaofcllaaPDm1
namespace Go.Proofs.Ythagppmaofcllaa.Pure
open Go.RowKit Go.Proofs.Ythagppmaofcllaa.P Go.Proofs.Ythagppmaofcllaa.Q Go.Proofs.YthagppmaofcllaaW.PrintWords Go.Proofs.YthagppmaofcllaaW.PrintLast Go.Proofs.YthagppmaofcllaaW.PrintMore Go.Proofs.Ythagppmaofcllaa.Lb
theorem FnExactRecsOf : ZlFnExactRecsOf.Pure := by
  intro a b h0 h1
  refine Ev.rounds ?_
  unfold ZlFnExactRecsOf.f
  have hA : isB a := fun x hx => wf8 (h0.2.2 x hx)
  have hB : isB b := fun x hx => wf8 (h1.2.2 x hx)
  obtain ⟨t, ht, hs⟩ := szLog a b (by have := h0.2.1; unfold maxLen at this; omega) (by have := h1.2.1; unfold maxLen at this; omega)
  refine evSeq ht (evIte (fun _ => evRet rfl) (fun h => ?_))
  have hl := hs h
  have S := specRof a b hA hB hl
  have I := implRof a b hA hB hl
  have hR := rof_len a b hl
  generalize rof a b = r at S I hR
  obtain ⟨c, n, x⟩ := r
  simp only at hR
  refine evCall (toLog a b hl) (evCall S (evCall (toLog a b hl) (evCall I ?_)))
  refine evCall (eqRecsResult c n x hR) (evIte (fun _ => ?_) (fun h => absurd rfl h))
  refine evCall (toLog a b hl) (evCall (eqLog a b hl) (evIte (fun _ => ?_) (fun h => absurd rfl h)))
  refine evCall (markLog a b hl) (evIte (fun h => absurd h (by omega)) (fun _ => ?_))
  refine evCall (eqRecsResult c n x hR) (evSucc ?_)
  simp only [ZlFnExactRecsOf.j0]
  refine evIte (fun h => absurd h (by decide)) (fun _ => ?_)
  refine evCall (markRecsResult c n x hR) (evCall (heldRecsResult c n x.length hR) (evIte (fun h => absurd h (by omega)) (fun _ => evIte (fun _ => ?_) (fun h => absurd rfl h))))
  refine evCall (toLog a b hl) (evCall I (evCall (eqRecsResult c n x hR) (evIte (fun _ => ?_) (fun h => absurd rfl h))))
  exact evCall (heldRecsResult c n x.length hR) (evIte (fun h => absurd h (by omega)) (fun _ => evIte (fun _ => evRet rfl) (fun h => absurd rfl h)))
end Go.Proofs.Ythagppmaofcllaa.Pure
