/- The pure statement of FlushLog's exact law. -/
import Derived.Test.YthagppmaofcllaaUFnExactFlushLog
import Derived.Test.YthagppmaofcllaaQlr
import Derived.Test.YthagppmaofcllaaP0
import Derived.Test.YthagppmaofcllaaPDm1
namespace Go.Proofs.Ythagppmaofcllaa.Pure
open Go.RowKit Go.Proofs.Ythagppmaofcllaa.P Go.Proofs.Ythagppmaofcllaa.Q Go.Proofs.YthagppmaofcllaaW.PrintWords Go.Proofs.YthagppmaofcllaaW.PrintLast Go.Proofs.YthagppmaofcllaaW.PrintMore Go.Proofs.Ythagppmaofcllaa.Lb
theorem FnExactFlushLog : ZlFnExactFlushLog.Pure := by
  intro a b h0 h1
  refine Ev.rounds ?_
  unfold ZlFnExactFlushLog.f
  have hA : isB a := fun x hx => wf8 (h0.2.2 x hx)
  have hB : isB b := fun x hx => wf8 (h1.2.2 x hx)
  obtain ⟨t, ht, hs⟩ := szLog a b (by have := h0.2.1; unfold maxLen at this; omega) (by have := h1.2.1; unfold maxLen at this; omega)
  refine evSeq ht (evIte (fun _ => evRet rfl) (fun h => ?_))
  have hl := hs h
  have S := specFlu a b hA hB hl
  have I := implFlu a b hA hB hl
  have hR := flu_len a b hl
  generalize flu a b = r at S I hR
  obtain ⟨c, n, x, y⟩ := r
  simp only at hR
  refine evCall (toLog a b hl) (evCall S (evCall (toLog a b hl) (evCall I ?_)))
  refine evCall (eqLogResult c n x y hR) (evIte (fun _ => ?_) (fun h => absurd rfl h))
  refine evCall (toLog a b hl) (evCall (eqLog a b hl) (evIte (fun _ => ?_) (fun h => absurd rfl h)))
  refine evCall (markLog a b hl) (evIte (fun h => absurd h (by omega)) (fun _ => ?_))
  refine evCall (eqLogResult c n x y hR) (evSucc ?_)
  simp only [ZlFnExactFlushLog.j0]
  refine evIte (fun h => absurd h (by decide)) (fun _ => ?_)
  refine evCall (markLogResult c n x y hR) (evCall (heldLogResult c n x.length y.length hR) (evIte (fun h => absurd h (by omega)) (fun _ => evIte (fun _ => ?_) (fun h => absurd rfl h))))
  refine evCall (toLog a b hl) (evCall I (evCall (eqLogResult c n x y hR) (evIte (fun _ => ?_) (fun h => absurd rfl h))))
  exact evCall (heldLogResult c n x.length y.length hR) (evIte (fun h => absurd h (by omega)) (fun _ => evIte (fun _ => evRet rfl) (fun h => absurd rfl h)))
end Go.Proofs.Ythagppmaofcllaa.Pure
