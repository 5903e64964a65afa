/- The pure statement of ChainBack's exact law. -/
import Derived.Test.YthagppmaofcllaaUFnExactChainBack
import Derived.Test.YthagppmaofcllaaQcb
import Derived.Test.YthagppmaofcllaaP0
import Derived.Test.YthagppmaofcllaaPDm1
namespace Go.Proofs.Ythagppmaofcllaa.Pure
open Go.RowKit Go.Proofs.Ythagppmaofcllaa.P Go.Proofs.Ythagppmaofcllaa.Q Go.Proofs.YthagppmaofcllaaW.PrintWords Go.Proofs.YthagppmaofcllaaW.PrintLast Go.Proofs.YthagppmaofcllaaW.PrintMore Go.Proofs.Ythagppmaofcllaa.Lb
theorem FnExactChainBack : ZlFnExactChainBack.Pure := by
  intro l0 a1 h0 h1
  refine Ev.rounds ?_
  unfold ZlFnExactChainBack.f
  have hm : l0.length ≤ 9223372036854775807 := by have := h0.2.1; unfold maxLen at this; omega
  refine evSeq (szRecS l0 1048576 (by omega) (by omega) hm) (evIte (fun _ => evRet rfl) (fun h => ?_))
  have hl : l0.length ≤ 1048576 := by
    by_cases hc : (1048576 : Int) < (l0.length : Int)
    · rw [if_pos hc] at h
      exact absurd (by omega) h
    · omega
  have hL : (l0.map cvRec).length ≤ 1048576 := by rw [List.length_map]; exact hl
  have T := toRecS l0 (by omega)
  generalize l0.map cvRec = l at T hL
  have S := specCB l a1
  have I := implCB l a1
  have hR := cb_len l a1
  generalize cb l a1 = r at S I hR
  obtain ⟨c, out⟩ := r
  simp only at hR
  have E := eqIntsResult c out (by omega)
  refine evCall T (evCall S (evCall T (evCall I (evCall E (evIte (fun _ => ?_) (fun h => absurd rfl h))))))
  refine evCall T (evCall (eqRecS l (by omega)) (evIte (fun _ => ?_) (fun h => absurd rfl h)))
  refine evCall (markRecS l 1 (by omega) (by omega) (by omega)) (evIte (fun h => absurd h (by omega)) (fun _ => ?_))
  refine evCall E (evSucc ?_)
  simp only [ZlFnExactChainBack.j0]
  refine evIte (fun h => absurd h (by decide)) (fun _ => ?_)
  refine evCall (markIntsResult c out (by omega)) (evCall (heldIntsResult c out.length (by omega)) (evIte (fun h => absurd h (by omega)) (fun _ => evIte (fun _ => ?_) (fun h => absurd rfl h))))
  refine evCall T (evCall I (evCall E (evIte (fun _ => ?_) (fun h => absurd rfl h))))
  exact evCall (heldIntsResult c out.length (by omega)) (evIte (fun h => absurd h (by omega)) (fun _ => evIte (fun _ => evRet rfl) (fun h => absurd rfl h)))
end Go.Proofs.Ythagppmaofcllaa.Pure
