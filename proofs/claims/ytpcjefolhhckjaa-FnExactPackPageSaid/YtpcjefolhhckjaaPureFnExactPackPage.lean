/- The pure statement of PackPage's exact law. -/
import Derived.Test.YtpcjefolhhckjaaUFnExactPackPage
import Derived.Test.YtpcjefolhhckjaaQl
import Derived.Test.YtpcjefolhhckjaaQb
import Derived.Test.YtpcjefolhhckjaaP0
import Derived.Test.YtpcjefolhhckjaaPD0
namespace Go.Proofs.Ytpcjefolhhckjaa.Pure
open Go.RowKit Go.Proofs.Ytpcjefolhhckjaa.P Go.Proofs.Ytpcjefolhhckjaa.Q Go.Proofs.YtpcjefolhhckjaaW.PrintWords Go.Proofs.YtpcjefolhhckjaaW.PrintLast Go.Proofs.YtpcjefolhhckjaaW.PrintMore Go.Proofs.Ytpcjefolhhckjaa.Lb
theorem FnExactPackPage : laws_FnExactPackPage.Pure := by
  intro a0_0 a0_1 l0_2 _ _ h0
  refine Ev.rounds ?_
  unfold laws_FnExactPackPage.f
  refine evSeq (szPage a0_0 a0_1 l0_2 (by have := h0.2.1; simp only [maxLen] at this; omega)) ?_
  refine evIte (fun _ => evRet rfl) (fun h => ?_)
  have hl : l0_2.length ≤ 1048576 := by
    by_cases h2 : (1048576 : Int) < l0_2.length
    · rw [if_pos h2] at h; omega
    · omega
  have hx : (l0_2.map cvCell).length ≤ 1099511627776 := by simp; omega
  have S := specPk a0_0 a0_1 (l0_2.map cvCell) hx
  have I := implPk a0_0 a0_1 (l0_2.map cvCell) hx
  have hR := pkP_len a0_0 a0_1 (l0_2.map cvCell)
  generalize pkP a0_0 a0_1 (l0_2.map cvCell) = r at S I hR
  obtain ⟨c, out⟩ := r
  simp only at hR
  refine evCall (toPage _ _ l0_2 (by omega)) (evCall S (evCall (toPage _ _ l0_2 (by omega)) (evCall I ?_)))
  refine evCall (eqBytesResult c out (by omega)) (evIte (fun _ => ?_) (fun h => absurd rfl h))
  refine evCall (toPage _ _ l0_2 (by omega)) (evCall (eqPage _ _ _ hx) (evIte (fun _ => ?_) (fun h => absurd rfl h)))
  refine evCall (markPage _ _ _ hx) (evIte (fun h => absurd h (by omega)) (fun _ => ?_))
  refine evCall (eqBytesResult c out (by omega)) (evSucc ?_)
  simp only [laws_FnExactPackPage.j0]
  refine evIte (fun h => absurd h (by decide)) (fun _ => ?_)
  refine evCall (markBytesResult c out (by omega)) (evCall (heldBytesResult c out.length (by omega)) (evIte (fun h => absurd h (by omega)) (fun _ => evIte (fun _ => ?_) (fun h => absurd rfl h))))
  refine evCall (toPage _ _ l0_2 (by omega)) (evCall I (evCall (eqBytesResult c out (by omega)) (evIte (fun _ => ?_) (fun h => absurd rfl h))))
  refine evCall (heldBytesResult c out.length (by omega)) (evIte (fun h => absurd h (by omega)) (fun _ => evIte (fun _ => evRet rfl) (fun h => absurd rfl h)))
end Go.Proofs.Ytpcjefolhhckjaa.Pure
