/- The pure statement of CellOf's exact law. -/
import Derived.Test.YtpcjefolhhckjaaUFnExactCellOf
import Derived.Test.YtpcjefolhhckjaaQo
import Derived.Test.YtpcjefolhhckjaaP0
import Derived.Test.YtpcjefolhhckjaaPD0
namespace Go.Proofs.Ytpcjefolhhckjaa.Pure
open Go.RowKit Go.Proofs.Ytpcjefolhhckjaa.P Go.Proofs.Ytpcjefolhhckjaa.Q Go.Proofs.YtpcjefolhhckjaaW.PrintWords Go.Proofs.YtpcjefolhhckjaaW.PrintLast Go.Proofs.YtpcjefolhhckjaaW.PrintMore Go.Proofs.Ytpcjefolhhckjaa.Lb
theorem FnExactCellOf : laws_FnExactCellOf.Pure := by
  intro a0_0 a0_1 l0_2 a1 _ _ h0 hk
  refine Ev.rounds ?_
  unfold laws_FnExactCellOf.f
  refine evSeq (szPage a0_0 a0_1 l0_2 (by have := h0.2.1; simp only [maxLen] at this; omega)) ?_
  refine evIte (fun _ => evRet rfl) (fun h => ?_)
  have hl : l0_2.length ≤ 1048576 := by
    by_cases h2 : (1048576 : Int) < l0_2.length
    · rw [if_pos h2] at h; omega
    · omega
  have hx : (l0_2.map cvCell).length ≤ 1099511627776 := by simp; omega
  have S := specCellOf a0_0 a0_1 (l0_2.map cvCell) a1 hx
  have I := implCellOf a0_0 a0_1 (l0_2.map cvCell) a1 (wf64 hk) hx
  generalize cellOf a0_0 a0_1 (l0_2.map cvCell) a1 = r at S I
  obtain ⟨c, v⟩ := r
  have E : laws_eqIntResult.f c v c v = some true := by unfold laws_eqIntResult.f; simp
  refine evCall (toPage _ _ l0_2 (by omega)) (evCall S (evCall (toPage _ _ l0_2 (by omega)) (evCall I (evSeq E (evIte (fun _ => ?_) (fun h => absurd rfl h))))))
  exact evCall (toPage _ _ l0_2 (by omega)) (evCall (eqPage _ _ _ hx) (evIte (fun _ => evRet rfl) (fun h => absurd rfl h)))
end Go.Proofs.Ytpcjefolhhckjaa.Pure
