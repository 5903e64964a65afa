/- The pure statement of PageFault's exact law. -/
import Derived.Test.YtpcjefolhhckjaaUFnExactPageFault
import Derived.Test.YtpcjefolhhckjaaQh
import Derived.Test.YtpcjefolhhckjaaP0
import Derived.Test.YtpcjefolhhckjaaPD0
namespace Go.Proofs.Ytpcjefolhhckjaa.Pure
open Go.RowKit Go.Proofs.Ytpcjefolhhckjaa.P Go.Proofs.Ytpcjefolhhckjaa.Q Go.Proofs.YtpcjefolhhckjaaW.PrintWords Go.Proofs.YtpcjefolhhckjaaW.PrintLast Go.Proofs.YtpcjefolhhckjaaW.PrintMore Go.Proofs.Ytpcjefolhhckjaa.Lb
theorem FnExactPageFault : laws_FnExactPageFault.Pure := by
  intro a0_0 a0_1 l0_2 _ _ h0
  refine Ev.rounds ?_
  unfold laws_FnExactPageFault.f
  refine evSeq (szPage a0_0 a0_1 l0_2 (by have := h0.2.1; simp only [maxLen] at this; omega)) ?_
  refine evIte (fun _ => evRet rfl) (fun h => ?_)
  have hl : l0_2.length ≤ 1048576 := by
    by_cases h2 : (1048576 : Int) < l0_2.length
    · rw [if_pos h2] at h; omega
    · omega
  have hx : (l0_2.map cvCell).length ≤ 1099511627776 := by simp; omega
  refine evCall (toPage _ _ l0_2 (by omega)) (evCall (specPF _ _ _ hx) (evCall (toPage _ _ l0_2 (by omega)) (evCall (implPF _ _ _ hx) (evIte (fun _ => ?_) (fun h => absurd rfl h)))))
  exact evCall (toPage _ _ l0_2 (by omega)) (evCall (eqPage _ _ _ hx) (evIte (fun _ => evRet rfl) (fun h => absurd rfl h)))
end Go.Proofs.Ytpcjefolhhckjaa.Pure
