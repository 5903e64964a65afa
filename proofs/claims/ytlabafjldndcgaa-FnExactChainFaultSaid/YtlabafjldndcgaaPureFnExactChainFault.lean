/- The pure statement of ChainFault's exact law: both sides tell the same of every chain, and the argument stays. -/
import Derived.Test.YtlabafjldndcgaaUFnExactChainFault
import Derived.Test.YtlabafjldndcgaaQc
import Derived.Test.YtlabafjldndcgaaP0
import Derived.Test.YtlabafjldndcgaaPDa
namespace Go.Proofs.Ytlabafjldndcgaa.Pure
open Go.RowKit Go.Proofs.Ytlabafjldndcgaa.P Go.Proofs.Ytlabafjldndcgaa.Q Go.Proofs.YtlabafjldndcgaaW.PrintWords Go.Proofs.YtlabafjldndcgaaW.PrintLast Go.Proofs.YtlabafjldndcgaaW.PrintMore Go.Proofs.Ytlabafjldndcgaa.Lb
theorem FnExactChainFault : laws_FnExactChainFault.Pure := by
  intro l0 h0
  refine Ev.rounds ?_
  unfold laws_FnExactChainFault.f
  refine evSeq (szVersionS l0 1048576 (by omega) (by omega) (by have := h0.2.1; simp only [maxLen] at this; omega)) ?_
  refine evIte (fun _ => evRet rfl) (fun h => ?_)
  have hl : l0.length ≤ 1048576 := by
    by_cases h2 : (1048576 : Int) < l0.length
    · rw [if_pos h2] at h; omega
    · omega
  refine evCall (toVersionS l0 (by omega)) (evCall (specCF _ (by simp; omega)) (evCall (toVersionS l0 (by omega)) (evCall (implCF _ (by simp; omega)) ?_)))
  refine evIte (fun _ => ?_) (fun h => absurd rfl h)
  refine evCall (toVersionS l0 (by omega)) (evCall (eqVersionS _ (by simp; omega)) ?_)
  exact evIte (fun _ => evRet rfl) (fun h => absurd rfl h)
end Go.Proofs.Ytlabafjldndcgaa.Pure
