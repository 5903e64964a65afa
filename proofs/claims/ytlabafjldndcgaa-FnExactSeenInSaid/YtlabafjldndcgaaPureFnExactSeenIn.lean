/- The pure statement of SeenIn's exact law. -/
import Derived.Test.YtlabafjldndcgaaUFnExactSeenIn
import Derived.Test.YtlabafjldndcgaaQs
import Derived.Test.YtlabafjldndcgaaP0
import Derived.Test.YtlabafjldndcgaaPD0
namespace Go.Proofs.Ytlabafjldndcgaa.Pure
open Go.RowKit Go.Proofs.Ytlabafjldndcgaa.P Go.Proofs.Ytlabafjldndcgaa.Q Go.Proofs.YtlabafjldndcgaaW.PrintWords Go.Proofs.YtlabafjldndcgaaW.PrintLast Go.Proofs.YtlabafjldndcgaaW.PrintMore Go.Proofs.Ytlabafjldndcgaa.Lb
theorem FnExactSeenIn : laws_FnExactSeenIn.Pure := by
  intro l0 a1_0 a1_1 h0 _ _
  refine Ev.rounds ?_
  unfold laws_FnExactSeenIn.f
  refine evSeq (szVersionS l0 1048576 (by omega) (by omega) (by have := h0.2.1; simp only [maxLen] at this; omega)) ?_
  refine evIte (fun _ => evRet rfl) (fun h => ?_)
  have hl : l0.length ≤ 1048576 := by
    by_cases h2 : (1048576 : Int) < l0.length
    · rw [if_pos h2] at h; omega
    · omega
  refine evCall (toVersionS l0 (by omega)) (evSeq (a := (a1_0, a1_1)) rfl (evCall (specSeenIn _ _ _ (by simp; omega)) (evCall (toVersionS l0 (by omega)) (evSeq (a := (a1_0, a1_1)) rfl (evCall (implSeenIn _ _ _ (by simp; omega)) ?_)))))
  refine evSeq (a := true) (by simp [laws_eqIntResult.f]) ?_
  refine evIte (fun _ => ?_) (fun h => absurd rfl h)
  refine evCall (toVersionS l0 (by omega)) (evCall (eqVersionS _ (by simp; omega)) ?_)
  exact evIte (fun _ => evRet rfl) (fun h => absurd rfl h)
end Go.Proofs.Ytlabafjldndcgaa.Pure
