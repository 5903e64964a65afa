/- The pure statement of PairsFault's exact law. -/
import Derived.Test.YtcpdnoogpfkkdaaUFnExactPairsFault
import Derived.Test.YtcpdnoogpfkkdaaQi
import Derived.Test.YtcpdnoogpfkkdaaP0
import Derived.Test.YtcpdnoogpfkkdaaPD0
namespace Go.Proofs.Ytcpdnoogpfkkdaa.Pure
open Go.RowKit Go.Proofs.Ytcpdnoogpfkkdaa.P Go.Proofs.Ytcpdnoogpfkkdaa.Q Go.Proofs.YtcpdnoogpfkkdaaW.PrintWords Go.Proofs.YtcpdnoogpfkkdaaW.PrintLast Go.Proofs.YtcpdnoogpfkkdaaW.PrintMore Go.Proofs.Ytcpdnoogpfkkdaa.Lb
theorem FnExactPairsFault : laws_FnExactPairsFault.Pure := by
  intro l0 h0
  refine Ev.rounds ?_
  unfold laws_FnExactPairsFault.f
  refine evSeq (szPairS l0 1048576 (by omega) (by omega) (by have := h0.2.1; simp only [maxLen] at this; omega)) ?_
  refine evIte (fun _ => evRet rfl) (fun h => ?_)
  have hl : l0.length ≤ 1048576 := by
    by_cases h2 : (1048576 : Int) < l0.length
    · rw [if_pos h2] at h; omega
    · omega
  have hx : (l0.map cvPair).length ≤ 1099511627776 := by simp; omega
  refine evCall (toPairS l0 (by omega)) (evCall (specPR _ hx) (evCall (toPairS l0 (by omega)) (evCall (implPR _ hx) (evIte (fun _ => ?_) (fun h => absurd rfl h)))))
  exact evCall (toPairS l0 (by omega)) (evCall (eqPairS _ hx) (evIte (fun _ => evRet rfl) (fun h => absurd rfl h)))
end Go.Proofs.Ytcpdnoogpfkkdaa.Pure
