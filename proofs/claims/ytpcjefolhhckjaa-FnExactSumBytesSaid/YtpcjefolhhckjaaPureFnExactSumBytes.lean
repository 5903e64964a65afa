/- The pure statement of SumBytes' exact law. -/
import Derived.Test.YtpcjefolhhckjaaUFnExactSumBytes
import Derived.Test.YtpcjefolhhckjaaQsum
import Derived.Test.YtpcjefolhhckjaaQf
import Derived.Test.YtpcjefolhhckjaaP0
import Derived.Test.YtpcjefolhhckjaaPD0
namespace Go.Proofs.Ytpcjefolhhckjaa.Pure
open Go.RowKit Go.Proofs.Ytpcjefolhhckjaa.P Go.Proofs.Ytpcjefolhhckjaa.Q Go.Proofs.YtpcjefolhhckjaaW.PrintWords Go.Proofs.YtpcjefolhhckjaaW.PrintLast Go.Proofs.YtpcjefolhhckjaaW.PrintMore Go.Proofs.Ytpcjefolhhckjaa.Lb
theorem FnExactSumBytes : laws_FnExactSumBytes.Pure := by
  intro l0 _
  refine Ev.rounds ?_
  unfold laws_FnExactSumBytes.f
  refine evIte (fun _ => evRet rfl) (fun h => ?_)
  refine evCall (toByteS l0 (by omega)) (evCall (specSum _ (by omega)) (evCall (toByteS l0 (by omega)) (evCall (implSum _ (by omega)) (evIte (fun _ => ?_) (fun h => absurd rfl h)))))
  exact evCall (toByteS l0 (by omega)) (evCall (eqByteS _ (by omega)) (evIte (fun _ => evRet rfl) (fun h => absurd rfl h)))
end Go.Proofs.Ytpcjefolhhckjaa.Pure
