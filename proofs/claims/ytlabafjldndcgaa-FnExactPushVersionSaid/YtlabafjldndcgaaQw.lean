/- Chains as results: compared, marked, held. -/
import Derived.Test.YtlabafjldndcgaaLb
import Derived.Test.YtlabafjldndcgaaQv
import Derived.Test.YtlabafjldndcgaaP0
import Derived.Test.YtlabafjldndcgaaPD0
namespace Go.Proofs.Ytlabafjldndcgaa.Q
open Go.RowKit Go.Proofs.Ytlabafjldndcgaa.P Go.Proofs.YtlabafjldndcgaaW.PrintWords Go.Proofs.YtlabafjldndcgaaW.PrintLast Go.Proofs.YtlabafjldndcgaaW.PrintMore Go.Proofs.Ytlabafjldndcgaa.Lb
theorem eqChainResult (c : Int) (l : List S58) (hb : l.length ≤ 8796093022208) : Ev (fun k => laws_eqChainResult.f k c l c l) true := by
  unfold laws_eqChainResult.f
  exact evIte (fun _ => evCall (eqVersionS l hb) (evIte (fun _ => evRet rfl) (fun h => absurd rfl h))) (fun h => absurd rfl h)
theorem markChainResult (c : Int) (l : List S58) (hb : l.length ≤ 8796093022208) : Ev (fun k => laws_markChainResult.f k c l 1) (1 + 4 * l.length, marked meV 4 1 l.length) := by
  unfold laws_markChainResult.f
  exact evCall (markVersionS l 1 (by omega) (by omega) hb) (evRet rfl)
theorem heldChainResult (c : Int) (n : Nat) (hb : n ≤ 8796093022208) : Ev (fun k => laws_heldChainResult.f k c (marked meV 4 1 n) 1) (1 + 4 * n) := by
  unfold laws_heldChainResult.f
  exact evCall (heldVersionS n 1 (by omega) (by omega) hb) (evIte (fun h => absurd h (by omega)) (fun _ => evRet rfl))
end Go.Proofs.Ytlabafjldndcgaa.Q
