/- The pure statement of AddPair's exact law: both sides tell the same, the argument stays, and the answer's memory is its own. -/
import Derived.Test.YtgbjfdaldakpiaaUFnExactAddPair
import Derived.Test.YtgbjfdaldakpiaaQj
import Derived.Test.YtgbjfdaldakpiaaP0
import Derived.Test.YtgbjfdaldakpiaaPD0
namespace Go.Proofs.Ytgbjfdaldakpiaa.Pure
open Go.RowKit Go.Proofs.Ytgbjfdaldakpiaa.P Go.Proofs.Ytgbjfdaldakpiaa.Q Go.Proofs.YtgbjfdaldakpiaaW.PrintWords Go.Proofs.YtgbjfdaldakpiaaW.PrintLast Go.Proofs.YtgbjfdaldakpiaaW.PrintMore Go.Proofs.Ytgbjfdaldakpiaa.Lb
theorem eqPR (c : Int) (l : List S38) (hb : l.length ≤ 1099511627776) : Ev (fun k => laws_eqPairsResult.f k c l c l) true := by
  unfold laws_eqPairsResult.f
  exact evIte (fun _ => evCall (eqPairS l hb) (evIte (fun _ => evRet rfl) (fun h => absurd rfl h))) (fun h => absurd rfl h)
theorem markPR (c : Int) (l : List S38) (hb : l.length ≤ 1099511627776) : Ev (fun k => laws_markPairsResult.f k c l 1) (1 + 2 * l.length, marked mePair 2 1 l.length) := by
  unfold laws_markPairsResult.f
  exact evCall (markPairS l 1 (by omega) (by omega) hb) (evRet rfl)
theorem heldPR (c : Int) (n : Nat) (hb : n ≤ 1099511627776) : Ev (fun k => laws_heldPairsResult.f k c (marked mePair 2 1 n) 1) (1 + 2 * n) := by
  unfold laws_heldPairsResult.f
  exact evCall (heldPairS n 1 (by omega) (by omega) hb) (evIte (fun h => absurd h (by omega)) (fun _ => evRet rfl))
theorem FnExactAddPair : laws_FnExactAddPair.Pure := by
  intro l0 a1 a2 h0 _ _
  refine Ev.rounds ?_
  unfold laws_FnExactAddPair.f
  refine evSeq (szPairS l0 1048576 (by omega) (by omega) (by have := h0.2.1; simp only [maxLen] at this; omega)) ?_
  refine evIte (fun _ => evRet rfl) (fun h => ?_)
  have hl : l0.length ≤ 1048576 := by
    by_cases h2 : (1048576 : Int) < l0.length
    · rw [if_pos h2] at h; omega
    · omega
  have hx : (l0.map cvPair).length ≤ 1048576 := by simp; omega
  have S := specAddPair (l0.map cvPair) a1 a2 (by omega)
  have I := implAddPair (l0.map cvPair) a1 a2 (by omega)
  have hR := addR_len (l0.map cvPair) a1 a2
  generalize addR (l0.map cvPair) a1 a2 = r at S I hR
  obtain ⟨c, out⟩ := r
  have ho : out.length ≤ 4000000 := by simp at hR hx; omega
  refine evCall (toPairS l0 (by omega)) (evCall S (evCall (toPairS l0 (by omega)) (evCall I ?_)))
  refine evCall (eqPR c out (by omega)) (evIte (fun _ => ?_) (fun h => absurd rfl h))
  refine evCall (toPairS l0 (by omega)) (evCall (eqPairS (l0.map cvPair) (by omega)) (evIte (fun _ => ?_) (fun h => absurd rfl h)))
  refine evCall (markPairS (l0.map cvPair) 1 (by omega) (by omega) (by omega)) (evIte (fun h => absurd h (by omega)) (fun _ => ?_))
  refine evCall (eqPR c out (by omega)) (evSucc ?_)
  simp only [laws_FnExactAddPair.j0]
  refine evIte (fun h => absurd h (by decide)) (fun _ => ?_)
  refine evCall (markPR c out (by omega)) (evCall (heldPR c out.length (by omega)) (evIte (fun h => absurd h (by omega)) (fun _ => evIte (fun _ => ?_) (fun h => absurd rfl h))))
  refine evCall (toPairS l0 (by omega)) (evCall I (evCall (eqPR c out (by omega)) (evIte (fun _ => ?_) (fun h => absurd rfl h))))
  refine evCall (heldPR c out.length (by omega)) (evIte (fun h => absurd h (by omega)) (fun _ => evIte (fun _ => evRet rfl) (fun h => absurd rfl h)))
end Go.Proofs.Ytgbjfdaldakpiaa.Pure
