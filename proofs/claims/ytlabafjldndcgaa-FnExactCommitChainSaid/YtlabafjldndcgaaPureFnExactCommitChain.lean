/- The pure statement of CommitChain's exact law: both sides tell the same, the argument stays, and the answer's memory is its own. -/
import Derived.Test.YtlabafjldndcgaaUFnExactCommitChain
import Derived.Test.YtlabafjldndcgaaQe
import Derived.Test.YtlabafjldndcgaaQw
import Derived.Test.YtlabafjldndcgaaP0
import Derived.Test.YtlabafjldndcgaaPD0
namespace Go.Proofs.Ytlabafjldndcgaa.Pure
open Go.RowKit Go.Proofs.Ytlabafjldndcgaa.P Go.Proofs.Ytlabafjldndcgaa.Q Go.Proofs.YtlabafjldndcgaaW.PrintWords Go.Proofs.YtlabafjldndcgaaW.PrintLast Go.Proofs.YtlabafjldndcgaaW.PrintMore Go.Proofs.Ytlabafjldndcgaa.Lb
theorem FnExactCommitChain : laws_FnExactCommitChain.Pure := by
  intro l0 a1 a2 h0 _ _
  refine Ev.rounds ?_
  unfold laws_FnExactCommitChain.f
  refine evSeq (szVersionS l0 1048576 (by omega) (by omega) (by have := h0.2.1; simp only [maxLen] at this; omega)) ?_
  refine evIte (fun _ => evRet rfl) (fun h => ?_)
  have hl : l0.length ≤ 1048576 := by
    by_cases h2 : (1048576 : Int) < l0.length
    · rw [if_pos h2] at h; omega
    · omega
  have hx : (l0.map cvV).length ≤ 1048576 := by simp; omega
  have hR : (cmt (l0.map cvV) a1 a2).2.length ≤ 2000000 := Nat.le_trans (cmt_len _ _ _) (by omega)
  have S := specCmt (l0.map cvV) a1 a2 hx
  have I := implCmt (l0.map cvV) a1 a2 hx
  generalize cmt (l0.map cvV) a1 a2 = r at S I hR
  obtain ⟨c, out⟩ := r
  refine evCall (toVersionS l0 (by omega)) ((evCall S (evCall (toVersionS l0 (by omega)) ((evCall I ?_)))))
  refine evCall (eqChainResult c out (by simp at hR; omega)) (evIte (fun _ => ?_) (fun h => absurd rfl h))
  refine evCall (toVersionS l0 (by omega)) (evCall (eqVersionS _ (by omega)) (evIte (fun _ => ?_) (fun h => absurd rfl h)))
  refine evCall (markVersionS _ 1 (by omega) (by omega) (by omega)) (evIte (fun h => absurd h (by omega)) (fun _ => ?_))
  refine evCall (eqChainResult c out (by simp at hR; omega)) (evSucc ?_)
  simp only [laws_FnExactCommitChain.j0]
  refine evIte (fun h => absurd h (by decide)) (fun _ => ?_)
  refine evCall (markChainResult c out (by simp at hR; omega)) (evCall (heldChainResult c out.length (by simp at hR; omega)) (evIte (fun h => absurd h (by omega)) (fun _ => evIte (fun _ => ?_) (fun h => absurd rfl h))))
  refine evCall (toVersionS l0 (by omega)) ((evCall I (evCall (eqChainResult c out (by simp at hR; omega)) (evIte (fun _ => ?_) (fun h => absurd rfl h)))))
  refine evCall (heldChainResult c out.length (by simp at hR; omega)) (evIte (fun h => absurd h (by omega)) (fun _ => evIte (fun _ => evRet rfl) (fun h => absurd rfl h)))
end Go.Proofs.Ytlabafjldndcgaa.Pure
