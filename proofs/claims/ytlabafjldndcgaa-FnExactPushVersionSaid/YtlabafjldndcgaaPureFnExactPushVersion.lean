/- The pure statement of PushVersion's exact law: both sides tell the same, the argument stays, and the answer's memory is its own. -/
import Derived.Test.YtlabafjldndcgaaUFnExactPushVersion
import Derived.Test.YtlabafjldndcgaaQp
import Derived.Test.YtlabafjldndcgaaQe
import Derived.Test.YtlabafjldndcgaaQw
import Derived.Test.YtlabafjldndcgaaP0
import Derived.Test.YtlabafjldndcgaaPD0
namespace Go.Proofs.Ytlabafjldndcgaa.Pure
open Go.RowKit Go.Proofs.Ytlabafjldndcgaa.P Go.Proofs.Ytlabafjldndcgaa.Q Go.Proofs.YtlabafjldndcgaaW.PrintWords Go.Proofs.YtlabafjldndcgaaW.PrintLast Go.Proofs.YtlabafjldndcgaaW.PrintMore Go.Proofs.Ytlabafjldndcgaa.Lb
theorem FnExactPushVersion : laws_FnExactPushVersion.Pure := by
  intro l0 a1_0 a1_1 a2 a3 h0 _ _ _
  refine Ev.rounds ?_
  unfold laws_FnExactPushVersion.f
  refine evSeq (szVersionS l0 1048576 (by omega) (by omega) (by have := h0.2.1; simp only [maxLen] at this; omega)) ?_
  refine evIte (fun _ => evRet rfl) (fun h => ?_)
  have hl : l0.length ≤ 1048576 := by
    by_cases h2 : (1048576 : Int) < l0.length
    · rw [if_pos h2] at h; omega
    · omega
  have hx : (l0.map cvV).length ≤ 1048576 := by simp; omega
  have hR : (push (l0.map cvV) a1_0 a1_1 a2 a3).2.length ≤ 2000000 := Nat.le_trans (push_len _ _ _ _ _) (by omega)
  have S := specPush (l0.map cvV) a1_0 a1_1 a2 a3 hx
  have I := implPush (l0.map cvV) a1_0 a1_1 a2 a3 hx
  generalize push (l0.map cvV) a1_0 a1_1 a2 a3 = r at S I hR
  obtain ⟨c, out⟩ := r
  refine evCall (toVersionS l0 (by omega)) (evSeq (a := (a1_0, a1_1)) rfl (evCall S (evCall (toVersionS l0 (by omega)) (evSeq (a := (a1_0, a1_1)) rfl (evCall I ?_)))))
  refine evCall (eqChainResult c out (by simp at hR; omega)) (evIte (fun _ => ?_) (fun h => absurd rfl h))
  refine evCall (toVersionS l0 (by omega)) (evCall (eqVersionS _ (by omega)) (evIte (fun _ => ?_) (fun h => absurd rfl h)))
  refine evCall (markVersionS _ 1 (by omega) (by omega) (by omega)) (evIte (fun h => absurd h (by omega)) (fun _ => ?_))
  refine evCall (eqChainResult c out (by simp at hR; omega)) (evSucc ?_)
  simp only [laws_FnExactPushVersion.j0]
  refine evIte (fun h => absurd h (by decide)) (fun _ => ?_)
  refine evCall (markChainResult c out (by simp at hR; omega)) (evCall (heldChainResult c out.length (by simp at hR; omega)) (evIte (fun h => absurd h (by omega)) (fun _ => evIte (fun _ => ?_) (fun h => absurd rfl h))))
  refine evCall (toVersionS l0 (by omega)) (evSeq (a := (a1_0, a1_1)) rfl (evCall I (evCall (eqChainResult c out (by simp at hR; omega)) (evIte (fun _ => ?_) (fun h => absurd rfl h)))))
  refine evCall (heldChainResult c out.length (by simp at hR; omega)) (evIte (fun h => absurd h (by omega)) (fun _ => evIte (fun _ => evRet rfl) (fun h => absurd rfl h)))
end Go.Proofs.Ytlabafjldndcgaa.Pure
