/- The pure statement of KeysIn's exact law: both sides tell the same of every tree and range, the argument stays, and the answer owns its memory. -/
import Derived.Test.YtdhdgkonghefeaaUFnExactKeysIn
import Derived.Test.YtdhdgkonghefeaaQki
import Derived.Test.YtdhdgkonghefeaaP0
import Derived.Test.YtdhdgkonghefeaaPDm0
namespace Go.Proofs.Ytdhdgkonghefeaa.Pure
open Go.RowKit Go.Proofs.Ytdhdgkonghefeaa.P Go.Proofs.Ytdhdgkonghefeaa.Q Go.Proofs.YtdhdgkonghefeaaW.PrintWords Go.Proofs.YtdhdgkonghefeaaW.PrintLast Go.Proofs.YtdhdgkonghefeaaW.PrintMore Go.Proofs.Ytdhdgkonghefeaa.Lb
theorem eqIntsR (a : Int) (l : List Int) (h : l.length ≤ 1048576) : Ev (fun k => laws_eqIntsResult.f k a l a l) true := by
  unfold laws_eqIntsResult.f
  exact evIte (fun _ => evCall (eqInt64S l (by omega)) (evIte (fun _ => evRet rfl) (fun h => absurd rfl h))) (fun h => absurd rfl h)
theorem markIntsR (a : Int) (l : List Int) (h : l.length ≤ 1048576) : Ev (fun k => laws_markIntsResult.f k a l 1) (1 + 1 * (l.length : Int), marked meInt64 1 1 l.length) := by
  unfold laws_markIntsResult.f
  exact evCall (markInt64S l 1 (by omega) (by omega) (by omega)) (evRet rfl)
theorem heldIntsR (a : Int) (n : Nat) (h : n ≤ 1048576) : Ev (fun k => laws_heldIntsResult.f k a (marked meInt64 1 1 n) 1) (1 + 1 * (n : Int)) := by
  unfold laws_heldIntsResult.f
  exact evCall (heldInt64S n 1 (by omega) (by omega) (by omega)) (evIte (fun h => absurd h (by omega)) (fun _ => evRet rfl))
theorem markTree_some (a : Int) (l : List S58) (h1 : l.length ≤ 1048576) (h2 : ∀ x ∈ l, x.f1.length ≤ 1048576 ∧ x.f2.length ≤ 1048576) : ∃ r : Int × List S58, Ev (fun k => laws_markTree.f k a l 1) r ∧ ¬ r.1 < 0 := by
  have hs : nodesW l ≤ l.length * 2097153 := by
    unfold nodesW
    clear h1
    induction l with
    | nil => simp
    | cons x xs ih =>
      have hx := h2 x (by simp)
      have := ih (fun y hy => h2 y (by simp [hy]))
      simp only [List.map_cons, List.sum_cons, List.length_cons, nodeW]
      omega
  refine ⟨(1 + (nodesW l : Int), l), ?_, by show ¬ (1 + (nodesW l : Int)) < 0; omega⟩
  unfold laws_markTree.f
  exact evIte (fun _ => evRet rfl) (fun h => absurd ⟨by omega, by omega, h1⟩ h)
theorem FnExactKeysIn : laws_FnExactKeysIn.Pure := by
  intro a l lo hi _ hl _ _
  refine Ev.rounds ?_
  unfold laws_FnExactKeysIn.f
  have hml : maxLen = 9223372036854775807 := rfl
  obtain ⟨t, ht, hs⟩ := szTree a l 1048576 (by omega) (by omega) (by have := hl.2.1; omega) (fun x hx => ⟨by have := (hl.2.2 x hx).2.1.2.1; omega, by have := (hl.2.2 x hx).2.2.2.1; omega⟩)
  refine evCall ht (evIte (fun _ => evRet rfl) (fun h => ?_))
  obtain ⟨s1, s2⟩ := hs h
  have hto := toTree a l s1 s2
  obtain ⟨r, h1, h2, h3⟩ := keysBoth a (l.map cvNode) lo hi
  have b1 : (l.map cvNode).length ≤ 1048576 := by simpa using s1
  obtain ⟨m, hm, hm0⟩ := markTree_some a (l.map cvNode) b1 (cvNodes_small s2)
  refine evCall hto (evCall h1 (evCall h2 (evCall (eqIntsR r.1 r.2 (by omega)) (evIte (fun _ => ?_) (fun h => absurd rfl h)))))
  refine evCall (eqTree a _ b1 (cvNodes_small s2)) (evIte (fun _ => ?_) (fun h => absurd rfl h))
  refine evCall hm (evIte (fun h => absurd h hm0) (fun _ => ?_))
  exact evCall (markIntsR r.1 r.2 (by omega)) (evCall (heldIntsR r.1 r.2.length (by omega)) (evIte (fun h => absurd h (by omega)) (fun _ => evIte (fun _ => evRet rfl) (fun h => absurd rfl h))))
end Go.Proofs.Ytdhdgkonghefeaa.Pure
