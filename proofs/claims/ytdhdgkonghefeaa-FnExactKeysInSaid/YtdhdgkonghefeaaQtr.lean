/- Trees as the laws copy, count and compare them. -/
import Derived.Test.YtdhdgkonghefeaaLb
import Derived.Test.YtdhdgkonghefeaaQf
import Derived.Test.YtdhdgkonghefeaaQnx
import Derived.Test.YtdhdgkonghefeaaP0
import Derived.Test.YtdhdgkonghefeaaPDm0
namespace Go.Proofs.Ytdhdgkonghefeaa.Q
open Go.RowKit Go.Proofs.Ytdhdgkonghefeaa.P Go.Proofs.YtdhdgkonghefeaaW.PrintWords Go.Proofs.YtdhdgkonghefeaaW.PrintLast Go.Proofs.YtdhdgkonghefeaaW.PrintMore Go.Proofs.Ytdhdgkonghefeaa.Lb
set_option linter.unusedVariables false
theorem le_sum : ∀ (l : List Nat) (x : Nat), x ∈ l → x ≤ l.sum
  | y :: ys, x, h => by
    rcases List.mem_cons.1 h with rfl | h
    · simp
    · have := le_sum ys x h
      simp
      omega
theorem toTree (a : Int) (l : List S89) (h1 : l.length ≤ 1048576) (h2 : ∀ x ∈ l, x.f1.length ≤ 1048576 ∧ x.f2.length ≤ 1048576) : Ev (fun k => laws_toTree.f k a l) (a, l.map cvNode) := by
  unfold laws_toTree.f
  exact evCall (toNodeS l (by omega) (fun x hx => by have := h2 x hx; omega)) (evRet rfl)
theorem eqTree (a : Int) (l : List S58) (h1 : l.length ≤ 1048576) (h2 : ∀ x ∈ l, x.f1.length ≤ 1048576 ∧ x.f2.length ≤ 1048576) : Ev (fun k => laws_eqTree.f k a l a l) true := by
  unfold laws_eqTree.f
  exact evIte (fun _ => evCall (eqNodeS l (by omega) (fun x hx => by have := h2 x hx; omega)) (evIte (fun _ => evRet rfl) (fun h => absurd rfl h))) (fun h => absurd rfl h)
theorem szTree (a : Int) (l : List S89) (n : Int) (h0 : 0 ≤ n) (hn : n ≤ 1048576) (h1 : l.length ≤ 9223372036854775807) (h2 : ∀ x ∈ l, x.f1.length ≤ 9223372036854775807 ∧ x.f2.length ≤ 9223372036854775807) : ∃ t, Ev (fun k => laws_szTree.f k a l n) t ∧ (¬ t < 0 → l.length ≤ 1048576 ∧ ∀ x ∈ l, x.f1.length ≤ 1048576 ∧ x.f2.length ≤ 1048576) := by
  unfold laws_szTree.f
  obtain ⟨t, ht, hs⟩ := szNodeS l n h2 h1 h0 (by omega)
  by_cases hneg : t < 0
  · exact ⟨-1, evCall ht (evIte (fun _ => evRet rfl) (fun h => absurd hneg h)), fun h => absurd (by decide) h⟩
  · have hs' := hs (by omega)
    refine ⟨t, evCall ht (evIte (fun h => absurd h hneg) (fun _ => evRet rfl)), fun _ => ⟨by omega, fun x hx => ⟨?_, ?_⟩⟩⟩
    · have := le_sum (l.map fun x => x.f1.length) x.f1.length (List.mem_map_of_mem hx)
      omega
    · have := le_sum (l.map fun x => x.f2.length) x.f2.length (List.mem_map_of_mem hx)
      omega
theorem cvNodes_small {l : List S89} (h2 : ∀ x ∈ l, x.f1.length ≤ 1048576 ∧ x.f2.length ≤ 1048576) : ∀ x ∈ l.map cvNode, x.f1.length ≤ 1048576 ∧ x.f2.length ≤ 1048576 := fun x hx => by
  obtain ⟨y, hy, rfl⟩ := List.mem_map.1 hx
  exact h2 y hy
end Go.Proofs.Ytdhdgkonghefeaa.Q
