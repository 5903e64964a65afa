/- What is drawn: chains. -/
import Derived.Test.YtkaammmkejiafaaLb
import Derived.Test.YtkaammmkejiafaaQdr
import Derived.Test.YtkaammmkejiafaaP0
import Derived.Test.YtkaammmkejiafaaPDall0
import Derived.Test.YtkaammmkejiafaaPDm0
namespace Go.Proofs.Ytkaammmkejiafaa.Q
open Go.RowKit Go.Proofs.Ytkaammmkejiafaa.P Go.Proofs.YtkaammmkejiafaaW.PrintWords Go.Proofs.YtkaammmkejiafaaW.PrintLast Go.Proofs.YtkaammmkejiafaaW.PrintMore Go.Proofs.Ytkaammmkejiafaa.Lb
set_option linter.unusedVariables false
set_option linter.unusedSimpArgs false
theorem chainD_l {s : List Int} : ∀ (d : Nat) (C : List S51) (x a : Int), src s a → a + 10 * d ≤ 1000000 → C.length + d ≤ 13 → d ≤ 12 → ∃ R b, Ev (fun k => spec_l5Chain.l0 k C x (d : Int) s a) (R, b) ∧ R.length ≤ 13 ∧ a ≤ b ∧ b ≤ a + 10 * d
  | 0, C, x, a, hs, ha, hC, hd => ⟨C, a, evSucc (by simp only [spec_l5Chain.l0]; exact evIte (fun h => absurd h (by omega)) (fun _ => evRet rfl)), by omega, by omega, by omega⟩
  | d + 1, C, x, a, hs, ha, hC, hd => by
    have e : wrap64 (((d + 1 : Nat) : Int) - 1) = (d : Int) := by rw [w64 (by omega) (by omega)]; omega
    obtain ⟨r1, e1, _⟩ := nx (n := 6) hs (by omega)
    have s1 := src_up hs (b := a + 1) (by omega) (by omega)
    obtain ⟨r2, e2, _⟩ := nx (n := 90) s1 (by omega)
    have s2 := src_up hs (b := a + 1 + 1) (by omega) (by omega)
    obtain ⟨b3, e3⟩ := ch (n := 4) s2 (by omega)
    have s3 := src_up hs (b := a + 1 + 1 + 1) (by omega) (by omega)
    have s4 := src_up hs (b := a + 1 + 1 + 1 + 1) (by omega) (by omega)
    obtain ⟨b4, e4⟩ := ch (n := 2) s3 (by omega)
    obtain ⟨r5, e5, _⟩ := nx (n := 3) s4 (by omega)
    obtain ⟨r6, e6, _⟩ := nx (n := 3) s3 (by omega)
    have s5 := src_up hs (b := a + 1 + 1 + 1 + 1 + 1) (by omega) (by omega)
    have tail : ∀ (v0 v1 : Int) (v2 : Bool) (v3 : Int), ∃ R b, Ev (fun k => spec_l5Chain.j1 k C x ((d + 1 : Nat) : Int) s (a + 1 + 1 + 1) v0 v1 v2 v3) (R, b) ∧ R.length ≤ 13 ∧ a ≤ b ∧ b ≤ a + 10 * (d + 1 : Nat) := by
      intro v0 v1 v2 v3
      by_cases c0 : (C.length : Int) = 0
      · cases b4 with
        | true =>
          obtain ⟨R, b, hR, l, b0, b1⟩ := chainD_l d (C ++ [⟨v0, 0, v2, v3⟩]) (wrap64 (wrap64 (x - 1) - r5)) (a + 1 + 1 + 1 + 1 + 1) s5 (by omega) (by simp; omega) (by omega)
          refine ⟨R, b, evSucc ?_, l, by omega, by omega⟩
          simp only [spec_l5Chain.j1, e]
          exact evIte (fun _ => evSeq e4 (evIte (fun _ => evIte (fun _ => evSeq e5 hR) (fun h => absurd (by omega) h)) (fun h => absurd rfl h))) (fun h => absurd c0 h)
        | false =>
          obtain ⟨R, b, hR, l, b0, b1⟩ := chainD_l d (C ++ [⟨v0, v1, v2, v3⟩]) (wrap64 (wrap64 (x - 1) - r5)) (a + 1 + 1 + 1 + 1 + 1) s5 (by omega) (by simp; omega) (by omega)
          refine ⟨R, b, evSucc ?_, l, by omega, by omega⟩
          simp only [spec_l5Chain.j1, e]
          exact evIte (fun _ => evSeq e4 (evIte (fun h => absurd h (by simp)) (fun _ => evIte (fun _ => evSeq e5 hR) (fun h => absurd (by omega) h)))) (fun h => absurd c0 h)
      · obtain ⟨R, b, hR, l, b0, b1⟩ := chainD_l d (C ++ [⟨v0, v1, v2, v3⟩]) (wrap64 (wrap64 (x - 1) - r6)) (a + 1 + 1 + 1 + 1) s4 (by omega) (by simp; omega) (by omega)
        refine ⟨R, b, evSucc ?_, l, by omega, by omega⟩
        simp only [spec_l5Chain.j1, e]
        exact evIte (fun h => absurd h c0) (fun _ => evIte (fun _ => evSeq e6 hR) (fun h => absurd (by omega) h))
    cases b3 with
    | true =>
      obtain ⟨R, b, hR, l, b0, b1⟩ := tail (wrap64 (1 + r1)) x true 0
      refine ⟨R, b, evSucc ?_, l, by omega, by omega⟩
      simp only [spec_l5Chain.l0]
      exact evIte (fun _ => evSeq e1 (evSeq e2 (evSeq e3 (evIte (fun _ => hR) (fun h => absurd rfl h))))) (fun h => absurd (by omega) h)
    | false =>
      obtain ⟨R, b, hR, l, b0, b1⟩ := tail (wrap64 (1 + r1)) x false r2
      refine ⟨R, b, evSucc ?_, l, by omega, by omega⟩
      simp only [spec_l5Chain.l0]
      exact evIte (fun _ => evSeq e1 (evSeq e2 (evSeq e3 (evIte (fun h => absurd h (by simp)) (fun _ => hR))))) (fun h => absurd (by omega) h)
theorem chainD {s : List Int} {a : Int} (hs : src s a) (ha : a ≤ 1000) : ∃ R b, Ev (fun k => spec_l5Chain.f k s a) (R, b) ∧ R.length ≤ 13 ∧ a ≤ b ∧ b ≤ a + 200 := by
  obtain ⟨r0, e0, _⟩ := nx (n := 20) hs (by omega)
  have s0 := src_up hs (b := a + 1) (by omega) (by omega)
  obtain ⟨x, ex, x0, x1⟩ := nx (n := 5) s0 (by omega)
  have s1 := src_up hs (b := a + 1 + 1) (by omega) (by omega)
  obtain ⟨y, ey, y0, y1⟩ := nx (n := 5) s1 (by omega)
  have s2 := src_up hs (b := a + 1 + 1 + 1) (by omega) (by omega)
  obtain ⟨z, ez, hz⟩ := pk s2 [x, y, 12] (by simp) (by simp)
  have s3 := src_up hs (b := a + 1 + 1 + 1 + 1) (by omega) (by omega)
  have x1' := x1 (by omega)
  have y1' := y1 (by omega)
  have hz' : 0 ≤ z ∧ z ≤ 12 := by simp at hz; omega
  obtain ⟨d, rfl⟩ : ∃ d : Nat, z = (d : Int) := ⟨z.toNat, by omega⟩
  obtain ⟨R, b, hR, l, b0, b1⟩ := chainD_l d [] (wrap64 (40 + r0)) (a + 1 + 1 + 1 + 1) s3 (by omega) (by simp; omega) (by omega)
  refine ⟨R, b, ?_, l, by omega, by omega⟩
  unfold spec_l5Chain.f
  exact evSeq e0 (evSeq ex (evSeq ey (evSeq ez hR)))
theorem bentV {s : List Int} {a : Int} (hs : src s a) (ha : a ≤ 900) : ∃ R b, Ev (fun k => spec_l5Bent.f k s a) (R, b) ∧ R.length ≤ 13 ∧ a ≤ b ∧ b ≤ a + 300 := by
  obtain ⟨R, b, hR, lR, b0, b1⟩ := chainD hs (by omega)
  have s0 := src_up hs b0 (by omega)
  unfold spec_l5Bent.f
  by_cases h0 : (R.length : Int) = 0
  · exact ⟨R, b, evCall hR (evIte (fun _ => evRet rfl) (fun h => absurd h0 h)), lR, b0, by omega⟩
  obtain ⟨i, ei, i0, i1⟩ := nx (n := (R.length : Int)) s0 (by omega)
  have i1' := i1 (by omega)
  have s1 := src_up hs (b := b + 1) (by omega) (by omega)
  obtain ⟨x, ex, _⟩ := nx (n := 20) s1 (by omega)
  have s2 := src_up hs (b := b + 1 + 1) (by omega) (by omega)
  by_cases c0 : x = 0
  · obtain ⟨y, ey, _⟩ := pk s2 [0, 999, 1000] (by simp) (by simp)
    exact ⟨_, _, evCall hR (evIte (fun h => absurd h h0) (fun _ => evSeq ei (evSeq ex (evIte (fun _ => evSeq ey (evIte (fun _ => evIte (fun _ => evRet rfl) (fun h => absurd i1' h)) (fun h => absurd i0 h))) (fun h => absurd c0 h))))), by simpa using lR, by omega, by omega⟩
  by_cases c1 : x = 1
  · obtain ⟨y, ey, _⟩ := pk s2 [0, (-1), 1000000, 1000001] (by simp) (by simp)
    exact ⟨_, _, evCall hR (evIte (fun h => absurd h h0) (fun _ => evSeq ei (evSeq ex (evIte (fun h => absurd h c0) (fun _ => evIte (fun _ => evSeq ey (evIte (fun _ => evIte (fun _ => evRet rfl) (fun h => absurd i1' h)) (fun h => absurd i0 h))) (fun h => absurd c1 h)))))), by simpa using lR, by omega, by omega⟩
  by_cases c2 : x = 2
  · obtain ⟨y, ey, _⟩ := pk s2 [(-1), 9999, 10000] (by simp) (by simp)
    exact ⟨_, _, evCall hR (evIte (fun h => absurd h h0) (fun _ => evSeq ei (evSeq ex (evIte (fun h => absurd h c0) (fun _ => evIte (fun h => absurd h c1) (fun _ => evIte (fun _ => evSeq ey (evIte (fun _ => evIte (fun _ => evRet rfl) (fun h => absurd i1' h)) (fun h => absurd i0 h))) (fun h => absurd c2 h))))))), by simpa using lR, by omega, by omega⟩
  by_cases c3 : x = 3
  · exact ⟨_, _, evCall hR (evIte (fun h => absurd h h0) (fun _ => evSeq ei (evSeq ex (evIte (fun h => absurd h c0) (fun _ => evIte (fun h => absurd h c1) (fun _ => evIte (fun h => absurd h c2) (fun _ => evIte (fun _ => evIte (fun _ => evIte (fun _ => evRet rfl) (fun h => absurd i1' h)) (fun h => absurd i0 h)) (fun h => absurd c3 h)))))))), by simpa using lR, by omega, by omega⟩
  by_cases c4 : x = 4
  · exact ⟨_, _, evCall hR (evIte (fun h => absurd h h0) (fun _ => evSeq ei (evSeq ex (evIte (fun h => absurd h c0) (fun _ => evIte (fun h => absurd h c1) (fun _ => evIte (fun h => absurd h c2) (fun _ => evIte (fun h => absurd h c3) (fun _ => evIte (fun _ => evRet rfl) (fun h => absurd c4 h))))))))), by simp, by omega, by omega⟩
  · exact ⟨_, _, evCall hR (evIte (fun h => absurd h h0) (fun _ => evSeq ei (evSeq ex (evIte (fun h => absurd h c0) (fun _ => evIte (fun h => absurd h c1) (fun _ => evIte (fun h => absurd h c2) (fun _ => evIte (fun h => absurd h c3) (fun _ => evIte (fun h => absurd h c4) (fun _ => evRet rfl))))))))), lR, by omega, by omega⟩
end Go.Proofs.Ytkaammmkejiafaa.Q

