/- What is drawn: numbers, picks. -/
import Derived.Test.YthagppmaofcllaaLb
import Derived.Test.YthagppmaofcllaaQib
import Derived.Test.YthagppmaofcllaaP0
import Derived.Test.YthagppmaofcllaaPDcg0
namespace Go.Proofs.Ythagppmaofcllaa.Q
open Go.RowKit Go.Proofs.Ythagppmaofcllaa.P Go.Proofs.YthagppmaofcllaaW.PrintWords Go.Proofs.YthagppmaofcllaaW.PrintLast Go.Proofs.YthagppmaofcllaaW.PrintMore Go.Proofs.Ythagppmaofcllaa.Lb
set_option linter.unusedVariables false
set_option linter.unusedSimpArgs false
theorem rd_isB {s : List Int} (hs : isB s) {i : Int} (h0 : 0 ≤ i) (h1 : i < (s.length : Int)) : 0 ≤ rd s i ∧ rd s i ≤ 255 := by
  unfold rd
  have hlt : i.toNat < s.length := by omega
  rw [getD_at hlt]
  exact hs _ (List.getElem_mem hlt)
/-- A source of draws. -/
def src (s : List Int) (a : Int) : Prop := isB s ∧ s.length ≤ 1048576 ∧ 0 ≤ a ∧ a ≤ 1000000
theorem src_up {s : List Int} {a b : Int} (h : src s a) (h1 : a ≤ b) (h2 : b ≤ 1000000) : src s b := ⟨h.1, h.2.1, by have := h.2.2.1; omega, h2⟩
theorem nx {s : List Int} {a n : Int} (h : src s a) (hn : n ≤ 1000000) : ∃ r, spec_l1Next.f s a n = some (r, a + 1) ∧ 0 ≤ r ∧ (1 ≤ n → r < n) := by
  obtain ⟨hs, hl, h0, h1⟩ := h
  unfold spec_l1Next.f
  have e1 : wrap64 (a + 1) = a + 1 := w64 (by omega) (by omega)
  have e2 : wrap64 (a + 1 - 1) = a := by rw [w64 (by omega) (by omega)]; omega
  simp only [e1, e2]
  by_cases c1 : n < 1
  · rw [if_pos c1]
    exact ⟨0, rfl, by omega, by omega⟩
  rw [if_neg c1]
  have fin : ∀ v : Int, 0 ≤ v → ∃ r, some (Int.tmod v n, a + 1) = some (r, a + 1) ∧ 0 ≤ r ∧ (1 ≤ n → r < n) := by
    intro v hv
    rw [Int.tmod_eq_emod_of_nonneg hv]
    exact ⟨_, rfl, Int.emod_nonneg _ (by omega), fun _ => Int.emod_lt_of_pos _ (by omega)⟩
  by_cases c2 : (s.length : Int) = 0
  · rw [if_pos c2, if_neg (by omega)]
    refine fin _ ?_
    rw [w64 (by omega) (by omega)]
    omega
  rw [if_neg c2]
  have k0 : 0 < (s.length : Int) := by omega
  have i1 : ∀ x : Int, 0 ≤ x → 0 ≤ Int.tmod x (s.length : Int) ∧ Int.tmod x (s.length : Int) < (s.length : Int) := by
    intro x hx
    rw [Int.tmod_eq_emod_of_nonneg hx]
    exact ⟨Int.emod_nonneg _ (by omega), Int.emod_lt_of_pos _ k0⟩
  obtain ⟨m0, m1⟩ := i1 a h0
  rw [if_pos m0, if_pos m1]
  obtain ⟨x0, x1⟩ := rd_isB hs m0 m1
  have q0 : 0 ≤ Int.tdiv a (s.length : Int) ∧ Int.tdiv a (s.length : Int) ≤ a := by
    rw [Int.tdiv_eq_ediv_of_nonneg h0]
    exact ⟨Int.ediv_nonneg h0 (by omega), Int.ediv_le_self _ h0⟩
  generalize Int.tdiv a (s.length : Int) = q at q0 ⊢
  generalize rd s (Int.tmod a (s.length : Int)) = x at x0 x1 ⊢
  have W : wrap64 (wrap64 x + wrap64 (wrap64 q * 37)) = x + q * 37 := by
    rw [w64 (x := x) (by omega) (by omega), w64 (x := q) (by omega) (by omega), w64 (x := q * 37) (by omega) (by omega), w64 (by omega) (by omega)]
  by_cases c3 : n > 200
  · rw [if_pos c3]
    obtain ⟨m2, m3⟩ := i1 (a + 1) (by omega)
    rw [if_pos m2, if_pos m3, if_neg (by omega)]
    obtain ⟨y0, y1⟩ := rd_isB hs m2 m3
    generalize rd s (Int.tmod (a + 1) (s.length : Int)) = y at y0 y1 ⊢
    refine fin _ ?_
    rw [W, w64 (x := y) (by omega) (by omega), w64 (x := y * 13) (by omega) (by omega), w64 (x := (x + q * 37) * 251) (by omega) (by omega), w64 (x := (x + q * 37) * 251 + y * 13) (by omega) (by omega), w64 (by omega) (by omega)]
    omega
  · rw [if_neg c3, if_neg (by omega)]
    refine fin _ ?_
    rw [W]
    omega
theorem pk {s : List Int} {a : Int} (h : src s a) (l : List Int) (h0 : 0 < l.length) (h1 : l.length ≤ 1000) : ∃ r, spec_l1Pick.f s a l = some (r, a + 1) ∧ r ∈ l := by
  obtain ⟨i, e, i0, i1⟩ := nx (n := (l.length : Int)) h (by omega)
  have i1' := i1 (by omega)
  unfold spec_l1Pick.f
  rw [e]
  simp only [Option.bind_some, i0, i1', if_true]
  refine ⟨_, rfl, ?_⟩
  unfold rd
  have hlt : i.toNat < l.length := by omega
  rw [getD_at hlt]
  exact List.getElem_mem hlt
theorem ch {s : List Int} {a n : Int} (h : src s a) (hn : n ≤ 1000000) : ∃ b, spec_l1Chance.f s a n = some (b, a + 1) := by
  obtain ⟨r, e, _⟩ := nx h hn
  unfold spec_l1Chance.f
  rw [e]
  exact ⟨_, rfl⟩
end Go.Proofs.Ythagppmaofcllaa.Q
