/- A key's cell: what both sides come to. -/
import Derived.Test.YtpdfpbnlablhoaaLb
import Derived.Test.YtpdfpbnlablhoaaQf
import Derived.Test.YtpdfpbnlablhoaaQg
import Derived.Test.YtpdfpbnlablhoaaQh
import Derived.Test.YtpdfpbnlablhoaaP0
import Derived.Test.YtpdfpbnlablhoaaPD0
namespace Go.Proofs.Ytpdfpbnlablhoaa.Q
open Go.RowKit Go.Proofs.Ytpdfpbnlablhoaa.P Go.Proofs.YtpdfpbnlablhoaaW.PrintWords Go.Proofs.YtpdfpbnlablhoaaW.PrintLast Go.Proofs.YtpdfpbnlablhoaaW.PrintMore Go.Proofs.Ytpdfpbnlablhoaa.Lb
set_option linter.unusedVariables false
set_option linter.unusedSimpArgs false
/-- Sound cells are ordered by their keys. -/
theorem cL_good : ∀ (l : List S49) (p : Option S49), cL p l = 0 → (∀ v ∈ l, okC v) ∧ l.Pairwise (fun a b => a.f0 < b.f0) ∧ (∀ q, p = some q → ∀ v ∈ l, q.f0 < v.f0)
  | [], p, _ => ⟨by simp, List.Pairwise.nil, by simp⟩
  | v :: vs, p, h => by
    by_cases hok : okC v
    · have hrest : cL (some v) vs = 0 ∧ (∀ q, p = some q → q.f0 < v.f0) := by
        cases p with
        | none => simp only [cL, hok, if_true] at h; exact ⟨h, by simp⟩
        | some q =>
          simp only [cL, hok, if_true] at h
          by_cases hq : v.f0 ≤ q.f0
          · rw [if_pos hq] at h; omega
          · rw [if_neg hq] at h; exact ⟨h, fun q' hq' => by cases hq'; omega⟩
      obtain ⟨h1, h2, h3⟩ := cL_good vs (some v) hrest.1
      refine ⟨?_, List.Pairwise.cons (h3 v rfl) h2, ?_⟩
      · intro x hx
        rcases List.mem_cons.1 hx with rfl | hx
        · exact hok
        · exact h1 x hx
      · intro q hq x hx
        rcases List.mem_cons.1 hx with rfl | hx
        · exact hrest.2 q hq
        · have := hrest.2 q hq
          have := h3 v rfl x hx
          omega
    · exfalso
      cases p <;> simp [cL, hok] at h
theorem pf_good {id lsn : Int} {l : List S49} (h : pf id lsn l = 0) : (∀ v ∈ l, okC v) ∧ l.Pairwise (fun a b => a.f0 < b.f0) := by
  unfold pf at h
  split at h
  · split at h
    · omega
    · exact ⟨(cL_good l none h).1, (cL_good l none h).2.1⟩
  · omega
/-- The first place of a key, or -1. -/
def fnd (key : Int) : List S49 → Int → Int
  | [], _ => -1
  | v :: vs, n => if v.f0 = key then n else fnd key vs (n + 1)
theorem fnd_spec (key : Int) : ∀ (l : List S49) (n : Int), (fnd key l n = -1 ∧ ∀ v ∈ l, v.f0 ≠ key) ∨ (∃ i : Nat, ∃ h : i < l.length, fnd key l n = n + i ∧ l[i].f0 = key)
  | [], n => .inl ⟨rfl, by simp⟩
  | v :: vs, n => by
    by_cases hv : v.f0 = key
    · exact .inr ⟨0, by simp, by simp [fnd, hv], by simpa using hv⟩
    · rcases fnd_spec key vs (n + 1) with ⟨h1, h2⟩ | ⟨i, h, h1, h2⟩
      · refine .inl ⟨by simp [fnd, hv, h1], ?_⟩
        intro x hx
        rcases List.mem_cons.1 hx with rfl | hx
        · exact hv
        · exact h2 x hx
      · exact .inr ⟨i + 1, by simpa using h, by simp [fnd, hv, h1]; omega, by simpa using h2⟩
theorem specFind_l (key : Int) : ∀ (rest pre : List S49), (pre ++ rest).length ≤ 1099511627776 → Ev (fun k => spec_l1Find.l0 k (pre ++ rest) key (pre.length : Int)) (fnd key rest (pre.length : Int))
  | [], pre, hb => by
    refine evSucc ?_
    simp only [spec_l1Find.l0, List.append_nil, Int.lt_irrefl, if_false]
    exact evRet rfl
  | v :: vs, pre, hb => by
    have ih := specFind_l key vs (pre ++ [v]) (by simpa using hb)
    have h1 : (pre.length : Int) < ((pre ++ v :: vs).length : Int) := by simp <;> omega
    have hn : (((pre ++ [v]).length : Nat) : Int) = wrap64 ((pre.length : Int) + 1) := by rw [w64n (by simp at hb; omega)]; simp
    have hn2 : (((pre ++ [v]).length : Nat) : Int) = (pre.length : Int) + 1 := by simp
    rw [List.append_assoc, List.singleton_append] at ih
    refine evSucc ?_
    simp only [spec_l1Find.l0, h1, Int.natCast_nonneg, if_true, rdCell_mid]
    refine evIte (fun h => evRet (by simp [fnd, h])) (fun h => ?_)
    rw [← hn]
    exact evEq ih (by simp only [fnd, h, if_false, hn2])
theorem specFind (l : List S49) (key : Int) (hb : l.length ≤ 1099511627776) : Ev (fun k => spec_l1Find.f k l key) (fnd key l 0) := specFind_l key l [] hb
/-- In sound cells halving finds what the way from the left finds. -/
theorem place_spec (l : List S49) (key : Int) (hk : -9223372036854775808 ≤ key ∧ key ≤ 9223372036854775807) (hok : ∀ v ∈ l, okC v) (hs : l.Pairwise (fun a b => a.f0 < b.f0)) :
    (fnd key l 0 < 0 → bsHit (impl_place.c key) z49 l = false) ∧ (¬ fnd key l 0 < 0 → bsHit (impl_place.c key) z49 l = true ∧ bs (impl_place.c key) z49 l = fnd key l 0) := by
  have hs' := List.pairwise_iff_getElem.1 hs
  rcases fnd_spec key l 0 with ⟨h3, h4⟩ | ⟨i, hi, h3, h4⟩
  · refine ⟨fun _ => ?_, fun h => absurd (by omega) h⟩
    by_cases hlt : bs (impl_place.c key) z49 l < l.length
    · have h0 := bs_ge (c := impl_place.c key) (z := z49) (l := l)
      unfold bsHit
      generalize bs (impl_place.c key) z49 l = n at h0 hlt ⊢
      have hn : n.toNat < l.length := by omega
      rw [getD_at hn]
      have hm := List.getElem_mem hn
      have h5 := h4 _ hm
      have h6 := hok _ hm
      unfold okC at h6
      have : impl_place.c key l[n.toNat] ≠ 0 := by unfold impl_place.c wrap64; omega
      simp [this]
    · unfold bsHit
      simp [hlt]
  · refine ⟨fun h => absurd h (by omega), fun _ => ?_⟩
    have hki := hok _ (List.getElem_mem hi)
    unfold okC at hki
    have hb : bs (impl_place.c key) z49 l = (i : Int) := by
      refine bs_find i hi ?_ ?_
      · intro h hh hc
        rw [getD_at hh] at hc
        have ho := hok _ (List.getElem_mem hh)
        unfold okC at ho
        unfold impl_place.c at hc
        rw [w64 (by omega) (by omega)] at hc
        rcases Nat.lt_trichotomy h i with h7 | h7 | h7
        · exact h7
        · subst h7; omega
        · have := hs' i h hi hh h7; omega
      · intro h hh hc
        rw [getD_at hh] at hc
        have ho := hok _ (List.getElem_mem hh)
        unfold okC at ho
        unfold impl_place.c at hc
        rw [w64 (by omega) (by omega)] at hc
        rcases Nat.lt_trichotomy h i with h7 | h7 | h7
        · have := hs' h i hh hi h7; omega
        · omega
        · omega
    refine ⟨?_, by omega⟩
    unfold bsHit
    rw [hb, Int.toNat_natCast, getD_at hi]
    have : impl_place.c key l[i] = 0 := by unfold impl_place.c; rw [h4]; simp [wrap64]
    simp [this, hi]
end Go.Proofs.Ytpdfpbnlablhoaa.Q
