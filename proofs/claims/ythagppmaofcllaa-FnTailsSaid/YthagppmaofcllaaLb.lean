/- Plain lemmas on lists, whole numbers and rounds, used by this seat's pure proofs. -/
import Derived.Test.YthagppmaofcllaaWMore
namespace Go.Proofs.Ythagppmaofcllaa.Lb
open Go.RowKit Go.Proofs.YthagppmaofcllaaW.PrintWords Go.Proofs.YthagppmaofcllaaW.PrintLast
set_option linter.unusedVariables false
set_option linter.unusedSimpArgs false

/-! ### whole numbers -/
theorem w64 {x : Int} (h0 : -9223372036854775808 ≤ x) (h1 : x ≤ 9223372036854775807) : wrap64 x = x := by
  unfold wrap64
  omega
theorem w64n {i : Nat} (h : i < 9223372036854775807) : wrap64 ((i : Int) + 1) = ((i + 1 : Nat) : Int) := by
  unfold wrap64
  omega
theorem wf8 {x : Int} (h : (Lit.int .u8 x).wf = true) : 0 ≤ x ∧ x ≤ 255 := by
  simp only [Lit.wf, Bool.and_eq_true, decide_eq_true_eq] at h
  have e1 : IntKind.min .u8 = 0 := by decide
  have e2 : IntKind.max .u8 = 255 := by decide
  rw [e1, e2] at h
  exact h

/-! ### rounds -/
section
variable {α β : Type} {r : β}
theorem evSucc {g : Nat → Option β} (h : Ev (fun k => g (k + 1)) r) : Ev g r := by
  obtain ⟨K, h⟩ := h
  refine ⟨K + 1, fun k hk => ?_⟩
  obtain ⟨m, rfl⟩ : ∃ m, k = m + 1 := ⟨k - 1, by omega⟩
  exact h m (by omega)
theorem evIte {c : Prop} [Decidable c] {f g : Nat → Option β} (h1 : c → Ev f r) (h2 : ¬ c → Ev g r) : Ev (fun k => if c then f k else g k) r := by
  by_cases hc : c
  · simp only [hc, if_true]; exact h1 hc
  · simp only [hc, if_false]; exact h2 hc
theorem evRet {x : β} (h : x = r) : Ev (fun _ => some x) r := by subst h; exact Ev.now _
theorem evSeq {g : Option α} {f : Nat → α → Option β} {a : α} (h : g = some a) (k : Ev (fun n => f n a) r) : Ev (fun n => g.bind (f n)) r := by subst h; exact k
theorem evCall {g : Nat → Option α} {f : Nat → α → Option β} {a : α} (h : Ev g a) (k : Ev (fun n => f n a) r) : Ev (fun n => (g n).bind (f n)) r := Ev.bind h k
theorem evPure {x : Option β} (h : x = some r) : Ev (fun _ => x) r := ⟨0, fun _ _ => h⟩
theorem evEq {g : Nat → Option β} {q : β} (h : Ev g q) (e : q = r) : Ev g r := e ▸ h
end

/-! ### loops over a list, by places -/
section
variable {α β : Type}
theorem getD_at {xs : List α} {i : Nat} (h : i < xs.length) (z : α) : xs.getD i z = xs[i] := by
  rw [List.getD_eq_getElem?_getD, List.getElem?_eq_getElem h, Option.getD_some]

/-- A loop whose rounds go on to the next place, to its end. -/
theorem places {L : Nat → Nat → Option β} {r : β} (n : Nat) (hs : ∀ k i, i < n → L (k + 1) i = L k (i + 1)) (he : Ev (fun k => L k n) r) : ∀ d i, n - i = d → i ≤ n → Ev (fun k => L k i) r
  | 0, i, hd, hi => by
    have : i = n := by omega
    subst this
    exact he
  | d + 1, i, hd, hi => by
    refine evSucc ?_
    have e : (fun k => L (k + 1) i) = fun k => L k (i + 1) := funext fun k => hs k i (by omega)
    rw [e]
    exact places n hs he d (i + 1) (by omega) (by omega)



end

/-! ### the first place at which p holds, or -1 -/

/-! ### halving: the first place that is not below -/
end Go.Proofs.Ythagppmaofcllaa.Lb

