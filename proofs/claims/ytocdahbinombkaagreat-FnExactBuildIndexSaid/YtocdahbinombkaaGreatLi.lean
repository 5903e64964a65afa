/- Rows of elements of several cells, told by their cells; 'copy' and 'overlaps' at them (for slices.Insert and slices.Delete at structs). -/
import Derived.Laws.CopyOwn
import Derived.Lib.AppendZerosOnto
import Derived.Lib.Overlaps
import Derived.Shelf.RegionOpenPlain
import Derived.Test.YtocdahbinombkaaGreatWMore
import Derived.Test.YtocdahbinombkaaGreatWKept
set_option linter.unusedVariables false
set_option linter.unusedSimpArgs false
namespace Go.Proofs.YtocdahbinombkaaGreat.Li
open Go Go.RowKit Go.Proofs.YtocdahbinombkaaGreatW.PrintWords
section
variable {α : Type} {enc : α → List Value} {sz : Nat}
theorem flat_len (h : ∀ x, (enc x).length = sz) : ∀ xs : List α, (xs.flatMap enc).length = xs.length * sz
  | [] => by simp
  | x :: r => by rw [List.flatMap_cons, List.length_append, h, flat_len h r, List.length_cons, Nat.succ_mul]; omega
theorem reps_flat {R : α → List Value → Prop} (hR : ∀ x c, R x c → c = enc x) : ∀ (xs : List α) (cs : List Value), Reps R sz xs cs → cs = xs.flatMap enc
  | [], cs, h => by have := h.1; simpa using this
  | x :: r, cs, h => by
    have h0 := h.2 0 x rfl
    have e0 := hR _ _ h0
    simp only [Nat.zero_mul, List.drop_zero] at e0
    have ht : Reps R sz r (cs.drop sz) := by
      refine ⟨by rw [List.length_drop, h.1, List.length_cons, Nat.succ_mul]; omega, fun j p hp => ?_⟩
      have := h.2 (j + 1) p hp
      rwa [List.drop_drop, show sz + j * sz = (j + 1) * sz by rw [Nat.succ_mul]; omega]
    rw [List.flatMap_cons, ← e0, ← reps_flat hR r _ ht, List.take_append_drop]
theorem flat_reps {R : α → List Value → Prop} (hR : ∀ x, R x (enc x)) (hl : ∀ x, (enc x).length = sz) (xs : List α) : Reps R sz xs (xs.flatMap enc) := by
  refine ⟨flat_len hl xs, fun j p hp => ?_⟩
  have : ∀ (xs : List α) (j : Nat), xs[j]? = some p → ((xs.flatMap enc).drop (j * sz)).take sz = enc p := by
    intro xs
    induction xs with
    | nil => intro j h; simp at h
    | cons x r ih =>
      intro j h
      cases j with
      | zero =>
        obtain rfl : x = p := by simpa using h
        rw [List.flatMap_cons, Nat.zero_mul, List.drop_zero, List.take_append_of_le_length (by rw [hl]; exact Nat.le_refl _), ← hl x, List.take_length]
      | succ j =>
        have h' : r[j]? = some p := by simpa using h
        rw [List.flatMap_cons, show (j + 1) * sz = (enc x).length + j * sz by rw [hl, Nat.succ_mul]; omega, ← List.drop_drop, List.drop_left]
        exact ih j h'
  rw [this xs j hp]
  exact hR p
end
section
variable {α : Type} {d : Kd α} {enc : α → List Value} {e : Nat} {w : World} {base : Nat} {ok : Nat → Prop} {v : Value} {xs : List α}
/-- An own row, by its cells. -/
theorem own_open (hM : ∀ (w : World) base ok x c, d.M w base ok x c → c = enc x) (h : d.R e w base ok v xs) :
    (v = .slice none 0 0 ∧ xs = []) ∨ ∃ (g cap : Nat) (sp : List Value), v = .slice (some ⟨g, 0, none⟩) xs.length cap ∧ base ≤ g ∧ ok g ∧ w.heap[g]? = some (.cells (xs.flatMap enc ++ sp).toArray e (0, 0)) ∧ xs.length ≤ cap ∧ cap ≤ maxLen ∧ (xs.flatMap enc ++ sp).length = cap * d.sz := by
  obtain ⟨hok, inner, ⟨hl, hrow⟩, hr⟩ := h
  have ei := reps_flat (fun x c => hM _ _ _ x c) _ _ hr
  rcases hrow with ⟨rfl, h0⟩ | ⟨g, cap, cur, rfl, hb, hh, hn, hm, hs, ht⟩
  · exact .inl ⟨rfl, List.eq_nil_of_length_eq_zero h0⟩
  · refine .inr ⟨g, cap, cur.toList.drop (xs.length * d.sz), rfl, hb, hok g (by simp [Value.ownBlock]), ?_, hn, hm, ?_⟩
    · rw [← ei, ← ht, List.take_append_drop]; simpa using hh
    · rw [← ei, ← ht, List.take_append_drop]; simpa using hs
theorem own_shut (hM : ∀ (w : World) base ok x, d.M w base ok x (enc x)) (hl : ∀ x, (enc x).length = d.sz) {g cap : Nat} {sp : List Value} (hb : base ≤ g) (hok : ok g) (hh : w.heap[g]? = some (.cells (xs.flatMap enc ++ sp).toArray e (0, 0)))
    (hn : xs.length ≤ cap) (hm : cap ≤ maxLen) (hs : (xs.flatMap enc ++ sp).length = cap * d.sz) : d.R e w base ok (.slice (some ⟨g, 0, none⟩) xs.length cap) xs := by
  refine ⟨fun k hk => ?_, xs.flatMap enc, ⟨flat_len hl xs, .inr ⟨g, cap, _, rfl, hb, hh, hn, hm, by simpa using hs, ?_⟩⟩, flat_reps (fun x => hM _ _ _ x) hl xs⟩
  · obtain rfl : g = k := by simpa [Value.ownBlock] using hk
    exact hok
  · rw [← flat_len hl xs]; simp
end
section
variable {P : Program} {ops : Array Oper} {rest : List Oper} {o : Oper} {a : Act} {w : World} {Q : Exit → Act → World → Prop}
end

theorem setCells_eq_setRow {P : Program} {w : World} (g : Nat) (t : TypeId) (o : Nat) (vs : List Value) (cur : Array Value) (hg : w.heap[g]? = some (.cells cur t (0, 0))) (hl : o + vs.length ≤ cur.size) (h1 : ∀ v ∈ vs, v.oneCell' = true) :
    w.setCells g o vs = w.setRow g (cur.toList.take o ++ vs ++ cur.toList.drop (o + vs.length)).toArray := by
  have a := run_storeCells_at P g o t vs 0 cur w hg (by simpa using hl) h1
  have b := run_storeCells_cells (P := P) g o vs 0 w (fun j hj => by simp only [World.cell?, hg]; rw [Nat.add_zero, Array.getElem?_eq_getElem (by omega)]; rfl) (fun j hj => by simp [World.frozen?, hg]) h1
  rw [a] at b
  simp only [Nat.add_zero] at b
  injection b with _ b
  exact b.symm
theorem run_clearK {P : Program} (w : World) (t e ty : TypeId) (z : Value) (ht : P.underlying t = some (.slice e)) (hv : ∀ w, (zeroValue e).run P w = .ok z w) (b o n c : Nat) (ZC : List Value) (hzc : (Builtin.zeroCells z.cells n).toList = ZC) (hn : 0 < n)
    (hc : ∀ j, j < ZC.length → (w.cell? ⟨b, o + j, none⟩).isSome = true) (hf : ∀ j, j < ZC.length → w.frozen? ⟨b, o + j, none⟩ = false) (h1 : ∀ v ∈ ZC, v.oneCell' = true) :
    (Builtin.clear_ #[t] ty #[.slice (some ⟨b, o, none⟩) n c]).run P w = .ok (.tuple #[]) (w.setCells b o ZC) := by
  have hst := run_storeCells_cells (P := P) b o ZC 0 w (by simpa using hc) (by simpa using hf) h1
  simp only [Nat.add_zero] at hst
  obtain ⟨m, rfl⟩ : ∃ m, n = m + 1 := ⟨n - 1, by omega⟩
  simp [Builtin.clear_, run_underlying ht, hv, hzc, hst]
end Go.Proofs.YtocdahbinombkaaGreat.Li

