/- Plain lemmas on lists, whole numbers and rounds, used by this seat's pure proofs. -/
import Derived.Test.YtldlnafakfigeaaDoorWMore
namespace Go.Proofs.YtldlnafakfigeaaDoor.Lb
open Go.RowKit Go.Proofs.YtldlnafakfigeaaDoorW.PrintWords Go.Proofs.YtldlnafakfigeaaDoorW.PrintLast
set_option linter.unusedVariables false
set_option linter.unusedSimpArgs false

/-! ### whole numbers -/
theorem w64 {x : Int} (h0 : -9223372036854775808 ≤ x) (h1 : x ≤ 9223372036854775807) : wrap64 x = x := by
  unfold wrap64
  omega
theorem w64n {i : Nat} (h : i < 9223372036854775807) : wrap64 ((i : Int) + 1) = ((i + 1 : Nat) : Int) := by
  unfold wrap64
  omega

/-! ### rounds -/
section
variable {α β : Type} {r : β}
theorem evSucc {g : Nat → Option β} (h : Ev (fun k => g (k + 1)) r) : Ev g r := by
  obtain ⟨K, h⟩ := h
  refine ⟨K + 1, fun k hk => ?_⟩
  obtain ⟨m, rfl⟩ : ∃ m, k = m + 1 := ⟨k - 1, by omega⟩
  exact h m (by omega)
theorem evIte {c : Prop} [Decidable c] {f g : Nat → Option β} (h1 : c → Ev f r) (h2 : ¬ c → Ev g r) : Ev (fun k => if c then f k else g k) r := by
  by_cases hc : c
  · simp only [hc, if_true]; exact h1 hc
  · simp only [hc, if_false]; exact h2 hc
theorem evRet {x : β} (h : x = r) : Ev (fun _ => some x) r := by subst h; exact Ev.now _
theorem evSeq {g : Option α} {f : Nat → α → Option β} {a : α} (h : g = some a) (k : Ev (fun n => f n a) r) : Ev (fun n => g.bind (f n)) r := by subst h; exact k
theorem evCall {g : Nat → Option α} {f : Nat → α → Option β} {a : α} (h : Ev g a) (k : Ev (fun n => f n a) r) : Ev (fun n => (g n).bind (f n)) r := Ev.bind h k
theorem evEq {g : Nat → Option β} {q : β} (h : Ev g q) (e : q = r) : Ev g r := e ▸ h
end

/-! ### loops over a list, by places -/
section
variable {α β : Type}
theorem getD_at {xs : List α} {i : Nat} (h : i < xs.length) (z : α) : xs.getD i z = xs[i] := by
  rw [List.getD_eq_getElem?_getD, List.getElem?_eq_getElem h, Option.getD_some]

/-- A loop whose rounds go on to the next place, to its end. -/
theorem places {L : Nat → Nat → Option β} {r : β} (n : Nat) (hs : ∀ k i, i < n → L (k + 1) i = L k (i + 1)) (he : Ev (fun k => L k n) r) : ∀ d i, n - i = d → i ≤ n → Ev (fun k => L k i) r
  | 0, i, hd, hi => by
    have : i = n := by omega
    subst this
    exact he
  | d + 1, i, hd, hi => by
    refine evSucc ?_
    have e : (fun k => L (k + 1) i) = fun k => L k (i + 1) := funext fun k => hs k i (by omega)
    rw [e]
    exact places n hs he d (i + 1) (by omega) (by omega)

/-- 'out[i] = c(a[i])' for all i. -/
theorem mapLoop {L : Nat → List β → Int → Option (List β)} (c : α → β) (z : β) (xs : List α)
    (hs : ∀ k (ys : List β) (i : Nat) (h : i < xs.length), ys.length = xs.length → L (k + 1) ys (i : Int) = L k (ys.set i (c xs[i])) ((i + 1 : Nat) : Int))
    (he : ∀ k (ys : List β), L (k + 1) ys (xs.length : Int) = some ys) : Ev (fun k => L k (List.replicate xs.length z) 0) (xs.map c) := by
  have key : ∀ d i, xs.length - i = d → i ≤ xs.length → Ev (fun k => L k ((xs.take i).map c ++ List.replicate (xs.length - i) z) (i : Int)) (xs.map c) := by
    intro d
    induction d with
    | zero =>
      intro i hd hi
      have : i = xs.length := by omega
      subst this
      refine evSucc ?_
      simp only [he]
      exact evRet (by simp)
    | succ d ih =>
      intro i hd hi
      have hlt : i < xs.length := by omega
      refine evSucc ?_
      have hlen : ((xs.take i).map c ++ List.replicate (xs.length - i) z).length = xs.length := by simp; omega
      have e : (fun k => L (k + 1) ((xs.take i).map c ++ List.replicate (xs.length - i) z) (i : Int)) = fun k => L k ((xs.take (i + 1)).map c ++ List.replicate (xs.length - (i + 1)) z) ((i + 1 : Nat) : Int) := by
        funext k
        have e2 : ((xs.take i).map c ++ List.replicate (xs.length - i) z).set i (c xs[i]) = (xs.take (i + 1)).map c ++ List.replicate (xs.length - (i + 1)) z := by
          rw [List.take_succ_eq_append_getElem hlt, List.map_append, show xs.length - i = (xs.length - (i + 1)) + 1 by omega, List.replicate_succ, List.set_append_right _ _ (by simp; omega), List.length_map, List.length_take, show min i xs.length = i by omega, Nat.sub_self, List.set_cons_zero]
          simp
        rw [hs k _ i hlt hlen, e2]
      rw [e]
      exact ih (i + 1) (by omega) (by omega)
  have := key xs.length 0 (by omega) (by omega)
  simpa using this

/-- A loop that goes on at each place, and answers r at the end. -/
theorem allLoop {ρ : Type} {L : Nat → Int → Option ρ} {r : ρ} (n : Nat) (hs : ∀ k (i : Nat), i < n → L (k + 1) (i : Int) = L k ((i + 1 : Nat) : Int)) (he : ∀ k, L (k + 1) (n : Int) = some r) : Ev (fun k => L k 0) r := by
  have := places (L := fun k i => L k (i : Int)) (r := r) n hs (evSucc (by simp only [he]; exact evRet rfl)) n 0 (by omega) (by omega)
  simpa using this

end

/-! ### the first place at which p holds, or -1 -/
def idxFrom {α : Type} (p : α → Bool) : Int → List α → Int
  | _, [] => -1
  | i, x :: xs => if p x then i else idxFrom p (i + 1) xs
def idx {α : Type} (p : α → Bool) (l : List α) : Int := idxFrom p 0 l
theorem idx_hit {α : Type} (p : α → Bool) (z : α) : ∀ (l : List α) (n : Nat) (i : Int), n < l.length → (∀ j, j < n → p (l.getD j z) = false) → p (l.getD n z) = true → idxFrom p i l = i + n
  | [], n, i, h, _, _ => by simp at h
  | x :: xs, 0, i, _, _, h => by
    have h' : p x = true := by simpa using h
    simp [idxFrom, h']
  | x :: xs, n + 1, i, h, hj, hn => by
    have h0 : p x = false := by simpa using hj 0 (by omega)
    have := idx_hit p z xs n (i + 1) (by simpa using h) (fun j hjn => by simpa using hj (j + 1) (by omega)) (by simpa using hn)
    simp [idxFrom, h0, this]
    omega
theorem idx_miss {α : Type} (p : α → Bool) (z : α) : ∀ (l : List α) (i : Int), (∀ j, j < l.length → p (l.getD j z) = false) → idxFrom p i l = -1
  | [], i, _ => rfl
  | x :: xs, i, hj => by
    have h0 : p x = false := by simpa using hj 0 (by simp)
    have := idx_miss p z xs (i + 1) (fun j hjn => by simpa using hj (j + 1) (by simpa using hjn))
    simp [idxFrom, h0, this]
theorem idxFrom_ge {α : Type} (p : α → Bool) : ∀ (l : List α) (i : Int), idxFrom p i l = -1 ∧ l.any p = false ∨ i ≤ idxFrom p i l ∧ idxFrom p i l < i + l.length ∧ l.any p = true
  | [], i => .inl ⟨rfl, rfl⟩
  | x :: xs, i => by
    cases h : p x with
    | true => exact .inr ⟨by simp [idxFrom, h], by simp [idxFrom, h]; omega, by simp [h]⟩
    | false =>
      rcases idxFrom_ge p xs (i + 1) with ⟨h1, h2⟩ | ⟨h1, h2, h3⟩
      · exact .inl ⟨by simp [idxFrom, h, h1], by simp [h, h2]⟩
      · exact .inr ⟨by simp [idxFrom, h]; omega, by simp [idxFrom, h]; omega, by simp [h, h3]⟩
theorem idx_any {α : Type} (p : α → Bool) (l : List α) : decide (0 ≤ idx p l) = l.any p := by
  unfold idx
  rcases idxFrom_ge p l 0 with ⟨h1, h2⟩ | ⟨h1, h2, h3⟩
  · rw [h1, h2]; rfl
  · rw [h3]; simpa using h1

/-! ### halving: the first place that is not below -/
def bsLoop {α : Type} (c : α → Int) (z : α) (l : List α) : Nat → Int → Int → Int
  | 0, i, _ => i
  | m + 1, i, j => if i < j then (if c (l.getD ((i + j) / 2).toNat z) < 0 then bsLoop c z l m ((i + j) / 2 + 1) j else bsLoop c z l m i ((i + j) / 2)) else i
def bs {α : Type} (c : α → Int) (z : α) (l : List α) : Int := bsLoop c z l l.length 0 l.length
def bsHit {α : Type} (c : α → Int) (z : α) (l : List α) : Bool := decide (bs c z l < l.length) && (c (l.getD (bs c z l).toNat z) == 0)
theorem bsLoop_end {α : Type} {c : α → Int} {z : α} {l : List α} {m : Nat} {i j : Int} (h : ¬ i < j) : bsLoop c z l m i j = i := by cases m <;> simp [bsLoop, h]
theorem bsLoop_low {α : Type} {c : α → Int} {z : α} {l : List α} {m : Nat} {i j : Int} (h : i < j) (hc : c (l.getD ((i + j) / 2).toNat z) < 0) : bsLoop c z l (m + 1) i j = bsLoop c z l m ((i + j) / 2 + 1) j := by simp only [bsLoop, h, hc, if_true]
theorem bsLoop_high {α : Type} {c : α → Int} {z : α} {l : List α} {m : Nat} {i j : Int} (h : i < j) (hc : ¬ c (l.getD ((i + j) / 2).toNat z) < 0) : bsLoop c z l (m + 1) i j = bsLoop c z l m i ((i + j) / 2) := by simp only [bsLoop, h, hc, if_true, if_false]
theorem bsLoop_ge {α : Type} {c : α → Int} {z : α} {l : List α} : ∀ (m : Nat) (i j : Int), 0 ≤ i → 0 ≤ j → 0 ≤ bsLoop c z l m i j
  | 0, i, j, h, _ => h
  | m + 1, i, j, h, h2 => by
    simp only [bsLoop]
    split
    · split
      · exact bsLoop_ge m _ _ (by omega) h2
      · exact bsLoop_ge m _ _ h (by omega)
    · exact h
theorem bs_ge {α : Type} {c : α → Int} {z : α} {l : List α} : 0 ≤ bs c z l := bsLoop_ge _ _ _ (by omega) (by omega)
theorem bsLoop_find {α : Type} {c : α → Int} {z : α} {l : List α} (n : Nat) (hn : n < l.length) (hlo : ∀ h : Nat, h < l.length → c (l.getD h z) < 0 → h < n) (hhi : ∀ h : Nat, h < l.length → ¬ c (l.getD h z) < 0 → n ≤ h) : ∀ (m : Nat) (i j : Int), (j - i).toNat ≤ m → 0 ≤ i → i ≤ n → n ≤ j → j ≤ l.length → bsLoop c z l m i j = n
  | 0, i, j, hm, h0, h1, h2, h3 => by simp only [bsLoop]; omega
  | m + 1, i, j, hm, h0, h1, h2, h3 => by
    by_cases hij : i < j
    · have hl : ((i + j) / 2).toNat < l.length := by omega
      by_cases hc : c (l.getD ((i + j) / 2).toNat z) < 0
      · rw [bsLoop_low hij hc]
        have := hlo _ hl hc
        exact bsLoop_find n hn hlo hhi m _ _ (by omega) (by omega) (by omega) h2 h3
      · rw [bsLoop_high hij hc]
        have := hhi _ hl hc
        exact bsLoop_find n hn hlo hhi m _ _ (by omega) h0 h1 (by omega) (by omega)
    · rw [bsLoop_end hij]
      omega
theorem bs_find {α : Type} {c : α → Int} {z : α} {l : List α} (n : Nat) (hn : n < l.length) (hlo : ∀ h : Nat, h < l.length → c (l.getD h z) < 0 → h < n) (hhi : ∀ h : Nat, h < l.length → ¬ c (l.getD h z) < 0 → n ≤ h) : bs c z l = n :=
  bsLoop_find n hn hlo hhi _ _ _ (by omega) (by omega) (by omega) (by omega) (by omega)
end Go.Proofs.YtldlnafakfigeaaDoor.Lb

