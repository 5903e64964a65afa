/- An index of an engine: both sides come to the same pairs. -/
import Derived.Test.YtocdahbinombkaaGreatLb
import Derived.Test.YtocdahbinombkaaGreatQf
import Derived.Test.YtocdahbinombkaaGreatQce
import Derived.Test.YtocdahbinombkaaGreatQnx
import Derived.Test.YtocdahbinombkaaGreatQen
import Derived.Test.YtocdahbinombkaaGreatQi
import Derived.Test.YtocdahbinombkaaGreatP0
import Derived.Test.YtocdahbinombkaaGreatPDall0
import Derived.Test.YtocdahbinombkaaGreatPDm0
namespace Go.Proofs.YtocdahbinombkaaGreat.Q
open Go.RowKit Go.Proofs.YtocdahbinombkaaGreat.P Go.Proofs.YtocdahbinombkaaGreatW.PrintWords Go.Proofs.YtocdahbinombkaaGreatW.PrintLast Go.Proofs.YtocdahbinombkaaGreatW.PrintMore Go.Proofs.YtocdahbinombkaaGreat.Lb
set_option linter.unusedVariables false
set_option linter.unusedSimpArgs false
def rk (v : S55) : Int := v.f0 * 32 + v.f1
theorem ltP_rk {a b : S55} (ha : okP a) (hb : okP b) : ltP a b = true ↔ rk a < rk b := by
  unfold okP at ha hb
  unfold ltP lt2 rk
  split <;> simp <;> omega
theorem eq_rk {a b : S55} (ha : okP a) (hb : okP b) (h : rk a = rk b) : a = b := by
  unfold okP at ha hb
  unfold rk at h
  rcases a with ⟨a0, a1⟩
  rcases b with ⟨b0, b1⟩
  simp only at *
  have h0 : a0 = b0 := by omega
  have h1 : a1 = b1 := by omega
  rw [h0, h1]
theorem partsP (key : Int) : ∀ (l : List S55), l.Pairwise (fun a b => rk a < rk b) → ∃ A B, l = A ++ B ∧ (∀ a ∈ A, rk a < key) ∧ ((∃ b B', B = b :: B' ∧ rk b = key ∧ ∀ x ∈ B', key < rk x) ∨ (∀ x ∈ B, key < rk x))
  | [], _ => ⟨[], [], rfl, by simp, .inr (by simp)⟩
  | v :: vs, h => by
    obtain ⟨h1, h2⟩ := List.pairwise_cons.1 h
    rcases Int.lt_trichotomy (rk v) key with h3 | h3 | h3
    · obtain ⟨A, B, rfl, hA, hB⟩ := partsP key vs h2
      exact ⟨v :: A, B, rfl, by intro a ha; rcases List.mem_cons.1 ha with rfl | ha; exact h3; exact hA a ha, hB⟩
    · exact ⟨[], v :: vs, rfl, by simp, .inl ⟨v, vs, rfl, h3, fun x hx => by have := h1 x hx; omega⟩⟩
    · exact ⟨[], v :: vs, rfl, by simp, .inr (fun x hx => by rcases List.mem_cons.1 hx with rfl | hx; exact h3; have := h1 x hx; omega)⟩
theorem specAdd_l (a b : Int) (hp : okP ⟨a, b⟩) (B R : List S55) (hB : (∃ B', B = ⟨a, b⟩ :: B' ∧ R = B) ∨ ((∀ x ∈ B, okP x ∧ rk ⟨a, b⟩ < rk x) ∧ R = ⟨a, b⟩ :: B)) : ∀ (rest pre : List S55), (∀ x ∈ rest, okP x ∧ rk x < rk ⟨a, b⟩) → (pre ++ rest ++ B).length ≤ 1099511627776 →
    Ev (fun k => spec_l8Add.l0 k (pre ++ (rest ++ B)) (pre.length : Int) a b) (pre ++ (rest ++ R))
  | [], pre, _, hb => by
    have hb' : pre.length + B.length ≤ 1099511627776 := by simp at hb; omega
    refine evSucc ?_
    simp only [spec_l8Add.l0, List.nil_append]
    have t1 : (pre ++ B).take (pre.length : Int).toNat = pre := by simp
    have t2 : (pre ++ B).drop (pre.length : Int).toNat = B := by simp
    have hle : (pre.length : Int) ≤ ((pre ++ B).length : Int) := by simp <;> omega
    refine evIte (fun h => evIte (fun _ => ?_) (fun h2 => absurd (by omega) h2)) (fun h => ?_)
    · cases B with
      | nil => simp at h
      | cons x B' =>
        rw [rdPair_mid]
        refine evSeq (specBehind _ _ _ _) ?_
        rcases hB with ⟨B'', e, rfl⟩ | ⟨h3, rfl⟩
        · obtain ⟨rfl, rfl⟩ : x = ⟨a, b⟩ ∧ B' = B'' := by injection e with e1 e2; exact ⟨e1, e2⟩
          refine evIte (fun h3 => ?_) (fun _ => ?_)
          · have := (ltP_rk hp hp).1 h3; omega
          · refine evIte (fun _ => ?_) (fun h3 => absurd (by simp) h3)
            simp only [Option.bind_some, List.nil_append]
            exact evIte (fun _ => evRet rfl) (fun h => absurd (by simp only [List.length_append, List.length_nil, List.length_cons] at *; omega) h)
        · have hgt := h3 x (by simp)
          refine evIte (fun h4 => ?_) (fun _ => ?_)
          · have := (ltP_rk hgt.1 hp).1 h4; omega
          · refine evIte (fun h4 => ?_) (fun _ => ?_)
            · exfalso
              simp only [Bool.and_eq_true, beq_iff_eq] at h4
              have : x = ⟨a, b⟩ := by rcases x with ⟨x0, x1⟩; simp only at h4; rw [h4.1, h4.2]
              rw [this] at hgt
              omega
            · simp only [Option.bind_some]
              rw [t1, t2]
              refine evIte (fun _ => evIte (fun _ => evIte (fun _ => evIte (fun _ => evRet (by simp)) (fun h => absurd ?_ h)) (fun h => absurd ?_ h)) (fun h => absurd ?_ h)) (fun h => absurd hle h) <;> (simp only [List.length_append, List.length_nil, List.length_cons] at *; omega)
    · have hnil : B = [] := by
        cases B with
        | nil => rfl
        | cons x B' => exact absurd (by simp <;> omega) h
      have hRr : R = [⟨a, b⟩] := by
        rcases hB with ⟨B'', e, _⟩ | ⟨_, e⟩
        · rw [hnil] at e; cases e
        · rw [hnil] at e; exact e
      rw [hRr]
      simp only [Option.bind_some]
      rw [t1, t2, hnil]
      have hb2 : pre.length ≤ 1099511627776 := by omega
      have hle2 : (pre.length : Int) ≤ ((pre ++ ([] : List S55)).length : Int) := by simp
      refine evIte (fun _ => evIte (fun _ => evIte (fun _ => evIte (fun _ => evIte (fun _ => evRet (by simp)) (fun h => absurd ?_ h)) (fun h => absurd ?_ h)) (fun h => absurd ?_ h)) (fun h => absurd hle2 h)) (fun h => absurd ?_ h) <;> first | omega | (simp only [List.length_append, List.length_nil, List.length_cons]; omega) | (simp; omega) | simp
  | v :: vs, pre, hr, hb => by
    have hb' : pre.length + 1 + vs.length + B.length ≤ 1099511627776 := by simp at hb; omega
    have ih := specAdd_l a b hp B R hB vs (pre ++ [v]) (fun x hx => hr x (by simp [hx])) (by simp; omega)
    have hn : (((pre ++ [v]).length : Nat) : Int) = wrap64 ((pre.length : Int) + 1) := by rw [w64n (by omega)]; simp
    rw [hn] at ih
    simp only [List.append_assoc, List.singleton_append] at ih
    have h1 : (pre.length : Int) < ((pre ++ (v :: vs ++ B)).length : Int) := by simp <;> omega
    have hv := hr v (by simp)
    refine evSucc ?_
    simp only [spec_l8Add.l0]
    refine evIte (fun _ => evIte (fun _ => ?_) (fun h2 => absurd (by omega) h2)) (fun h => absurd h1 h)
    rw [List.cons_append, rdPair_mid]
    refine evSeq (specBehind _ _ _ _) (evIte (fun _ => ?_) (fun h => absurd ((ltP_rk hv.1 hp).2 hv.2) h))
    exact ih
def insP (a : S55) (l : List S55) : List S55 := l.filter (fun x => decide (rk x < rk a)) ++ a :: l.filter (fun x => decide (rk a < rk x))
def goodP (l : List S55) : Prop := (∀ x ∈ l, okP x) ∧ l.Pairwise (fun a b => rk a < rk b)
theorem insP_mem {a : S55} {l : List S55} (ha : okP a) (hl : goodP l) (x : S55) : x ∈ insP a l ↔ x = a ∨ x ∈ l := by
  unfold insP
  simp only [List.mem_append, List.mem_cons, List.mem_filter, decide_eq_true_eq]
  constructor
  · rintro (h | h | h)
    · exact .inr h.1
    · exact .inl h
    · exact .inr h.1
  · rintro (h | h)
    · exact .inr (.inl h)
    · rcases Int.lt_trichotomy (rk x) (rk a) with h1 | h1 | h1
      · exact .inl ⟨h, h1⟩
      · exact .inr (.inl (eq_rk (hl.1 x h) ha h1))
      · exact .inr (.inr ⟨h, h1⟩)
theorem insP_good {a : S55} {l : List S55} (ha : okP a) (hl : goodP l) : goodP (insP a l) := by
  refine ⟨fun x hx => ?_, ?_⟩
  · rcases (insP_mem ha hl x).1 hx with rfl | h
    · exact ha
    · exact hl.1 x h
  · unfold insP
    rw [List.pairwise_append]
    refine ⟨hl.2.filter _, List.Pairwise.cons (fun x hx => by simpa using (List.mem_filter.1 hx).2) (hl.2.filter _), fun x hx y hy => ?_⟩
    have h1 : rk x < rk a := by simpa using (List.mem_filter.1 hx).2
    rcases List.mem_cons.1 hy with rfl | hy
    · exact h1
    · have h2 : rk a < rk y := by simpa using (List.mem_filter.1 hy).2
      omega
theorem insP_len {a : S55} {l : List S55} (ha : okP a) (hl : goodP l) : (insP a l).length ≤ l.length + 1 := by
  unfold insP
  rw [List.length_append, List.length_cons]
  have key : ∀ (l : List S55), (l.filter (fun x => decide (rk x < rk a))).length + (l.filter (fun x => decide (rk a < rk x))).length ≤ l.length := by
    intro l
    induction l with
    | nil => simp
    | cons x xs ih =>
      rw [List.filter_cons, List.filter_cons, List.length_cons]
      by_cases h1 : rk x < rk a
      · have h2 : ¬ rk a < rk x := by omega
        simp only [h1, h2, decide_true, decide_false, if_true, if_false, List.length_cons, Bool.false_eq_true]
        omega
      · by_cases h2 : rk a < rk x
        · simp only [h1, h2, decide_true, decide_false, if_true, if_false, List.length_cons, Bool.false_eq_true]
          omega
        · simp only [h1, h2, decide_false, if_false, Bool.false_eq_true]
          omega
  have := key l
  omega
theorem specAdd (a b : Int) (hp : okP ⟨a, b⟩) (l : List S55) (hl : goodP l) (hb : l.length ≤ 1000000000) : Ev (fun k => spec_l8Add.f k l a b) (insP ⟨a, b⟩ l) := by
  obtain ⟨A, B, rfl, hA, hB⟩ := partsP (rk ⟨a, b⟩) l hl.2
  have okA : ∀ x ∈ A, okP x ∧ rk x < rk ⟨a, b⟩ := fun x hx => ⟨hl.1 x (by simp [hx]), hA x hx⟩
  have fA : A.filter (fun x => decide (rk x < rk ⟨a, b⟩)) = A := List.filter_eq_self.2 (fun x hx => by simpa using hA x hx)
  have fA2 : A.filter (fun x => decide (rk ⟨a, b⟩ < rk x)) = [] := List.filter_eq_nil_iff.2 (fun x hx => by have := hA x hx; simp; omega)
  rcases hB with ⟨x, B', rfl, hx, hB'⟩ | hB
  · obtain rfl : x = ⟨a, b⟩ := eq_rk (hl.1 x (by simp)) hp hx
    have S := specAdd_l a b hp (⟨a, b⟩ :: B') _ (.inl ⟨B', rfl, rfl⟩) A [] okA (by simp at hb ⊢; omega)
    refine evEq (q := A ++ ⟨a, b⟩ :: B') (by simpa [spec_l8Add.f] using S) ?_
    unfold insP
    have fB : B'.filter (fun x => decide (rk x < rk ⟨a, b⟩)) = [] := List.filter_eq_nil_iff.2 (fun x hx => by have := hB' x hx; simp; omega)
    have fB2 : B'.filter (fun x => decide (rk ⟨a, b⟩ < rk x)) = B' := List.filter_eq_self.2 (fun x hx => by simpa using hB' x hx)
    rw [List.filter_append, List.filter_append, List.filter_cons, List.filter_cons, fA, fA2, fB, fB2]
    simp
  · have S := specAdd_l a b hp B _ (.inr ⟨fun x hx => ⟨hl.1 x (by simp [hx]), hB x hx⟩, rfl⟩) A [] okA (by simp at hb ⊢; omega)
    refine evEq (q := A ++ ⟨a, b⟩ :: B) (by simpa [spec_l8Add.f] using S) ?_
    unfold insP
    have fB : B.filter (fun x => decide (rk x < rk ⟨a, b⟩)) = [] := List.filter_eq_nil_iff.2 (fun x hx => by have := hB x hx; simp; omega)
    have fB2 : B.filter (fun x => decide (rk ⟨a, b⟩ < rk x)) = B := List.filter_eq_self.2 (fun x hx => by simpa using hB x hx)
    rw [List.filter_append, List.filter_append, fA, fA2, fB, fB2]
    simp
/-- The pairs of a row, of all rows. -/
def prsR (r : S87) : List S55 := (r.f1.filter (fun v => !v.f2)).map fun v => ⟨v.f3, r.f0⟩
def prs (m : List S87) : List S55 := m.flatMap prsR
def bld (L acc : List S55) : List S55 := L.foldl (fun l a => insP a l) acc
theorem bld_good : ∀ (L acc : List S55), (∀ x ∈ L, okP x) → goodP acc → goodP (bld L acc) ∧ (bld L acc).length ≤ acc.length + L.length ∧ ∀ x, x ∈ bld L acc ↔ x ∈ L ∨ x ∈ acc
  | [], acc, _, h => ⟨h, by simp [bld], by simp [bld]⟩
  | a :: L, acc, hL, h => by
    have ha := hL a (by simp)
    obtain ⟨h1, h2, h3⟩ := bld_good L (insP a acc) (fun x hx => hL x (by simp [hx])) (insP_good ha h)
    have h4 := insP_len ha h
    refine ⟨h1, by simp only [List.length_cons]; unfold bld at h2 ⊢; simp only [List.foldl_cons]; omega, fun x => ?_⟩
    have := h3 x
    unfold bld at this ⊢
    simp only [List.foldl_cons]
    rw [this, insP_mem ha h, List.mem_cons]
    constructor
    · rintro (h | h | h)
      · exact .inl (.inr h)
      · exact .inl (.inl h)
      · exact .inr h
    · rintro ((h | h) | h)
      · exact .inr (.inl h)
      · exact .inl h
      · exact .inr (.inr h)
theorem okVs : ∀ (l : List S89) (p : Option S89), cfL p l = 0 → ∀ v ∈ l, okV v
  | [], p, _, v, hv => by cases hv
  | x :: xs, p, h, v, hv => by
    unfold cfL at h
    by_cases ho : okV x
    · rw [if_pos ho] at h
      by_cases hb : badV p x
      · rw [if_pos hb] at h; omega
      · rw [if_neg hb] at h
        rcases List.mem_cons.1 hv with rfl | hv
        · exact ho
        · exact okVs xs (some x) h v hv
    · rw [if_neg ho] at h; omega
theorem cf_all {l : List S89} (h : cf l = 0) : (∀ v ∈ l, okV v) ∧ l.length ≤ 12 := by
  unfold cf at h
  by_cases h12 : 12 < l.length
  · simp [h12] at h
  · rw [if_neg h12] at h
    exact ⟨okVs l none h, by omega⟩
theorem row_ok {m : List S87} (hR : RwOK m) {r : S87} (hr : r ∈ m) : (0 ≤ r.f0 ∧ r.f0 ≤ 31) ∧ (∀ v ∈ r.f1, okV v) ∧ r.f1.length ≤ 12 := by
  obtain ⟨i, hi, rfl⟩ := List.getElem_of_mem hr
  have h1 := hR.key i hi
  have h2 := hR.ch i hi
  rw [getD_at hi] at h1 h2
  exact ⟨h1, cf_all h2⟩
theorem prsR_ok {r : S87} (h0 : 0 ≤ r.f0 ∧ r.f0 ≤ 31) (hv : ∀ v ∈ r.f1, okV v) : ∀ x ∈ prsR r, okP x := by
  intro x hx
  obtain ⟨v, hv2, rfl⟩ := List.mem_map.1 hx
  have := hv v (List.mem_filter.1 hv2).1
  unfold okV at this
  exact ⟨⟨by simp only; omega, by simp only; omega⟩, by simp only; omega, by simp only; omega⟩
theorem prsR_len (r : S87) : (prsR r).length ≤ r.f1.length := by unfold prsR; rw [List.length_map]; exact List.length_filter_le _ _
theorem prs_ok {m : List S87} (hR : RwOK m) : ∀ x ∈ prs m, okP x := by
  intro x hx
  obtain ⟨r, hr, hx⟩ := List.mem_flatMap.1 hx
  obtain ⟨h1, h2, _⟩ := row_ok hR hr
  exact prsR_ok h1 h2 x hx
theorem prs_len : ∀ (m : List S87), (∀ r ∈ m, r.f1.length ≤ 12) → (prs m).length ≤ m.length * 12
  | [], _ => by simp [prs]
  | r :: m, h => by
    have h1 := prs_len m (fun x hx => h x (by simp [hx]))
    have h2 := prsR_len r
    have h3 := h r (by simp)
    unfold prs at h1 ⊢
    rw [List.flatMap_cons, List.length_append, List.length_cons]
    omega
theorem specIn_ (key : Int) : ∀ (vs : List S89) (acc : List S55), (∀ v ∈ vs, okV v) → (0 ≤ key ∧ key ≤ 31) → goodP acc → acc.length + vs.length ≤ 1000000 → Ev (fun k => spec_l8Build.in_ k key vs acc) (bld ((vs.filter (fun v => !v.f2)).map fun v => ⟨v.f3, key⟩) acc)
  | [], acc, _, _, _, _ => evRet rfl
  | v :: vs, acc, hv, hk, ha, hl => by
    simp only [spec_l8Build.in_]
    rw [List.length_cons] at hl
    have h0 := hv v (by simp)
    unfold okV at h0
    have hp : okP ⟨v.f3, key⟩ := ⟨⟨by simp only; omega, by simp only; omega⟩, by simp only; omega, by simp only; omega⟩
    refine evIte (fun h => ?_) (fun h => ?_)
    · have := specIn_ key vs acc (fun x hx => hv x (by simp [hx])) hk ha (by omega)
      rw [List.filter_cons, if_neg (by rw [h]; decide)]
      exact this
    · rw [List.filter_cons, if_pos (by simpa using h), List.map_cons]
      refine evCall (specAdd v.f3 key hp acc ha (by omega)) ?_
      have h4 := insP_len hp ha
      exact specIn_ key vs _ (fun x hx => hv x (by simp [hx])) hk (insP_good hp ha) (by omega)
theorem bld_app (A B acc : List S55) : bld (A ++ B) acc = bld B (bld A acc) := by unfold bld; rw [List.foldl_append]
theorem specOut : ∀ (m : List S87) (acc : List S55), (∀ r ∈ m, (0 ≤ r.f0 ∧ r.f0 ≤ 31) ∧ (∀ v ∈ r.f1, okV v) ∧ r.f1.length ≤ 12) → goodP acc → acc.length + m.length * 12 ≤ 1000000 → Ev (fun k => spec_l8Build.out k m acc) (bld (prs m) acc)
  | [], acc, _, _, _ => evRet rfl
  | r :: m, acc, hm, ha, hl => by
    obtain ⟨h1, h2, h3⟩ := hm r (by simp)
    rw [List.length_cons] at hl
    simp only [spec_l8Build.out]
    refine evCall (specIn_ r.f0 r.f1 acc h2 h1 ha (by omega)) ?_
    obtain ⟨g1, g2, _⟩ := bld_good (prsR r) acc (prsR_ok h1 h2) ha
    have g3 := prsR_len r
    have := specOut m (bld (prsR r) acc) (fun x hx => hm x (by simp [hx])) g1 (by omega)
    rw [← bld_app] at this
    exact this
theorem specBuild {m : List S87} (hR : RwOK m) (hm : m.length ≤ 32) (a b : Int) (l : List S84) : Ev (fun k => spec_l8Build.f k a b l m) (bld (prs m) []) := by
  unfold spec_l8Build.f
  exact specOut m [] (fun r hr => row_ok hR hr) ⟨by simp, List.Pairwise.nil⟩ (by simp; omega)

/-! ### the program's side: all pairs, sorted, once each -/
theorem cmpP_rk {x y : S55} (hx : okP x) (hy : okP y) : cmpP x y < 0 ↔ rk x < rk y := by
  unfold okP at hx hy
  unfold cmpP rk
  repeat' split
  all_goals (constructor <;> intro h <;> omega)
theorem sortP_mem (L : List S55) (x : S55) : x ∈ sortP L ↔ x ∈ L := (List.mergeSort_perm _ _).mem_iff
theorem cmpP_lt2 (x y : S55) : cmpP x y < 0 ↔ (x.f0 < y.f0 ∨ (x.f0 = y.f0 ∧ x.f1 < y.f1)) := by
  unfold cmpP
  repeat' split
  all_goals (constructor <;> intro h <;> omega)
theorem sortP_le {L : List S55} (hL : ∀ x ∈ L, okP x) : (sortP L).Pairwise (fun a b => rk a ≤ rk b) := by
  have h1 : (sortP L).Pairwise (fun a b => (!decide (cmpP b a < 0)) = true) := List.pairwise_mergeSort (fun a b c h1 h2 => by
    simp only [Bool.not_eq_true', decide_eq_false_iff_not, cmpP_lt2] at h1 h2 ⊢; omega) (fun a b => by
    by_cases h : cmpP b a < 0
    · have h2 : ¬ cmpP a b < 0 := by rw [cmpP_lt2] at h ⊢; omega
      simp [h2]
    · simp [h]) L
  refine List.Pairwise.imp_of_mem ?_ h1
  intro a b ha hb h
  have h2 : ¬ cmpP b a < 0 := by simpa using h
  rw [cmpP_rk (hL b ((sortP_mem L b).1 hb)) (hL a ((sortP_mem L a).1 ha))] at h2
  omega
theorem cmpA_good : ∀ (l : List S55) (p : S55), okP p → (∀ x ∈ l, okP x) → l.Pairwise (fun a b => rk a ≤ rk b) → (∀ x ∈ l, rk p ≤ rk x) → (cmpA p l).Pairwise (fun a b => rk a < rk b) ∧ (∀ x ∈ cmpA p l, rk p < rk x ∧ x ∈ l) ∧ (∀ x ∈ l, x = p ∨ x ∈ cmpA p l)
  | [], p, _, _, _, _ => by simp [cmpA]
  | x :: xs, p, hp, hl, hw, hle => by
    obtain ⟨w1, w2⟩ := List.pairwise_cons.1 hw
    have hx := hl x (by simp)
    unfold cmpA
    by_cases he : (x.f0 == p.f0 && (x.f1 == p.f1)) = true
    · rw [if_pos he]
      have e : x = p := by
        simp only [Bool.and_eq_true, beq_iff_eq] at he
        rcases x with ⟨x0, x1⟩
        rcases p with ⟨p0, p1⟩
        simp only at he
        rw [he.1, he.2]
      obtain ⟨g1, g2, g3⟩ := cmpA_good xs p hp (fun y hy => hl y (by simp [hy])) w2 (fun y hy => hle y (by simp [hy]))
      refine ⟨g1, fun y hy => ⟨(g2 y hy).1, by simp [(g2 y hy).2]⟩, fun y hy => ?_⟩
      rcases List.mem_cons.1 hy with rfl | hy
      · exact .inl e
      · exact g3 y hy
    · rw [if_neg he]
      have hne : rk p < rk x := by
        have h1 := hle x (by simp)
        by_cases h2 : rk p = rk x
        · have e := eq_rk hp hx h2
          exact absurd (by rw [e]; simp) he
        · omega
      obtain ⟨g1, g2, g3⟩ := cmpA_good xs x hx (fun y hy => hl y (by simp [hy])) w2 w1
      refine ⟨List.Pairwise.cons (fun y hy => (g2 y hy).1) g1, fun y hy => ?_, fun y hy => ?_⟩
      · rcases List.mem_cons.1 hy with rfl | hy
        · exact ⟨hne, by simp⟩
        · exact ⟨by have := (g2 y hy).1; omega, by simp [(g2 y hy).2]⟩
      · rcases List.mem_cons.1 hy with rfl | hy
        · exact .inr (by simp)
        · rcases g3 y hy with rfl | h
          · exact .inr (by simp)
          · exact .inr (by simp [h])
theorem compP_good {l : List S55} (hl : ∀ x ∈ l, okP x) (hw : l.Pairwise (fun a b => rk a ≤ rk b)) : (compP l).Pairwise (fun a b => rk a < rk b) ∧ ∀ x, x ∈ compP l ↔ x ∈ l := by
  cases l with
  | nil => simp [compP]
  | cons x xs =>
    obtain ⟨w1, w2⟩ := List.pairwise_cons.1 hw
    obtain ⟨g1, g2, g3⟩ := cmpA_good xs x (hl x (by simp)) (fun y hy => hl y (by simp [hy])) w2 w1
    unfold compP
    refine ⟨List.Pairwise.cons (fun y hy => (g2 y hy).1) g1, fun y => ?_⟩
    rw [List.mem_cons, List.mem_cons]
    constructor
    · rintro (h | h)
      · exact .inl h
      · exact .inr (g2 y h).2
    · rintro (h | h)
      · exact .inl h
      · rcases g3 y h with h | h
        · exact .inl h
        · exact .inr h
theorem same_rises : ∀ (l m : List S55), l.Pairwise (fun a b => rk a < rk b) → m.Pairwise (fun a b => rk a < rk b) → (∀ x, x ∈ l ↔ x ∈ m) → l = m
  | [], [], _, _, _ => rfl
  | [], y :: m, _, _, h => by have := (h y).2 (by simp); simp at this
  | x :: l, [], _, _, h => by have := (h x).1 (by simp); simp at this
  | x :: l, y :: m, hl, hm, h => by
    obtain ⟨l1, l2⟩ := List.pairwise_cons.1 hl
    obtain ⟨m1, m2⟩ := List.pairwise_cons.1 hm
    have e : x = y := by
      rcases List.mem_cons.1 ((h x).1 (by simp)) with e | hx
      · exact e
      · rcases List.mem_cons.1 ((h y).2 (by simp)) with e | hy
        · exact e.symm
        · have := l1 y hy; have := m1 x hx; omega
    subst e
    rw [same_rises l m l2 m2 (fun z => ?_)]
    constructor
    · intro hz
      rcases List.mem_cons.1 ((h z).1 (by simp [hz])) with rfl | hz2
      · have := l1 z hz; omega
      · exact hz2
    · intro hz
      rcases List.mem_cons.1 ((h z).2 (by simp [hz])) with rfl | hz2
      · have := m1 z hz; omega
      · exact hz2
theorem pairs_eq {L : List S55} (hL : ∀ x ∈ L, okP x) : compP (sortP L) = bld L [] := by
  obtain ⟨g1, g2⟩ := compP_good (fun x hx => hL x ((sortP_mem L x).1 hx)) (sortP_le hL)
  obtain ⟨b1, _, b3⟩ := bld_good L [] hL ⟨by simp, List.Pairwise.nil⟩
  refine same_rises _ _ g1 b1.2 (fun x => ?_)
  rw [g2, b3, sortP_mem]
  simp
theorem implIn_ (a r : List S55) (m : List S87) (n i : Int) (key : Int) (all : List S89) (hn : all.length ≤ 12) (acc : List S55) (ha : acc.length ≤ 1000000)
    (hr : ∀ b, b = acc ++ ((all.filter (fun v => !v.f2)).map fun v => ⟨v.f3, key⟩) → Ev (fun k => impl_Engine_pairs.l0 k b m n (wrap64 (i + 1))) r) :
    Ev (fun k => impl_Engine_pairs.l1 k acc m n i all (all.length : Int) 0 key all) r := by
  have key2 : ∀ (d j : Nat) (ac : List S55), all.length - j = d → j ≤ all.length → ac.length ≤ 1000000 + j → (∀ b, b = ac ++ (((all.drop j).filter (fun v => !v.f2)).map fun v => ⟨v.f3, key⟩) → Ev (fun k => impl_Engine_pairs.l0 k b m n (wrap64 (i + 1))) r) → Ev (fun k => impl_Engine_pairs.l1 k ac m n i all (all.length : Int) (j : Int) key all) r := by
    intro d
    induction d with
    | zero =>
      intro j ac hd hj hac hr
      refine evSucc ?_
      simp only [impl_Engine_pairs.l1]
      refine evIte (fun h => absurd h (by omega)) (fun _ => ?_)
      exact hr ac (by rw [List.drop_eq_nil_of_le (by omega)]; simp)
    | succ d ih =>
      intro j ac hd hj hac hr
      have hjl : j < all.length := by omega
      refine evSucc ?_
      simp only [impl_Engine_pairs.l1]
      refine evIte (fun _ => evIte (fun _ => evIte (fun _ => ?_) (fun h => absurd (by omega) h)) (fun h => absurd (by omega) h)) (fun h => absurd (by omega) h)
      rw [rdV hjl, show wrap64 ((j : Int) + 1) = ((j + 1 : Nat) : Int) from by rw [w64n (by omega)]]
      rw [List.drop_eq_getElem_cons hjl, List.filter_cons] at hr
      refine evIte (fun h => ?_) (fun h => ?_)
      · rw [if_neg (by rw [h]; decide)] at hr
        exact ih (j + 1) ac (by omega) (by omega) (by omega) hr
      · rw [if_pos (by simpa using h), List.map_cons] at hr
        refine evIte (fun _ => ?_) (fun h => absurd (by omega) h)
        exact ih (j + 1) (ac ++ [⟨all[j].f3, key⟩]) (by omega) (by omega) (by simp; omega) (fun b hb => hr b (by rw [hb]; simp))
  exact key2 _ 0 acc rfl (by omega) (by omega) (fun b hb => hr b (by simpa using hb))
theorem implPairs {m : List S87} (hR : RwOK m) (hm : m.length ≤ 32) (a b : Int) (l : List S84) : Ev (fun k => impl_Engine_pairs.f k a b l m) (bld (prs m) []) := by
  rw [← pairs_eq (prs_ok hR)]
  unfold impl_Engine_pairs.f
  have hall : ∀ r ∈ m, r.f1.length ≤ 12 := fun r hr => (row_ok hR hr).2.2
  have hpl := prs_len m hall
  have key2 : ∀ (d i : Nat) (ac : List S55), m.length - i = d → i ≤ m.length → ac ++ prs (m.drop i) = prs m → Ev (fun k => impl_Engine_pairs.l0 k ac m (m.length : Int) (i : Int)) (compP (sortP (prs m))) := by
    intro d
    induction d with
    | zero =>
      intro i ac hd hi he
      rw [List.drop_eq_nil_of_le (by omega)] at he
      have he : ac = prs m := by simpa [prs] using he
      subst he
      refine evSucc ?_
      simp only [impl_Engine_pairs.l0]
      refine evIte (fun h => absurd h (by omega)) (fun _ => ?_)
      refine evSeq (a := sortP (prs m)) (by unfold slices_SortFunc_impl_Pair.f; rw [if_pos (by omega)]) ?_
      exact evSeq (a := compP (sortP (prs m))) rfl (evRet rfl)
    | succ d ih =>
      intro i ac hd hi he
      have hil : i < m.length := by omega
      have hac : ac.length ≤ (prs m).length := by rw [← he, List.length_append]; omega
      rw [List.drop_eq_getElem_cons hil] at he
      refine evSucc ?_
      simp only [impl_Engine_pairs.l0]
      refine evIte (fun _ => evIte (fun _ => evIte (fun _ => ?_) (fun h => absurd (by omega) h)) (fun h => absurd (by omega) h)) (fun h => absurd (by omega) h)
      rw [rdRow hil]
      refine implIn_ ac _ m _ _ m[i].f0 m[i].f1 (hall _ (List.getElem_mem hil)) ac (by omega) (fun b hb => ?_)
      rw [show wrap64 ((i : Int) + 1) = ((i + 1 : Nat) : Int) from by rw [w64n (by omega)]]
      refine ih (i + 1) b (by omega) (by omega) ?_
      rw [← he, hb]
      unfold prs
      rw [List.flatMap_cons, List.append_assoc]
      rfl
  exact key2 _ 0 [] rfl (by omega) (by simp)
theorem specHas_l (a b : Int) (all : List S55) (hn : all.length ≤ 1000000) : ∀ (d j : Nat), all.length - j = d → j ≤ all.length → Ev (fun k => spec_l8Has.l0 k all (j : Int) a b) ((all.drop j).any fun y => a == y.f0 && (b == y.f1)) := by
  intro d
  induction d with
  | zero =>
    intro j hd hj
    rw [List.drop_eq_nil_of_le (by omega)]
    refine evSucc ?_
    simp only [spec_l8Has.l0]
    exact evIte (fun h => absurd h (by omega)) (fun _ => evRet rfl)
  | succ d ih =>
    intro j hd hj
    have hjl : j < all.length := by omega
    refine evSucc ?_
    simp only [spec_l8Has.l0]
    refine evIte (fun _ => evIte (fun _ => ?_) (fun h => absurd (by omega) h)) (fun h => absurd (by omega) h)
    rw [rdPair hjl, List.drop_eq_getElem_cons hjl, List.any_cons, show wrap64 ((j : Int) + 1) = ((j + 1 : Nat) : Int) from by rw [w64n (by omega)]]
    have e : (a == all[j].f0 && (b == all[j].f1)) = (all[j].f0 == a && (all[j].f1 == b)) := by rw [Bool.beq_comm (a := a), Bool.beq_comm (a := b)]
    refine evIte (fun h => evRet (by rw [e, h]; rfl)) (fun h => ?_)
    rw [e, show (all[j].f0 == a && (all[j].f1 == b)) = false from by simpa using h, Bool.false_or]
    exact ih (j + 1) (by omega) (by omega)
theorem specIF_l (idx want : List S55) (hn : idx.length ≤ 1000000) (hw : want.length ≤ 1000000) : ∀ (d j : Nat), want.length - j = d → j ≤ want.length → Ev (fun k => spec_IndexFault.l0 k idx want (j : Int)) (if ((want.drop j).any fun x => !(idx.any fun y => x.f0 == y.f0 && (x.f1 == y.f1))) = true then 4 else 0) := by
  intro d
  induction d with
  | zero =>
    intro j hd hj
    rw [List.drop_eq_nil_of_le (by omega)]
    refine evSucc ?_
    simp only [spec_IndexFault.l0]
    exact evIte (fun h => absurd h (by omega)) (fun _ => evRet rfl)
  | succ d ih =>
    intro j hd hj
    have hjl : j < want.length := by omega
    refine evSucc ?_
    simp only [spec_IndexFault.l0]
    refine evIte (fun _ => evIte (fun _ => ?_) (fun h => absurd (by omega) h)) (fun h => absurd (by omega) h)
    rw [rdPair hjl, List.drop_eq_getElem_cons hjl, List.any_cons, show wrap64 ((j : Int) + 1) = ((j + 1 : Nat) : Int) from by rw [w64n (by omega)]]
    have hh := specHas_l want[j].f0 want[j].f1 idx hn _ 0 rfl (by omega)
    rw [List.drop_zero] at hh
    refine evCall (by simpa [spec_l8Has.f] using hh) ?_
    refine evIte (fun h => ?_) (fun h => evRet ?_)
    · rw [h, Bool.not_true, Bool.false_or]
      exact ih (j + 1) (by omega) (by omega)
    · rw [show (idx.any fun y => want[j].f0 == y.f0 && (want[j].f1 == y.f1)) = false from by simpa using h]; rfl
def ixF (nx ck : Int) (txns : List S84) (rows : List S87) (idx : List S55) : Int := if faultF cf nx ck txns rows = 0 then (if prf idx = 0 then (if ((bld (prs rows) []).any fun x => !(idx.any fun y => x.f0 == y.f0 && (x.f1 == y.f1))) = true then 4 else 0) else prf idx) else faultF cf nx ck txns rows
theorem specIX (nx ck : Int) (txns : List S84) (rows : List S87) (idx : List S55) (hr : ∀ r ∈ rows, r.f1.length ≤ 1048576) (hi : idx.length ≤ 1048576) : Ev (fun k => spec_IndexFault.f k nx ck txns rows idx) (ixF nx ck txns rows idx) := by
  unfold spec_IndexFault.f ixF
  refine evCall (specFault nx ck txns rows (fun r h => by have := hr r h; omega)) (evIte (fun h0 => ?_) (fun h0 => evRet (by rw [if_neg h0])))
  rw [if_pos h0]
  obtain ⟨_, _, _, h32, _, hR⟩ := fault_ok h0
  refine evCall (specPR idx (by omega)) (evIte (fun h1 => ?_) (fun h1 => evRet (by rw [if_neg h1])))
  rw [if_pos h1]
  refine evCall (specBuild hR h32 nx ck txns) ?_
  obtain ⟨_, b2, _⟩ := bld_good (prs rows) [] (prs_ok hR) ⟨by simp, List.Pairwise.nil⟩
  have b3 := prs_len rows (fun r h => (row_ok hR h).2.2)
  have b4 : idx.length ≤ 400 := by
    unfold prf at h1
    by_cases h : 400 < idx.length
    · rw [if_pos h] at h1; omega
    · omega
  have := specIF_l idx (bld (prs rows) []) (by omega) (by simp at b2; omega) _ 0 rfl (by omega)
  simpa using this
theorem implIX (nx ck : Int) (txns : List S84) (rows : List S87) (idx : List S55) (ht : ∀ t ∈ txns, t.f4.length ≤ 1048576) (hr : ∀ r ∈ rows, r.f1.length ≤ 1048576) (hi : idx.length ≤ 1048576) : Ev (fun k => impl_IndexFault.f k nx ck txns rows idx) (ixF nx ck txns rows idx) := by
  unfold impl_IndexFault.f ixF
  refine evCall (implEF nx ck txns rows ht hr) (evIte (fun h0 => ?_) (fun h0 => evRet (by rw [if_neg h0])))
  rw [if_pos h0]
  obtain ⟨_, _, _, h32, _, hR⟩ := fault_ok h0
  refine evCall (implPR idx (by omega)) (evIte (fun h1 => ?_) (fun h1 => evRet (by rw [if_neg h1])))
  rw [if_pos h1]
  exact evCall (implPairs hR h32 nx ck txns) (evRet rfl)
end Go.Proofs.YtocdahbinombkaaGreat.Q

