/- A pair added: what both sides come to. -/
import Derived.Test.YtgbjfdaldakpiaaLb
import Derived.Test.YtgbjfdaldakpiaaQf
import Derived.Test.YtgbjfdaldakpiaaQi
import Derived.Test.YtgbjfdaldakpiaaP0
import Derived.Test.YtgbjfdaldakpiaaPD0
namespace Go.Proofs.Ytgbjfdaldakpiaa.Q
open Go.RowKit Go.Proofs.Ytgbjfdaldakpiaa.P Go.Proofs.YtgbjfdaldakpiaaW.PrintWords Go.Proofs.YtgbjfdaldakpiaaW.PrintLast Go.Proofs.YtgbjfdaldakpiaaW.PrintMore Go.Proofs.Ytgbjfdaldakpiaa.Lb
set_option linter.unusedVariables false
set_option linter.unusedSimpArgs false
def rk (v : S38) : Int := v.f0 * 32 + v.f1
theorem ltP_rk {a b : S38} (ha : okP a) (hb : okP b) : ltP a b = true ↔ rk a < rk b := by
  unfold okP at ha hb
  unfold ltP lt2 rk
  split <;> simp <;> omega
theorem eq_rk {a b : S38} (ha : okP a) (hb : okP b) (h : rk a = rk b) : a = b := by
  unfold okP at ha hb
  unfold rk at h
  rcases a with ⟨a0, a1⟩
  rcases b with ⟨b0, b1⟩
  simp only at *
  have h0 : a0 = b0 := by omega
  have h1 : a1 = b1 := by omega
  rw [h0, h1]
theorem pL_good : ∀ (l : List S38) (p : Option S38), (∀ q, p = some q → okP q) → pL p l = 0 → (∀ v ∈ l, okP v) ∧ l.Pairwise (fun a b => rk a < rk b) ∧ (∀ q, p = some q → ∀ v ∈ l, rk q < rk v)
  | [], p, _, _ => ⟨by simp, List.Pairwise.nil, by simp⟩
  | v :: vs, p, hp, h => by
    by_cases hok : okP v
    · have hrest : pL (some v) vs = 0 ∧ (∀ q, p = some q → rk q < rk v) := by
        cases p with
        | none => simp only [pL, hok, if_true] at h; exact ⟨h, by simp⟩
        | some q =>
          simp only [pL, hok, if_true] at h
          by_cases hq : ltP q v = true
          · rw [if_pos hq] at h
            exact ⟨h, fun q' hq' => by cases hq'; exact (ltP_rk (hp q rfl) hok).1 hq⟩
          · rw [if_neg hq] at h; omega
      obtain ⟨h1, h2, h3⟩ := pL_good vs (some v) (fun q hq => by cases hq; exact hok) hrest.1
      refine ⟨?_, List.Pairwise.cons (h3 v rfl) h2, ?_⟩
      · intro x hx
        rcases List.mem_cons.1 hx with rfl | hx
        · exact hok
        · exact h1 x hx
      · intro q hq x hx
        rcases List.mem_cons.1 hx with rfl | hx
        · exact hrest.2 q hq
        · have := hrest.2 q hq
          have := h3 v rfl x hx
          omega
    · exfalso
      cases p <;> simp [pL, hok] at h
theorem prf_good {l : List S38} (h : prf l = 0) : (∀ v ∈ l, okP v) ∧ l.Pairwise (fun a b => rk a < rk b) ∧ l.length ≤ 400 := by
  unfold prf at h
  split at h
  · omega
  · have := pL_good l none (by simp) h
    exact ⟨this.1, this.2.1, by omega⟩
theorem bsLoop_find' {α : Type} {c : α → Int} {z : α} {l : List α} (n : Nat) (hlo : ∀ h : Nat, h < l.length → c (l.getD h z) < 0 → h < n) (hhi : ∀ h : Nat, h < l.length → ¬ c (l.getD h z) < 0 → n ≤ h) : ∀ (m : Nat) (i j : Int), j - i ≤ m → 0 ≤ i → i ≤ n → (n : Int) ≤ j → j ≤ l.length → bsLoop c z l m i j = n
  | 0, i, j, hm, h0, h1, h2, h3 => by simp only [bsLoop]; omega
  | m + 1, i, j, hm, h0, h1, h2, h3 => by
    by_cases hij : i < j
    · have hl : ((i + j) / 2).toNat < l.length := by omega
      by_cases hc : c (l.getD ((i + j) / 2).toNat z) < 0
      · rw [bsLoop_low hij hc]
        have := hlo _ hl hc
        exact bsLoop_find' n hlo hhi m _ _ (by omega) (by omega) (by omega) h2 h3
      · rw [bsLoop_high hij hc]
        have := hhi _ hl hc
        exact bsLoop_find' n hlo hhi m _ _ (by omega) h0 h1 (by omega) (by omega)
    · rw [bsLoop_end hij]; omega
theorem partsP (key : Int) : ∀ (l : List S38), l.Pairwise (fun a b => rk a < rk b) → ∃ A B, l = A ++ B ∧ (∀ a ∈ A, rk a < key) ∧ ((∃ b B', B = b :: B' ∧ rk b = key ∧ ∀ x ∈ B', key < rk x) ∨ (∀ x ∈ B, key < rk x))
  | [], _ => ⟨[], [], rfl, by simp, .inr (by simp)⟩
  | v :: vs, h => by
    obtain ⟨h1, h2⟩ := List.pairwise_cons.1 h
    rcases Int.lt_trichotomy (rk v) key with h3 | h3 | h3
    · obtain ⟨A, B, rfl, hA, hB⟩ := partsP key vs h2
      exact ⟨v :: A, B, rfl, by intro a ha; rcases List.mem_cons.1 ha with rfl | ha; exact h3; exact hA a ha, hB⟩
    · exact ⟨[], v :: vs, rfl, by simp, .inl ⟨v, vs, rfl, h3, fun x hx => by have := h1 x hx; omega⟩⟩
    · exact ⟨[], v :: vs, rfl, by simp, .inr (fun x hx => by rcases List.mem_cons.1 hx with rfl | hx; exact h3; have := h1 x hx; omega)⟩
theorem cmp_rk {x : S38} {a b : Int} (hx : okP x) (hp : okP ⟨a, b⟩) : (impl_comparePairs_bs.c a b x < 0 ↔ rk x < rk ⟨a, b⟩) ∧ (impl_comparePairs_bs.c a b x = 0 ↔ rk x = rk ⟨a, b⟩) := by
  unfold okP at hx hp
  unfold impl_comparePairs_bs.c rk
  simp only at hp ⊢
  repeat' split
  all_goals (constructor <;> constructor <;> intro h <;> omega)
theorem place_atP (A B : List S38) (a b : Int) (hp : okP ⟨a, b⟩) (hok : ∀ v ∈ A ++ B, okP v) (hA : ∀ x ∈ A, rk x < rk ⟨a, b⟩) (hB : ∀ x ∈ B, rk ⟨a, b⟩ ≤ rk x) : bs (impl_comparePairs_bs.c a b) z38 (A ++ B) = A.length := by
  refine bsLoop_find' A.length ?_ ?_ _ _ _ (by omega) (by omega) (by omega) (by simp <;> omega) (by omega)
  · intro h hh h0
    rw [getD_at hh] at h0
    rw [(cmp_rk (hok _ (List.getElem_mem hh)) hp).1] at h0
    rcases Nat.lt_or_ge h A.length with h1 | h1
    · exact h1
    · rw [List.getElem_append_right h1] at h0
      have := hB _ (List.getElem_mem (by simp at hh; omega : h - A.length < B.length))
      omega
  · intro h hh h0
    rw [getD_at hh] at h0
    rw [(cmp_rk (hok _ (List.getElem_mem hh)) hp).1] at h0
    rcases Nat.lt_or_ge h A.length with h1 | h1
    · rw [List.getElem_append_left h1] at h0
      have := hA _ (List.getElem_mem h1)
      omega
    · exact h1
theorem bs_hitP (A B : List S38) (a b : Int) (fv : Value) (hp : okP ⟨a, b⟩) (hok : ∀ v ∈ A ++ ⟨a, b⟩ :: B, okP v) (hA : ∀ x ∈ A, rk x < rk ⟨a, b⟩) (hB : ∀ x ∈ B, rk ⟨a, b⟩ < rk x) : impl_comparePairs_bs.f (A ++ ⟨a, b⟩ :: B) a b fv = some ((A.length : Int), true) := by
  have e := place_atP A (⟨a, b⟩ :: B) a b hp hok hA (by intro x hx; rcases List.mem_cons.1 hx with rfl | hx; exact Int.le_refl _; have := hB x hx; omega)
  unfold impl_comparePairs_bs.f bsHit
  rw [e]
  have h1 : (A ++ (⟨a, b⟩ : S38) :: B).getD ((A.length : Int).toNat) z38 = ⟨a, b⟩ := by rw [getD_at (by simp)]; simp
  rw [h1]
  have h2 : impl_comparePairs_bs.c a b ⟨a, b⟩ = 0 := ((cmp_rk hp hp).2).2 rfl
  have h3 : (A.length : Int) < ((A ++ (⟨a, b⟩ : S38) :: B).length : Int) := by simp <;> omega
  simp only [h2, h3, decide_true, Bool.true_and, beq_self_eq_true]
theorem bs_missP (A B : List S38) (a b : Int) (fv : Value) (hp : okP ⟨a, b⟩) (hok : ∀ v ∈ A ++ B, okP v) (hA : ∀ x ∈ A, rk x < rk ⟨a, b⟩) (hB : ∀ x ∈ B, rk ⟨a, b⟩ < rk x) : impl_comparePairs_bs.f (A ++ B) a b fv = some ((A.length : Int), false) := by
  have e := place_atP A B a b hp hok hA (fun x hx => by have := hB x hx; omega)
  unfold impl_comparePairs_bs.f bsHit
  rw [e]
  by_cases hlt : (A.length : Int) < ((A ++ B).length : Int)
  · cases B with
    | nil => simp at hlt
    | cons x B =>
      have h1 : (A ++ x :: B).getD ((A.length : Int).toNat) z38 = x := by rw [getD_at (by simp)]; simp
      rw [h1]
      have h2 := hB x (by simp)
      have h3 : impl_comparePairs_bs.c a b x ≠ 0 := fun h => by have := ((cmp_rk (hok x (by simp)) hp).2).1 h; omega
      simp [h3]
  · simp only [hlt, decide_false, Bool.false_and]
/-- The pair put in its place, once. -/
theorem specAdd_l (a b : Int) (hp : okP ⟨a, b⟩) (B R : List S38) (hB : (∃ B', B = ⟨a, b⟩ :: B' ∧ R = B) ∨ ((∀ x ∈ B, okP x ∧ rk ⟨a, b⟩ < rk x) ∧ R = ⟨a, b⟩ :: B)) : ∀ (rest pre : List S38), (∀ x ∈ rest, okP x ∧ rk x < rk ⟨a, b⟩) → (pre ++ rest ++ B).length ≤ 1099511627776 →
    Ev (fun k => spec_l8Add.l0 k (pre ++ (rest ++ B)) (pre.length : Int) a b) (pre ++ (rest ++ R))
  | [], pre, _, hb => by
    have hb' : pre.length + B.length ≤ 1099511627776 := by simp at hb; omega
    refine evSucc ?_
    simp only [spec_l8Add.l0, List.nil_append]
    have t1 : (pre ++ B).take (pre.length : Int).toNat = pre := by simp
    have t2 : (pre ++ B).drop (pre.length : Int).toNat = B := by simp
    have hle : (pre.length : Int) ≤ ((pre ++ B).length : Int) := by simp <;> omega
    refine evIte (fun h => evIte (fun _ => ?_) (fun h2 => absurd (by omega) h2)) (fun h => ?_)
    · cases B with
      | nil => simp at h
      | cons x B' =>
        rw [rdPair_mid]
        refine evSeq (specBehind _ _ _ _) ?_
        rcases hB with ⟨B'', e, rfl⟩ | ⟨h3, rfl⟩
        · obtain ⟨rfl, rfl⟩ : x = ⟨a, b⟩ ∧ B' = B'' := by injection e with e1 e2; exact ⟨e1, e2⟩
          refine evIte (fun h3 => ?_) (fun _ => ?_)
          · have := (ltP_rk hp hp).1 h3; omega
          · refine evIte (fun _ => ?_) (fun h3 => absurd (by simp) h3)
            simp only [Option.bind_some, List.nil_append]
            exact evIte (fun _ => evRet rfl) (fun h => absurd (by simp only [List.length_append, List.length_nil, List.length_cons] at *; omega) h)
        · have hgt := h3 x (by simp)
          refine evIte (fun h4 => ?_) (fun _ => ?_)
          · have := (ltP_rk hgt.1 hp).1 h4; omega
          · refine evIte (fun h4 => ?_) (fun _ => ?_)
            · exfalso
              simp only [Bool.and_eq_true, beq_iff_eq] at h4
              have : x = ⟨a, b⟩ := by rcases x with ⟨x0, x1⟩; simp only at h4; rw [h4.1, h4.2]
              rw [this] at hgt
              omega
            · simp only [Option.bind_some]
              rw [t1, t2]
              refine evIte (fun _ => evIte (fun _ => evIte (fun _ => evIte (fun _ => evRet (by simp)) (fun h => absurd ?_ h)) (fun h => absurd ?_ h)) (fun h => absurd ?_ h)) (fun h => absurd hle h) <;> (simp only [List.length_append, List.length_nil, List.length_cons] at *; omega)
    · have hnil : B = [] := by
        cases B with
        | nil => rfl
        | cons x B' => exact absurd (by simp <;> omega) h
      have hRr : R = [⟨a, b⟩] := by
        rcases hB with ⟨B'', e, _⟩ | ⟨_, e⟩
        · rw [hnil] at e; cases e
        · rw [hnil] at e; exact e
      rw [hRr]
      simp only [Option.bind_some]
      rw [t1, t2, hnil]
      have hb2 : pre.length ≤ 1099511627776 := by omega
      have hle2 : (pre.length : Int) ≤ ((pre ++ ([] : List S38)).length : Int) := by simp
      refine evIte (fun _ => evIte (fun _ => evIte (fun _ => evIte (fun _ => evIte (fun _ => evRet (by simp)) (fun h => absurd ?_ h)) (fun h => absurd ?_ h)) (fun h => absurd ?_ h)) (fun h => absurd hle2 h)) (fun h => absurd ?_ h) <;> first | omega | (simp only [List.length_append, List.length_nil, List.length_cons]; omega) | (simp; omega) | simp
  | v :: vs, pre, hr, hb => by
    have hb' : pre.length + 1 + vs.length + B.length ≤ 1099511627776 := by simp at hb; omega
    have ih := specAdd_l a b hp B R hB vs (pre ++ [v]) (fun x hx => hr x (by simp [hx])) (by simp; omega)
    have hn : (((pre ++ [v]).length : Nat) : Int) = wrap64 ((pre.length : Int) + 1) := by rw [w64n (by omega)]; simp
    rw [hn] at ih
    simp only [List.append_assoc, List.singleton_append] at ih
    have h1 : (pre.length : Int) < ((pre ++ (v :: vs ++ B)).length : Int) := by simp <;> omega
    have hv := hr v (by simp)
    refine evSucc ?_
    simp only [spec_l8Add.l0]
    refine evIte (fun _ => evIte (fun _ => ?_) (fun h2 => absurd (by omega) h2)) (fun h => absurd h1 h)
    rw [List.cons_append, rdPair_mid]
    refine evSeq (specBehind _ _ _ _) (evIte (fun _ => ?_) (fun h => absurd ((ltP_rk hv.1 hp).2 hv.2) h))
    exact ih
def valP (n : Int) : Prop := 0 ≤ n ∧ n ≤ 9999
instance (n : Int) : Decidable (valP n) := by unfold valP; infer_instance
def keyP (n : Int) : Prop := 0 ≤ n ∧ n ≤ 31
instance (n : Int) : Decidable (keyP n) := by unfold keyP; infer_instance
def hasPr (a b : Int) (l : List S38) : Bool := l.any (fun x => x.f0 == a && x.f1 == b)
def addR (l : List S38) (a b : Int) : Int × List S38 :=
  if prf l = 0 then (if valP a ∧ keyP b then (if hasPr a b l = true then (0, l) else if l.length = 400 then (2, []) else (0, l.filter (fun x => decide (rk x < rk ⟨a, b⟩)) ++ ⟨a, b⟩ :: l.filter (fun x => decide (rk ⟨a, b⟩ < rk x)))) else (3, [])) else (prf l, [])
theorem addR_len (l : List S38) (a b : Int) : (addR l a b).2.length ≤ l.length + l.length + 1 := by
  have h1 : (l.filter (fun x => decide (rk x < rk ⟨a, b⟩))).length ≤ l.length := List.length_filter_le _ _
  have h2 : (l.filter (fun x => decide (rk ⟨a, b⟩ < rk x))).length ≤ l.length := List.length_filter_le _ _
  unfold addR
  repeat' split
  all_goals simp <;> omega
theorem splitP {l : List S38} (h : prf l = 0) (a b : Int) (hp : okP ⟨a, b⟩) :
    (∃ A B, l = A ++ ⟨a, b⟩ :: B ∧ (∀ x ∈ A, okP x ∧ rk x < rk ⟨a, b⟩) ∧ (∀ x ∈ B, okP x ∧ rk ⟨a, b⟩ < rk x) ∧ hasPr a b l = true) ∨
    (∃ A B, l = A ++ B ∧ (∀ x ∈ A, okP x ∧ rk x < rk ⟨a, b⟩) ∧ (∀ x ∈ B, okP x ∧ rk ⟨a, b⟩ < rk x) ∧ hasPr a b l = false ∧ l.filter (fun x => decide (rk x < rk ⟨a, b⟩)) = A ∧ l.filter (fun x => decide (rk ⟨a, b⟩ < rk x)) = B) := by
  obtain ⟨g1, g2, g3⟩ := prf_good h
  obtain ⟨A, B, rfl, hA, hB⟩ := partsP (rk ⟨a, b⟩) l g2
  rcases hB with ⟨x, B', rfl, hx, hB'⟩ | hB
  · obtain rfl : x = ⟨a, b⟩ := eq_rk (g1 x (by simp)) hp hx
    exact .inl ⟨A, B', rfl, fun x hx => ⟨g1 x (by simp [hx]), hA x hx⟩, fun x hx => ⟨g1 x (by simp [hx]), hB' x hx⟩, by simp [hasPr]⟩
  · refine .inr ⟨A, B, rfl, fun x hx => ⟨g1 x (by simp [hx]), hA x hx⟩, fun x hx => ⟨g1 x (by simp [hx]), hB x hx⟩, ?_, ?_, ?_⟩
    · have no : ∀ x : S38, rk x ≠ rk ⟨a, b⟩ → ¬ ((x.f0 == a && x.f1 == b) = true) := by
        intro x hx h
        simp only [Bool.and_eq_true, beq_iff_eq] at h
        exact hx (by unfold rk; simp only; rw [h.1, h.2])
      simp only [hasPr, List.any_append, Bool.or_eq_false_iff, List.any_eq_false]
      exact ⟨fun x hx => no x (by have := hA x hx; omega), fun x hx => no x (by have := hB x hx; omega)⟩
    · rw [List.filter_append, List.filter_eq_self.2 (fun x hx => by simpa using hA x hx), List.filter_eq_nil_iff.2 (fun x hx => by have := hB x hx; simp; omega), List.append_nil]
    · rw [List.filter_append, List.filter_eq_nil_iff.2 (fun x hx => by have := hA x hx; simp; omega), List.filter_eq_self.2 (fun x hx => by simpa using hB x hx), List.nil_append]
theorem specAddPair (l : List S38) (a b : Int) (hb : l.length ≤ 1000000000000) : Ev (fun k => spec_AddPair.f k l a b) (addR l a b) := by
  unfold spec_AddPair.f addR
  refine evCall (specPR l (by omega)) (evIte (fun h => ?_) (fun h => evRet (by rw [if_neg h])))
  rw [if_pos h]
  have key' : ∀ c : Bool, (c = true ↔ ¬ (valP a ∧ keyP b)) → Ev (fun k => spec_AddPair.j0 k l a b c) (if valP a ∧ keyP b then (if hasPr a b l = true then (0, l) else if l.length = 400 then (2, []) else (0, l.filter (fun x => decide (rk x < rk ⟨a, b⟩)) ++ ⟨a, b⟩ :: l.filter (fun x => decide (rk ⟨a, b⟩ < rk x)))) else (3, [])) := by
    intro c hbv
    refine evSucc ?_
    simp only [spec_AddPair.j0]
    refine evIte (fun h2 => evRet (by rw [if_neg (hbv.1 h2)])) (fun h2 => ?_)
    have hok : valP a ∧ keyP b := by
      by_cases ho : valP a ∧ keyP b
      · exact ho
      · exact absurd (hbv.2 ho) h2
    rw [if_pos hok]
    have hp : okP ⟨a, b⟩ := hok
    have h400 := (prf_good h).2.2
    rcases splitP h a b hp with ⟨A, B, rfl, hA, hB, hh⟩ | ⟨A, B, rfl, hA, hB, hn, e1, e2⟩
    · have S := specAdd_l a b hp (⟨a, b⟩ :: B) _ (.inl ⟨B, rfl, rfl⟩) A [] hA (by simp at h400 ⊢; omega)
      refine evCall (a := A ++ ⟨a, b⟩ :: B) (by simpa [spec_l8Add.f] using S) ?_
      rw [if_pos hh]
      exact evIte (fun h3 => absurd h3 (by omega)) (fun _ => evRet rfl)
    · have S := specAdd_l a b hp B _ (.inr ⟨hB, rfl⟩) A [] hA (by simp at h400 ⊢; omega)
      refine evCall (a := A ++ ⟨a, b⟩ :: B) (by simpa [spec_l8Add.f] using S) ?_
      have hno : ¬ hasPr a b (A ++ B) = true := by rw [hn]; decide
      rw [if_neg hno, e1, e2]
      have hl : (A ++ (⟨a, b⟩ : S38) :: B).length = (A ++ B).length + 1 := by simp; omega
      refine evIte (fun h3 => evRet (by rw [if_pos (by omega)])) (fun h3 => evRet (by rw [if_neg (by omega)]))
  refine evSeq (a := decide (valP a)) (by unfold spec_l1Value.f; rw [specIn]; rfl) ?_
  refine evIte (fun h2 => ?_) (fun h2 => key' _ (by simp at h2; simp [h2]))
  refine evSeq (a := decide (keyP b)) (by unfold spec_l1Key.f; rw [specIn]; rfl) ?_
  exact key' _ (by simp at h2; simp [h2])
theorem implAddPair (l : List S38) (a b : Int) (hb : l.length ≤ 1000000000000) : Ev (fun k => impl_AddPair.f k l a b) (addR l a b) := by
  unfold impl_AddPair.f addR
  have last : ∀ c : Int, (c = 0 → prf l = 0 ∧ valP a ∧ keyP b) → Ev (fun k => impl_AddPair.j1 k l a b c) (if c = 0 then (if hasPr a b l = true then (0, l) else if l.length = 400 then (2, []) else (0, l.filter (fun x => decide (rk x < rk ⟨a, b⟩)) ++ ⟨a, b⟩ :: l.filter (fun x => decide (rk ⟨a, b⟩ < rk x)))) else (c, [])) := by
    intro c hall
    by_cases hc : c = 0
    · · subst hc
        rw [if_pos rfl]
        obtain ⟨h, hv, hk⟩ := hall rfl
        have hp : okP ⟨a, b⟩ := ⟨hv, hk⟩
        refine evSucc ?_
        simp only [impl_AddPair.j1, if_true]
        have hcl : slices_Clone_impl_Pair.f l = some l := by
          unfold slices_Clone_impl_Pair.f
          have hle : l.length < 8796093022208 := by omega
          rw [Option.bind_some, if_pos (by simpa using hle), List.nil_append]
        refine evSeq hcl ?_
        rcases splitP h a b hp with ⟨A, B, rfl, hA, hB, hh⟩ | ⟨A, B, rfl, hA, hB, hn, e1, e2⟩
        · refine evSeq (bs_hitP A B a b _ hp (prf_good h).1 (fun x hx => (hA x hx).2) (fun x hx => (hB x hx).2)) (evIte (fun _ => evRet ?_) (fun h => absurd rfl h))
          rw [if_pos hh]
        · refine evSeq (bs_missP A B a b _ hp (prf_good h).1 (fun x hx => (hA x hx).2) (fun x hx => (hB x hx).2)) (evIte (fun h => absurd h (by simp)) (fun _ => ?_))
          have hno : ¬ hasPr a b (A ++ B) = true := by rw [hn]; decide
          rw [if_neg hno, e1, e2]
          refine evIte (fun h4 => evRet (by rw [if_pos (by omega)])) (fun h4 => ?_)
          rw [if_neg (by omega)]
          have hins : slices_Insert_impl_Pair.f (A ++ B) (A.length : Int) [⟨a, b⟩] = some (A ++ ⟨a, b⟩ :: B) := by
            unfold slices_Insert_impl_Pair.f
            have h1 : (A.length : Int) ≤ ((A ++ B).length : Int) := by simp <;> omega
            have h2 : (A ++ B).length + [(⟨a, b⟩ : S38)].length < 8796093022208 := by simp at hb ⊢; omega
            rw [if_pos (Int.natCast_nonneg _), if_pos h1, if_pos (by simp), if_pos h2, Int.toNat_natCast]
            simp
          exact evSeq hins (evRet rfl)
    · rw [if_neg hc]
      refine evSucc ?_
      simp only [impl_AddPair.j1]
      exact evIte (fun h => absurd h hc) (fun _ => evRet rfl)
  refine evCall (implPR l (by omega)) (evIte (fun h => ?_) (fun h => ?_))
  · rw [if_pos h]
    have key' : ∀ c : Bool, (c = true ↔ ¬ (valP a ∧ keyP b)) → Ev (fun k => impl_AddPair.j0 k l a b (prf l) c) (if valP a ∧ keyP b then (if hasPr a b l = true then (0, l) else if l.length = 400 then (2, []) else (0, l.filter (fun x => decide (rk x < rk ⟨a, b⟩)) ++ ⟨a, b⟩ :: l.filter (fun x => decide (rk ⟨a, b⟩ < rk x)))) else (3, [])) := by
      intro c hbv
      refine evSucc ?_
      simp only [impl_AddPair.j0]
      refine evIte (fun h2 => ?_) (fun h2 => ?_)
      · rw [if_neg (hbv.1 h2)]
        have q := last 3 (fun h => absurd h (by omega))
        rw [if_neg (by omega)] at q
        exact q
      · have hok : valP a ∧ keyP b := by
          by_cases ho : valP a ∧ keyP b
          · exact ho
          · exact absurd (hbv.2 ho) h2
        rw [if_pos hok]
        have q := last (prf l) (fun _ => ⟨h, hok⟩)
        rw [if_pos h] at q
        exact q
    refine evSeq (a := decide (valP a)) (by unfold impl_isValue.f; rw [implIn]; rfl) ?_
    refine evIte (fun h2 => ?_) (fun h2 => key' _ (by simp at h2; simp [h2]))
    refine evSeq (a := decide (keyP b)) (by unfold impl_isKey.f; rw [implIn]; rfl) ?_
    exact key' _ (by simp at h2; simp [h2])
  · rw [if_neg h]
    refine evSucc ?_
    simp only [impl_AddPair.j0]
    refine evIte (fun h2 => absurd h2 (by simp)) (fun _ => ?_)
    have q := last (prf l) (fun h' => absurd h' h)
    rw [if_neg h] at q
    exact q
end Go.Proofs.Ytgbjfdaldakpiaa.Q
