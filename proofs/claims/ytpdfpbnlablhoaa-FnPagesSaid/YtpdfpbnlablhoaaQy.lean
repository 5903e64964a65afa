/- Cells set and dropped: what both sides come to. -/
import Derived.Test.YtpdfpbnlablhoaaLb
import Derived.Test.YtpdfpbnlablhoaaQf
import Derived.Test.YtpdfpbnlablhoaaQg
import Derived.Test.YtpdfpbnlablhoaaQh
import Derived.Test.YtpdfpbnlablhoaaQoa
import Derived.Test.YtpdfpbnlablhoaaP0
import Derived.Test.YtpdfpbnlablhoaaPD0
namespace Go.Proofs.Ytpdfpbnlablhoaa.Q
open Go.RowKit Go.Proofs.Ytpdfpbnlablhoaa.P Go.Proofs.YtpdfpbnlablhoaaW.PrintWords Go.Proofs.YtpdfpbnlablhoaaW.PrintLast Go.Proofs.YtpdfpbnlablhoaaW.PrintMore Go.Proofs.Ytpdfpbnlablhoaa.Lb
set_option linter.unusedVariables false
set_option linter.unusedSimpArgs false
theorem bsLoop_find' {α : Type} {c : α → Int} {z : α} {l : List α} (n : Nat) (hlo : ∀ h : Nat, h < l.length → c (l.getD h z) < 0 → h < n) (hhi : ∀ h : Nat, h < l.length → ¬ c (l.getD h z) < 0 → n ≤ h) : ∀ (m : Nat) (i j : Int), j - i ≤ m → 0 ≤ i → i ≤ n → (n : Int) ≤ j → j ≤ l.length → bsLoop c z l m i j = n
  | 0, i, j, hm, h0, h1, h2, h3 => by simp only [bsLoop]; omega
  | m + 1, i, j, hm, h0, h1, h2, h3 => by
    by_cases hij : i < j
    · have hl : ((i + j) / 2).toNat < l.length := by omega
      by_cases hc : c (l.getD ((i + j) / 2).toNat z) < 0
      · rw [bsLoop_low hij hc]
        have := hlo _ hl hc
        exact bsLoop_find' n hlo hhi m _ _ (by omega) (by omega) (by omega) h2 h3
      · rw [bsLoop_high hij hc]
        have := hhi _ hl hc
        exact bsLoop_find' n hlo hhi m _ _ (by omega) h0 h1 (by omega) (by omega)
    · rw [bsLoop_end hij]; omega
/-- Ordered cells fall into those ahead of a key, that of the key, and those behind. -/
theorem parts (key : Int) : ∀ (l : List S49), l.Pairwise (fun a b => a.f0 < b.f0) → ∃ A B, l = A ++ B ∧ (∀ a ∈ A, a.f0 < key) ∧ ((∃ b B', B = b :: B' ∧ b.f0 = key ∧ ∀ x ∈ B', key < x.f0) ∨ (∀ x ∈ B, key < x.f0))
  | [], _ => ⟨[], [], rfl, by simp, .inr (by simp)⟩
  | v :: vs, h => by
    obtain ⟨h1, h2⟩ := List.pairwise_cons.1 h
    rcases Int.lt_trichotomy v.f0 key with h3 | h3 | h3
    · obtain ⟨A, B, rfl, hA, hB⟩ := parts key vs h2
      exact ⟨v :: A, B, rfl, by intro a ha; rcases List.mem_cons.1 ha with rfl | ha; exact h3; exact hA a ha, hB⟩
    · exact ⟨[], v :: vs, rfl, by simp, .inl ⟨v, vs, rfl, h3, fun x hx => by have := h1 x hx; omega⟩⟩
    · exact ⟨[], v :: vs, rfl, by simp, .inr (fun x hx => by rcases List.mem_cons.1 hx with rfl | hx; exact h3; have := h1 x hx; omega)⟩
def ne (key : Int) (v : S49) : Bool := decide (v.f0 ≠ key)
theorem ne_lt {key : Int} {A : List S49} (h : ∀ a ∈ A, a.f0 < key) : A.filter (ne key) = A := List.filter_eq_self.2 (fun a ha => by have := h a ha; simp [ne]; omega)
theorem ne_gt {key : Int} {A : List S49} (h : ∀ a ∈ A, key < a.f0) : A.filter (ne key) = A := List.filter_eq_self.2 (fun a ha => by have := h a ha; simp [ne]; omega)
theorem specWithout_l (key : Int) : ∀ (rest pre out : List S49), (pre ++ rest).length ≤ 1099511627776 → out.length + rest.length ≤ 1099511627776 → Ev (fun k => spec_l1Without.l0 k (pre ++ rest) key out (pre.length : Int)) (out ++ rest.filter (ne key))
  | [], pre, out, hb, ho => by
    refine evSucc ?_
    simp only [spec_l1Without.l0, List.append_nil, Int.lt_irrefl, if_false]
    exact evRet (by simp)
  | v :: vs, pre, out, hb, ho => by
    have h1 : (pre.length : Int) < ((pre ++ v :: vs).length : Int) := by simp <;> omega
    have hn : (((pre ++ [v]).length : Nat) : Int) = wrap64 ((pre.length : Int) + 1) := by rw [w64n (by simp at hb; omega)]; simp
    refine evSucc ?_
    simp only [spec_l1Without.l0, h1, Int.natCast_nonneg, if_true, rdCell_mid]
    simp only [List.length_cons] at ho
    refine evIte (fun h => ?_) (fun h => ?_)
    · have ih := specWithout_l key vs (pre ++ [v]) out (by simpa using hb) (by omega)
      rw [List.append_assoc, List.singleton_append, hn] at ih
      exact evEq ih (by simp [ne, h])
    · refine evIte (fun _ => ?_) (fun h2 => absurd (by omega) h2)
      have ih := specWithout_l key vs (pre ++ [v]) (out ++ [v]) (by simpa using hb) (by simp; omega)
      rw [List.append_assoc, List.singleton_append, hn] at ih
      exact evEq ih (by simp [ne, h])
theorem specWithout (l : List S49) (key : Int) (hb : l.length ≤ 1099511627776) : Ev (fun k => spec_l1Without.f k l key) (l.filter (ne key)) := by
  unfold spec_l1Without.f
  have := specWithout_l key l [] [] hb (by simpa using hb)
  simpa using this
/-- From place |pre| on, all ahead being less, to where the rest begins. -/
theorem specWith_l (key value : Int) (B : List S49) (hB : ∀ x ∈ B, key < x.f0) : ∀ (rest pre : List S49), (∀ a ∈ rest, a.f0 < key) → (pre ++ rest ++ B).length ≤ 1099511627776 →
    Ev (fun k => spec_l1With.l0 k key value (pre ++ (rest ++ B)) (pre.length : Int)) (pre ++ (rest ++ (⟨key, value⟩ :: B)))
  | [], pre, _, hb => by
    have hb' : pre.length + B.length ≤ 1099511627776 := by simp at hb; omega
    refine evSucc ?_
    simp only [spec_l1With.l0, List.nil_append]
    have t1 : (pre ++ B).take (pre.length : Int).toNat = pre := by simp
    have t2 : (pre ++ B).drop (pre.length : Int).toNat = B := by simp
    have hle : (pre.length : Int) ≤ ((pre ++ B).length : Int) := by simp <;> omega
    refine evIte (fun h => evIte (fun _ => ?_) (fun h2 => absurd (by omega) h2)) (fun h => ?_)
    · cases B with
      | nil => simp at h
      | cons b B' =>
        rw [rdCell_mid]
        have := hB b (by simp)
        refine evIte (fun h => absurd h (by omega)) (fun _ => ?_)
        simp only [Option.bind_some]
        rw [t1, t2]
        refine evIte (fun _ => evIte (fun _ => evIte (fun _ => evIte (fun _ => evRet (by simp)) (fun h => absurd ?_ h)) (fun h => absurd ?_ h)) (fun h => absurd ?_ h)) (fun h => absurd hle h) <;> (simp only [List.length_append, List.length_nil, List.length_cons] at *; omega)
    · simp only [Option.bind_some]
      rw [t1, t2]
      refine evIte (fun _ => evIte (fun _ => evIte (fun _ => evIte (fun _ => evIte (fun _ => evRet (by simp)) (fun h => absurd ?_ h)) (fun h => absurd ?_ h)) (fun h => absurd ?_ h)) (fun h => absurd hle h)) (fun h => absurd ?_ h) <;> (simp only [List.length_append, List.length_nil, List.length_cons] at *; omega)
  | v :: vs, pre, hr, hb => by
    have hb' : pre.length + 1 + vs.length + B.length ≤ 1099511627776 := by simp at hb; omega
    have ih := specWith_l key value B hB vs (pre ++ [v]) (fun a ha => hr a (by simp [ha])) (by simp; omega)
    have hn : (((pre ++ [v]).length : Nat) : Int) = wrap64 ((pre.length : Int) + 1) := by rw [w64n (by omega)]; simp
    rw [hn] at ih
    simp only [List.append_assoc, List.singleton_append] at ih
    have h1 : (pre.length : Int) < ((pre ++ (v :: vs ++ B)).length : Int) := by simp <;> omega
    refine evSucc ?_
    simp only [spec_l1With.l0]
    refine evIte (fun _ => evIte (fun _ => ?_) (fun h2 => absurd (by omega) h2)) (fun h => absurd h1 h)
    rw [List.cons_append, rdCell_mid]
    refine evIte (fun _ => ?_) (fun h => absurd (hr v (by simp)) h)
    exact ih
theorem specWith (A B : List S49) (key value : Int) (l : List S49) (hl : l.filter (ne key) = A ++ B) (hA : ∀ a ∈ A, a.f0 < key) (hB : ∀ x ∈ B, key < x.f0) (hb : l.length ≤ 1000000000000) : Ev (fun k => spec_l1With.f k l key value) (A ++ ⟨key, value⟩ :: B) := by
  unfold spec_l1With.f
  have hlen : (A ++ B).length ≤ l.length := by rw [← hl]; exact List.length_filter_le _ _
  refine evCall (specWithout l key (by omega)) ?_
  rw [hl]
  have := specWith_l key value B hB A [] hA (by simp at hlen ⊢; omega)
  simpa using this
/-- Where halving comes to. -/
theorem place_at (A B : List S49) (key : Int) (hk : 0 ≤ key ∧ key ≤ 31) (hok : ∀ v ∈ A ++ B, okC v) (hA : ∀ a ∈ A, a.f0 < key) (hB : ∀ x ∈ B, key ≤ x.f0) : bs (impl_place.c key) z49 (A ++ B) = A.length := by
  have hc : ∀ h (hh : h < (A ++ B).length), impl_place.c key ((A ++ B).getD h z49) = (A ++ B)[h].f0 - key := by
    intro h hh
    rw [getD_at hh]
    have ho := hok _ (List.getElem_mem hh)
    unfold okC at ho
    unfold impl_place.c
    rw [w64 (by omega) (by omega)]
  refine bsLoop_find' A.length ?_ ?_ _ _ _ (by omega) (by omega) (by omega) (by simp <;> omega) (by omega)
  · intro h hh h0
    rw [hc h hh] at h0
    rcases Nat.lt_or_ge h A.length with h1 | h1
    · exact h1
    · rw [List.getElem_append_right h1] at h0
      have := hB _ (List.getElem_mem (by simp at hh; omega : h - A.length < B.length))
      omega
  · intro h hh h0
    rw [hc h hh] at h0
    rcases Nat.lt_or_ge h A.length with h1 | h1
    · rw [List.getElem_append_left h1] at h0
      have := hA _ (List.getElem_mem h1)
      omega
    · exact h1
theorem place_hit (A B : List S49) (b : S49) (key : Int) (hk : 0 ≤ key ∧ key ≤ 31) (hok : ∀ v ∈ A ++ b :: B, okC v) (hA : ∀ a ∈ A, a.f0 < key) (hb : b.f0 = key) (hB : ∀ x ∈ B, key < x.f0) : impl_place.f (A ++ b :: B) key = some ((A.length : Int), true) := by
  have e := place_at A (b :: B) key hk hok hA (by intro x hx; rcases List.mem_cons.1 hx with rfl | hx; omega; have := hB x hx; omega)
  unfold impl_place.f bsHit
  rw [e]
  have h1 : (A ++ b :: B).getD ((A.length : Int).toNat) z49 = b := by rw [getD_at (by simp)]; simp
  rw [h1]
  have : impl_place.c key b = 0 := by unfold impl_place.c; rw [hb]; simp [wrap64]
  have h2 : (A.length : Int) < ((A ++ b :: B).length : Int) := by simp <;> omega
  simp only [this, h2, decide_true, Bool.true_and, beq_self_eq_true]
theorem place_miss (A B : List S49) (key : Int) (hk : 0 ≤ key ∧ key ≤ 31) (hok : ∀ v ∈ A ++ B, okC v) (hA : ∀ a ∈ A, a.f0 < key) (hB : ∀ x ∈ B, key < x.f0) : impl_place.f (A ++ B) key = some ((A.length : Int), false) := by
  have e := place_at A B key hk hok hA (fun x hx => by have := hB x hx; omega)
  unfold impl_place.f bsHit
  rw [e]
  by_cases hlt : (A.length : Int) < ((A ++ B).length : Int)
  · cases B with
    | nil => simp at hlt
    | cons b B =>
      have h1 : (A ++ b :: B).getD ((A.length : Int).toNat) z49 = b := by rw [getD_at (by simp)]; simp
      rw [h1]
      have h2 := hB b (by simp)
      have h3 := hok b (by simp)
      unfold okC at h3
      have : impl_place.c key b ≠ 0 := by unfold impl_place.c; rw [w64 (by omega) (by omega)]; omega
      simp [this]
  · simp only [hlt, decide_false, Bool.false_and]
theorem implWith_hit (A B : List S49) (b : S49) (key value : Int) (hp : impl_place.f (A ++ b :: B) key = some ((A.length : Int), true)) (hb : b.f0 = key) (hl : (A ++ b :: B).length ≤ 1099511627776) : impl_withCell.f (A ++ b :: B) key value = some (A ++ ⟨key, value⟩ :: B) := by
  unfold impl_withCell.f slices_Clone_impl_Cell.f
  have hle : (A ++ b :: B).length < 8796093022208 := by omega
  simp only [List.nil_append, List.length_nil, Nat.zero_add, hle, if_true, Option.bind_some, hp, rdCell_mid, hb]
  have h1 : (A.length : Int) < ((A ++ b :: B).length : Int) := by simp <;> omega
  simp only [Int.natCast_nonneg, h1, if_true, Int.toNat_natCast]
  simp
theorem implWith_miss (A B : List S49) (key value : Int) (hp : impl_place.f (A ++ B) key = some ((A.length : Int), false)) (hl : (A ++ B).length ≤ 1099511627776) : impl_withCell.f (A ++ B) key value = some (A ++ ⟨key, value⟩ :: B) := by
  unfold impl_withCell.f slices_Clone_impl_Cell.f
  have hle : (A ++ B).length < 8796093022208 := by omega
  simp only [List.nil_append, List.length_nil, Nat.zero_add, hle, if_true, Option.bind_some, hp]
  unfold slices_Insert_impl_Cell.f
  have h1 : (A.length : Int) ≤ ((A ++ B).length : Int) := by simp <;> omega
  have h2 : (A ++ B).length + 1 < 8796093022208 := by omega
  simp only [Int.natCast_nonneg, h1, h2, if_true, Int.toNat_natCast, List.length_singleton, Nat.zero_lt_one, Bool.false_eq_true, if_false]
  simp
theorem implWithout_hit (A B : List S49) (b : S49) (key : Int) (hp : impl_place.f (A ++ b :: B) key = some ((A.length : Int), true)) (hl : (A ++ b :: B).length ≤ 1099511627776) : impl_without.f (A ++ b :: B) key = some (A ++ B) := by
  unfold impl_without.f slices_Clone_impl_Cell.f
  have hle : (A ++ b :: B).length < 8796093022208 := by omega
  rw [Option.bind_some, if_pos (by simpa using hle), Option.bind_some, List.nil_append, hp, Option.bind_some, if_pos rfl]
  unfold slices_Delete_impl_Cell.f
  have hw : wrap64 ((A.length : Int) + 1) = ((A.length + 1 : Nat) : Int) := w64n (by simp at hl; omega)
  rw [hw]
  have h1 : (A.length : Int) < ((A.length + 1 : Nat) : Int) := by omega
  have h2 : ((A.length + 1 : Nat) : Int) ≤ ((A ++ b :: B).length : Int) := by simp <;> omega
  rw [if_pos (Int.natCast_nonneg _), if_pos h1, if_pos h2, Int.toNat_natCast, Int.toNat_natCast]
  simp
def key31 (key : Int) : Prop := 0 ≤ key ∧ key ≤ 31
instance (key : Int) : Decidable (key31 key) := by unfold key31; infer_instance
def lsnOk (n : Int) : Prop := 0 ≤ n ∧ n ≤ 1000000
instance (n : Int) : Decidable (lsnOk n) := by unfold lsnOk; infer_instance
def valOk (n : Int) : Prop := 0 ≤ n ∧ n ≤ 9999
instance (n : Int) : Decidable (valOk n) := by unfold valOk; infer_instance
def lts (key : Int) (l : List S49) : List S49 := l.filter (fun v => decide (v.f0 < key))
def gts (key : Int) (l : List S49) : List S49 := l.filter (fun v => decide (key < v.f0))
theorem lts_parts {A B : List S49} {key : Int} (hA : ∀ a ∈ A, a.f0 < key) (hB : ∀ x ∈ B, key ≤ x.f0) : lts key (A ++ B) = A := by
  unfold lts
  rw [List.filter_append, List.filter_eq_self.2 (fun a ha => by simpa using hA a ha), List.filter_eq_nil_iff.2 (fun a ha => by have := hB a ha; simp; omega), List.append_nil]
theorem gts_parts {A B : List S49} {key : Int} (hA : ∀ a ∈ A, a.f0 ≤ key) (hB : ∀ x ∈ B, key < x.f0) : gts key (A ++ B) = B := by
  unfold gts
  rw [List.filter_append, List.filter_eq_nil_iff.2 (fun a ha => by have := hA a ha; simp; omega), List.filter_eq_self.2 (fun a ha => by simpa using hB a ha), List.nil_append]
def hasK (key : Int) (l : List S49) : Bool := l.any (fun v => v.f0 == key)
def setCell (id lsn : Int) (l : List S49) (key value lsn2 : Int) : Int × Int × Int × List S49 :=
  if pf id lsn l = 0 then (if key31 key ∧ valOk value ∧ lsnOk lsn2 then (if hasK key l = false ∧ l.length = 12 then (2, 0, 0, []) else (0, id, lsn2, lts key l ++ ⟨key, value⟩ :: gts key l)) else (3, 0, 0, [])) else (pf id lsn l, 0, 0, [])
def dropCell (id lsn : Int) (l : List S49) (key lsn2 : Int) : Int × Int × Int × List S49 :=
  if pf id lsn l = 0 then (if key31 key ∧ lsnOk lsn2 then (if hasK key l = true then (0, id, lsn2, lts key l ++ gts key l) else (4, 0, 0, [])) else (3, 0, 0, [])) else (pf id lsn l, 0, 0, [])
/-- Sound cells, by a key. -/
theorem split_good {id lsn : Int} {l : List S49} (h : pf id lsn l = 0) (key : Int) :
    (∃ A b B, l = A ++ b :: B ∧ (∀ a ∈ A, a.f0 < key) ∧ b.f0 = key ∧ (∀ x ∈ B, key < x.f0) ∧ hasK key l = true ∧ lts key l = A ∧ gts key l = B ∧ l.filter (ne key) = A ++ B ∧ fnd key l 0 = A.length) ∨
    (∃ A B, l = A ++ B ∧ (∀ a ∈ A, a.f0 < key) ∧ (∀ x ∈ B, key < x.f0) ∧ hasK key l = false ∧ lts key l = A ∧ gts key l = B ∧ l.filter (ne key) = A ++ B ∧ fnd key l 0 = -1) := by
  obtain ⟨A, B, rfl, hA, hB⟩ := parts key l (pf_good h).2
  rcases hB with ⟨b, B', rfl, hb, hB'⟩ | hB
  · refine .inl ⟨A, b, B', rfl, hA, hb, hB', by simp [hasK, hb], lts_parts hA (by intro x hx; rcases List.mem_cons.1 hx with rfl | hx; omega; have := hB' x hx; omega), ?_, ?_, ?_⟩
    · rw [show A ++ b :: B' = (A ++ [b]) ++ B' by simp]
      exact gts_parts (by intro x hx; rcases List.mem_append.1 hx with hx | hx; have := hA x hx; omega; simp at hx; subst hx; omega) hB'
    · rw [List.filter_append, ne_lt hA, List.filter_cons_of_neg (by simp [ne, hb]), ne_gt hB']
    · have go : ∀ (A : List S49) (n : Int), (∀ a ∈ A, a.f0 < key) → fnd key (A ++ b :: B') n = n + A.length := by
        intro A
        induction A with
        | nil => intro n _; simp [fnd, hb]
        | cons a A ih =>
          intro n hA
          have := hA a (by simp)
          rw [List.cons_append, fnd, if_neg (by omega), ih (n + 1) (fun x hx => hA x (by simp [hx]))]
          simp; omega
      rw [go A 0 hA]; omega
  · refine .inr ⟨A, B, rfl, hA, hB, ?_, lts_parts hA (fun x hx => by have := hB x hx; omega), gts_parts (fun x hx => by have := hA x hx; omega) hB, by rw [List.filter_append, ne_lt hA, ne_gt hB], ?_⟩
    · simp only [hasK, List.any_append, Bool.or_eq_false_iff, List.any_eq_false]
      exact ⟨fun x hx => by have := hA x hx; simp; omega, fun x hx => by have := hB x hx; simp; omega⟩
    · rcases fnd_spec key (A ++ B) 0 with ⟨h1, _⟩ | ⟨i, hi, h1, h2⟩
      · exact h1
      · exfalso
        have hm := List.getElem_mem hi
        rcases List.mem_append.1 hm with hm | hm
        · have := hA _ hm; omega
        · have := hB _ hm; omega
theorem specSetCell (id lsn : Int) (l : List S49) (key value lsn2 : Int) (hb : l.length ≤ 1000000000000) : Ev (fun k => spec_SetCell.f k id lsn l key value lsn2) (setCell id lsn l key value lsn2) := by
  unfold spec_SetCell.f setCell
  refine evCall (specPF id lsn l (by omega)) (evIte (fun h => ?_) (fun h => evRet (by rw [if_neg h])))
  rw [if_pos h]
  have key' : ∀ b : Bool, (b = true ↔ ¬ (key31 key ∧ valOk value ∧ lsnOk lsn2)) → Ev (fun k => spec_SetCell.j0 k key value lsn2 b id lsn l) (if key31 key ∧ valOk value ∧ lsnOk lsn2 then (if hasK key l = false ∧ l.length = 12 then (2, 0, 0, []) else (0, id, lsn2, lts key l ++ ⟨key, value⟩ :: gts key l)) else (3, 0, 0, [])) := by
    intro b hbv
    refine evSucc ?_
    simp only [spec_SetCell.j0]
    refine evIte (fun h2 => evRet (by rw [if_neg (hbv.1 h2)])) (fun h2 => ?_)
    have hok : key31 key ∧ valOk value ∧ lsnOk lsn2 := by
      by_cases ho : key31 key ∧ valOk value ∧ lsnOk lsn2
      · exact ho
      · exact absurd (hbv.2 ho) h2
    rw [if_pos hok]
    have h12 : l.length ≤ 12 := by
      unfold pf at h
      split at h
      · split at h
        · omega
        · omega
      · omega
    have W : Ev (fun k => spec_l1With.f k l key value) (lts key l ++ ⟨key, value⟩ :: gts key l) := by
      rcases split_good h key with ⟨A, b, B, e, hA, hb', hB, e1, e2, e3, e4, e5⟩ | ⟨A, B, e, hA, hB, e1, e2, e3, e4, e5⟩
      · rw [e2, e3]; exact specWith A B key value l e4 hA hB hb
      · rw [e2, e3]; exact specWith A B key value l e4 hA hB hb
    refine evIte (fun h3 => ?_) (fun h3 => ?_)
    · refine evCall (specFind l key (by omega)) ?_
      rcases split_good h key with ⟨A, b, B, e, hA, hb', hB, e1, e2, e3, e4, e5⟩ | ⟨A, B, e, hA, hB, e1, e2, e3, e4, e5⟩
      · refine evIte (fun h4 => absurd h4 (by omega)) (fun _ => evCall W (evRet ?_))
        rw [if_neg (by rw [e1]; simp)]
      · refine evIte (fun h4 => evRet ?_) (fun h4 => absurd (by omega) h4)
        rw [if_pos ⟨e1, by omega⟩]
    · refine evCall W (evRet ?_)
      rw [if_neg (by omega)]
  refine evSeq (a := decide (key31 key)) (by unfold spec_l1Key.f; rw [specIn]; rfl) ?_
  refine evIte (fun h2 => ?_) (fun h2 => key' _ (by simp at h2; simp [h2]))
  refine evSeq (a := decide (valOk value)) (by unfold spec_l1Value.f; rw [specIn]; rfl) ?_
  refine evIte (fun h3 => ?_) (fun h3 => key' _ (by simp at h3; simp [h3]))
  refine evSeq (a := decide (lsnOk lsn2)) (by unfold spec_l1Lsn.f; rw [specIn]; rfl) ?_
  exact key' _ (by simp at h2 h3; simp [h2, h3])
theorem implSetCell (id lsn : Int) (l : List S49) (key value lsn2 : Int) (hb : l.length ≤ 1000000000000) : Ev (fun k => impl_SetCell.f k id lsn l key value lsn2) (setCell id lsn l key value lsn2) := by
  unfold impl_SetCell.f setCell
  refine evCall (implPF id lsn l (by omega)) (evIte (fun h => ?_) (fun h => evRet (by rw [if_neg h])))
  rw [if_pos h]
  have key' : ∀ b : Bool, (b = true ↔ ¬ (key31 key ∧ valOk value ∧ lsnOk lsn2)) → Ev (fun k => impl_SetCell.j0 k key value lsn2 b id lsn l) (if key31 key ∧ valOk value ∧ lsnOk lsn2 then (if hasK key l = false ∧ l.length = 12 then (2, 0, 0, []) else (0, id, lsn2, lts key l ++ ⟨key, value⟩ :: gts key l)) else (3, 0, 0, [])) := by
    intro b hbv
    refine evSucc ?_
    simp only [impl_SetCell.j0]
    refine evIte (fun h2 => evRet (by rw [if_neg (hbv.1 h2)])) (fun h2 => ?_)
    have hok : key31 key ∧ valOk value ∧ lsnOk lsn2 := by
      by_cases ho : key31 key ∧ valOk value ∧ lsnOk lsn2
      · exact ho
      · exact absurd (hbv.2 ho) h2
    rw [if_pos hok]
    rcases split_good h key with ⟨A, b, B, rfl, hA, hb', hB, e1, e2, e3, e4, e5⟩ | ⟨A, B, rfl, hA, hB, e1, e2, e3, e4, e5⟩
    · have hp := place_hit A B b key hok.1 (pf_good h).1 hA hb' hB
      refine evSeq hp (evIte (fun _ => ?_) (fun h => absurd rfl h))
      refine evSeq (implWith_hit A B b key value hp hb' (by omega)) (evRet ?_)
      rw [if_neg (by rw [e1]; simp), e2, e3]
    · have hp := place_miss A B key hok.1 (pf_good h).1 hA hB
      refine evSeq hp (evIte (fun h => absurd h (by simp)) (fun _ => ?_))
      refine evIte (fun h4 => evRet ?_) (fun h4 => ?_)
      · rw [if_pos ⟨e1, by omega⟩]
      · refine evSeq (implWith_miss A B key value hp (by omega)) (evRet ?_)
        rw [if_neg (by omega), e2, e3]
  refine evSeq (a := decide (key31 key)) (by unfold impl_isKey.f; rw [implIn]; rfl) ?_
  refine evIte (fun h2 => ?_) (fun h2 => key' _ (by simp at h2; simp [h2]))
  refine evSeq (a := decide (valOk value)) (by unfold impl_isValue.f; rw [implIn]; rfl) ?_
  refine evIte (fun h3 => ?_) (fun h3 => key' _ (by simp at h3; simp [h3]))
  refine evSeq (a := decide (lsnOk lsn2)) (by unfold impl_isLsn.f; rw [implIn]; rfl) ?_
  exact key' _ (by simp at h2 h3; simp [h2, h3])
theorem specDropCell (id lsn : Int) (l : List S49) (key lsn2 : Int) (hb : l.length ≤ 1000000000000) : Ev (fun k => spec_DropCell.f k id lsn l key lsn2) (dropCell id lsn l key lsn2) := by
  unfold spec_DropCell.f dropCell
  refine evCall (specPF id lsn l (by omega)) (evIte (fun h => ?_) (fun h => evRet (by rw [if_neg h])))
  rw [if_pos h]
  have key' : ∀ b : Bool, (b = true ↔ ¬ (key31 key ∧ lsnOk lsn2)) → Ev (fun k => spec_DropCell.j0 k key lsn2 b id lsn l) (if key31 key ∧ lsnOk lsn2 then (if hasK key l = true then (0, id, lsn2, lts key l ++ gts key l) else (4, 0, 0, [])) else (3, 0, 0, [])) := by
    intro b hbv
    refine evSucc ?_
    simp only [spec_DropCell.j0]
    refine evIte (fun h2 => evRet (by rw [if_neg (hbv.1 h2)])) (fun h2 => ?_)
    have hok : key31 key ∧ lsnOk lsn2 := by
      by_cases ho : key31 key ∧ lsnOk lsn2
      · exact ho
      · exact absurd (hbv.2 ho) h2
    rw [if_pos hok]
    refine evCall (specFind l key (by omega)) ?_
    rcases split_good h key with ⟨A, b, B, e, hA, hb', hB, e1, e2, e3, e4, e5⟩ | ⟨A, B, e, hA, hB, e1, e2, e3, e4, e5⟩
    · refine evIte (fun h4 => absurd h4 (by omega)) (fun _ => evCall (specWithout l key (by omega)) (evRet ?_))
      rw [if_pos e1, e2, e3, e4]
    · refine evIte (fun h4 => evRet ?_) (fun h4 => absurd (by omega) h4)
      rw [if_neg (by rw [e1]; simp)]
  refine evSeq (a := decide (key31 key)) (by unfold spec_l1Key.f; rw [specIn]; rfl) ?_
  refine evIte (fun h2 => ?_) (fun h2 => key' _ (by simp at h2; simp [h2]))
  refine evSeq (a := decide (lsnOk lsn2)) (by unfold spec_l1Lsn.f; rw [specIn]; rfl) ?_
  exact key' _ (by simp at h2; simp [h2])
theorem implDropCell (id lsn : Int) (l : List S49) (key lsn2 : Int) (hb : l.length ≤ 1000000000000) : Ev (fun k => impl_DropCell.f k id lsn l key lsn2) (dropCell id lsn l key lsn2) := by
  unfold impl_DropCell.f dropCell
  refine evCall (implPF id lsn l (by omega)) (evIte (fun h => ?_) (fun h => evRet (by rw [if_neg h])))
  rw [if_pos h]
  have key' : ∀ b : Bool, (b = true ↔ ¬ (key31 key ∧ lsnOk lsn2)) → Ev (fun k => impl_DropCell.j0 k key lsn2 b id lsn l) (if key31 key ∧ lsnOk lsn2 then (if hasK key l = true then (0, id, lsn2, lts key l ++ gts key l) else (4, 0, 0, [])) else (3, 0, 0, [])) := by
    intro b hbv
    refine evSucc ?_
    simp only [impl_DropCell.j0]
    refine evIte (fun h2 => evRet (by rw [if_neg (hbv.1 h2)])) (fun h2 => ?_)
    have hok : key31 key ∧ lsnOk lsn2 := by
      by_cases ho : key31 key ∧ lsnOk lsn2
      · exact ho
      · exact absurd (hbv.2 ho) h2
    rw [if_pos hok]
    rcases split_good h key with ⟨A, b, B, rfl, hA, hb', hB, e1, e2, e3, e4, e5⟩ | ⟨A, B, rfl, hA, hB, e1, e2, e3, e4, e5⟩
    · have hp := place_hit A B b key hok.1 (pf_good h).1 hA hb' hB
      refine evSeq hp (evIte (fun _ => ?_) (fun h => absurd rfl h))
      refine evSeq (implWithout_hit A B b key hp (by omega)) (evRet ?_)
      rw [if_pos e1, e2, e3]
    · have hp := place_miss A B key hok.1 (pf_good h).1 hA hB
      refine evSeq hp (evIte (fun h => absurd h (by simp)) (fun _ => evRet ?_))
      rw [if_neg (by rw [e1]; simp)]
  refine evSeq (a := decide (key31 key)) (by unfold impl_isKey.f; rw [implIn]; rfl) ?_
  refine evIte (fun h2 => ?_) (fun h2 => key' _ (by simp at h2; simp [h2]))
  refine evSeq (a := decide (lsnOk lsn2)) (by unfold impl_isLsn.f; rw [implIn]; rfl) ?_
  exact key' _ (by simp at h2; simp [h2])
theorem setCell_len (id lsn : Int) (l : List S49) (key value lsn2 : Int) : (setCell id lsn l key value lsn2).2.2.2.length ≤ l.length + l.length + 1 := by
  have h1 : (lts key l).length ≤ l.length := List.length_filter_le _ _
  have h2 : (gts key l).length ≤ l.length := List.length_filter_le _ _
  unfold setCell
  repeat' split
  all_goals simp <;> omega
theorem dropCell_len (id lsn : Int) (l : List S49) (key lsn2 : Int) : (dropCell id lsn l key lsn2).2.2.2.length ≤ l.length + l.length := by
  have h1 : (lts key l).length ≤ l.length := List.length_filter_le _ _
  have h2 : (gts key l).length ≤ l.length := List.length_filter_le _ _
  unfold dropCell
  repeat' split
  all_goals simp <;> omega
end Go.Proofs.Ytpdfpbnlablhoaa.Q
