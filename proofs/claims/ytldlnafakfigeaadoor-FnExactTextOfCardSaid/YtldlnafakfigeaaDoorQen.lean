/- Engines' faults: both sides tell the same of every engine. -/
import Derived.Test.YtldlnafakfigeaaDoorLb
import Derived.Test.YtldlnafakfigeaaDoorQf
import Derived.Test.YtldlnafakfigeaaDoorQce
import Derived.Test.YtldlnafakfigeaaDoorQnx
import Derived.Test.YtldlnafakfigeaaDoorP0
import Derived.Test.YtldlnafakfigeaaDoorPDall0
namespace Go.Proofs.YtldlnafakfigeaaDoor.Q
open Go.RowKit Go.Proofs.YtldlnafakfigeaaDoor.P Go.Proofs.YtldlnafakfigeaaDoorW.PrintWords Go.Proofs.YtldlnafakfigeaaDoorW.PrintLast Go.Proofs.YtldlnafakfigeaaDoorW.PrintMore Go.Proofs.YtldlnafakfigeaaDoor.Lb
set_option linter.unusedVariables false
set_option linter.unusedSimpArgs false

/-! ### undo lists -/
def okU (u : S81) : Prop := (0 ≤ u.f0 ∧ u.f0 ≤ 31) ∧ (0 ≤ u.f3 ∧ u.f3 ≤ 9999)
instance (u : S81) : Decidable (okU u) := by unfold okU; infer_instance
theorem undoF_eq (u : S81) : undoF u = if okU u then (if undoBad u = true then 1 else 0) else 3 := by
  unfold undoF okU inB
  by_cases h1 : 0 ≤ u.f0 <;> by_cases h2 : u.f0 ≤ 31 <;> by_cases h3 : 0 ≤ u.f3 <;> by_cases h4 : u.f3 ≤ 9999 <;> simp [h1, h2, h3, h4]
theorem implUF_l (l : List S81) (hb : l.length ≤ 8796093022208) : ∀ (d i : Nat), l.length - i = d → i ≤ l.length → Ev (fun k => impl_undosFault.l0 k l (l.length : Int) (i : Int)) (scanI (fun i => undoF (l.getD i z81)) d i)
  | 0, i, hd, hi => by
    have : i = l.length := by omega
    subst this
    refine evSucc ?_
    simp only [impl_undosFault.l0, Int.lt_irrefl, if_false]
    exact evRet rfl
  | d + 1, i, hd, hi => by
    have h : i < l.length := by omega
    have ih := implUF_l l hb d (i + 1) (by omega) (by omega)
    have h1 : (i : Int) < (l.length : Int) := by omega
    have hw := w64n (show i < 9223372036854775807 by omega)
    obtain ⟨u, hu⟩ : ∃ u, u = l[i] := ⟨_, rfl⟩
    have hsc : scanI (fun i => undoF (l.getD i z81)) (d + 1) i = if undoF u = 0 then scanI (fun i => undoF (l.getD i z81)) d (i + 1) else undoF u := by
      show (if undoF (l.getD i z81) = 0 then _ else undoF (l.getD i z81)) = _
      rw [getD_at h, ← hu]
    rw [undoF_eq] at hsc
    generalize scanI (fun i => undoF (l.getD i z81)) (d + 1) i = R at hsc ⊢
    have hr3 : ¬ okU u → 3 = R := fun h => by rw [hsc, if_neg h, if_neg (by decide)]
    have hr1 : okU u → undoBad u = true → 1 = R := fun h h2 => by rw [hsc, if_pos h, if_pos h2, if_neg (by decide)]
    have hrn : okU u → ¬ undoBad u = true → scanI (fun i => undoF (l.getD i z81)) d (i + 1) = R := fun h h2 => by rw [hsc, if_pos h, if_neg h2, if_pos rfl]
    have key2 : ∀ b : Bool, okU u → (b = true ↔ u.f1 = false ∧ (u.f2 = true ∨ u.f3 ≠ 0)) → Ev (fun k => impl_undosFault.j2 k l (l.length : Int) (i : Int) b u.f0 u.f1 u.f2 u.f3) R := by
      intro b hok hbv
      refine evSucc ?_
      simp only [impl_undosFault.j2, hw]
      refine evIte (fun hb2 => evRet (hr1 hok ?_)) (fun hb2 => evIte (fun h2 => evIte (fun h3 => evEq ih (hrn hok ?_)) (fun h3 => evRet (hr1 hok ?_))) (fun h2 => evEq ih (hrn hok ?_)))
      · have := hbv.1 hb2
        unfold undoBad
        rcases this with ⟨q1, q2 | q2⟩ <;> simp [q1, q2]
      · unfold undoBad
        have q : u.f1 = true := by
          cases hq : u.f1 with
          | true => rfl
          | false => exact absurd (hbv.2 ⟨hq, .inl h2⟩) hb2
        simp [q, h3]
      · unfold undoBad
        simp [h2, h3]
      · unfold undoBad
        cases hq : u.f1 with
        | true => simp [h2]
        | false =>
          have q : u.f3 = 0 := by
            by_cases hz : u.f3 = 0
            · exact hz
            · exact absurd (hbv.2 ⟨hq, .inr hz⟩) hb2
          simp [h2, q]
    have key1 : ∀ b : Bool, (b = true ↔ ¬ okU u) → Ev (fun k => impl_undosFault.j1 k l (l.length : Int) (i : Int) b u.f0 u.f1 u.f2 u.f3) R := by
      intro b hbv
      refine evSucc ?_
      simp only [impl_undosFault.j1]
      refine evIte (fun hb2 => evRet (hr3 (hbv.1 hb2))) (fun hb2 => ?_)
      have hok : okU u := by
        by_cases ho : okU u
        · exact ho
        · exact absurd (hbv.2 ho) hb2
      refine evIte (fun h2 => key2 _ hok (by simp [h2])) (fun h2 => evIte (fun h3 => key2 _ hok (by simp [h2, h3])) (fun h3 => key2 _ hok (by simp [h2, h3])))
    refine evSucc ?_
    simp only [impl_undosFault.l0, h1, Int.natCast_nonneg, if_true, rdUndo h, ← hu, impl_isKey.f, impl_isValue.f, implIn, Option.bind_some, decide_eq_true_eq]
    refine evIte (fun h2 => key1 _ ?_) (fun h2 => key1 _ ?_)
    · unfold okU; grind
    · unfold okU; simp only [true_iff]; exact fun q => h2 q.1
theorem implUF (l : List S81) (hb : l.length ≤ 8796093022208) : Ev (fun k => impl_undosFault.f k l) (undosF l) := by
  unfold impl_undosFault.f undosF
  refine evIte (fun h => evRet (by rw [if_pos (by omega)])) (fun h => ?_)
  rw [if_neg (by omega)]
  exact implUF_l l hb l.length 0 (by omega) (by omega)

/-! ### scans -/
theorem scan_congr {f g : Nat → Int} : ∀ (n i : Nat), (∀ j, i ≤ j → j < i + n → f j = g j) → scanI f n i = scanI g n i
  | 0, i, h => rfl
  | n + 1, i, h => by
    unfold scanI
    rw [h i (by omega) (by omega), scan_congr n (i + 1) (fun j h1 h2 => h j (by omega) (by omega))]
theorem scan_zero {f : Nat → Int} : ∀ (n i : Nat), scanI f n i = 0 → ∀ j, i ≤ j → j < i + n → f j = 0
  | 0, i, h, j, h1, h2 => by omega
  | n + 1, i, h, j, h1, h2 => by
    unfold scanI at h
    by_cases hf : f i = 0
    · rw [if_pos hf] at h
      by_cases hj : j = i
      · subst hj; exact hf
      · exact scan_zero n (i + 1) h j (by omega) (by omega)
    · rw [if_neg hf] at h
      exact absurd h hf
theorem scan_bit {f : Nat → Int} (hf : ∀ j, f j = 0 ∨ f j = 1) : ∀ (n i : Nat), scanI f n i = 0 ∨ scanI f n i = 1
  | 0, i => .inl rfl
  | n + 1, i => by
    unfold scanI
    rcases hf i with h | h
    · rw [if_pos h]; exact scan_bit hf n (i + 1)
    · rw [if_neg (by rw [h]; decide), h]; exact .inr rfl

/-! ### first places -/
theorem idx_from_spec {α : Type} (p : α → Bool) (z : α) : ∀ (l : List α) (i : Int), i ≤ idxFrom p i l → p (l.getD (idxFrom p i l - i).toNat z) = true ∧ (idxFrom p i l - i).toNat < l.length ∨ idxFrom p i l = -1
  | [], i, h => .inr rfl
  | x :: xs, i, h => by
    cases hp : p x with
    | true => simp [idxFrom, hp]
    | false =>
      simp only [idxFrom, hp, Bool.false_eq_true, if_false] at h ⊢
      rcases idxFrom_ge p xs (i + 1) with ⟨h1, _⟩ | ⟨h1, h2, _⟩
      · exact .inr h1
      · rcases idx_from_spec p z xs (i + 1) h1 with ⟨h3, h4⟩ | h3
        · left
          have e : (idxFrom p (i + 1) xs - i).toNat = (idxFrom p (i + 1) xs - (i + 1)).toNat + 1 := by omega
          rw [e]
          exact ⟨by simpa using h3, by simpa using h4⟩
        · exact .inr h3
theorem idx_spec {α : Type} (p : α → Bool) (z : α) (l : List α) (h : 0 ≤ idx p l) : p (l.getD (idx p l).toNat z) = true ∧ (idx p l).toNat < l.length := by
  unfold idx at h ⊢
  rcases idx_from_spec p z l 0 h with h1 | h1
  · simpa using h1
  · omega
theorem idx_none {α : Type} (p : α → Bool) (l : List α) (h : ∀ x ∈ l, p x = false) : idx p l = -1 := by
  unfold idx
  rcases idxFrom_ge p l 0 with ⟨h1, _⟩ | ⟨h1, h2, h3⟩
  · exact h1
  · rw [List.any_eq_true] at h3
    obtain ⟨x, hx, hp⟩ := h3
    rw [h x hx] at hp
    cases hp
theorem idx_at {α : Type} (p : α → Bool) (z : α) (l : List α) (n : Nat) (hn : n < l.length) (hp : p (l.getD n z) = true) (hu : ∀ j, j < l.length → p (l.getD j z) = true → j = n) : idx p l = n := by
  have h := idx_any p l
  have ha : l.any p = true := List.any_eq_true.2 ⟨l.getD n z, by rw [getD_at hn]; exact List.getElem_mem hn, hp⟩
  rw [ha] at h
  have h0 : 0 ≤ idx p l := of_decide_eq_true h
  obtain ⟨h1, h2⟩ := idx_spec p z l h0
  have := hu _ h2 h1
  omega
theorem any_first {α : Type} (p q : α → Bool) (z : α) (l : List α) (hu : ∀ i j, i < l.length → j < l.length → p (l.getD i z) = true → p (l.getD j z) = true → i = j) : l.any (fun t => p t && q t) = (decide (0 ≤ idx p l) && q (l.getD (idx p l).toNat z)) := by
  have ha := idx_any p l
  by_cases h0 : 0 ≤ idx p l
  · obtain ⟨h1, h2⟩ := idx_spec p z l h0
    rw [decide_eq_true h0, Bool.true_and]
    cases hq : q (l.getD (idx p l).toNat z) with
    | true => exact List.any_eq_true.2 ⟨l.getD (idx p l).toNat z, by rw [getD_at h2 z]; exact List.getElem_mem h2, by rw [h1, hq]; rfl⟩
    | false =>
      rw [List.any_eq_false]
      intro x hx
      obtain ⟨j, hj, rfl⟩ := List.mem_iff_getElem.1 hx
      rw [← getD_at hj z]
      cases hp : p (l.getD j z) with
      | false => simp
      | true =>
        have := hu j _ hj h2 hp h1
        rw [this, hq]
        simp
  · rw [decide_eq_false h0] at ha ⊢
    rw [Bool.false_and, List.any_eq_false]
    intro x hx
    have := (List.any_eq_false.1 ha.symm) x hx
    simp [this]
/-- What rises from place to place rises over all. -/
theorem rises {f : Nat → Int} {n : Nat} (h : ∀ i, 0 < i → i < n → f (i - 1) < f i) : ∀ j i, i < j → j < n → f i < f j
  | 0, i, h1, _ => by omega
  | j + 1, i, h1, h2 => by
    have h3 := h (j + 1) (by omega) h2
    rw [Nat.add_sub_cancel] at h3
    by_cases e : i = j
    · subst e; exact h3
    · exact Int.lt_trans (rises h j i (by omega) (by omega)) h3
theorem rises_inj {f : Nat → Int} {n : Nat} (h : ∀ i, 0 < i → i < n → f (i - 1) < f i) (i j : Nat) (hi : i < n) (hj : j < n) (e : f i = f j) : i = j := by
  rcases Nat.lt_trichotomy i j with h1 | h1 | h1
  · have := rises h j i h1 hj; omega
  · exact h1
  · have := rises h i j h1 hi; omega

/-! ### both sides' faults, over any number of rounds -/
theorem specFault (nx ck : Int) (txns : List S45) (rows : List S49) (hr : ∀ r ∈ rows, r.f1.length ≤ 1099511627776) : Ev (fun k => spec_l6Fault.f k nx ck txns rows) (faultF cf nx ck txns rows) := by
  obtain ⟨K, hK⟩ := evAll (g := fun k (r : S49) => spec_ChainFault.f k r.f1) (r := fun r => cf r.f1) rows (fun r hr' => specCF r.f1 (by have := hr r hr'; omega))
  refine ⟨K, fun k hk => ?_⟩
  show spec_l6Fault.f k nx ck txns rows = _
  unfold spec_l6Fault.f
  rw [if_pos (List.all_eq_true.2 fun r hr' => by rw [hK k hk r hr']; rfl)]
  congr 1
  unfold faultF
  have e : rowsF (spec_l6Fault.cf k) ck txns rows = rowsF cf ck txns rows := by
    unfold rowsF
    refine scan_congr _ _ fun j _ h2 => ?_
    have hj : j < rows.length := by omega
    have e2 : spec_l6Fault.cf k (rows.getD j z49).f1 = cf (rows.getD j z49).f1 := by
      unfold spec_l6Fault.cf
      rw [getD_at hj, hK k hk _ (List.getElem_mem hj)]
      rfl
    simp only [rowF, e2]
  rw [e]
theorem implFault (nx ck : Int) (txns : List S45) (rows : List S49) (ht : ∀ t ∈ txns, t.f4.length ≤ 1099511627776) (hr : ∀ r ∈ rows, r.f1.length ≤ 1099511627776) : Ev (fun k => impl_EngineFault.f k nx ck txns rows) (enF undosF cf nx ck txns rows) := by
  obtain ⟨K, hK⟩ := evAll (g := fun k (r : S49) => impl_ChainFault.f k r.f1) (r := fun r => cf r.f1) rows (fun r hr' => implCF r.f1 (by have := hr r hr'; omega))
  obtain ⟨K2, hK2⟩ := evAll (g := fun k (t : S45) => impl_undosFault.f k t.f4) (r := fun t => undosF t.f4) txns (fun t ht' => implUF t.f4 (by have := ht t ht'; omega))
  refine ⟨K + K2, fun k hk => ?_⟩
  show impl_EngineFault.f k nx ck txns rows = _
  unfold impl_EngineFault.f
  rw [if_pos (List.all_eq_true.2 fun t ht' => by rw [hK2 k (by omega) t ht']; rfl), if_pos (List.all_eq_true.2 fun r hr' => by rw [hK k (by omega) r hr']; rfl)]
  congr 1
  unfold enF
  have e : rowsG (impl_EngineFault.cf k) ck txns rows = rowsG cf ck txns rows := by
    unfold rowsG
    refine scan_congr _ _ fun j _ h2 => ?_
    have hj : j < rows.length := by omega
    have e2 : impl_EngineFault.cf k (rows.getD j z49).f1 = cf (rows.getD j z49).f1 := by
      unfold impl_EngineFault.cf
      rw [getD_at hj, hK k (by omega) _ (List.getElem_mem hj)]
      rfl
    simp only [rowG, e2]
  have e3 : txnsG (impl_EngineFault.uf k) nx ck txns = txnsG undosF nx ck txns := by
    unfold txnsG
    refine scan_congr _ _ fun j _ h2 => ?_
    have hj : j < txns.length := by omega
    have e2 : impl_EngineFault.uf k (txns.getD j z45).f4 = undosF (txns.getD j z45).f4 := by
      unfold impl_EngineFault.uf
      rw [getD_at hj, hK2 k (by omega) _ (List.getElem_mem hj)]
      rfl
    simp only [txnG, e2]
  rw [e, e3]

/-! ### right chains -/
theorem cfL_lt : ∀ (l : List S51) (q : S51), q.f1 ≠ 0 → cfL (some q) l = 0 → ∀ v ∈ l, v.f1 < q.f1
  | [], _, _, _, v, hv => by simp at hv
  | x :: xs, q, hq, h, v, hv => by
    unfold cfL at h
    by_cases ho : okV x
    · by_cases hb : badV (some q) x
      · simp [ho, hb] at h
      · simp [ho, hb] at h
        have hx : x.f1 ≠ 0 ∧ x.f1 < q.f1 := by
          unfold badV at hb
          simp only [not_or, not_and] at hb
          obtain ⟨_, h2, h3⟩ := hb
          exact ⟨h2, by have := h3 hq; omega⟩
        rcases List.mem_cons.1 hv with rfl | hv
        · exact hx.2
        · have := cfL_lt xs x hx.1 h v hv; omega
    · simp [ho] at h
theorem cf_any (ck : Int) (l : List S51) (h : cf l = 0) : l.any (fun x => decide (ck < x.f1)) = (decide (0 < l.length) && decide (ck < (l.getD 0 z51).f1) || (decide ((1 : Int) < (l.length : Int)) && decide (ck < (l.getD 1 z51).f1))) := by
  unfold cf at h
  by_cases hl : 12 < l.length
  · simp [hl] at h
  · rw [if_neg hl] at h
    match l, h with
    | [], _ => rfl
    | [v], _ => simp
    | v :: x :: xs, h =>
      unfold cfL at h
      by_cases ho : okV v
      · by_cases hb : badV none v
        · simp [ho, hb] at h
        · rw [if_pos ho, if_neg hb] at h
          unfold cfL at h
          by_cases ho2 : okV x
          · by_cases hb2 : badV (some v) x
            · simp [ho2, hb2] at h
            · rw [if_pos ho2, if_neg hb2] at h
              have hx : x.f1 ≠ 0 := by
                unfold badV at hb2
                simp only [not_or, not_and] at hb2
                exact hb2.2.1
              have hlt := cfL_lt xs x hx h
              have ha : xs.any (fun x => decide (ck < x.f1)) = true → ck < x.f1 := by
                intro hany
                rw [List.any_eq_true] at hany
                obtain ⟨y, hy, h2⟩ := hany
                have := hlt y hy
                have := of_decide_eq_true h2
                omega
              simp only [List.any_cons, List.length_cons, List.getD_cons_zero, List.getD_cons_succ]
              have e1 : decide (0 < xs.length + 1 + 1) = true := by simp
              have e2 : decide ((1 : Int) < ((xs.length + 1 + 1 : Nat) : Int)) = true := decide_eq_true (by omega)
              rw [e1, e2, Bool.true_and, Bool.true_and]
              cases hv : decide (ck < v.f1) <;> cases hx2 : decide (ck < x.f1) <;> simp
              intro y hy
              have := hlt y hy
              have := of_decide_eq_false hx2
              omega
          · simp [ho2] at h
      · simp [ho] at h
theorem cf_okV {l : List S51} (h : cf l = 0) (hl : 0 < l.length) : okV (l.getD 0 z51) := by
  unfold cf at h
  by_cases h12 : 12 < l.length
  · simp [h12] at h
  · rw [if_neg h12] at h
    match l, h, hl with
    | v :: xs, h, _ =>
      unfold cfL at h
      by_cases ho : okV v
      · exact ho
      · simp [ho] at h

/-! ### transactions and rows without a fault -/
structure TxOK (nx : Int) (txns : List S45) : Prop where
  up : ∀ i, 0 < i → i < txns.length → (txns.getD (i - 1) z45).f0 < (txns.getD i z45).f0
  id : ∀ i, i < txns.length → 1 ≤ (txns.getD i z45).f0
  us : ∀ i, i < txns.length → undosF (txns.getD i z45).f4 = 0
  at_ : ∀ i, i < txns.length → 0 ≤ (txns.getD i z45).f1
theorem txOK {nx ck : Int} {txns : List S45} (h : txnsF nx ck txns = 0) : TxOK nx txns := by
  have key : ∀ i, i < txns.length → (1 ≤ (txns.getD i z45).f0 ∧ 0 ≤ (txns.getD i z45).f1) ∧ txnBad txns i (txns.getD i z45) (txns.getD (i - 1) z45) = false ∧ undosF (txns.getD i z45).f4 = 0 := by
    intro i hi
    have hz := scan_zero _ _ h i (by omega) (by omega)
    simp only [txnF] at hz
    by_cases h1 : (inB (txns.getD i z45).f0 1 (nx - 1) && (inB (txns.getD i z45).f1 0 ck && (inB (txns.getD i z45).f2 1 3 && inB (txns.getD i z45).f3 0 ck))) = true
    · rw [if_pos h1] at hz
      by_cases h2 : txnBad txns i (txns.getD i z45) (txns.getD (i - 1) z45) = true
      · rw [if_pos h2] at hz; exact absurd hz (by decide)
      · rw [if_neg h2] at hz
        refine ⟨?_, by simpa using h2, hz⟩
        simp only [inB, Bool.and_eq_true, decide_eq_true_eq] at h1
        exact ⟨h1.1.1, h1.2.1.1⟩
    · rw [if_neg h1] at hz; exact absurd hz (by decide)
  refine ⟨fun i h0 hi => ?_, fun i hi => (key i hi).1.1, fun i hi => (key i hi).2.2, fun i hi => (key i hi).1.2⟩
  have := (key i hi).2.1
  unfold txnBad at this
  simp only [Bool.or_eq_false_iff, Bool.and_eq_false_iff, decide_eq_false_iff_not] at this
  rcases this.1 with h1 | h1
  · exact absurd h0 h1
  · omega
structure RwOK (rows : List S49) : Prop where
  up : ∀ i, 0 < i → i < rows.length → (rows.getD (i - 1) z49).f0 < (rows.getD i z49).f0
  key : ∀ i, i < rows.length → 0 ≤ (rows.getD i z49).f0 ∧ (rows.getD i z49).f0 ≤ 31
  ch : ∀ i, i < rows.length → cf (rows.getD i z49).f1 = 0
  ne : ∀ i, i < rows.length → 0 < (rows.getD i z49).f1.length
theorem rwOK {ck : Int} {txns : List S45} {rows : List S49} (h : rowsF cf ck txns rows = 0) : RwOK rows := by
  have key : ∀ i, i < rows.length → (0 ≤ (rows.getD i z49).f0 ∧ (rows.getD i z49).f0 ≤ 31) ∧ rowBad i (rows.getD i z49) (rows.getD (i - 1) z49) = false ∧ cf (rows.getD i z49).f1 = 0 := by
    intro i hi
    have hz := scan_zero _ _ h i (by omega) (by omega)
    simp only [rowF] at hz
    by_cases h1 : inB (rows.getD i z49).f0 0 31 = true
    · rw [if_pos h1] at hz
      by_cases h2 : rowBad i (rows.getD i z49) (rows.getD (i - 1) z49) = true
      · rw [if_pos h2] at hz; exact absurd hz (by decide)
      · rw [if_neg h2] at hz
        by_cases h3 : cf (rows.getD i z49).f1 = 0
        · exact ⟨by simpa [inB] using h1, by simpa using h2, h3⟩
        · rw [if_neg h3] at hz; exact absurd hz h3
    · rw [if_neg h1] at hz; exact absurd hz (by decide)
  refine ⟨fun i h0 hi => ?_, fun i hi => (key i hi).1, fun i hi => (key i hi).2.2, fun i hi => ?_⟩
  · have := (key i hi).2.1
    unfold rowBad at this
    simp only [Bool.or_eq_false_iff, Bool.and_eq_false_iff, decide_eq_false_iff_not] at this
    rcases this.1 with h1 | h1
    · exact absurd h0 h1
    · omega
  · have := (key i hi).2.1
    unfold rowBad at this
    simp only [Bool.or_eq_false_iff] at this
    have h2 := this.2
    simp at h2
    exact List.length_pos_iff.2 h2

theorem fst_eq (nx ck : Int) (txns : List S45) (hT : TxOK nx txns) (t : S49) (hc : cf t.f1 = 0) (hn : 0 < t.f1.length) : fstBad ck txns t.f0 t.f1 (t.f1.getD 0 z51) = P.rowAt ck txns t := by
  have hV := cf_okV hc hn
  unfold fstBad P.rowAt rowAtV
  rw [cf_any ck _ hc, decide_eq_true hn, Bool.true_and]
  have ho : ((t.f1.getD 0 z51).f1 == 0 && !(txns.any fun x => (x.f0 == (t.f1.getD 0 z51).f0) && undoesF x t.f0)) = !openF txns t.f0 t.f1 := by
    unfold openF writerF
    rw [decide_eq_true hn, Bool.true_and]
    by_cases h0 : (t.f1.getD 0 z51).f1 = 0
    · have h0' : ((t.f1.getD 0 z51).f1 == 0) = true := by simpa using h0
      rw [h0', if_pos rfl]
      have hne : ¬ ((t.f1.getD 0 z51).f0 == 0) = true := by unfold okV at hV; rw [beq_iff_eq]; omega
      rw [if_neg hne, Bool.true_and]
      congr 1
      refine any_first (fun x : S45 => x.f0 == (t.f1.getD 0 z51).f0) (fun x => undoesF x t.f0) z45 txns ?_
      intro i j hi hj h1 h2
      refine rises_inj (f := fun i => (txns.getD i z45).f0) hT.up i j hi hj ?_
      have e1 : (txns.getD i z45).f0 = (t.f1.getD 0 z51).f0 := by simpa using h1
      have e2 : (txns.getD j z45).f0 = (t.f1.getD 0 z51).f0 := by simpa using h2
      show (txns.getD i z45).f0 = (txns.getD j z45).f0
      rw [e1, e2]
    · have h0' : ((t.f1.getD 0 z51).f1 == 0) = false := by simpa using h0
      rw [h0']
      simp
  rw [ho]
  cases decide (ck < (t.f1.getD 0 z51).f1) <;> cases (decide ((1 : Int) < (t.f1.length : Int)) && decide (ck < (t.f1.getD 1 z51).f1)) <;> cases openF txns t.f0 t.f1 <;> rfl

theorem rows_eq (nx ck : Int) (txns : List S45) (rows : List S49) (hT : TxOK nx txns) : rowsG cf ck txns rows = rowsF cf ck txns rows := by
  unfold rowsG rowsF
  refine scan_congr _ _ fun j _ h2 => ?_
  unfold rowG rowF
  by_cases h1 : inB (rows.getD j z49).f0 0 31 = true
  · rw [if_pos h1, if_pos h1]
    by_cases h3 : rowBad j (rows.getD j z49) (rows.getD (j - 1) z49) = true
    · rw [if_pos h3, if_pos h3]
    · rw [if_neg h3, if_neg h3]
      by_cases h4 : cf (rows.getD j z49).f1 = 0
      · have hn : 0 < (rows.getD j z49).f1.length := by
          unfold rowBad at h3
          simp only [Bool.or_eq_true, not_or] at h3
          have h5 := h3.2
          simp at h5
          exact List.length_pos_iff.2 h5
        rw [if_pos h4, if_pos h4, fst_eq nx ck txns hT _ h4 hn]
      · rw [if_neg h4, if_neg h4]
  · rw [if_neg h1, if_neg h1]

theorem rowC_eq {key : Int} {x : S49} (h : 0 ≤ x.f0 ∧ x.f0 ≤ 31) (h0 : 0 ≤ key) (h1 : key ≤ 31) : rowC key x = x.f0 - key := by
  unfold rowC
  rw [w64 (by omega) (by omega)]
theorem ownF_bit (rows : List S49) (id : Int) (us : List S81) (i : Nat) (u : S81) : ownF rows id us i u = 0 ∨ ownF rows id us i u = 1 := by
  unfold ownF
  split
  · exact .inr rfl
  · split
    · exact .inl rfl
    · exact .inr rfl
/-- Where a key's row stands; whether there is one. -/
theorem row_at {rows : List S49} (hR : RwOK rows) {n : Nat} (hn : n < rows.length) : bs (rowC (rows.getD n z49).f0) z49 rows = n ∧ bsHit (rowC (rows.getD n z49).f0) z49 rows = true ∧ idx (fun u : S49 => u.f0 == (rows.getD n z49).f0) rows = n := by
  have hk := hR.key n hn
  have hrc : ∀ h, h < rows.length → rowC (rows.getD n z49).f0 (rows.getD h z49) = (rows.getD h z49).f0 - (rows.getD n z49).f0 := by
    intro h hh
    have := hR.key h hh
    exact rowC_eq this hk.1 hk.2
  have hb : bs (rowC (rows.getD n z49).f0) z49 rows = n := by
    refine bs_find n hn ?_ ?_
    · intro h hh hc
      rw [hrc h hh] at hc
      rcases Nat.lt_trichotomy h n with h1 | h1 | h1
      · exact h1
      · subst h1; omega
      · have := rises (f := fun i => (rows.getD i z49).f0) hR.up h n h1 hh
        omega
    · intro h hh hc
      rw [hrc h hh] at hc
      rcases Nat.lt_trichotomy h n with h1 | h1 | h1
      · have := rises (f := fun i => (rows.getD i z49).f0) hR.up n h h1 hn
        omega
      · omega
      · omega
  refine ⟨hb, ?_, ?_⟩
  · unfold bsHit
    rw [hb, decide_eq_true (by omega), Int.toNat_natCast, hrc n hn]
    simp
  · refine idx_at _ z49 rows n hn (by simp) ?_
    intro j hj hp
    exact rises_inj (f := fun i => (rows.getD i z49).f0) hR.up j n hj hn (by simpa using hp)
theorem row_none {rows : List S49} (hR : RwOK rows) {key : Int} (h0 : 0 ≤ key) (h1 : key ≤ 31) (h : ∀ n, n < rows.length → (rows.getD n z49).f0 ≠ key) : bsHit (rowC key) z49 rows = false ∧ idx (fun u : S49 => u.f0 == key) rows = -1 := by
  constructor
  · unfold bsHit
    by_cases hb : bs (rowC key) z49 rows < rows.length
    · have hg : 0 ≤ bs (rowC key) z49 rows := bs_ge
      have hl : (bs (rowC key) z49 rows).toNat < rows.length := by omega
      have := h _ hl
      have hk := hR.key _ hl
      have e : (rowC key (rows.getD (bs (rowC key) z49 rows).toNat z49) == 0) = false := by
        rw [rowC_eq hk h0 h1]
        exact beq_eq_false_iff_ne.2 (by omega)
      rw [e, Bool.and_false]
    · rw [decide_eq_false hb, Bool.false_and]
  · refine idx_none _ _ fun x hx => ?_
    obtain ⟨j, hj, rfl⟩ := List.mem_iff_getElem.1 hx
    have := h j hj
    rw [getD_at hj] at this
    simpa using this
theorem chain_at {rows : List S49} (hR : RwOK rows) {n : Nat} (hn : n < rows.length) : chainF rows (rows.getD n z49).f0 = (rows.getD n z49).f1 := by
  obtain ⟨h1, h2, _⟩ := row_at hR hn
  unfold chainF
  rw [if_pos h2, h1, Int.toNat_natCast]
theorem chain_none {rows : List S49} (hR : RwOK rows) {key : Int} (h0 : 0 ≤ key) (h1 : key ≤ 31) (h : ∀ n, n < rows.length → (rows.getD n z49).f0 ≠ key) : chainF rows key = [] := by
  unfold chainF
  rw [(row_none hR h0 h1 h).1, if_neg (by decide)]
/-- Either a row of a key, or none. -/
theorem row_or (rows : List S49) (key : Int) : (∃ n, n < rows.length ∧ (rows.getD n z49).f0 = key) ∨ (∀ n, n < rows.length → (rows.getD n z49).f0 ≠ key) := by
  by_cases h : ∃ n, n < rows.length ∧ (rows.getD n z49).f0 = key
  · exact .inl h
  · exact .inr fun n hn he => h ⟨n, hn, he⟩

theorem own_eq (rows : List S49) (hR : RwOK rows) (id : Int) (hid : 1 ≤ id) (us : List S81) (i : Nat) (u : S81) (hk : 0 ≤ u.f0 ∧ u.f0 ≤ 31) : ownG rows id us i u = ownF rows id us i u := by
  have hb : isOpF (chainF rows u.f0) id = !ownBad rows id u.f0 := by
    unfold ownBad ownAt
    rcases row_or rows u.f0 with ⟨n, hn, he⟩ | h
    · have h1 := chain_at hR hn
      have h2 := (row_at hR hn).2.2
      rw [he] at h1 h2
      rw [h1, h2, Int.toNat_natCast, decide_eq_false (by omega), Bool.false_or, Bool.not_not]
      unfold isOpF writerF
      have hl := hR.ne n hn
      rw [decide_eq_true hl, Bool.true_and, Bool.true_and]
      cases hz : ((rows.getD n z49).f1.getD 0 z51).f1 == 0 with
      | true => rw [if_pos rfl, Bool.true_and]
      | false =>
        rw [if_neg (by decide), Bool.false_and]
        symm
        simp
        omega
    · rw [chain_none hR hk.1 hk.2 h, (row_none hR hk.1 hk.2 h).2]
      rfl
  unfold ownG ownF
  rw [hb]
  cases ownBad rows id u.f0 with
  | true => simp
  | false =>
    simp only [Bool.not_false, if_true, Bool.false_eq_true, if_false]
    cases (us.take i).any (fun x => x.f0 == u.f0) <;> cases u.f1 <;> rfl
theorem owns_eq (nx : Int) (txns : List S45) (rows : List S49) (hT : TxOK nx txns) (hR : RwOK rows) : ownsG txns rows = ownAll txns rows := by
  unfold ownsG ownAll
  refine scan_congr _ _ fun j _ h2 => ?_
  have hj : j < txns.length := by omega
  have hid := hT.id j hj
  have hus := hT.us j hj
  generalize txns.getD j z45 = t at hid hus
  unfold ownT ownIf ownsF ownsI
  have hkey : ∀ i, i < t.f4.length → 0 ≤ (t.f4.getD i z81).f0 ∧ (t.f4.getD i z81).f0 ≤ 31 := by
    intro i hi
    unfold undosF at hus
    by_cases hl : t.f4.length > 60
    · rw [if_pos hl] at hus; exact absurd hus (by decide)
    · rw [if_neg hl] at hus
      have := scan_zero _ _ hus i (by omega) (by omega)
      rw [undoF_eq] at this
      by_cases ho : okU (t.f4.getD i z81)
      · exact ho.1
      · rw [if_neg ho] at this; exact absurd this (by decide)
  have e : scanI (fun i => ownG rows t.f0 t.f4 i (t.f4.getD i z81)) t.f4.length 0 = scanI (fun i => ownF rows t.f0 t.f4 i (t.f4.getD i z81)) t.f4.length 0 :=
    scan_congr _ _ fun i _ h3 => own_eq rows hR t.f0 hid t.f4 i _ (hkey i (by omega))
  rw [e]
  rcases scan_bit (f := fun i => ownF rows t.f0 t.f4 i (t.f4.getD i z81)) (fun i => ownF_bit rows t.f0 t.f4 i _) t.f4.length 0 with h | h
  · rw [h]; rfl
  · rw [h]; rfl
theorem en_eq (nx ck : Int) (txns : List S45) (rows : List S49) : enF undosF cf nx ck txns rows = faultF cf nx ck txns rows := by
  unfold enF faultF
  have e : txnsG undosF nx ck txns = txnsF nx ck txns := rfl
  rw [e]
  by_cases h1 : inB nx 1 999 = true
  · rw [if_pos h1, if_pos h1]
    by_cases h2 : inB ck 0 1000000 = true
    · rw [if_pos h2, if_pos h2]
      by_cases h3 : 20 < txns.length ∨ 32 < rows.length
      · rw [if_pos h3, if_pos h3]
      · rw [if_neg h3, if_neg h3]
        by_cases h4 : txnsF nx ck txns = 0
        · have hT := txOK h4
          rw [if_pos h4, if_pos h4, rows_eq nx ck txns rows hT]
          by_cases h5 : rowsF cf ck txns rows = 0
          · rw [if_pos h5, if_pos h5]
            exact owns_eq nx txns rows hT (rwOK h5)
          · rw [if_neg h5, if_neg h5]
        · rw [if_neg h4, if_neg h4]
    · rw [if_neg h2, if_neg h2]
  · rw [if_neg h1, if_neg h1]
theorem implEF (nx ck : Int) (txns : List S45) (rows : List S49) (ht : ∀ t ∈ txns, t.f4.length ≤ 1048576) (hr : ∀ r ∈ rows, r.f1.length ≤ 1048576) : Ev (fun k => impl_EngineFault.f k nx ck txns rows) (faultF cf nx ck txns rows) :=
  evEq (implFault nx ck txns rows (fun r h => by have := ht r h; omega) (fun r h => by have := hr r h; omega)) (en_eq nx ck txns rows)
/-- An engine without a fault. -/
theorem fault_ok {nx ck : Int} {txns : List S45} {rows : List S49} (h : faultF cf nx ck txns rows = 0) : (1 ≤ nx ∧ nx ≤ 999) ∧ (0 ≤ ck ∧ ck ≤ 1000000) ∧ txns.length ≤ 20 ∧ rows.length ≤ 32 ∧ TxOK nx txns ∧ RwOK rows := by
  unfold faultF at h
  by_cases h1 : inB nx 1 999 = true
  · rw [if_pos h1] at h
    by_cases h2 : inB ck 0 1000000 = true
    · rw [if_pos h2] at h
      by_cases h3 : 20 < txns.length ∨ 32 < rows.length
      · rw [if_pos h3] at h; exact absurd h (by decide)
      · rw [if_neg h3] at h
        by_cases h4 : txnsF nx ck txns = 0
        · rw [if_pos h4] at h
          by_cases h5 : rowsF cf ck txns rows = 0
          · refine ⟨by simpa [inB] using h1, by simpa [inB] using h2, by omega, by omega, txOK h4, rwOK h5⟩
          · rw [if_neg h5] at h; exact absurd h h5
        · rw [if_neg h4] at h; exact absurd h h4
    · rw [if_neg h2] at h; exact absurd h (by decide)
  · rw [if_neg h1] at h; exact absurd h (by decide)

/-! ### engines copied, counted, compared -/
theorem toEngine (a b : Int) (l : List S61) (m : List S65) (h1 : l.length ≤ 1048576) (h2 : m.length ≤ 1048576) (h3 : ∀ x ∈ l, x.f4.length ≤ 1048576) (h4 : ∀ x ∈ m, x.f1.length ≤ 1048576) : Ev (fun k => laws_toEngine.f k a b l m) (a, b, l.map cvTxn, m.map cvRow) := by
  unfold laws_toEngine.f
  exact evCall (toTxnS l (by omega) (fun x hx => by have := h3 x hx; omega)) (evCall (toRowS m (by omega) (fun x hx => by have := h4 x hx; omega)) (evRet rfl))
theorem eqEngine (a b : Int) (l : List S45) (m : List S49) (h1 : l.length ≤ 1048576) (h2 : m.length ≤ 1048576) (h3 : ∀ x ∈ l, x.f4.length ≤ 1048576) (h4 : ∀ x ∈ m, x.f1.length ≤ 1048576) : Ev (fun k => laws_eqEngine.f k a b l m a b l m) true := by
  unfold laws_eqEngine.f
  exact evIte (fun _ => evIte (fun _ => evCall (eqTxnS l (by omega) (fun x hx => by have := h3 x hx; omega)) (evIte (fun _ => evCall (eqRowS m (by omega) (fun x hx => by have := h4 x hx; omega)) (evIte (fun _ => evRet rfl) (fun h => absurd rfl h))) (fun h => absurd rfl h))) (fun h => absurd rfl h)) (fun h => absurd rfl h)
/-- What an engine of which a law speaks may hold. -/
def small (l : List S61) (m : List S65) : Prop := l.length ≤ 1048576 ∧ m.length ≤ 1048576 ∧ (∀ x ∈ l, x.f4.length ≤ 1048576) ∧ (∀ x ∈ m, x.f1.length ≤ 1048576)
theorem le_sum : ∀ (l : List Nat) (x : Nat), x ∈ l → x ≤ l.sum
  | y :: ys, x, h => by
    rcases List.mem_cons.1 h with rfl | h
    · simp
    · have := le_sum ys x h
      simp
      omega
theorem szEngine (a b : Int) (l : List S61) (m : List S65) (n : Int) (h0 : 0 ≤ n) (hn : n ≤ 1048576) (h1 : l.length ≤ 9223372036854775807) (h2 : m.length ≤ 9223372036854775807) (h3 : ∀ x ∈ l, x.f4.length ≤ 9223372036854775807) (h4 : ∀ x ∈ m, x.f1.length ≤ 9223372036854775807) : ∃ t, Ev (fun k => laws_szEngine.f k a b l m n) t ∧ (¬ t < 0 → t ≤ n ∧ small l m) := by
  unfold laws_szEngine.f
  obtain ⟨t, ht, hs⟩ := szTxnS l n h3 h1 h0 (by omega)
  by_cases hneg : t < 0
  · exact ⟨-1, evCall ht (evIte (fun _ => evRet rfl) (fun h => absurd hneg h)), fun h => absurd (by decide) h⟩
  · have hs' := hs (by omega)
    obtain ⟨t2, ht2, hs2⟩ := szRowS m t h4 h2 (by omega) (by omega)
    by_cases hneg2 : t2 < 0
    · exact ⟨-1, evCall ht (evIte (fun h => absurd h hneg) (fun _ => evCall ht2 (evIte (fun _ => evRet rfl) (fun h => absurd hneg2 h)))), fun h => absurd (by decide) h⟩
    · have hs2' := hs2 (by omega)
      refine ⟨t2, evCall ht (evIte (fun h => absurd h hneg) (fun _ => evCall ht2 (evIte (fun h => absurd h hneg2) (fun _ => evRet rfl)))), fun _ => ⟨by omega, by omega, by omega, fun x hx => ?_, fun x hx => ?_⟩⟩
      · have := le_sum (l.map fun x => x.f4.length) x.f4.length (List.mem_map_of_mem hx)
        omega
      · have := le_sum (m.map fun x => x.f1.length) x.f1.length (List.mem_map_of_mem hx)
        omega
end Go.Proofs.YtldlnafakfigeaaDoor.Q

