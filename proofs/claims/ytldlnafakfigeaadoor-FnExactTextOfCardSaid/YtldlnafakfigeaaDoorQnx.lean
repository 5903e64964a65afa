/- Slices of structs that hold slices: copied, counted, compared. -/
import Derived.Test.YtldlnafakfigeaaDoorLb
import Derived.Test.YtldlnafakfigeaaDoorQf
import Derived.Test.YtldlnafakfigeaaDoorP0
import Derived.Test.YtldlnafakfigeaaDoorPDall0
namespace Go.Proofs.YtldlnafakfigeaaDoor.Q
open Go.RowKit Go.Proofs.YtldlnafakfigeaaDoor.P Go.Proofs.YtldlnafakfigeaaDoorW.PrintWords Go.Proofs.YtldlnafakfigeaaDoorW.PrintLast Go.Proofs.YtldlnafakfigeaaDoorW.PrintMore Go.Proofs.YtldlnafakfigeaaDoor.Lb
set_option linter.unusedVariables false
set_option linter.unusedSimpArgs false

/-- A loop whose rounds, from some number of rounds on, go on to the next place. -/
theorem placesEv {β : Type} {L : Nat → Nat → Option β} {r : β} (n : Nat) (hs : ∀ i, i < n → ∃ K, ∀ k, K ≤ k → L (k + 1) i = L k (i + 1)) (he : Ev (fun k => L k n) r) : ∀ d i, n - i = d → i ≤ n → Ev (fun k => L k i) r
  | 0, i, hd, hi => by
    have : i = n := by omega
    subst this
    exact he
  | d + 1, i, hd, hi => by
    obtain ⟨K2, h2⟩ := placesEv n hs he d (i + 1) (by omega) (by omega)
    obtain ⟨K1, h1⟩ := hs i (by omega)
    refine ⟨K1 + K2 + 1, fun k hk => ?_⟩
    obtain ⟨m, rfl⟩ : ∃ m, k = m + 1 := ⟨k - 1, by omega⟩
    exact (h1 m (by omega)).trans (h2 m (by omega))
theorem mapLoopEv {α β : Type} {L : Nat → List β → Int → Option (List β)} (c : α → β) (z : β) (xs : List α)
    (hs : ∀ (i : Nat) (h : i < xs.length), ∃ K, ∀ k, K ≤ k → ∀ ys : List β, ys.length = xs.length → L (k + 1) ys (i : Int) = L k (ys.set i (c xs[i])) ((i + 1 : Nat) : Int))
    (he : ∀ k (ys : List β), L (k + 1) ys (xs.length : Int) = some ys) : Ev (fun k => L k (List.replicate xs.length z) 0) (xs.map c) := by
  have := placesEv (L := fun k i => L k ((xs.take i).map c ++ List.replicate (xs.length - i) z) (i : Int)) (r := xs.map c) xs.length ?_ ?_ xs.length 0 (by omega) (by omega)
  · simpa using this
  · intro i hlt
    obtain ⟨K, hK⟩ := hs i hlt
    refine ⟨K, fun k hk => ?_⟩
    have hlen : ((xs.take i).map c ++ List.replicate (xs.length - i) z).length = xs.length := by simp; omega
    have e2 : ((xs.take i).map c ++ List.replicate (xs.length - i) z).set i (c xs[i]) = (xs.take (i + 1)).map c ++ List.replicate (xs.length - (i + 1)) z := by
      rw [List.take_succ_eq_append_getElem hlt, List.map_append, show xs.length - i = (xs.length - (i + 1)) + 1 by omega, List.replicate_succ, List.set_append_right _ _ (by simp; omega), List.length_map, List.length_take, show min i xs.length = i by omega, Nat.sub_self, List.set_cons_zero]
      simp
    show L (k + 1) _ _ = L k _ _
    rw [hK k hk _ hlen, e2]
  · refine evSucc ?_
    simp only [he]
    exact evRet (by simp)
theorem allLoopEv {ρ : Type} {L : Nat → Int → Option ρ} {r : ρ} (n : Nat) (hs : ∀ (i : Nat), i < n → ∃ K, ∀ k, K ≤ k → L (k + 1) (i : Int) = L k ((i + 1 : Nat) : Int)) (he : ∀ k, L (k + 1) (n : Int) = some r) : Ev (fun k => L k 0) r := by
  have := placesEv (L := fun k i => L k (i : Int)) (r := r) n hs (evSucc (by simp only [he]; exact evRet rfl)) n 0 (by omega) (by omega)
  simpa using this
/-- From some number of rounds on, all elements are known. -/
theorem evAll {α β : Type} {g : Nat → α → Option β} {r : α → β} : ∀ (l : List α), (∀ x ∈ l, Ev (fun k => g k x) (r x)) → ∃ K, ∀ k, K ≤ k → ∀ x ∈ l, g k x = some (r x)
  | [], _ => ⟨0, fun _ _ x hx => by simp at hx⟩
  | x :: xs, h => by
    obtain ⟨K1, h1⟩ := h x (by simp)
    obtain ⟨K2, h2⟩ := evAll xs (fun y hy => h y (by simp [hy]))
    refine ⟨K1 + K2, fun k hk y hy => ?_⟩
    rcases List.mem_cons.1 hy with rfl | hy
    · exact h1 k (by omega)
    · exact h2 k (by omega) y hy
theorem rdTxn {xs : List S45} {i : Nat} (h : i < xs.length) : rd_T45 xs (i : Int) = xs[i] := by
  unfold rd_T45
  rw [Int.toNat_natCast]
  exact getD_at h _
theorem rdTxnl {xs : List S61} {i : Nat} (h : i < xs.length) : rd_T61 xs (i : Int) = xs[i] := by
  unfold rd_T61
  rw [Int.toNat_natCast]
  exact getD_at h _
def cvTxn (v : S61) : S45 := ⟨v.f0, v.f1, v.f2, v.f3, (v.f4).map cvUndo⟩
theorem toTxnS (xs : List S61) (hx : xs.length ≤ 1099511627776) (hb : ∀ x ∈ xs, x.f4.length ≤ 1099511627776) : Ev (fun k => laws_toTxnS.f k xs) (xs.map cvTxn) := by
  unfold laws_toTxnS.f
  refine evIte (fun _ => evIte (fun _ => ?_) (fun h => absurd (by simp; omega) h)) (fun h => absurd (by omega) h)
  rw [Int.toNat_natCast]
  refine mapLoopEv (L := fun k ys i => laws_toTxnS.l0 k xs ys i) cvTxn z45 xs ?_ ?_
  · intro i h
    have hm := hb xs[i] (List.getElem_mem h)
    obtain ⟨K0, e0_⟩ := toUndoS xs[i].f4 hm
    refine ⟨K0, fun k hk ys hl => ?_⟩
    have h1 : (i : Int) < (xs.length : Int) := by omega
    have h2 : (i : Int) < (ys.length : Int) := by omega
    simp only [laws_toTxnS.l0, laws_toTxn.f, rdTxnl h, e0_ k (by omega), Option.bind_some, h1, h2, Int.natCast_nonneg, if_true, Int.toNat_natCast, w64n (show i < 9223372036854775807 by omega), cvTxn]
  · intro k ys
    simp only [laws_toTxnS.l0, Int.lt_irrefl, if_false]
theorem szTxn_l (xs : List S61) (hl : ∀ x ∈ xs, x.f4.length ≤ 9223372036854775807) (hx : xs.length ≤ 9223372036854775807) : ∀ (d i : Nat) (q : Int), xs.length - i = d → i ≤ xs.length → 0 ≤ q → q ≤ 9223372036854775807 → ∃ t, Ev (fun k => laws_szTxnS.l0 k xs q (i : Int)) t ∧ (0 ≤ t → t + ((((xs.drop i).map fun x => x.f4.length).sum : Nat) : Int) = q)
  | 0, i, q, hd, hi, h0, h1 => by
    have : i = xs.length := by omega
    subst this
    refine ⟨q, evSucc ?_, fun _ => by simp⟩
    simp only [laws_szTxnS.l0, Int.lt_irrefl, if_false]
    exact evRet rfl
  | d + 1, i, q, hd, hi, h0, h1 => by
    have h : i < xs.length := by omega
    have hm := hl xs[i] (List.getElem_mem h)
    have h2 : (i : Int) < (xs.length : Int) := by omega
    have hdr : xs.drop i = xs[i] :: xs.drop (i + 1) := List.drop_eq_getElem_cons h
    by_cases c0 : q < xs[i].f4.length
    · refine ⟨-1, evSucc ?_, fun ht => by omega⟩
      have s0 := szUndoS xs[i].f4 (q) (by omega) (by omega) hm
      rw [if_pos c0] at s0
      simp only [laws_szTxnS.l0, laws_szTxn.f, rdTxnl h, s0, Option.bind_some, h2, Int.natCast_nonneg, if_true, if_false, show ((-1 : Int) < 0) = True from by decide]
      exact evRet rfl
    · have s0 := szUndoS xs[i].f4 (q) (by omega) (by omega) hm
      rw [if_neg c0] at s0
      have n0 : (q - (xs[i].f4.length : Int) < 0) = False := eq_false (by omega)
      obtain ⟨t, h3, h4⟩ := szTxn_l xs hl hx d (i + 1) (q - (xs[i].f4.length : Int)) (by omega) (by omega) (by omega) (by omega)
      refine ⟨t, evSucc ?_, fun ht => ?_⟩
      · simp only [laws_szTxnS.l0, laws_szTxn.f, rdTxnl h, s0, Option.bind_some, h2, Int.natCast_nonneg, if_true, if_false, w64n (show i < 9223372036854775807 by omega), n0]
        exact h3
      · have := h4 ht; rw [hdr]; simp only [List.map_cons, List.sum_cons]; omega
theorem szTxnS (xs : List S61) (n : Int) (hl : ∀ x ∈ xs, x.f4.length ≤ 9223372036854775807) (hx : xs.length ≤ 9223372036854775807) (h0 : 0 ≤ n) (h1 : n ≤ 9223372036854775807) : ∃ t, Ev (fun k => laws_szTxnS.f k xs n) t ∧ (0 ≤ t → t + xs.length + (((xs.map fun x => x.f4.length).sum : Nat) : Int) = n) := by
  unfold laws_szTxnS.f
  rw [w64 (by omega) (by omega)]
  by_cases h : n - xs.length < 0
  · exact ⟨-1, evIte (fun _ => evRet rfl) (fun hn => absurd h hn), fun ht => by omega⟩
  · obtain ⟨t, h2, h3⟩ := szTxn_l xs hl hx xs.length 0 (n - xs.length) (by omega) (by omega) (by omega) (by omega)
    refine ⟨t, evIte (fun hp => absurd hp h) (fun _ => by simpa using h2), fun ht => ?_⟩
    have := h3 ht
    simp only [List.drop_zero] at this
    omega
theorem eqTxnS (xs : List S45) (hx : xs.length ≤ 1099511627776) (hb : ∀ x ∈ xs, x.f4.length ≤ 1099511627776) : Ev (fun k => laws_eqTxnS.f k xs xs) true := by
  unfold laws_eqTxnS.f
  simp only [if_true]
  refine allLoopEv (L := fun k i => laws_eqTxnS.l0 k xs xs i) xs.length ?_ ?_
  · intro i h
    have hm := hb xs[i] (List.getElem_mem h)
    obtain ⟨K0, e0_⟩ := eqUndoS xs[i].f4 hm
    refine ⟨K0, fun k hk => ?_⟩
    have h1 : (i : Int) < (xs.length : Int) := by omega
    simp only [laws_eqTxnS.l0, laws_eqTxn.f, rdTxn h, e0_ k (by omega), Option.bind_some, h1, Int.natCast_nonneg, if_true, bne_self_eq_false, Bool.false_eq_true, if_false, w64n (show i < 9223372036854775807 by omega)]
  · intro k
    simp only [laws_eqTxnS.l0, Int.lt_irrefl, if_false]
theorem rdRow {xs : List S49} {i : Nat} (h : i < xs.length) : rd_T49 xs (i : Int) = xs[i] := by
  unfold rd_T49
  rw [Int.toNat_natCast]
  exact getD_at h _
theorem rdRowl {xs : List S65} {i : Nat} (h : i < xs.length) : rd_T65 xs (i : Int) = xs[i] := by
  unfold rd_T65
  rw [Int.toNat_natCast]
  exact getD_at h _
def cvRow (v : S65) : S49 := ⟨v.f0, (v.f1).map cvVersion⟩
theorem toRowS (xs : List S65) (hx : xs.length ≤ 1099511627776) (hb : ∀ x ∈ xs, x.f1.length ≤ 1099511627776) : Ev (fun k => laws_toRowS.f k xs) (xs.map cvRow) := by
  unfold laws_toRowS.f
  refine evIte (fun _ => evIte (fun _ => ?_) (fun h => absurd (by simp; omega) h)) (fun h => absurd (by omega) h)
  rw [Int.toNat_natCast]
  refine mapLoopEv (L := fun k ys i => laws_toRowS.l0 k xs ys i) cvRow z49 xs ?_ ?_
  · intro i h
    have hm := hb xs[i] (List.getElem_mem h)
    obtain ⟨K0, e0_⟩ := toVersionS xs[i].f1 hm
    refine ⟨K0, fun k hk ys hl => ?_⟩
    have h1 : (i : Int) < (xs.length : Int) := by omega
    have h2 : (i : Int) < (ys.length : Int) := by omega
    simp only [laws_toRowS.l0, laws_toRow.f, rdRowl h, e0_ k (by omega), Option.bind_some, h1, h2, Int.natCast_nonneg, if_true, Int.toNat_natCast, w64n (show i < 9223372036854775807 by omega), cvRow]
  · intro k ys
    simp only [laws_toRowS.l0, Int.lt_irrefl, if_false]
theorem szRow_l (xs : List S65) (hl : ∀ x ∈ xs, x.f1.length ≤ 9223372036854775807) (hx : xs.length ≤ 9223372036854775807) : ∀ (d i : Nat) (q : Int), xs.length - i = d → i ≤ xs.length → 0 ≤ q → q ≤ 9223372036854775807 → ∃ t, Ev (fun k => laws_szRowS.l0 k xs q (i : Int)) t ∧ (0 ≤ t → t + ((((xs.drop i).map fun x => x.f1.length).sum : Nat) : Int) = q)
  | 0, i, q, hd, hi, h0, h1 => by
    have : i = xs.length := by omega
    subst this
    refine ⟨q, evSucc ?_, fun _ => by simp⟩
    simp only [laws_szRowS.l0, Int.lt_irrefl, if_false]
    exact evRet rfl
  | d + 1, i, q, hd, hi, h0, h1 => by
    have h : i < xs.length := by omega
    have hm := hl xs[i] (List.getElem_mem h)
    have h2 : (i : Int) < (xs.length : Int) := by omega
    have hdr : xs.drop i = xs[i] :: xs.drop (i + 1) := List.drop_eq_getElem_cons h
    by_cases c0 : q < xs[i].f1.length
    · refine ⟨-1, evSucc ?_, fun ht => by omega⟩
      have s0 := szVersionS xs[i].f1 (q) (by omega) (by omega) hm
      rw [if_pos c0] at s0
      simp only [laws_szRowS.l0, laws_szRow.f, rdRowl h, s0, Option.bind_some, h2, Int.natCast_nonneg, if_true, if_false, show ((-1 : Int) < 0) = True from by decide]
      exact evRet rfl
    · have s0 := szVersionS xs[i].f1 (q) (by omega) (by omega) hm
      rw [if_neg c0] at s0
      have n0 : (q - (xs[i].f1.length : Int) < 0) = False := eq_false (by omega)
      obtain ⟨t, h3, h4⟩ := szRow_l xs hl hx d (i + 1) (q - (xs[i].f1.length : Int)) (by omega) (by omega) (by omega) (by omega)
      refine ⟨t, evSucc ?_, fun ht => ?_⟩
      · simp only [laws_szRowS.l0, laws_szRow.f, rdRowl h, s0, Option.bind_some, h2, Int.natCast_nonneg, if_true, if_false, w64n (show i < 9223372036854775807 by omega), n0]
        exact h3
      · have := h4 ht; rw [hdr]; simp only [List.map_cons, List.sum_cons]; omega
theorem szRowS (xs : List S65) (n : Int) (hl : ∀ x ∈ xs, x.f1.length ≤ 9223372036854775807) (hx : xs.length ≤ 9223372036854775807) (h0 : 0 ≤ n) (h1 : n ≤ 9223372036854775807) : ∃ t, Ev (fun k => laws_szRowS.f k xs n) t ∧ (0 ≤ t → t + xs.length + (((xs.map fun x => x.f1.length).sum : Nat) : Int) = n) := by
  unfold laws_szRowS.f
  rw [w64 (by omega) (by omega)]
  by_cases h : n - xs.length < 0
  · exact ⟨-1, evIte (fun _ => evRet rfl) (fun hn => absurd h hn), fun ht => by omega⟩
  · obtain ⟨t, h2, h3⟩ := szRow_l xs hl hx xs.length 0 (n - xs.length) (by omega) (by omega) (by omega) (by omega)
    refine ⟨t, evIte (fun hp => absurd hp h) (fun _ => by simpa using h2), fun ht => ?_⟩
    have := h3 ht
    simp only [List.drop_zero] at this
    omega
theorem eqRowS (xs : List S49) (hx : xs.length ≤ 1099511627776) (hb : ∀ x ∈ xs, x.f1.length ≤ 1099511627776) : Ev (fun k => laws_eqRowS.f k xs xs) true := by
  unfold laws_eqRowS.f
  simp only [if_true]
  refine allLoopEv (L := fun k i => laws_eqRowS.l0 k xs xs i) xs.length ?_ ?_
  · intro i h
    have hm := hb xs[i] (List.getElem_mem h)
    obtain ⟨K0, e0_⟩ := eqVersionS xs[i].f1 hm
    refine ⟨K0, fun k hk => ?_⟩
    have h1 : (i : Int) < (xs.length : Int) := by omega
    simp only [laws_eqRowS.l0, laws_eqRow.f, rdRow h, e0_ k (by omega), Option.bind_some, h1, Int.natCast_nonneg, if_true, bne_self_eq_false, Bool.false_eq_true, if_false, w64n (show i < 9223372036854775807 by omega)]
  · intro k
    simp only [laws_eqRowS.l0, Int.lt_irrefl, if_false]
end Go.Proofs.YtldlnafakfigeaaDoor.Q
