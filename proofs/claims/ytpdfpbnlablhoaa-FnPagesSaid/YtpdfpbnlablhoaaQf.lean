/- Slices of records, numbers and bytes: copied, compared, counted, marked, held. -/
import Derived.Test.YtpdfpbnlablhoaaLb
import Derived.Test.YtpdfpbnlablhoaaP0
import Derived.Test.YtpdfpbnlablhoaaPD0
namespace Go.Proofs.Ytpdfpbnlablhoaa.Q
open Go.RowKit Go.Proofs.Ytpdfpbnlablhoaa.P Go.Proofs.YtpdfpbnlablhoaaW.PrintWords Go.Proofs.YtpdfpbnlablhoaaW.PrintLast Go.Proofs.YtpdfpbnlablhoaaW.PrintMore Go.Proofs.Ytpdfpbnlablhoaa.Lb
set_option linter.unusedVariables false
set_option linter.unusedSimpArgs false
theorem rdCell {xs : List S49} {i : Nat} (h : i < xs.length) : rd_T49 xs (i : Int) = xs[i] := by
  unfold rd_T49
  rw [Int.toNat_natCast]
  exact getD_at h _
theorem rdCell_mid (pre : List S49) (v : S49) (vs : List S49) : rd_T49 (pre ++ v :: vs) (pre.length : Int) = v := by rw [rdCell (by simp)]; simp
theorem rdCelll {xs : List S92} {i : Nat} (h : i < xs.length) : rd_T92 xs (i : Int) = xs[i] := by
  unfold rd_T92
  rw [Int.toNat_natCast]
  exact getD_at h _
def cvCell (v : S92) : S49 := ⟨v.f0, v.f1⟩
theorem toCellS (xs : List S92) (hb : xs.length ≤ 1099511627776) : Ev (fun k => laws_toCellS.f k xs) (xs.map cvCell) := by
  unfold laws_toCellS.f
  refine evIte (fun _ => evIte (fun _ => ?_) (fun h => absurd (by simp; omega) h)) (fun h => absurd (by omega) h)
  rw [Int.toNat_natCast]
  refine mapLoop (L := fun k ys i => laws_toCellS.l0 k xs ys i) cvCell z49 xs ?_ ?_
  · intro k ys i h hl
    have h1 : (i : Int) < (xs.length : Int) := by omega
    have h2 : (i : Int) < (ys.length : Int) := by omega
    simp only [laws_toCellS.l0, laws_toCell.f, Option.bind_some, h1, h2, Int.natCast_nonneg, if_true, Int.toNat_natCast, rdCelll h, w64n (show i < 9223372036854775807 by omega), cvCell]
  · intro k ys
    simp only [laws_toCellS.l0, Int.lt_irrefl, if_false]
theorem szCellS (xs : List S92) (n : Int) (h0 : 0 ≤ n) (h1 : n ≤ 9223372036854775807) (hl : xs.length ≤ 9223372036854775807) : laws_szCellS.f xs n = some (if n < xs.length then -1 else n - xs.length) := by
  unfold laws_szCellS.f
  rw [w64 (by omega) (by omega)]
  by_cases h : n < xs.length
  · rw [if_pos (by omega), if_pos h]
  · rw [if_neg (by omega), if_neg h]
theorem eqCellS (xs : List S49) (hb : xs.length ≤ 1099511627776) : Ev (fun k => laws_eqCellS.f k xs xs) true := by
  unfold laws_eqCellS.f
  simp only [if_true]
  refine allLoop (L := fun k i => laws_eqCellS.l0 k xs xs i) xs.length ?_ ?_
  · intro k i h
    have h1 : (i : Int) < (xs.length : Int) := by omega
    simp only [laws_eqCellS.l0, laws_eqCell.f, Option.bind_some, h1, Int.natCast_nonneg, if_true, rdCell h, w64n (show i < 9223372036854775807 by omega)]
  · intro k
    simp only [laws_eqCellS.l0, Int.lt_irrefl, if_false]
/-- What marking writes into one. -/
def meCell (m : Int) : S49 := ⟨m, m + 1⟩
theorem markCellS (xs : List S49) (m : Int) (hm0 : 0 ≤ m) (hm : m ≤ 1152921504606846976) (hb : xs.length ≤ 1099511627776) : Ev (fun k => laws_markCellS.f k xs m) (m + 2 * xs.length, marked meCell 2 m xs.length) := by
  unfold laws_markCellS.f
  refine markLoop (L := fun k ys q i => laws_markCellS.l0 k ys q i) meCell 2 xs.length m ?_ ?_ xs rfl
  · intro k ys i h hl
    have h1 : (i : Int) < (ys.length : Int) := by omega
    have h0 : i < ys.length := by omega
    have e1 : wrap64 (m + 2 * (i : Int) + 1) = m + 2 * i + 1 := by rw [w64 (by omega) (by omega)]
    have e2 : wrap64 (m + 2 * (i : Int) + 1 + 1) = m + 2 * ((i + 1 : Nat) : Int) := by rw [w64 (by omega) (by omega)]; omega
    have r1 : ∀ y : S49, rd_T49 (ys.set i y) (i : Int) = y := fun y => by rw [rdCell (by simpa using h0)]; simp
    simp only [laws_markCellS.l0, Option.bind_some, h1, Int.natCast_nonneg, if_true, Int.toNat_natCast, rdCell h0, w64n (show i < 9223372036854775807 by omega), e1, e2, r1, List.set_set, meCell]
  · intro k ys q hl
    simp only [laws_markCellS.l0, hl, Int.lt_irrefl, if_false]
theorem heldCellS (n : Nat) (m : Int) (hm0 : 0 ≤ m) (hm : m ≤ 1152921504606846976) (hb : n ≤ 1099511627776) : Ev (fun k => laws_heldCellS.f k (marked meCell 2 m n) m) (m + 2 * n) := by
  unfold laws_heldCellS.f
  refine heldLoop (L := fun k q i => laws_heldCellS.l0 k (marked meCell 2 m n) q i) 2 n m ?_ ?_
  · intro k i h
    have hl : (marked meCell 2 m n).length = n := marked_length _ _ _ _
    have h1 : (i : Int) < ((marked meCell 2 m n).length : Int) := by omega
    have e1 : wrap64 (m + 2 * (i : Int) + 1) = m + 2 * i + 1 := by rw [w64 (by omega) (by omega)]
    have e2 : wrap64 (m + 2 * (i : Int) + 1 + 1) = m + 2 * ((i + 1 : Nat) : Int) := by rw [w64 (by omega) (by omega)]; omega
    have r1 : rd_T49 (marked meCell 2 m n) (i : Int) = meCell (m + 2 * i) := by rw [rdCell (by omega)]; exact marked_at _ _ _ _ _ h
    simp only [laws_heldCellS.l0, h1, Int.natCast_nonneg, if_true, r1, meCell, w64n (show i < 9223372036854775807 by omega), e1, e2]
  · intro k
    have hl : (marked meCell 2 m n).length = n := marked_length _ _ _ _
    simp only [laws_heldCellS.l0, hl, Int.lt_irrefl, if_false]
theorem rdI {xs : List Int} {i : Nat} (h : i < xs.length) : rd xs (i : Int) = xs[i] := by
  unfold rd
  rw [Int.toNat_natCast]
  exact getD_at h _
theorem rdI_mid (pre : List Int) (v : Int) (vs : List Int) : rd (pre ++ v :: vs) (pre.length : Int) = v := by rw [rdI (by simp)]; simp
theorem eqByteS (xs : List Int) (hb : xs.length ≤ 1099511627776) : Ev (fun k => laws_eqByteS.f k xs xs) true := by
  unfold laws_eqByteS.f
  simp only [if_true]
  refine allLoop (L := fun k i => laws_eqByteS.l0 k xs xs i) xs.length ?_ ?_
  · intro k i h
    have h1 : (i : Int) < (xs.length : Int) := by omega
    simp only [laws_eqByteS.l0, h1, Int.natCast_nonneg, if_true, w64n (show i < 9223372036854775807 by omega)]
  · intro k
    simp only [laws_eqByteS.l0, Int.lt_irrefl, if_false]
def meByte (m : Int) : Int := m % 256
theorem markByteS (xs : List Int) (m : Int) (hm0 : 0 ≤ m) (hm : m ≤ 1152921504606846976) (hb : xs.length ≤ 1099511627776) : Ev (fun k => laws_markByteS.f k xs m) (m + 1 * xs.length, marked meByte 1 m xs.length) := by
  unfold laws_markByteS.f
  refine markLoop (L := fun k ys q i => laws_markByteS.l0 k ys q i) meByte 1 xs.length m ?_ ?_ xs rfl
  · intro k ys i h hl
    have h1 : (i : Int) < (ys.length : Int) := by omega
    have e1 : wrap64 (m + 1 * (i : Int) + 1) = m + 1 * ((i + 1 : Nat) : Int) := by rw [w64 (by omega) (by omega)]; omega
    simp only [laws_markByteS.l0, h1, Int.natCast_nonneg, if_true, Int.toNat_natCast, w64n (show i < 9223372036854775807 by omega), e1, meByte]
  · intro k ys q hl
    simp only [laws_markByteS.l0, hl, Int.lt_irrefl, if_false]
theorem heldByteS (n : Nat) (m : Int) (hm0 : 0 ≤ m) (hm : m ≤ 1152921504606846976) (hb : n ≤ 1099511627776) : Ev (fun k => laws_heldByteS.f k (marked meByte 1 m n) m) (m + 1 * n) := by
  unfold laws_heldByteS.f
  refine heldLoop (L := fun k q i => laws_heldByteS.l0 k (marked meByte 1 m n) q i) 1 n m ?_ ?_
  · intro k i h
    have hl : (marked meByte 1 m n).length = n := marked_length _ _ _ _
    have h1 : (i : Int) < ((marked meByte 1 m n).length : Int) := by omega
    have e1 : wrap64 (m + 1 * (i : Int) + 1) = m + 1 * ((i + 1 : Nat) : Int) := by rw [w64 (by omega) (by omega)]; omega
    have r1 : rd (marked meByte 1 m n) (i : Int) = meByte (m + 1 * i) := by rw [rdI (by omega)]; exact marked_at _ _ _ _ _ h
    simp only [laws_heldByteS.l0, h1, Int.natCast_nonneg, if_true, r1, meByte, w64n (show i < 9223372036854775807 by omega), e1]
  · intro k
    have hl : (marked meByte 1 m n).length = n := marked_length _ _ _ _
    simp only [laws_heldByteS.l0, hl, Int.lt_irrefl, if_false]
end Go.Proofs.Ytpdfpbnlablhoaa.Q
