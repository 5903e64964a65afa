/- Slices of records, numbers and bytes: copied, compared, counted, marked, held. -/
import Derived.Test.YtdhdgkonghefeaaLb
import Derived.Test.YtdhdgkonghefeaaP0
import Derived.Test.YtdhdgkonghefeaaPDm0
namespace Go.Proofs.Ytdhdgkonghefeaa.Q
open Go.RowKit Go.Proofs.Ytdhdgkonghefeaa.P Go.Proofs.YtdhdgkonghefeaaW.PrintWords Go.Proofs.YtdhdgkonghefeaaW.PrintLast Go.Proofs.YtdhdgkonghefeaaW.PrintMore Go.Proofs.Ytdhdgkonghefeaa.Lb
set_option linter.unusedVariables false
set_option linter.unusedSimpArgs false
theorem rdI {xs : List Int} {i : Nat} (h : i < xs.length) : rd xs (i : Int) = xs[i] := by
  unfold rd
  rw [Int.toNat_natCast]
  exact getD_at h _
theorem rdI_mid (pre : List Int) (v : Int) (vs : List Int) : rd (pre ++ v :: vs) (pre.length : Int) = v := by rw [rdI (by simp)]; simp
theorem toInt64S (xs : List Int) (hb : xs.length ≤ 1099511627776) : Ev (fun k => laws_toInt64S.f k xs) xs := by
  unfold laws_toInt64S.f
  refine evIte (fun _ => evIte (fun _ => ?_) (fun h => absurd (by simp; omega) h)) (fun h => absurd (by omega) h)
  rw [Int.toNat_natCast]
  refine evEq (mapLoop (L := fun k ys i => laws_toInt64S.l0 k xs ys i) (fun x => x) 0 xs ?_ ?_) (List.map_id' xs)
  · intro k ys i h hl
    have h1 : (i : Int) < (xs.length : Int) := by omega
    have h2 : (i : Int) < (ys.length : Int) := by omega
    simp only [laws_toInt64S.l0, h1, h2, Int.natCast_nonneg, if_true, Int.toNat_natCast, rdI h, w64n (show i < 9223372036854775807 by omega)]
  · intro k ys
    simp only [laws_toInt64S.l0, Int.lt_irrefl, if_false]
theorem szInt64S (xs : List Int) (n : Int) (h0 : 0 ≤ n) (h1 : n ≤ 9223372036854775807) (hl : xs.length ≤ 9223372036854775807) : laws_szInt64S.f xs n = some (if n < xs.length then -1 else n - xs.length) := by
  unfold laws_szInt64S.f
  rw [w64 (by omega) (by omega)]
  by_cases h : n < xs.length
  · rw [if_pos (by omega), if_pos h]
  · rw [if_neg (by omega), if_neg h]
theorem eqInt64S (xs : List Int) (hb : xs.length ≤ 1099511627776) : Ev (fun k => laws_eqInt64S.f k xs xs) true := by
  unfold laws_eqInt64S.f
  simp only [if_true]
  refine allLoop (L := fun k i => laws_eqInt64S.l0 k xs xs i) xs.length ?_ ?_
  · intro k i h
    have h1 : (i : Int) < (xs.length : Int) := by omega
    simp only [laws_eqInt64S.l0, h1, Int.natCast_nonneg, if_true, w64n (show i < 9223372036854775807 by omega)]
  · intro k
    simp only [laws_eqInt64S.l0, Int.lt_irrefl, if_false]
def meInt64 (m : Int) : Int := m
theorem markInt64S (xs : List Int) (m : Int) (hm0 : 0 ≤ m) (hm : m ≤ 1152921504606846976) (hb : xs.length ≤ 1099511627776) : Ev (fun k => laws_markInt64S.f k xs m) (m + 1 * xs.length, marked meInt64 1 m xs.length) := by
  unfold laws_markInt64S.f
  refine markLoop (L := fun k ys q i => laws_markInt64S.l0 k ys q i) meInt64 1 xs.length m ?_ ?_ xs rfl
  · intro k ys i h hl
    have h1 : (i : Int) < (ys.length : Int) := by omega
    have e1 : wrap64 (m + 1 * (i : Int) + 1) = m + 1 * ((i + 1 : Nat) : Int) := by rw [w64 (by omega) (by omega)]; omega
    simp only [laws_markInt64S.l0, h1, Int.natCast_nonneg, if_true, Int.toNat_natCast, w64n (show i < 9223372036854775807 by omega), e1, meInt64]
  · intro k ys q hl
    simp only [laws_markInt64S.l0, hl, Int.lt_irrefl, if_false]
theorem heldInt64S (n : Nat) (m : Int) (hm0 : 0 ≤ m) (hm : m ≤ 1152921504606846976) (hb : n ≤ 1099511627776) : Ev (fun k => laws_heldInt64S.f k (marked meInt64 1 m n) m) (m + 1 * n) := by
  unfold laws_heldInt64S.f
  refine heldLoop (L := fun k q i => laws_heldInt64S.l0 k (marked meInt64 1 m n) q i) 1 n m ?_ ?_
  · intro k i h
    have hl : (marked meInt64 1 m n).length = n := marked_length _ _ _ _
    have h1 : (i : Int) < ((marked meInt64 1 m n).length : Int) := by omega
    have e1 : wrap64 (m + 1 * (i : Int) + 1) = m + 1 * ((i + 1 : Nat) : Int) := by rw [w64 (by omega) (by omega)]; omega
    have r1 : rd (marked meInt64 1 m n) (i : Int) = meInt64 (m + 1 * i) := by rw [rdI (by omega)]; exact marked_at _ _ _ _ _ h
    simp only [laws_heldInt64S.l0, h1, Int.natCast_nonneg, if_true, r1, meInt64, w64n (show i < 9223372036854775807 by omega), e1]
  · intro k
    have hl : (marked meInt64 1 m n).length = n := marked_length _ _ _ _
    simp only [laws_heldInt64S.l0, hl, Int.lt_irrefl, if_false]
end Go.Proofs.Ytdhdgkonghefeaa.Q
