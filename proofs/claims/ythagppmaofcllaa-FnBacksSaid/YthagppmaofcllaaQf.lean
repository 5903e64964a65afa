/- Slices of records, numbers and bytes: copied, compared, counted, marked, held. -/
import Derived.Test.YthagppmaofcllaaLb
import Derived.Test.YthagppmaofcllaaP0
import Derived.Test.YthagppmaofcllaaPDm0
import Derived.Test.YthagppmaofcllaaPDm1
namespace Go.Proofs.Ythagppmaofcllaa.Q
open Go.RowKit Go.Proofs.Ythagppmaofcllaa.P Go.Proofs.YthagppmaofcllaaW.PrintWords Go.Proofs.YthagppmaofcllaaW.PrintLast Go.Proofs.YthagppmaofcllaaW.PrintMore Go.Proofs.Ythagppmaofcllaa.Lb
set_option linter.unusedVariables false
set_option linter.unusedSimpArgs false
theorem rdRec {xs : List S48} {i : Nat} (h : i < xs.length) : rd_T48 xs (i : Int) = xs[i] := by
  unfold rd_T48
  rw [Int.toNat_natCast]
  exact getD_at h _
theorem rdRec_mid (pre : List S48) (v : S48) (vs : List S48) : rd_T48 (pre ++ v :: vs) (pre.length : Int) = v := by rw [rdRec (by simp)]; simp
theorem rdRecl {xs : List S78} {i : Nat} (h : i < xs.length) : rd_T78 xs (i : Int) = xs[i] := by
  unfold rd_T78
  rw [Int.toNat_natCast]
  exact getD_at h _
def cvRec (v : S78) : S48 := ⟨v.f0, v.f1, v.f2, v.f3, v.f4, v.f5, v.f6, v.f7⟩
theorem toRecS (xs : List S78) (hb : xs.length ≤ 1099511627776) : Ev (fun k => laws_toRecS.f k xs) (xs.map cvRec) := by
  unfold laws_toRecS.f
  refine evIte (fun _ => evIte (fun _ => ?_) (fun h => absurd (by simp; omega) h)) (fun h => absurd (by omega) h)
  rw [Int.toNat_natCast]
  refine mapLoop (L := fun k ys i => laws_toRecS.l0 k xs ys i) cvRec z48 xs ?_ ?_
  · intro k ys i h hl
    have h1 : (i : Int) < (xs.length : Int) := by omega
    have h2 : (i : Int) < (ys.length : Int) := by omega
    simp only [laws_toRecS.l0, laws_toRec.f, Option.bind_some, h1, h2, Int.natCast_nonneg, if_true, Int.toNat_natCast, rdRecl h, w64n (show i < 9223372036854775807 by omega), cvRec]
  · intro k ys
    simp only [laws_toRecS.l0, Int.lt_irrefl, if_false]
theorem szRecS (xs : List S78) (n : Int) (h0 : 0 ≤ n) (h1 : n ≤ 9223372036854775807) (hl : xs.length ≤ 9223372036854775807) : laws_szRecS.f xs n = some (if n < xs.length then -1 else n - xs.length) := by
  unfold laws_szRecS.f
  rw [w64 (by omega) (by omega)]
  by_cases h : n < xs.length
  · rw [if_pos (by omega), if_pos h]
  · rw [if_neg (by omega), if_neg h]
theorem eqRecS (xs : List S48) (hb : xs.length ≤ 1099511627776) : Ev (fun k => laws_eqRecS.f k xs xs) true := by
  unfold laws_eqRecS.f
  simp only [if_true]
  refine allLoop (L := fun k i => laws_eqRecS.l0 k xs xs i) xs.length ?_ ?_
  · intro k i h
    have h1 : (i : Int) < (xs.length : Int) := by omega
    simp only [laws_eqRecS.l0, laws_eqRec.f, Option.bind_some, h1, Int.natCast_nonneg, if_true, bne_self_eq_false, Bool.false_eq_true, if_false, rdRec h, w64n (show i < 9223372036854775807 by omega)]
  · intro k
    simp only [laws_eqRecS.l0, Int.lt_irrefl, if_false]
/-- What marking writes into one. -/
def meRec (m : Int) : S48 := ⟨m, m + 1, m + 2, (m + 3).tmod 3 == 0, m + 4, (m + 5).tmod 3 == 0, m + 6, m + 7⟩
theorem markRecS (xs : List S48) (m : Int) (hm0 : 0 ≤ m) (hm : m ≤ 1152921504606846976) (hb : xs.length ≤ 1099511627776) : Ev (fun k => laws_markRecS.f k xs m) (m + 8 * xs.length, marked meRec 8 m xs.length) := by
  unfold laws_markRecS.f
  refine markLoop (L := fun k ys q i => laws_markRecS.l0 k ys q i) meRec 8 xs.length m ?_ ?_ xs rfl
  · intro k ys i h hl
    have h1 : (i : Int) < (ys.length : Int) := by omega
    have h0 : i < ys.length := by omega
    have e1 : wrap64 (m + 8 * (i : Int) + 1) = m + 8 * i + 1 := by rw [w64 (by omega) (by omega)]
    have e2 : wrap64 (m + 8 * (i : Int) + 1 + 1) = m + 8 * i + 2 := by rw [w64 (by omega) (by omega)]; omega
    have e3 : wrap64 (m + 8 * (i : Int) + 2 + 1) = m + 8 * i + 3 := by rw [w64 (by omega) (by omega)]; omega
    have e4 : wrap64 (m + 8 * (i : Int) + 3 + 1) = m + 8 * i + 4 := by rw [w64 (by omega) (by omega)]; omega
    have e5 : wrap64 (m + 8 * (i : Int) + 4 + 1) = m + 8 * i + 5 := by rw [w64 (by omega) (by omega)]; omega
    have e6 : wrap64 (m + 8 * (i : Int) + 5 + 1) = m + 8 * i + 6 := by rw [w64 (by omega) (by omega)]; omega
    have e7 : wrap64 (m + 8 * (i : Int) + 6 + 1) = m + 8 * i + 7 := by rw [w64 (by omega) (by omega)]; omega
    have e8 : wrap64 (m + 8 * (i : Int) + 7 + 1) = m + 8 * ((i + 1 : Nat) : Int) := by rw [w64 (by omega) (by omega)]; omega
    have r1 : ∀ y : S48, rd_T48 (ys.set i y) (i : Int) = y := fun y => by rw [rdRec (by simpa using h0)]; simp
    simp only [laws_markRecS.l0, Option.bind_some, h1, Int.natCast_nonneg, if_true, Int.toNat_natCast, rdRec h0, w64n (show i < 9223372036854775807 by omega), e1, e2, e3, e4, e5, e6, e7, e8, r1, List.set_set, meRec]
  · intro k ys q hl
    simp only [laws_markRecS.l0, hl, Int.lt_irrefl, if_false]
theorem heldRecS (n : Nat) (m : Int) (hm0 : 0 ≤ m) (hm : m ≤ 1152921504606846976) (hb : n ≤ 1099511627776) : Ev (fun k => laws_heldRecS.f k (marked meRec 8 m n) m) (m + 8 * n) := by
  unfold laws_heldRecS.f
  refine heldLoop (L := fun k q i => laws_heldRecS.l0 k (marked meRec 8 m n) q i) 8 n m ?_ ?_
  · intro k i h
    have hl : (marked meRec 8 m n).length = n := marked_length _ _ _ _
    have h1 : (i : Int) < ((marked meRec 8 m n).length : Int) := by omega
    have e1 : wrap64 (m + 8 * (i : Int) + 1) = m + 8 * i + 1 := by rw [w64 (by omega) (by omega)]
    have e2 : wrap64 (m + 8 * (i : Int) + 1 + 1) = m + 8 * i + 2 := by rw [w64 (by omega) (by omega)]; omega
    have e3 : wrap64 (m + 8 * (i : Int) + 2 + 1) = m + 8 * i + 3 := by rw [w64 (by omega) (by omega)]; omega
    have e4 : wrap64 (m + 8 * (i : Int) + 3 + 1) = m + 8 * i + 4 := by rw [w64 (by omega) (by omega)]; omega
    have e5 : wrap64 (m + 8 * (i : Int) + 4 + 1) = m + 8 * i + 5 := by rw [w64 (by omega) (by omega)]; omega
    have e6 : wrap64 (m + 8 * (i : Int) + 5 + 1) = m + 8 * i + 6 := by rw [w64 (by omega) (by omega)]; omega
    have e7 : wrap64 (m + 8 * (i : Int) + 6 + 1) = m + 8 * i + 7 := by rw [w64 (by omega) (by omega)]; omega
    have e8 : wrap64 (m + 8 * (i : Int) + 7 + 1) = m + 8 * ((i + 1 : Nat) : Int) := by rw [w64 (by omega) (by omega)]; omega
    have r1 : rd_T48 (marked meRec 8 m n) (i : Int) = meRec (m + 8 * i) := by rw [rdRec (by omega)]; exact marked_at _ _ _ _ _ h
    simp only [laws_heldRecS.l0, h1, Int.natCast_nonneg, if_true, r1, meRec, w64n (show i < 9223372036854775807 by omega), e1, e2, e3, e4, e5, e6, e7, e8, bne_self_eq_false, Bool.false_eq_true, if_false]
  · intro k
    have hl : (marked meRec 8 m n).length = n := marked_length _ _ _ _
    simp only [laws_heldRecS.l0, hl, Int.lt_irrefl, if_false]
theorem rdI {xs : List Int} {i : Nat} (h : i < xs.length) : rd xs (i : Int) = xs[i] := by
  unfold rd
  rw [Int.toNat_natCast]
  exact getD_at h _
theorem rdI_mid (pre : List Int) (v : Int) (vs : List Int) : rd (pre ++ v :: vs) (pre.length : Int) = v := by rw [rdI (by simp)]; simp
theorem toByteS (xs : List Int) (hb : xs.length ≤ 1099511627776) : Ev (fun k => laws_toByteS.f k xs) xs := by
  unfold laws_toByteS.f
  refine evIte (fun _ => evIte (fun _ => ?_) (fun h => absurd (by simp; omega) h)) (fun h => absurd (by omega) h)
  rw [Int.toNat_natCast]
  refine evEq (mapLoop (L := fun k ys i => laws_toByteS.l0 k xs ys i) (fun x => x) 0 xs ?_ ?_) (List.map_id' xs)
  · intro k ys i h hl
    have h1 : (i : Int) < (xs.length : Int) := by omega
    have h2 : (i : Int) < (ys.length : Int) := by omega
    simp only [laws_toByteS.l0, h1, h2, Int.natCast_nonneg, if_true, Int.toNat_natCast, rdI h, w64n (show i < 9223372036854775807 by omega)]
  · intro k ys
    simp only [laws_toByteS.l0, Int.lt_irrefl, if_false]
theorem szByteS (xs : List Int) (n : Int) (h0 : 0 ≤ n) (h1 : n ≤ 9223372036854775807) (hl : xs.length ≤ 9223372036854775807) : laws_szByteS.f xs n = some (if n < xs.length then -1 else n - xs.length) := by
  unfold laws_szByteS.f
  rw [w64 (by omega) (by omega)]
  by_cases h : n < xs.length
  · rw [if_pos (by omega), if_pos h]
  · rw [if_neg (by omega), if_neg h]
theorem eqByteS (xs : List Int) (hb : xs.length ≤ 1099511627776) : Ev (fun k => laws_eqByteS.f k xs xs) true := by
  unfold laws_eqByteS.f
  simp only [if_true]
  refine allLoop (L := fun k i => laws_eqByteS.l0 k xs xs i) xs.length ?_ ?_
  · intro k i h
    have h1 : (i : Int) < (xs.length : Int) := by omega
    simp only [laws_eqByteS.l0, h1, Int.natCast_nonneg, if_true, w64n (show i < 9223372036854775807 by omega)]
  · intro k
    simp only [laws_eqByteS.l0, Int.lt_irrefl, if_false]
def meByte (m : Int) : Int := m % 256
theorem markByteS (xs : List Int) (m : Int) (hm0 : 0 ≤ m) (hm : m ≤ 1152921504606846976) (hb : xs.length ≤ 1099511627776) : Ev (fun k => laws_markByteS.f k xs m) (m + 1 * xs.length, marked meByte 1 m xs.length) := by
  unfold laws_markByteS.f
  refine markLoop (L := fun k ys q i => laws_markByteS.l0 k ys q i) meByte 1 xs.length m ?_ ?_ xs rfl
  · intro k ys i h hl
    have h1 : (i : Int) < (ys.length : Int) := by omega
    have e1 : wrap64 (m + 1 * (i : Int) + 1) = m + 1 * ((i + 1 : Nat) : Int) := by rw [w64 (by omega) (by omega)]; omega
    simp only [laws_markByteS.l0, h1, Int.natCast_nonneg, if_true, Int.toNat_natCast, w64n (show i < 9223372036854775807 by omega), e1, meByte]
  · intro k ys q hl
    simp only [laws_markByteS.l0, hl, Int.lt_irrefl, if_false]
theorem heldByteS (n : Nat) (m : Int) (hm0 : 0 ≤ m) (hm : m ≤ 1152921504606846976) (hb : n ≤ 1099511627776) : Ev (fun k => laws_heldByteS.f k (marked meByte 1 m n) m) (m + 1 * n) := by
  unfold laws_heldByteS.f
  refine heldLoop (L := fun k q i => laws_heldByteS.l0 k (marked meByte 1 m n) q i) 1 n m ?_ ?_
  · intro k i h
    have hl : (marked meByte 1 m n).length = n := marked_length _ _ _ _
    have h1 : (i : Int) < ((marked meByte 1 m n).length : Int) := by omega
    have e1 : wrap64 (m + 1 * (i : Int) + 1) = m + 1 * ((i + 1 : Nat) : Int) := by rw [w64 (by omega) (by omega)]; omega
    have r1 : rd (marked meByte 1 m n) (i : Int) = meByte (m + 1 * i) := by rw [rdI (by omega)]; exact marked_at _ _ _ _ _ h
    simp only [laws_heldByteS.l0, h1, Int.natCast_nonneg, if_true, r1, meByte, w64n (show i < 9223372036854775807 by omega), e1]
  · intro k
    have hl : (marked meByte 1 m n).length = n := marked_length _ _ _ _
    simp only [laws_heldByteS.l0, hl, Int.lt_irrefl, if_false]
theorem eqInt64S (xs : List Int) (hb : xs.length ≤ 1099511627776) : Ev (fun k => laws_eqInt64S.f k xs xs) true := by
  unfold laws_eqInt64S.f
  simp only [if_true]
  refine allLoop (L := fun k i => laws_eqInt64S.l0 k xs xs i) xs.length ?_ ?_
  · intro k i h
    have h1 : (i : Int) < (xs.length : Int) := by omega
    simp only [laws_eqInt64S.l0, h1, Int.natCast_nonneg, if_true, w64n (show i < 9223372036854775807 by omega)]
  · intro k
    simp only [laws_eqInt64S.l0, Int.lt_irrefl, if_false]
def meInt64 (m : Int) : Int := m
theorem markInt64S (xs : List Int) (m : Int) (hm0 : 0 ≤ m) (hm : m ≤ 1152921504606846976) (hb : xs.length ≤ 1099511627776) : Ev (fun k => laws_markInt64S.f k xs m) (m + 1 * xs.length, marked meInt64 1 m xs.length) := by
  unfold laws_markInt64S.f
  refine markLoop (L := fun k ys q i => laws_markInt64S.l0 k ys q i) meInt64 1 xs.length m ?_ ?_ xs rfl
  · intro k ys i h hl
    have h1 : (i : Int) < (ys.length : Int) := by omega
    have e1 : wrap64 (m + 1 * (i : Int) + 1) = m + 1 * ((i + 1 : Nat) : Int) := by rw [w64 (by omega) (by omega)]; omega
    simp only [laws_markInt64S.l0, h1, Int.natCast_nonneg, if_true, Int.toNat_natCast, w64n (show i < 9223372036854775807 by omega), e1, meInt64]
  · intro k ys q hl
    simp only [laws_markInt64S.l0, hl, Int.lt_irrefl, if_false]
theorem heldInt64S (n : Nat) (m : Int) (hm0 : 0 ≤ m) (hm : m ≤ 1152921504606846976) (hb : n ≤ 1099511627776) : Ev (fun k => laws_heldInt64S.f k (marked meInt64 1 m n) m) (m + 1 * n) := by
  unfold laws_heldInt64S.f
  refine heldLoop (L := fun k q i => laws_heldInt64S.l0 k (marked meInt64 1 m n) q i) 1 n m ?_ ?_
  · intro k i h
    have hl : (marked meInt64 1 m n).length = n := marked_length _ _ _ _
    have h1 : (i : Int) < ((marked meInt64 1 m n).length : Int) := by omega
    have e1 : wrap64 (m + 1 * (i : Int) + 1) = m + 1 * ((i + 1 : Nat) : Int) := by rw [w64 (by omega) (by omega)]; omega
    have r1 : rd (marked meInt64 1 m n) (i : Int) = meInt64 (m + 1 * i) := by rw [rdI (by omega)]; exact marked_at _ _ _ _ _ h
    simp only [laws_heldInt64S.l0, h1, Int.natCast_nonneg, if_true, r1, meInt64, w64n (show i < 9223372036854775807 by omega), e1]
  · intro k
    have hl : (marked meInt64 1 m n).length = n := marked_length _ _ _ _
    simp only [laws_heldInt64S.l0, hl, Int.lt_irrefl, if_false]
end Go.Proofs.Ythagppmaofcllaa.Q
