/- Slices of records, numbers and bytes: copied, compared, counted, marked, held. -/
import Derived.Test.YtonbnmaelepcbaaLb
import Derived.Test.YtonbnmaelepcbaaP0
import Derived.Test.YtonbnmaelepcbaaPDacdefgh0
import Derived.Test.YtonbnmaelepcbaaPDb0
import Derived.Test.YtonbnmaelepcbaaPDm0
import Derived.Test.YtonbnmaelepcbaaPDm1
import Derived.Test.YtonbnmaelepcbaaPDm2
namespace Go.Proofs.Ytonbnmaelepcbaa.Q
open Go.RowKit Go.Proofs.Ytonbnmaelepcbaa.P Go.Proofs.YtonbnmaelepcbaaW.PrintWords Go.Proofs.YtonbnmaelepcbaaW.PrintLast Go.Proofs.YtonbnmaelepcbaaW.PrintMore Go.Proofs.Ytonbnmaelepcbaa.Lb
set_option linter.unusedVariables false
set_option linter.unusedSimpArgs false
theorem rdCell {xs : List S105} {i : Nat} (h : i < xs.length) : rd_T105 xs (i : Int) = xs[i] := by
  unfold rd_T105
  rw [Int.toNat_natCast]
  exact getD_at h _
theorem rdCell_mid (pre : List S105) (v : S105) (vs : List S105) : rd_T105 (pre ++ v :: vs) (pre.length : Int) = v := by rw [rdCell (by simp)]; simp
theorem rdCelll {xs : List S107} {i : Nat} (h : i < xs.length) : rd_T107 xs (i : Int) = xs[i] := by
  unfold rd_T107
  rw [Int.toNat_natCast]
  exact getD_at h _
def cvCell (v : S107) : S105 := ⟨v.f0, v.f1⟩
theorem toCellS (xs : List S107) (hb : xs.length ≤ 1099511627776) : Ev (fun k => laws_toCellS.f k xs) (xs.map cvCell) := by
  unfold laws_toCellS.f
  refine evIte (fun _ => evIte (fun _ => ?_) (fun h => absurd (by simp; omega) h)) (fun h => absurd (by omega) h)
  rw [Int.toNat_natCast]
  refine mapLoop (L := fun k ys i => laws_toCellS.l0 k xs ys i) cvCell z105 xs ?_ ?_
  · intro k ys i h hl
    have h1 : (i : Int) < (xs.length : Int) := by omega
    have h2 : (i : Int) < (ys.length : Int) := by omega
    simp only [laws_toCellS.l0, laws_toCell.f, Option.bind_some, h1, h2, Int.natCast_nonneg, if_true, Int.toNat_natCast, rdCelll h, w64n (show i < 9223372036854775807 by omega), cvCell]
  · intro k ys
    simp only [laws_toCellS.l0, Int.lt_irrefl, if_false]
theorem szCellS (xs : List S107) (n : Int) (h0 : 0 ≤ n) (h1 : n ≤ 9223372036854775807) (hl : xs.length ≤ 9223372036854775807) : laws_szCellS.f xs n = some (if n < xs.length then -1 else n - xs.length) := by
  unfold laws_szCellS.f
  rw [w64 (by omega) (by omega)]
  by_cases h : n < xs.length
  · rw [if_pos (by omega), if_pos h]
  · rw [if_neg (by omega), if_neg h]
theorem eqCellS (xs : List S105) (hb : xs.length ≤ 1099511627776) : Ev (fun k => laws_eqCellS.f k xs xs) true := by
  unfold laws_eqCellS.f
  simp only [if_true]
  refine allLoop (L := fun k i => laws_eqCellS.l0 k xs xs i) xs.length ?_ ?_
  · intro k i h
    have h1 : (i : Int) < (xs.length : Int) := by omega
    simp only [laws_eqCellS.l0, laws_eqCell.f, Option.bind_some, h1, Int.natCast_nonneg, if_true, rdCell h, w64n (show i < 9223372036854775807 by omega)]
  · intro k
    simp only [laws_eqCellS.l0, Int.lt_irrefl, if_false]
/-- What marking writes into one. -/
def meCell (m : Int) : S105 := ⟨m, m + 1⟩
theorem markCellS (xs : List S105) (m : Int) (hm0 : 0 ≤ m) (hm : m ≤ 1152921504606846976) (hb : xs.length ≤ 1099511627776) : Ev (fun k => laws_markCellS.f k xs m) (m + 2 * xs.length, marked meCell 2 m xs.length) := by
  unfold laws_markCellS.f
  refine markLoop (L := fun k ys q i => laws_markCellS.l0 k ys q i) meCell 2 xs.length m ?_ ?_ xs rfl
  · intro k ys i h hl
    have h1 : (i : Int) < (ys.length : Int) := by omega
    have h0 : i < ys.length := by omega
    have e1 : wrap64 (m + 2 * (i : Int) + 1) = m + 2 * i + 1 := by rw [w64 (by omega) (by omega)]
    have e2 : wrap64 (m + 2 * (i : Int) + 1 + 1) = m + 2 * ((i + 1 : Nat) : Int) := by rw [w64 (by omega) (by omega)]; omega
    have r1 : ∀ y : S105, rd_T105 (ys.set i y) (i : Int) = y := fun y => by rw [rdCell (by simpa using h0)]; simp
    simp only [laws_markCellS.l0, Option.bind_some, h1, Int.natCast_nonneg, if_true, Int.toNat_natCast, rdCell h0, w64n (show i < 9223372036854775807 by omega), e1, e2, r1, List.set_set, meCell]
  · intro k ys q hl
    simp only [laws_markCellS.l0, hl, Int.lt_irrefl, if_false]
theorem heldCellS (n : Nat) (m : Int) (hm0 : 0 ≤ m) (hm : m ≤ 1152921504606846976) (hb : n ≤ 1099511627776) : Ev (fun k => laws_heldCellS.f k (marked meCell 2 m n) m) (m + 2 * n) := by
  unfold laws_heldCellS.f
  refine heldLoop (L := fun k q i => laws_heldCellS.l0 k (marked meCell 2 m n) q i) 2 n m ?_ ?_
  · intro k i h
    have hl : (marked meCell 2 m n).length = n := marked_length _ _ _ _
    have h1 : (i : Int) < ((marked meCell 2 m n).length : Int) := by omega
    have e1 : wrap64 (m + 2 * (i : Int) + 1) = m + 2 * i + 1 := by rw [w64 (by omega) (by omega)]
    have e2 : wrap64 (m + 2 * (i : Int) + 1 + 1) = m + 2 * ((i + 1 : Nat) : Int) := by rw [w64 (by omega) (by omega)]; omega
    have r1 : rd_T105 (marked meCell 2 m n) (i : Int) = meCell (m + 2 * i) := by rw [rdCell (by omega)]; exact marked_at _ _ _ _ _ h
    simp only [laws_heldCellS.l0, h1, Int.natCast_nonneg, if_true, r1, meCell, w64n (show i < 9223372036854775807 by omega), e1, e2]
  · intro k
    have hl : (marked meCell 2 m n).length = n := marked_length _ _ _ _
    simp only [laws_heldCellS.l0, hl, Int.lt_irrefl, if_false]
theorem rdVersion {xs : List S90} {i : Nat} (h : i < xs.length) : rd_T90 xs (i : Int) = xs[i] := by
  unfold rd_T90
  rw [Int.toNat_natCast]
  exact getD_at h _
theorem rdVersion_mid (pre : List S90) (v : S90) (vs : List S90) : rd_T90 (pre ++ v :: vs) (pre.length : Int) = v := by rw [rdVersion (by simp)]; simp
theorem rdVersionl {xs : List S173} {i : Nat} (h : i < xs.length) : rd_T173 xs (i : Int) = xs[i] := by
  unfold rd_T173
  rw [Int.toNat_natCast]
  exact getD_at h _
def cvVersion (v : S173) : S90 := ⟨v.f0, v.f1, v.f2, v.f3⟩
theorem toVersionS (xs : List S173) (hb : xs.length ≤ 1099511627776) : Ev (fun k => laws_toVersionS.f k xs) (xs.map cvVersion) := by
  unfold laws_toVersionS.f
  refine evIte (fun _ => evIte (fun _ => ?_) (fun h => absurd (by simp; omega) h)) (fun h => absurd (by omega) h)
  rw [Int.toNat_natCast]
  refine mapLoop (L := fun k ys i => laws_toVersionS.l0 k xs ys i) cvVersion z90 xs ?_ ?_
  · intro k ys i h hl
    have h1 : (i : Int) < (xs.length : Int) := by omega
    have h2 : (i : Int) < (ys.length : Int) := by omega
    simp only [laws_toVersionS.l0, laws_toVersion.f, Option.bind_some, h1, h2, Int.natCast_nonneg, if_true, Int.toNat_natCast, rdVersionl h, w64n (show i < 9223372036854775807 by omega), cvVersion]
  · intro k ys
    simp only [laws_toVersionS.l0, Int.lt_irrefl, if_false]
theorem szVersionS (xs : List S173) (n : Int) (h0 : 0 ≤ n) (h1 : n ≤ 9223372036854775807) (hl : xs.length ≤ 9223372036854775807) : laws_szVersionS.f xs n = some (if n < xs.length then -1 else n - xs.length) := by
  unfold laws_szVersionS.f
  rw [w64 (by omega) (by omega)]
  by_cases h : n < xs.length
  · rw [if_pos (by omega), if_pos h]
  · rw [if_neg (by omega), if_neg h]
theorem eqVersionS (xs : List S90) (hb : xs.length ≤ 1099511627776) : Ev (fun k => laws_eqVersionS.f k xs xs) true := by
  unfold laws_eqVersionS.f
  simp only [if_true]
  refine allLoop (L := fun k i => laws_eqVersionS.l0 k xs xs i) xs.length ?_ ?_
  · intro k i h
    have h1 : (i : Int) < (xs.length : Int) := by omega
    simp only [laws_eqVersionS.l0, laws_eqVersion.f, Option.bind_some, h1, Int.natCast_nonneg, if_true, bne_self_eq_false, Bool.false_eq_true, if_false, rdVersion h, w64n (show i < 9223372036854775807 by omega)]
  · intro k
    simp only [laws_eqVersionS.l0, Int.lt_irrefl, if_false]
/-- What marking writes into one. -/
def meVersion (m : Int) : S90 := ⟨m, m + 1, (m + 2).tmod 3 == 0, m + 3⟩
theorem markVersionS (xs : List S90) (m : Int) (hm0 : 0 ≤ m) (hm : m ≤ 1152921504606846976) (hb : xs.length ≤ 1099511627776) : Ev (fun k => laws_markVersionS.f k xs m) (m + 4 * xs.length, marked meVersion 4 m xs.length) := by
  unfold laws_markVersionS.f
  refine markLoop (L := fun k ys q i => laws_markVersionS.l0 k ys q i) meVersion 4 xs.length m ?_ ?_ xs rfl
  · intro k ys i h hl
    have h1 : (i : Int) < (ys.length : Int) := by omega
    have h0 : i < ys.length := by omega
    have e1 : wrap64 (m + 4 * (i : Int) + 1) = m + 4 * i + 1 := by rw [w64 (by omega) (by omega)]
    have e2 : wrap64 (m + 4 * (i : Int) + 1 + 1) = m + 4 * i + 2 := by rw [w64 (by omega) (by omega)]; omega
    have e3 : wrap64 (m + 4 * (i : Int) + 2 + 1) = m + 4 * i + 3 := by rw [w64 (by omega) (by omega)]; omega
    have e4 : wrap64 (m + 4 * (i : Int) + 3 + 1) = m + 4 * ((i + 1 : Nat) : Int) := by rw [w64 (by omega) (by omega)]; omega
    have r1 : ∀ y : S90, rd_T90 (ys.set i y) (i : Int) = y := fun y => by rw [rdVersion (by simpa using h0)]; simp
    simp only [laws_markVersionS.l0, Option.bind_some, h1, Int.natCast_nonneg, if_true, Int.toNat_natCast, rdVersion h0, w64n (show i < 9223372036854775807 by omega), e1, e2, e3, e4, r1, List.set_set, meVersion]
  · intro k ys q hl
    simp only [laws_markVersionS.l0, hl, Int.lt_irrefl, if_false]
theorem heldVersionS (n : Nat) (m : Int) (hm0 : 0 ≤ m) (hm : m ≤ 1152921504606846976) (hb : n ≤ 1099511627776) : Ev (fun k => laws_heldVersionS.f k (marked meVersion 4 m n) m) (m + 4 * n) := by
  unfold laws_heldVersionS.f
  refine heldLoop (L := fun k q i => laws_heldVersionS.l0 k (marked meVersion 4 m n) q i) 4 n m ?_ ?_
  · intro k i h
    have hl : (marked meVersion 4 m n).length = n := marked_length _ _ _ _
    have h1 : (i : Int) < ((marked meVersion 4 m n).length : Int) := by omega
    have e1 : wrap64 (m + 4 * (i : Int) + 1) = m + 4 * i + 1 := by rw [w64 (by omega) (by omega)]
    have e2 : wrap64 (m + 4 * (i : Int) + 1 + 1) = m + 4 * i + 2 := by rw [w64 (by omega) (by omega)]; omega
    have e3 : wrap64 (m + 4 * (i : Int) + 2 + 1) = m + 4 * i + 3 := by rw [w64 (by omega) (by omega)]; omega
    have e4 : wrap64 (m + 4 * (i : Int) + 3 + 1) = m + 4 * ((i + 1 : Nat) : Int) := by rw [w64 (by omega) (by omega)]; omega
    have r1 : rd_T90 (marked meVersion 4 m n) (i : Int) = meVersion (m + 4 * i) := by rw [rdVersion (by omega)]; exact marked_at _ _ _ _ _ h
    simp only [laws_heldVersionS.l0, h1, Int.natCast_nonneg, if_true, r1, meVersion, w64n (show i < 9223372036854775807 by omega), e1, e2, e3, e4, bne_self_eq_false, Bool.false_eq_true, if_false]
  · intro k
    have hl : (marked meVersion 4 m n).length = n := marked_length _ _ _ _
    simp only [laws_heldVersionS.l0, hl, Int.lt_irrefl, if_false]
theorem rdUndo {xs : List S96} {i : Nat} (h : i < xs.length) : rd_T96 xs (i : Int) = xs[i] := by
  unfold rd_T96
  rw [Int.toNat_natCast]
  exact getD_at h _
theorem rdUndo_mid (pre : List S96) (v : S96) (vs : List S96) : rd_T96 (pre ++ v :: vs) (pre.length : Int) = v := by rw [rdUndo (by simp)]; simp
theorem rdUndol {xs : List S171} {i : Nat} (h : i < xs.length) : rd_T171 xs (i : Int) = xs[i] := by
  unfold rd_T171
  rw [Int.toNat_natCast]
  exact getD_at h _
def cvUndo (v : S171) : S96 := ⟨v.f0, v.f1, v.f2, v.f3⟩
theorem toUndoS (xs : List S171) (hb : xs.length ≤ 1099511627776) : Ev (fun k => laws_toUndoS.f k xs) (xs.map cvUndo) := by
  unfold laws_toUndoS.f
  refine evIte (fun _ => evIte (fun _ => ?_) (fun h => absurd (by simp; omega) h)) (fun h => absurd (by omega) h)
  rw [Int.toNat_natCast]
  refine mapLoop (L := fun k ys i => laws_toUndoS.l0 k xs ys i) cvUndo z96 xs ?_ ?_
  · intro k ys i h hl
    have h1 : (i : Int) < (xs.length : Int) := by omega
    have h2 : (i : Int) < (ys.length : Int) := by omega
    simp only [laws_toUndoS.l0, laws_toUndo.f, Option.bind_some, h1, h2, Int.natCast_nonneg, if_true, Int.toNat_natCast, rdUndol h, w64n (show i < 9223372036854775807 by omega), cvUndo]
  · intro k ys
    simp only [laws_toUndoS.l0, Int.lt_irrefl, if_false]
theorem szUndoS (xs : List S171) (n : Int) (h0 : 0 ≤ n) (h1 : n ≤ 9223372036854775807) (hl : xs.length ≤ 9223372036854775807) : laws_szUndoS.f xs n = some (if n < xs.length then -1 else n - xs.length) := by
  unfold laws_szUndoS.f
  rw [w64 (by omega) (by omega)]
  by_cases h : n < xs.length
  · rw [if_pos (by omega), if_pos h]
  · rw [if_neg (by omega), if_neg h]
theorem eqUndoS (xs : List S96) (hb : xs.length ≤ 1099511627776) : Ev (fun k => laws_eqUndoS.f k xs xs) true := by
  unfold laws_eqUndoS.f
  simp only [if_true]
  refine allLoop (L := fun k i => laws_eqUndoS.l0 k xs xs i) xs.length ?_ ?_
  · intro k i h
    have h1 : (i : Int) < (xs.length : Int) := by omega
    simp only [laws_eqUndoS.l0, laws_eqUndo.f, Option.bind_some, h1, Int.natCast_nonneg, if_true, bne_self_eq_false, Bool.false_eq_true, if_false, rdUndo h, w64n (show i < 9223372036854775807 by omega)]
  · intro k
    simp only [laws_eqUndoS.l0, Int.lt_irrefl, if_false]
/-- What marking writes into one. -/
def meUndo (m : Int) : S96 := ⟨m, (m + 1).tmod 3 == 0, (m + 2).tmod 3 == 0, m + 3⟩
theorem markUndoS (xs : List S96) (m : Int) (hm0 : 0 ≤ m) (hm : m ≤ 1152921504606846976) (hb : xs.length ≤ 1099511627776) : Ev (fun k => laws_markUndoS.f k xs m) (m + 4 * xs.length, marked meUndo 4 m xs.length) := by
  unfold laws_markUndoS.f
  refine markLoop (L := fun k ys q i => laws_markUndoS.l0 k ys q i) meUndo 4 xs.length m ?_ ?_ xs rfl
  · intro k ys i h hl
    have h1 : (i : Int) < (ys.length : Int) := by omega
    have h0 : i < ys.length := by omega
    have e1 : wrap64 (m + 4 * (i : Int) + 1) = m + 4 * i + 1 := by rw [w64 (by omega) (by omega)]
    have e2 : wrap64 (m + 4 * (i : Int) + 1 + 1) = m + 4 * i + 2 := by rw [w64 (by omega) (by omega)]; omega
    have e3 : wrap64 (m + 4 * (i : Int) + 2 + 1) = m + 4 * i + 3 := by rw [w64 (by omega) (by omega)]; omega
    have e4 : wrap64 (m + 4 * (i : Int) + 3 + 1) = m + 4 * ((i + 1 : Nat) : Int) := by rw [w64 (by omega) (by omega)]; omega
    have r1 : ∀ y : S96, rd_T96 (ys.set i y) (i : Int) = y := fun y => by rw [rdUndo (by simpa using h0)]; simp
    simp only [laws_markUndoS.l0, Option.bind_some, h1, Int.natCast_nonneg, if_true, Int.toNat_natCast, rdUndo h0, w64n (show i < 9223372036854775807 by omega), e1, e2, e3, e4, r1, List.set_set, meUndo]
  · intro k ys q hl
    simp only [laws_markUndoS.l0, hl, Int.lt_irrefl, if_false]
theorem heldUndoS (n : Nat) (m : Int) (hm0 : 0 ≤ m) (hm : m ≤ 1152921504606846976) (hb : n ≤ 1099511627776) : Ev (fun k => laws_heldUndoS.f k (marked meUndo 4 m n) m) (m + 4 * n) := by
  unfold laws_heldUndoS.f
  refine heldLoop (L := fun k q i => laws_heldUndoS.l0 k (marked meUndo 4 m n) q i) 4 n m ?_ ?_
  · intro k i h
    have hl : (marked meUndo 4 m n).length = n := marked_length _ _ _ _
    have h1 : (i : Int) < ((marked meUndo 4 m n).length : Int) := by omega
    have e1 : wrap64 (m + 4 * (i : Int) + 1) = m + 4 * i + 1 := by rw [w64 (by omega) (by omega)]
    have e2 : wrap64 (m + 4 * (i : Int) + 1 + 1) = m + 4 * i + 2 := by rw [w64 (by omega) (by omega)]; omega
    have e3 : wrap64 (m + 4 * (i : Int) + 2 + 1) = m + 4 * i + 3 := by rw [w64 (by omega) (by omega)]; omega
    have e4 : wrap64 (m + 4 * (i : Int) + 3 + 1) = m + 4 * ((i + 1 : Nat) : Int) := by rw [w64 (by omega) (by omega)]; omega
    have r1 : rd_T96 (marked meUndo 4 m n) (i : Int) = meUndo (m + 4 * i) := by rw [rdUndo (by omega)]; exact marked_at _ _ _ _ _ h
    simp only [laws_heldUndoS.l0, h1, Int.natCast_nonneg, if_true, r1, meUndo, w64n (show i < 9223372036854775807 by omega), e1, e2, e3, e4, bne_self_eq_false, Bool.false_eq_true, if_false]
  · intro k
    have hl : (marked meUndo 4 m n).length = n := marked_length _ _ _ _
    simp only [laws_heldUndoS.l0, hl, Int.lt_irrefl, if_false]
theorem rdI {xs : List Int} {i : Nat} (h : i < xs.length) : rd xs (i : Int) = xs[i] := by
  unfold rd
  rw [Int.toNat_natCast]
  exact getD_at h _
theorem rdI_mid (pre : List Int) (v : Int) (vs : List Int) : rd (pre ++ v :: vs) (pre.length : Int) = v := by rw [rdI (by simp)]; simp
theorem eqInt64S (xs : List Int) (hb : xs.length ≤ 1099511627776) : Ev (fun k => laws_eqInt64S.f k xs xs) true := by
  unfold laws_eqInt64S.f
  simp only [if_true]
  refine allLoop (L := fun k i => laws_eqInt64S.l0 k xs xs i) xs.length ?_ ?_
  · intro k i h
    have h1 : (i : Int) < (xs.length : Int) := by omega
    simp only [laws_eqInt64S.l0, h1, Int.natCast_nonneg, if_true, w64n (show i < 9223372036854775807 by omega)]
  · intro k
    simp only [laws_eqInt64S.l0, Int.lt_irrefl, if_false]
def meInt64 (m : Int) : Int := m
theorem markInt64S (xs : List Int) (m : Int) (hm0 : 0 ≤ m) (hm : m ≤ 1152921504606846976) (hb : xs.length ≤ 1099511627776) : Ev (fun k => laws_markInt64S.f k xs m) (m + 1 * xs.length, marked meInt64 1 m xs.length) := by
  unfold laws_markInt64S.f
  refine markLoop (L := fun k ys q i => laws_markInt64S.l0 k ys q i) meInt64 1 xs.length m ?_ ?_ xs rfl
  · intro k ys i h hl
    have h1 : (i : Int) < (ys.length : Int) := by omega
    have e1 : wrap64 (m + 1 * (i : Int) + 1) = m + 1 * ((i + 1 : Nat) : Int) := by rw [w64 (by omega) (by omega)]; omega
    simp only [laws_markInt64S.l0, h1, Int.natCast_nonneg, if_true, Int.toNat_natCast, w64n (show i < 9223372036854775807 by omega), e1, meInt64]
  · intro k ys q hl
    simp only [laws_markInt64S.l0, hl, Int.lt_irrefl, if_false]
theorem heldInt64S (n : Nat) (m : Int) (hm0 : 0 ≤ m) (hm : m ≤ 1152921504606846976) (hb : n ≤ 1099511627776) : Ev (fun k => laws_heldInt64S.f k (marked meInt64 1 m n) m) (m + 1 * n) := by
  unfold laws_heldInt64S.f
  refine heldLoop (L := fun k q i => laws_heldInt64S.l0 k (marked meInt64 1 m n) q i) 1 n m ?_ ?_
  · intro k i h
    have hl : (marked meInt64 1 m n).length = n := marked_length _ _ _ _
    have h1 : (i : Int) < ((marked meInt64 1 m n).length : Int) := by omega
    have e1 : wrap64 (m + 1 * (i : Int) + 1) = m + 1 * ((i + 1 : Nat) : Int) := by rw [w64 (by omega) (by omega)]; omega
    have r1 : rd (marked meInt64 1 m n) (i : Int) = meInt64 (m + 1 * i) := by rw [rdI (by omega)]; exact marked_at _ _ _ _ _ h
    simp only [laws_heldInt64S.l0, h1, Int.natCast_nonneg, if_true, r1, meInt64, w64n (show i < 9223372036854775807 by omega), e1]
  · intro k
    have hl : (marked meInt64 1 m n).length = n := marked_length _ _ _ _
    simp only [laws_heldInt64S.l0, hl, Int.lt_irrefl, if_false]
end Go.Proofs.Ytonbnmaelepcbaa.Q
