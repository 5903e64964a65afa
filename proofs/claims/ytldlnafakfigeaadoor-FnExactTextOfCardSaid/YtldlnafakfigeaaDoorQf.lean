/- Slices of records, numbers and bytes: copied, compared, counted, marked, held. -/
import Derived.Test.YtldlnafakfigeaaDoorLb
import Derived.Test.YtldlnafakfigeaaDoorP0
import Derived.Test.YtldlnafakfigeaaDoorPDall0
namespace Go.Proofs.YtldlnafakfigeaaDoor.Q
open Go.RowKit Go.Proofs.YtldlnafakfigeaaDoor.P Go.Proofs.YtldlnafakfigeaaDoorW.PrintWords Go.Proofs.YtldlnafakfigeaaDoorW.PrintLast Go.Proofs.YtldlnafakfigeaaDoorW.PrintMore Go.Proofs.YtldlnafakfigeaaDoor.Lb
set_option linter.unusedVariables false
set_option linter.unusedSimpArgs false
theorem rdVersion {xs : List S51} {i : Nat} (h : i < xs.length) : rd_T51 xs (i : Int) = xs[i] := by
  unfold rd_T51
  rw [Int.toNat_natCast]
  exact getD_at h _
theorem rdVersionl {xs : List S111} {i : Nat} (h : i < xs.length) : rd_T111 xs (i : Int) = xs[i] := by
  unfold rd_T111
  rw [Int.toNat_natCast]
  exact getD_at h _
def cvVersion (v : S111) : S51 := ⟨v.f0, v.f1, v.f2, v.f3⟩
theorem toVersionS (xs : List S111) (hb : xs.length ≤ 1099511627776) : Ev (fun k => laws_toVersionS.f k xs) (xs.map cvVersion) := by
  unfold laws_toVersionS.f
  refine evIte (fun _ => evIte (fun _ => ?_) (fun h => absurd (by simp; omega) h)) (fun h => absurd (by omega) h)
  rw [Int.toNat_natCast]
  refine mapLoop (L := fun k ys i => laws_toVersionS.l0 k xs ys i) cvVersion z51 xs ?_ ?_
  · intro k ys i h hl
    have h1 : (i : Int) < (xs.length : Int) := by omega
    have h2 : (i : Int) < (ys.length : Int) := by omega
    simp only [laws_toVersionS.l0, laws_toVersion.f, Option.bind_some, h1, h2, Int.natCast_nonneg, if_true, Int.toNat_natCast, rdVersionl h, w64n (show i < 9223372036854775807 by omega), cvVersion]
  · intro k ys
    simp only [laws_toVersionS.l0, Int.lt_irrefl, if_false]
theorem szVersionS (xs : List S111) (n : Int) (h0 : 0 ≤ n) (h1 : n ≤ 9223372036854775807) (hl : xs.length ≤ 9223372036854775807) : laws_szVersionS.f xs n = some (if n < xs.length then -1 else n - xs.length) := by
  unfold laws_szVersionS.f
  rw [w64 (by omega) (by omega)]
  by_cases h : n < xs.length
  · rw [if_pos (by omega), if_pos h]
  · rw [if_neg (by omega), if_neg h]
theorem eqVersionS (xs : List S51) (hb : xs.length ≤ 1099511627776) : Ev (fun k => laws_eqVersionS.f k xs xs) true := by
  unfold laws_eqVersionS.f
  simp only [if_true]
  refine allLoop (L := fun k i => laws_eqVersionS.l0 k xs xs i) xs.length ?_ ?_
  · intro k i h
    have h1 : (i : Int) < (xs.length : Int) := by omega
    simp only [laws_eqVersionS.l0, laws_eqVersion.f, Option.bind_some, h1, Int.natCast_nonneg, if_true, bne_self_eq_false, Bool.false_eq_true, if_false, rdVersion h, w64n (show i < 9223372036854775807 by omega)]
  · intro k
    simp only [laws_eqVersionS.l0, Int.lt_irrefl, if_false]
theorem rdUndo {xs : List S81} {i : Nat} (h : i < xs.length) : rd_T81 xs (i : Int) = xs[i] := by
  unfold rd_T81
  rw [Int.toNat_natCast]
  exact getD_at h _
theorem rdUndol {xs : List S109} {i : Nat} (h : i < xs.length) : rd_T109 xs (i : Int) = xs[i] := by
  unfold rd_T109
  rw [Int.toNat_natCast]
  exact getD_at h _
def cvUndo (v : S109) : S81 := ⟨v.f0, v.f1, v.f2, v.f3⟩
theorem toUndoS (xs : List S109) (hb : xs.length ≤ 1099511627776) : Ev (fun k => laws_toUndoS.f k xs) (xs.map cvUndo) := by
  unfold laws_toUndoS.f
  refine evIte (fun _ => evIte (fun _ => ?_) (fun h => absurd (by simp; omega) h)) (fun h => absurd (by omega) h)
  rw [Int.toNat_natCast]
  refine mapLoop (L := fun k ys i => laws_toUndoS.l0 k xs ys i) cvUndo z81 xs ?_ ?_
  · intro k ys i h hl
    have h1 : (i : Int) < (xs.length : Int) := by omega
    have h2 : (i : Int) < (ys.length : Int) := by omega
    simp only [laws_toUndoS.l0, laws_toUndo.f, Option.bind_some, h1, h2, Int.natCast_nonneg, if_true, Int.toNat_natCast, rdUndol h, w64n (show i < 9223372036854775807 by omega), cvUndo]
  · intro k ys
    simp only [laws_toUndoS.l0, Int.lt_irrefl, if_false]
theorem szUndoS (xs : List S109) (n : Int) (h0 : 0 ≤ n) (h1 : n ≤ 9223372036854775807) (hl : xs.length ≤ 9223372036854775807) : laws_szUndoS.f xs n = some (if n < xs.length then -1 else n - xs.length) := by
  unfold laws_szUndoS.f
  rw [w64 (by omega) (by omega)]
  by_cases h : n < xs.length
  · rw [if_pos (by omega), if_pos h]
  · rw [if_neg (by omega), if_neg h]
theorem eqUndoS (xs : List S81) (hb : xs.length ≤ 1099511627776) : Ev (fun k => laws_eqUndoS.f k xs xs) true := by
  unfold laws_eqUndoS.f
  simp only [if_true]
  refine allLoop (L := fun k i => laws_eqUndoS.l0 k xs xs i) xs.length ?_ ?_
  · intro k i h
    have h1 : (i : Int) < (xs.length : Int) := by omega
    simp only [laws_eqUndoS.l0, laws_eqUndo.f, Option.bind_some, h1, Int.natCast_nonneg, if_true, bne_self_eq_false, Bool.false_eq_true, if_false, rdUndo h, w64n (show i < 9223372036854775807 by omega)]
  · intro k
    simp only [laws_eqUndoS.l0, Int.lt_irrefl, if_false]
theorem rdI {xs : List Int} {i : Nat} (h : i < xs.length) : rd xs (i : Int) = xs[i] := by
  unfold rd
  rw [Int.toNat_natCast]
  exact getD_at h _
end Go.Proofs.YtldlnafakfigeaaDoor.Q

