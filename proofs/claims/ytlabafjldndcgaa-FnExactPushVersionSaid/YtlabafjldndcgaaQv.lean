/- Versions: copying, comparing, marking them; chains' faults: what both sides come to. -/
import Derived.Test.YtlabafjldndcgaaLb
import Derived.Test.YtlabafjldndcgaaP0
import Derived.Test.YtlabafjldndcgaaPD0
namespace Go.Proofs.Ytlabafjldndcgaa.Q
open Go.RowKit Go.Proofs.Ytlabafjldndcgaa.P Go.Proofs.YtlabafjldndcgaaW.PrintWords Go.Proofs.YtlabafjldndcgaaW.PrintLast Go.Proofs.YtlabafjldndcgaaW.PrintMore Go.Proofs.Ytlabafjldndcgaa.Lb
set_option linter.unusedVariables false
set_option linter.unusedSimpArgs false

theorem rdV {xs : List S58} {i : Nat} (h : i < xs.length) : rd_T58 xs (i : Int) = xs[i] := by
  unfold rd_T58
  rw [Int.toNat_natCast]
  exact getD_at h _
theorem rdVl {xs : List S61} {i : Nat} (h : i < xs.length) : rd_T61 xs (i : Int) = xs[i] := by
  unfold rd_T61
  rw [Int.toNat_natCast]
  exact getD_at h _
def cvV (v : S61) : S58 := ⟨v.f0, v.f1, v.f2, v.f3⟩

theorem toVersionS (xs : List S61) (hb : xs.length ≤ 8796093022208) : Ev (fun k => laws_toVersionS.f k xs) (xs.map cvV) := by
  unfold laws_toVersionS.f
  simp only [Int.natCast_nonneg, if_true, Int.toNat_natCast, hb]
  refine mapLoop (L := fun k ys i => laws_toVersionS.l0 k xs ys i) cvV z58 xs ?_ ?_
  · intro k ys i h hl
    have h1 : (i : Int) < (xs.length : Int) := by omega
    have h2 : (i : Int) < (ys.length : Int) := by omega
    simp only [laws_toVersionS.l0, laws_toVersion.f, Option.bind_some, h1, h2, Int.natCast_nonneg, if_true, Int.toNat_natCast, rdVl h, w64n (show i < 9223372036854775807 by omega), cvV]
  · intro k ys
    simp only [laws_toVersionS.l0, Int.lt_irrefl, if_false]

theorem eqVersionS (xs : List S58) (hb : xs.length ≤ 8796093022208) : Ev (fun k => laws_eqVersionS.f k xs xs) true := by
  unfold laws_eqVersionS.f
  simp only [if_true]
  refine allLoop (L := fun k i => laws_eqVersionS.l0 k xs xs i) xs.length ?_ ?_
  · intro k i h
    have h1 : (i : Int) < (xs.length : Int) := by omega
    simp only [laws_eqVersionS.l0, laws_eqVersion.f, Option.bind_some, h1, Int.natCast_nonneg, if_true, rdV h, w64n (show i < 9223372036854775807 by omega), bne_self_eq_false, Bool.false_eq_true, if_false]
  · intro k
    simp only [laws_eqVersionS.l0, Int.lt_irrefl, if_false]

theorem szVersionS (xs : List S61) (n : Int) (h0 : 0 ≤ n) (h1 : n ≤ 9223372036854775807) (hl : xs.length ≤ 9223372036854775807) : laws_szVersionS.f xs n = some (if n < xs.length then -1 else n - xs.length) := by
  unfold laws_szVersionS.f
  rw [w64 (by omega) (by omega)]
  by_cases h : n < xs.length
  · rw [if_pos (by omega), if_pos h]
  · rw [if_neg (by omega), if_neg h]

/-- What marking writes into a version. -/
def meV (m : Int) : S58 := ⟨m, m + 1, (m + 2).tmod 3 == 0, m + 3⟩
theorem markVersionS (xs : List S58) (m : Int) (hm0 : 0 ≤ m) (hm : m ≤ 1152921504606846976) (hb : xs.length ≤ 8796093022208) : Ev (fun k => laws_markVersionS.f k xs m) (m + 4 * xs.length, marked meV 4 m xs.length) := by
  unfold laws_markVersionS.f
  refine markLoop (L := fun k ys q i => laws_markVersionS.l0 k ys q i) meV 4 xs.length m ?_ ?_ xs rfl
  · intro k ys i h hl
    have h1 : (i : Int) < (ys.length : Int) := by omega
    have h0 : i < ys.length := by omega
    have e1 : wrap64 (m + 4 * (i : Int) + 1) = m + 4 * i + 1 := w64 (by omega) (by omega)
    have e2 : wrap64 (m + 4 * (i : Int) + 1 + 1) = m + 4 * i + 2 := by rw [w64 (by omega) (by omega)]; omega
    have e3 : wrap64 (m + 4 * (i : Int) + 2 + 1) = m + 4 * i + 3 := by rw [w64 (by omega) (by omega)]; omega
    have e4 : wrap64 (m + 4 * (i : Int) + 3 + 1) = m + 4 * ((i + 1 : Nat) : Int) := by rw [w64 (by omega) (by omega)]; omega
    have r1 : ∀ y : S58, rd_T58 (ys.set i y) (i : Int) = y := fun y => by rw [rdV (by simpa using h0)]; simp
    simp only [laws_markVersionS.l0, Option.bind_some, h1, Int.natCast_nonneg, if_true, Int.toNat_natCast, rdV h0, w64n (show i < 9223372036854775807 by omega), e1, e2, e3, e4, r1, List.set_set, meV]
  · intro k ys q hl
    simp only [laws_markVersionS.l0, hl, Int.lt_irrefl, if_false]
theorem heldVersionS (n : Nat) (m : Int) (hm0 : 0 ≤ m) (hm : m ≤ 1152921504606846976) (hb : n ≤ 8796093022208) : Ev (fun k => laws_heldVersionS.f k (marked meV 4 m n) m) (m + 4 * n) := by
  unfold laws_heldVersionS.f
  refine heldLoop (L := fun k q i => laws_heldVersionS.l0 k (marked meV 4 m n) q i) 4 n m ?_ ?_
  · intro k i h
    have hl : (marked meV 4 m n).length = n := marked_length _ _ _ _
    have h1 : (i : Int) < ((marked meV 4 m n).length : Int) := by omega
    have e1 : wrap64 (m + 4 * (i : Int) + 1) = m + 4 * i + 1 := w64 (by omega) (by omega)
    have e2 : wrap64 (m + 4 * (i : Int) + 1 + 1) = m + 4 * i + 2 := by rw [w64 (by omega) (by omega)]; omega
    have e3 : wrap64 (m + 4 * (i : Int) + 2 + 1) = m + 4 * i + 3 := by rw [w64 (by omega) (by omega)]; omega
    have e4 : wrap64 (m + 4 * (i : Int) + 3 + 1) = m + 4 * ((i + 1 : Nat) : Int) := by rw [w64 (by omega) (by omega)]; omega
    have r1 : rd_T58 (marked meV 4 m n) (i : Int) = meV (m + 4 * i) := by rw [rdV (by omega)]; exact marked_at _ _ _ _ _ h
    simp only [laws_heldVersionS.l0, h1, Int.natCast_nonneg, if_true, r1, meV, w64n (show i < 9223372036854775807 by omega), e1, e2, e3, e4, bne_self_eq_false, Bool.false_eq_true, if_false]
  · intro k
    have hl : (marked meV 4 m n).length = n := marked_length _ _ _ _
    simp only [laws_heldVersionS.l0, hl, Int.lt_irrefl, if_false]
end Go.Proofs.Ytlabafjldndcgaa.Q
