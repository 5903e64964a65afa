/- Slices of records, numbers and bytes: copied, compared, counted, marked, held. -/
import Derived.Test.YtgbjfdaldakpiaaLb
import Derived.Test.YtgbjfdaldakpiaaP0
import Derived.Test.YtgbjfdaldakpiaaPD0
namespace Go.Proofs.Ytgbjfdaldakpiaa.Q
open Go.RowKit Go.Proofs.Ytgbjfdaldakpiaa.P Go.Proofs.YtgbjfdaldakpiaaW.PrintWords Go.Proofs.YtgbjfdaldakpiaaW.PrintLast Go.Proofs.YtgbjfdaldakpiaaW.PrintMore Go.Proofs.Ytgbjfdaldakpiaa.Lb
set_option linter.unusedVariables false
set_option linter.unusedSimpArgs false
theorem rdPair {xs : List S38} {i : Nat} (h : i < xs.length) : rd_T38 xs (i : Int) = xs[i] := by
  unfold rd_T38
  rw [Int.toNat_natCast]
  exact getD_at h _
theorem rdPair_mid (pre : List S38) (v : S38) (vs : List S38) : rd_T38 (pre ++ v :: vs) (pre.length : Int) = v := by rw [rdPair (by simp)]; simp
theorem rdPairl {xs : List S40} {i : Nat} (h : i < xs.length) : rd_T40 xs (i : Int) = xs[i] := by
  unfold rd_T40
  rw [Int.toNat_natCast]
  exact getD_at h _
def cvPair (v : S40) : S38 := ⟨v.f0, v.f1⟩
theorem toPairS (xs : List S40) (hb : xs.length ≤ 1099511627776) : Ev (fun k => laws_toPairS.f k xs) (xs.map cvPair) := by
  unfold laws_toPairS.f
  refine evIte (fun _ => evIte (fun _ => ?_) (fun h => absurd (by simp; omega) h)) (fun h => absurd (by omega) h)
  rw [Int.toNat_natCast]
  refine mapLoop (L := fun k ys i => laws_toPairS.l0 k xs ys i) cvPair z38 xs ?_ ?_
  · intro k ys i h hl
    have h1 : (i : Int) < (xs.length : Int) := by omega
    have h2 : (i : Int) < (ys.length : Int) := by omega
    simp only [laws_toPairS.l0, laws_toPair.f, Option.bind_some, h1, h2, Int.natCast_nonneg, if_true, Int.toNat_natCast, rdPairl h, w64n (show i < 9223372036854775807 by omega), cvPair]
  · intro k ys
    simp only [laws_toPairS.l0, Int.lt_irrefl, if_false]
theorem szPairS (xs : List S40) (n : Int) (h0 : 0 ≤ n) (h1 : n ≤ 9223372036854775807) (hl : xs.length ≤ 9223372036854775807) : laws_szPairS.f xs n = some (if n < xs.length then -1 else n - xs.length) := by
  unfold laws_szPairS.f
  rw [w64 (by omega) (by omega)]
  by_cases h : n < xs.length
  · rw [if_pos (by omega), if_pos h]
  · rw [if_neg (by omega), if_neg h]
theorem eqPairS (xs : List S38) (hb : xs.length ≤ 1099511627776) : Ev (fun k => laws_eqPairS.f k xs xs) true := by
  unfold laws_eqPairS.f
  simp only [if_true]
  refine allLoop (L := fun k i => laws_eqPairS.l0 k xs xs i) xs.length ?_ ?_
  · intro k i h
    have h1 : (i : Int) < (xs.length : Int) := by omega
    simp only [laws_eqPairS.l0, laws_eqPair.f, Option.bind_some, h1, Int.natCast_nonneg, if_true, rdPair h, w64n (show i < 9223372036854775807 by omega)]
  · intro k
    simp only [laws_eqPairS.l0, Int.lt_irrefl, if_false]
/-- What marking writes into one. -/
def mePair (m : Int) : S38 := ⟨m, m + 1⟩
theorem markPairS (xs : List S38) (m : Int) (hm0 : 0 ≤ m) (hm : m ≤ 1152921504606846976) (hb : xs.length ≤ 1099511627776) : Ev (fun k => laws_markPairS.f k xs m) (m + 2 * xs.length, marked mePair 2 m xs.length) := by
  unfold laws_markPairS.f
  refine markLoop (L := fun k ys q i => laws_markPairS.l0 k ys q i) mePair 2 xs.length m ?_ ?_ xs rfl
  · intro k ys i h hl
    have h1 : (i : Int) < (ys.length : Int) := by omega
    have h0 : i < ys.length := by omega
    have e1 : wrap64 (m + 2 * (i : Int) + 1) = m + 2 * i + 1 := by rw [w64 (by omega) (by omega)]
    have e2 : wrap64 (m + 2 * (i : Int) + 1 + 1) = m + 2 * ((i + 1 : Nat) : Int) := by rw [w64 (by omega) (by omega)]; omega
    have r1 : ∀ y : S38, rd_T38 (ys.set i y) (i : Int) = y := fun y => by rw [rdPair (by simpa using h0)]; simp
    simp only [laws_markPairS.l0, Option.bind_some, h1, Int.natCast_nonneg, if_true, Int.toNat_natCast, rdPair h0, w64n (show i < 9223372036854775807 by omega), e1, e2, r1, List.set_set, mePair]
  · intro k ys q hl
    simp only [laws_markPairS.l0, hl, Int.lt_irrefl, if_false]
theorem heldPairS (n : Nat) (m : Int) (hm0 : 0 ≤ m) (hm : m ≤ 1152921504606846976) (hb : n ≤ 1099511627776) : Ev (fun k => laws_heldPairS.f k (marked mePair 2 m n) m) (m + 2 * n) := by
  unfold laws_heldPairS.f
  refine heldLoop (L := fun k q i => laws_heldPairS.l0 k (marked mePair 2 m n) q i) 2 n m ?_ ?_
  · intro k i h
    have hl : (marked mePair 2 m n).length = n := marked_length _ _ _ _
    have h1 : (i : Int) < ((marked mePair 2 m n).length : Int) := by omega
    have e1 : wrap64 (m + 2 * (i : Int) + 1) = m + 2 * i + 1 := by rw [w64 (by omega) (by omega)]
    have e2 : wrap64 (m + 2 * (i : Int) + 1 + 1) = m + 2 * ((i + 1 : Nat) : Int) := by rw [w64 (by omega) (by omega)]; omega
    have r1 : rd_T38 (marked mePair 2 m n) (i : Int) = mePair (m + 2 * i) := by rw [rdPair (by omega)]; exact marked_at _ _ _ _ _ h
    simp only [laws_heldPairS.l0, h1, Int.natCast_nonneg, if_true, r1, mePair, w64n (show i < 9223372036854775807 by omega), e1, e2]
  · intro k
    have hl : (marked mePair 2 m n).length = n := marked_length _ _ _ _
    simp only [laws_heldPairS.l0, hl, Int.lt_irrefl, if_false]
theorem rdI {xs : List Int} {i : Nat} (h : i < xs.length) : rd xs (i : Int) = xs[i] := by
  unfold rd
  rw [Int.toNat_natCast]
  exact getD_at h _
theorem rdI_mid (pre : List Int) (v : Int) (vs : List Int) : rd (pre ++ v :: vs) (pre.length : Int) = v := by rw [rdI (by simp)]; simp
end Go.Proofs.Ytgbjfdaldakpiaa.Q
