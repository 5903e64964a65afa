/- Slices of records, numbers and bytes: copied, compared, counted, marked, held. -/
import Derived.Test.YtocdahbinombkaaGreatLb
import Derived.Test.YtocdahbinombkaaGreatP0
import Derived.Test.YtocdahbinombkaaGreatPDall0
import Derived.Test.YtocdahbinombkaaGreatPDm0
namespace Go.Proofs.YtocdahbinombkaaGreat.Q
open Go.RowKit Go.Proofs.YtocdahbinombkaaGreat.P Go.Proofs.YtocdahbinombkaaGreatW.PrintWords Go.Proofs.YtocdahbinombkaaGreatW.PrintLast Go.Proofs.YtocdahbinombkaaGreatW.PrintMore Go.Proofs.YtocdahbinombkaaGreat.Lb
set_option linter.unusedVariables false
set_option linter.unusedSimpArgs false
theorem rdVersion {xs : List S89} {i : Nat} (h : i < xs.length) : rd_T89 xs (i : Int) = xs[i] := by
  unfold rd_T89
  rw [Int.toNat_natCast]
  exact getD_at h _
theorem rdVersionl {xs : List S138} {i : Nat} (h : i < xs.length) : rd_T138 xs (i : Int) = xs[i] := by
  unfold rd_T138
  rw [Int.toNat_natCast]
  exact getD_at h _
def cvVersion (v : S138) : S89 := ⟨v.f0, v.f1, v.f2, v.f3⟩
theorem toVersionS (xs : List S138) (hb : xs.length ≤ 1099511627776) : Ev (fun k => laws_toVersionS.f k xs) (xs.map cvVersion) := by
  unfold laws_toVersionS.f
  refine evIte (fun _ => evIte (fun _ => ?_) (fun h => absurd (by simp; omega) h)) (fun h => absurd (by omega) h)
  rw [Int.toNat_natCast]
  refine mapLoop (L := fun k ys i => laws_toVersionS.l0 k xs ys i) cvVersion z89 xs ?_ ?_
  · intro k ys i h hl
    have h1 : (i : Int) < (xs.length : Int) := by omega
    have h2 : (i : Int) < (ys.length : Int) := by omega
    simp only [laws_toVersionS.l0, laws_toVersion.f, Option.bind_some, h1, h2, Int.natCast_nonneg, if_true, Int.toNat_natCast, rdVersionl h, w64n (show i < 9223372036854775807 by omega), cvVersion]
  · intro k ys
    simp only [laws_toVersionS.l0, Int.lt_irrefl, if_false]
theorem szVersionS (xs : List S138) (n : Int) (h0 : 0 ≤ n) (h1 : n ≤ 9223372036854775807) (hl : xs.length ≤ 9223372036854775807) : laws_szVersionS.f xs n = some (if n < xs.length then -1 else n - xs.length) := by
  unfold laws_szVersionS.f
  rw [w64 (by omega) (by omega)]
  by_cases h : n < xs.length
  · rw [if_pos (by omega), if_pos h]
  · rw [if_neg (by omega), if_neg h]
theorem eqVersionS (xs : List S89) (hb : xs.length ≤ 1099511627776) : Ev (fun k => laws_eqVersionS.f k xs xs) true := by
  unfold laws_eqVersionS.f
  simp only [if_true]
  refine allLoop (L := fun k i => laws_eqVersionS.l0 k xs xs i) xs.length ?_ ?_
  · intro k i h
    have h1 : (i : Int) < (xs.length : Int) := by omega
    simp only [laws_eqVersionS.l0, laws_eqVersion.f, Option.bind_some, h1, Int.natCast_nonneg, if_true, bne_self_eq_false, Bool.false_eq_true, if_false, rdVersion h, w64n (show i < 9223372036854775807 by omega)]
  · intro k
    simp only [laws_eqVersionS.l0, Int.lt_irrefl, if_false]
/-- What marking writes into one. -/
def meVersion (m : Int) : S89 := ⟨m, m + 1, (m + 2).tmod 3 == 0, m + 3⟩
theorem markVersionS (xs : List S89) (m : Int) (hm0 : 0 ≤ m) (hm : m ≤ 1152921504606846976) (hb : xs.length ≤ 1099511627776) : Ev (fun k => laws_markVersionS.f k xs m) (m + 4 * xs.length, marked meVersion 4 m xs.length) := by
  unfold laws_markVersionS.f
  refine markLoop (L := fun k ys q i => laws_markVersionS.l0 k ys q i) meVersion 4 xs.length m ?_ ?_ xs rfl
  · intro k ys i h hl
    have h1 : (i : Int) < (ys.length : Int) := by omega
    have h0 : i < ys.length := by omega
    have e1 : wrap64 (m + 4 * (i : Int) + 1) = m + 4 * i + 1 := by rw [w64 (by omega) (by omega)]
    have e2 : wrap64 (m + 4 * (i : Int) + 1 + 1) = m + 4 * i + 2 := by rw [w64 (by omega) (by omega)]; omega
    have e3 : wrap64 (m + 4 * (i : Int) + 2 + 1) = m + 4 * i + 3 := by rw [w64 (by omega) (by omega)]; omega
    have e4 : wrap64 (m + 4 * (i : Int) + 3 + 1) = m + 4 * ((i + 1 : Nat) : Int) := by rw [w64 (by omega) (by omega)]; omega
    have r1 : ∀ y : S89, rd_T89 (ys.set i y) (i : Int) = y := fun y => by rw [rdVersion (by simpa using h0)]; simp
    simp only [laws_markVersionS.l0, Option.bind_some, h1, Int.natCast_nonneg, if_true, Int.toNat_natCast, rdVersion h0, w64n (show i < 9223372036854775807 by omega), e1, e2, e3, e4, r1, List.set_set, meVersion]
  · intro k ys q hl
    simp only [laws_markVersionS.l0, hl, Int.lt_irrefl, if_false]
theorem rdPair {xs : List S55} {i : Nat} (h : i < xs.length) : rd_T55 xs (i : Int) = xs[i] := by
  unfold rd_T55
  rw [Int.toNat_natCast]
  exact getD_at h _
theorem rdPair_mid (pre : List S55) (v : S55) (vs : List S55) : rd_T55 (pre ++ v :: vs) (pre.length : Int) = v := by rw [rdPair (by simp)]; simp
theorem rdPairl {xs : List S59} {i : Nat} (h : i < xs.length) : rd_T59 xs (i : Int) = xs[i] := by
  unfold rd_T59
  rw [Int.toNat_natCast]
  exact getD_at h _
def cvPair (v : S59) : S55 := ⟨v.f0, v.f1⟩
theorem toPairS (xs : List S59) (hb : xs.length ≤ 1099511627776) : Ev (fun k => laws_toPairS.f k xs) (xs.map cvPair) := by
  unfold laws_toPairS.f
  refine evIte (fun _ => evIte (fun _ => ?_) (fun h => absurd (by simp; omega) h)) (fun h => absurd (by omega) h)
  rw [Int.toNat_natCast]
  refine mapLoop (L := fun k ys i => laws_toPairS.l0 k xs ys i) cvPair z55 xs ?_ ?_
  · intro k ys i h hl
    have h1 : (i : Int) < (xs.length : Int) := by omega
    have h2 : (i : Int) < (ys.length : Int) := by omega
    simp only [laws_toPairS.l0, laws_toPair.f, Option.bind_some, h1, h2, Int.natCast_nonneg, if_true, Int.toNat_natCast, rdPairl h, w64n (show i < 9223372036854775807 by omega), cvPair]
  · intro k ys
    simp only [laws_toPairS.l0, Int.lt_irrefl, if_false]
theorem szPairS (xs : List S59) (n : Int) (h0 : 0 ≤ n) (h1 : n ≤ 9223372036854775807) (hl : xs.length ≤ 9223372036854775807) : laws_szPairS.f xs n = some (if n < xs.length then -1 else n - xs.length) := by
  unfold laws_szPairS.f
  rw [w64 (by omega) (by omega)]
  by_cases h : n < xs.length
  · rw [if_pos (by omega), if_pos h]
  · rw [if_neg (by omega), if_neg h]
theorem eqPairS (xs : List S55) (hb : xs.length ≤ 1099511627776) : Ev (fun k => laws_eqPairS.f k xs xs) true := by
  unfold laws_eqPairS.f
  simp only [if_true]
  refine allLoop (L := fun k i => laws_eqPairS.l0 k xs xs i) xs.length ?_ ?_
  · intro k i h
    have h1 : (i : Int) < (xs.length : Int) := by omega
    simp only [laws_eqPairS.l0, laws_eqPair.f, Option.bind_some, h1, Int.natCast_nonneg, if_true, rdPair h, w64n (show i < 9223372036854775807 by omega)]
  · intro k
    simp only [laws_eqPairS.l0, Int.lt_irrefl, if_false]
/-- What marking writes into one. -/
def mePair (m : Int) : S55 := ⟨m, m + 1⟩
theorem markPairS (xs : List S55) (m : Int) (hm0 : 0 ≤ m) (hm : m ≤ 1152921504606846976) (hb : xs.length ≤ 1099511627776) : Ev (fun k => laws_markPairS.f k xs m) (m + 2 * xs.length, marked mePair 2 m xs.length) := by
  unfold laws_markPairS.f
  refine markLoop (L := fun k ys q i => laws_markPairS.l0 k ys q i) mePair 2 xs.length m ?_ ?_ xs rfl
  · intro k ys i h hl
    have h1 : (i : Int) < (ys.length : Int) := by omega
    have h0 : i < ys.length := by omega
    have e1 : wrap64 (m + 2 * (i : Int) + 1) = m + 2 * i + 1 := by rw [w64 (by omega) (by omega)]
    have e2 : wrap64 (m + 2 * (i : Int) + 1 + 1) = m + 2 * ((i + 1 : Nat) : Int) := by rw [w64 (by omega) (by omega)]; omega
    have r1 : ∀ y : S55, rd_T55 (ys.set i y) (i : Int) = y := fun y => by rw [rdPair (by simpa using h0)]; simp
    simp only [laws_markPairS.l0, Option.bind_some, h1, Int.natCast_nonneg, if_true, Int.toNat_natCast, rdPair h0, w64n (show i < 9223372036854775807 by omega), e1, e2, r1, List.set_set, mePair]
  · intro k ys q hl
    simp only [laws_markPairS.l0, hl, Int.lt_irrefl, if_false]
theorem heldPairS (n : Nat) (m : Int) (hm0 : 0 ≤ m) (hm : m ≤ 1152921504606846976) (hb : n ≤ 1099511627776) : Ev (fun k => laws_heldPairS.f k (marked mePair 2 m n) m) (m + 2 * n) := by
  unfold laws_heldPairS.f
  refine heldLoop (L := fun k q i => laws_heldPairS.l0 k (marked mePair 2 m n) q i) 2 n m ?_ ?_
  · intro k i h
    have hl : (marked mePair 2 m n).length = n := marked_length _ _ _ _
    have h1 : (i : Int) < ((marked mePair 2 m n).length : Int) := by omega
    have e1 : wrap64 (m + 2 * (i : Int) + 1) = m + 2 * i + 1 := by rw [w64 (by omega) (by omega)]
    have e2 : wrap64 (m + 2 * (i : Int) + 1 + 1) = m + 2 * ((i + 1 : Nat) : Int) := by rw [w64 (by omega) (by omega)]; omega
    have r1 : rd_T55 (marked mePair 2 m n) (i : Int) = mePair (m + 2 * i) := by rw [rdPair (by omega)]; exact marked_at _ _ _ _ _ h
    simp only [laws_heldPairS.l0, h1, Int.natCast_nonneg, if_true, r1, mePair, w64n (show i < 9223372036854775807 by omega), e1, e2]
  · intro k
    have hl : (marked mePair 2 m n).length = n := marked_length _ _ _ _
    simp only [laws_heldPairS.l0, hl, Int.lt_irrefl, if_false]
theorem rdUndo {xs : List S100} {i : Nat} (h : i < xs.length) : rd_T100 xs (i : Int) = xs[i] := by
  unfold rd_T100
  rw [Int.toNat_natCast]
  exact getD_at h _
theorem rdUndol {xs : List S136} {i : Nat} (h : i < xs.length) : rd_T136 xs (i : Int) = xs[i] := by
  unfold rd_T136
  rw [Int.toNat_natCast]
  exact getD_at h _
def cvUndo (v : S136) : S100 := ⟨v.f0, v.f1, v.f2, v.f3⟩
theorem toUndoS (xs : List S136) (hb : xs.length ≤ 1099511627776) : Ev (fun k => laws_toUndoS.f k xs) (xs.map cvUndo) := by
  unfold laws_toUndoS.f
  refine evIte (fun _ => evIte (fun _ => ?_) (fun h => absurd (by simp; omega) h)) (fun h => absurd (by omega) h)
  rw [Int.toNat_natCast]
  refine mapLoop (L := fun k ys i => laws_toUndoS.l0 k xs ys i) cvUndo z100 xs ?_ ?_
  · intro k ys i h hl
    have h1 : (i : Int) < (xs.length : Int) := by omega
    have h2 : (i : Int) < (ys.length : Int) := by omega
    simp only [laws_toUndoS.l0, laws_toUndo.f, Option.bind_some, h1, h2, Int.natCast_nonneg, if_true, Int.toNat_natCast, rdUndol h, w64n (show i < 9223372036854775807 by omega), cvUndo]
  · intro k ys
    simp only [laws_toUndoS.l0, Int.lt_irrefl, if_false]
theorem szUndoS (xs : List S136) (n : Int) (h0 : 0 ≤ n) (h1 : n ≤ 9223372036854775807) (hl : xs.length ≤ 9223372036854775807) : laws_szUndoS.f xs n = some (if n < xs.length then -1 else n - xs.length) := by
  unfold laws_szUndoS.f
  rw [w64 (by omega) (by omega)]
  by_cases h : n < xs.length
  · rw [if_pos (by omega), if_pos h]
  · rw [if_neg (by omega), if_neg h]
theorem eqUndoS (xs : List S100) (hb : xs.length ≤ 1099511627776) : Ev (fun k => laws_eqUndoS.f k xs xs) true := by
  unfold laws_eqUndoS.f
  simp only [if_true]
  refine allLoop (L := fun k i => laws_eqUndoS.l0 k xs xs i) xs.length ?_ ?_
  · intro k i h
    have h1 : (i : Int) < (xs.length : Int) := by omega
    simp only [laws_eqUndoS.l0, laws_eqUndo.f, Option.bind_some, h1, Int.natCast_nonneg, if_true, bne_self_eq_false, Bool.false_eq_true, if_false, rdUndo h, w64n (show i < 9223372036854775807 by omega)]
  · intro k
    simp only [laws_eqUndoS.l0, Int.lt_irrefl, if_false]
/-- What marking writes into one. -/
def meUndo (m : Int) : S100 := ⟨m, (m + 1).tmod 3 == 0, (m + 2).tmod 3 == 0, m + 3⟩
theorem markUndoS (xs : List S100) (m : Int) (hm0 : 0 ≤ m) (hm : m ≤ 1152921504606846976) (hb : xs.length ≤ 1099511627776) : Ev (fun k => laws_markUndoS.f k xs m) (m + 4 * xs.length, marked meUndo 4 m xs.length) := by
  unfold laws_markUndoS.f
  refine markLoop (L := fun k ys q i => laws_markUndoS.l0 k ys q i) meUndo 4 xs.length m ?_ ?_ xs rfl
  · intro k ys i h hl
    have h1 : (i : Int) < (ys.length : Int) := by omega
    have h0 : i < ys.length := by omega
    have e1 : wrap64 (m + 4 * (i : Int) + 1) = m + 4 * i + 1 := by rw [w64 (by omega) (by omega)]
    have e2 : wrap64 (m + 4 * (i : Int) + 1 + 1) = m + 4 * i + 2 := by rw [w64 (by omega) (by omega)]; omega
    have e3 : wrap64 (m + 4 * (i : Int) + 2 + 1) = m + 4 * i + 3 := by rw [w64 (by omega) (by omega)]; omega
    have e4 : wrap64 (m + 4 * (i : Int) + 3 + 1) = m + 4 * ((i + 1 : Nat) : Int) := by rw [w64 (by omega) (by omega)]; omega
    have r1 : ∀ y : S100, rd_T100 (ys.set i y) (i : Int) = y := fun y => by rw [rdUndo (by simpa using h0)]; simp
    simp only [laws_markUndoS.l0, Option.bind_some, h1, Int.natCast_nonneg, if_true, Int.toNat_natCast, rdUndo h0, w64n (show i < 9223372036854775807 by omega), e1, e2, e3, e4, r1, List.set_set, meUndo]
  · intro k ys q hl
    simp only [laws_markUndoS.l0, hl, Int.lt_irrefl, if_false]
end Go.Proofs.YtocdahbinombkaaGreat.Q

