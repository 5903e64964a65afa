/- Texts of this seat, put into one file. -/
import Derived.Test.YthagppmaofcllaaLb
import Derived.Test.YthagppmaofcllaaP0
import Derived.Test.YthagppmaofcllaaPDm0
import Derived.Test.YthagppmaofcllaaPDm1
import Derived.Test.YthagppmaofcllaaPDadefgh0
import Derived.Test.YthagppmaofcllaaPDall0
import Derived.Test.YthagppmaofcllaaPDcg0
namespace Go.Proofs.Ythagppmaofcllaa.Q
open Go.RowKit Go.Proofs.Ythagppmaofcllaa.P Go.Proofs.YthagppmaofcllaaW.PrintWords Go.Proofs.YthagppmaofcllaaW.PrintLast Go.Proofs.YthagppmaofcllaaW.PrintMore Go.Proofs.Ythagppmaofcllaa.Lb
set_option linter.unusedVariables false
set_option linter.unusedSimpArgs false
theorem rdRec {xs : List S48} {i : Nat} (h : i < xs.length) : rd_T48 xs (i : Int) = xs[i] := by
  unfold rd_T48
  rw [Int.toNat_natCast]
  exact getD_at h _
theorem rdI {xs : List Int} {i : Nat} (h : i < xs.length) : rd xs (i : Int) = xs[i] := by
  unfold rd
  rw [Int.toNat_natCast]
  exact getD_at h _
theorem rdI_mid (pre : List Int) (v : Int) (vs : List Int) : rd (pre ++ v :: vs) (pre.length : Int) = v := by rw [rdI (by simp)]; simp
end Go.Proofs.Ythagppmaofcllaa.Q
namespace Go.Proofs.Ythagppmaofcllaa.Q
open Go.RowKit Go.Proofs.Ythagppmaofcllaa.P
def isB (l : List Int) : Prop := ∀ x ∈ l, 0 ≤ x ∧ x ≤ 255
end Go.Proofs.Ythagppmaofcllaa.Q
namespace Go.Proofs.Ythagppmaofcllaa.Q
open Go.RowKit Go.Proofs.Ythagppmaofcllaa.P Go.Proofs.YthagppmaofcllaaW.PrintWords Go.Proofs.YthagppmaofcllaaW.PrintLast Go.Proofs.YthagppmaofcllaaW.PrintMore Go.Proofs.Ythagppmaofcllaa.Lb
set_option linter.unusedVariables false
set_option linter.unusedSimpArgs false
def sumStep (h b : Int) : Int := Int.tmod (wrap64 ((wrap64 ((wrap64 (h * 269)) + (wrap64 b))) + 1)) 65521
def sumB (l : List Int) : Int := l.foldl sumStep 9
theorem specSum_l : ∀ (rest pre : List Int) (h : Int), (pre ++ rest).length ≤ 1099511627776 → Ev (fun k => ZsSumBytes.l0 k (pre ++ rest) h (pre.length : Int)) (rest.foldl sumStep h)
  | [], pre, h, hb => by
    refine evSucc ?_
    simp only [ZsSumBytes.l0, List.append_nil, Int.lt_irrefl, if_false]
    exact evRet rfl
  | v :: vs, pre, h, hb => by
    have ih := specSum_l vs (pre ++ [v]) (sumStep h v) (by simpa using hb)
    have h1 : (pre.length : Int) < ((pre ++ v :: vs).length : Int) := by simp <;> omega
    have hn : (((pre ++ [v]).length : Nat) : Int) = wrap64 ((pre.length : Int) + 1) := by rw [w64n (by simp at hb; omega)]; simp
    rw [List.append_assoc, List.singleton_append, hn] at ih
    refine evSucc ?_
    simp only [ZsSumBytes.l0, h1, Int.natCast_nonneg, if_true, rdI_mid]
    exact ih
theorem specSum (l : List Int) (hb : l.length ≤ 1099511627776) : Ev (fun k => ZsSumBytes.f k l) (sumB l) := specSum_l l [] 9 hb
theorem implSum_l : ∀ (rest pre : List Int) (h : Int), (pre ++ rest).length ≤ 1099511627776 → Ev (fun k => ZiSumBytes.l0 k h (pre ++ rest) ((pre ++ rest).length : Int) (pre.length : Int)) (rest.foldl sumStep h)
  | [], pre, h, hb => by
    refine evSucc ?_
    simp only [ZiSumBytes.l0, List.append_nil, Int.lt_irrefl, if_false]
    exact evRet rfl
  | v :: vs, pre, h, hb => by
    have ih := implSum_l vs (pre ++ [v]) (sumStep h v) (by simpa using hb)
    have h1 : (pre.length : Int) < ((pre ++ v :: vs).length : Int) := by simp <;> omega
    have hn : (((pre ++ [v]).length : Nat) : Int) = wrap64 ((pre.length : Int) + 1) := by rw [w64n (by simp at hb; omega)]; simp
    rw [List.append_assoc, List.singleton_append, hn] at ih
    refine evSucc ?_
    simp only [ZiSumBytes.l0, h1, Int.natCast_nonneg, if_true, rdI_mid]
    exact ih
theorem implSum (l : List Int) (hb : l.length ≤ 1099511627776) : Ev (fun k => ZiSumBytes.f k l) (sumB l) := implSum_l l [] 9 hb
end Go.Proofs.Ythagppmaofcllaa.Q
namespace Go.Proofs.Ythagppmaofcllaa.Q
open Go.RowKit Go.Proofs.Ythagppmaofcllaa.P Go.Proofs.YthagppmaofcllaaW.PrintWords Go.Proofs.YthagppmaofcllaaW.PrintLast Go.Proofs.YthagppmaofcllaaW.PrintMore Go.Proofs.Ythagppmaofcllaa.Lb
set_option linter.unusedVariables false
set_option linter.unusedSimpArgs false
/-- Byte j of a number. -/
def byteOf (n : Int) (j : Nat) : Int := shr .i64 n (8 * (j : Int)) % 256
/-- A number's bytes, the highest first. -/
def bytesN (n : Int) : Nat → List Int
  | 0 => []
  | s + 1 => byteOf n s :: bytesN n s
theorem bytesN_len (n : Int) : ∀ s, (bytesN n s).length = s
  | 0 => rfl
  | s + 1 => by simp [bytesN, bytesN_len n s]
theorem implPut_l (n : Int) : ∀ (s : Nat) (l : List Int), s ≤ 8 → l.length + s ≤ 1099511627776 → Ev (fun k => Ziput.l0 k l n ((s : Int) - 1)) (l ++ bytesN n s)
  | 0, l, _, _ => by
    refine evSucc ?_
    simp only [Ziput.l0]
    exact evIte (fun h => absurd h (by decide)) (fun _ => evRet (by simp [bytesN]))
  | s + 1, l, hs, hl => by
    refine evSucc ?_
    have e : (((s + 1 : Nat) : Int) - 1) = (s : Int) := by omega
    have e8 : wrap64 (8 * (s : Int)) = 8 * (s : Int) := w64 (by omega) (by omega)
    have e1 : wrap64 ((s : Int) - 1) = (s : Int) - 1 := w64 (by omega) (by omega)
    simp only [Ziput.l0, e, e8, e1]
    refine evIte (fun _ => evIte (fun _ => evIte (fun _ => ?_) (fun h => absurd (by omega) h)) (fun h => absurd (by omega) h)) (fun h => absurd (by omega) h)
    have ih := implPut_l n s (l ++ [byteOf n s]) (by omega) (by simp; omega)
    rw [List.append_assoc, List.singleton_append] at ih
    exact ih
theorem implPut (l : List Int) (n : Int) (s : Nat) (hs : s ≤ 8) (hl : l.length ≤ 1000000) : Ev (fun k => Ziput.f k l n (s : Int)) (l ++ bytesN n s) := by
  unfold Ziput.f
  rw [w64 (by omega) (by omega)]
  exact implPut_l n s l hs (by omega)
theorem specBytes_l (n : Int) : ∀ (s : Nat) (l : List Int), s ≤ 8 → l.length + s ≤ 1099511627776 → Ev (fun k => Zsl1Bytes.l0 k n l ((s : Int) - 1)) (l ++ bytesN n s)
  | 0, l, _, _ => by
    refine evSucc ?_
    simp only [Zsl1Bytes.l0]
    exact evIte (fun h => absurd h (by decide)) (fun _ => evRet (by simp [bytesN]))
  | s + 1, l, hs, hl => by
    refine evSucc ?_
    have e : (((s + 1 : Nat) : Int) - 1) = (s : Int) := by omega
    have e8 : wrap64 (8 * (s : Int)) = 8 * (s : Int) := w64 (by omega) (by omega)
    have eu : IntKind.u64.wrap (8 * (s : Int)) = 8 * (s : Int) := by unfold IntKind.wrap; simp [IntKind.min, IntKind.max, IntKind.bits, IntKind.signed]; omega
    have e1 : wrap64 ((s : Int) - 1) = (s : Int) - 1 := w64 (by omega) (by omega)
    simp only [Zsl1Bytes.l0, e, e8, eu, e1]
    refine evIte (fun _ => evIte (fun _ => evIte (fun _ => ?_) (fun h => absurd (by omega) h)) (fun h => absurd (by omega) h)) (fun h => absurd (by omega) h)
    have ih := specBytes_l n s (l ++ [byteOf n s]) (by omega) (by simp; omega)
    rw [List.append_assoc, List.singleton_append] at ih
    exact ih
theorem specBytes (n : Int) (s : Nat) (hs : s ≤ 8) : Ev (fun k => Zsl1Bytes.f k n (s : Int)) (bytesN n s) := by
  unfold Zsl1Bytes.f
  rw [w64 (by omega) (by omega)]
  exact specBytes_l n s [] hs (by simp <;> omega)
theorem byteOf0 (n : Int) : byteOf n 0 = n % 256 := by simp [byteOf, shr]
theorem bytes1 (n : Int) : bytesN n 1 = [n % 256] := by simp [bytesN, byteOf0]
end Go.Proofs.Ythagppmaofcllaa.Q
namespace Go.Proofs.Ythagppmaofcllaa.Q
open Go.RowKit Go.Proofs.Ythagppmaofcllaa.P Go.Proofs.YthagppmaofcllaaW.PrintWords Go.Proofs.YthagppmaofcllaaW.PrintLast Go.Proofs.YthagppmaofcllaaW.PrintMore Go.Proofs.Ythagppmaofcllaa.Lb
set_option linter.unusedVariables false
set_option linter.unusedSimpArgs false
def takeStep (a b : Int) : Int := a * 256 + b
/-- A number out of its bytes, the highest first. -/
def takeL (l : List Int) : Int := l.foldl takeStep 0
theorem p256 {i : Nat} (h : i ≤ 4) : (256 : Int) ^ i ≤ 4294967296 := by
  rcases i with _ | _ | _ | _ | _ | i
  · decide
  · decide
  · decide
  · decide
  · decide
  · omega
theorem specTake_l (l : List Int) (o n : Nat) (hB : isB l) (ho : o + n ≤ l.length) (hl : l.length ≤ 1048576) (hn : n ≤ 4) : ∀ (s i : Nat) (a : Int), i + s = n → 0 ≤ a → a < (256 : Int) ^ i → Ev (fun k => Zsl1Take.l0 k l (o : Int) (n : Int) a (i : Int)) (((l.drop (o + i)).take s).foldl takeStep a)
  | 0, i, a, hi, h0, h1 => by
    refine evSucc ?_
    simp only [Zsl1Take.l0]
    exact evIte (fun h => absurd h (by omega)) (fun _ => evRet (by simp))
  | s + 1, i, a, hi, h0, h1 => by
    have hlt : o + i < l.length := by omega
    have e1 : wrap64 ((o : Int) + (i : Int)) = ((o + i : Nat) : Int) := by rw [w64 (by omega) (by omega)]; omega
    have hb := hB _ (List.getElem_mem hlt)
    have hp : (256 : Int) ^ (i + 1) = (256 : Int) ^ i * 256 := Int.pow_succ _ _
    have hq := p256 (show i ≤ 4 by omega)
    have e2 : wrap64 ((wrap64 (a * 256)) + (wrap64 l[o + i])) = takeStep a l[o + i] := by
      rw [w64 (x := a * 256) (by omega) (by omega), w64 (x := l[o + i]) (by omega) (by omega), w64 (by omega) (by omega)]
      rfl
    have ih := specTake_l l o n hB ho hl hn s (i + 1) (takeStep a l[o + i]) (by omega) (by unfold takeStep; omega) (by unfold takeStep; omega)
    refine evSucc ?_
    simp only [Zsl1Take.l0, e1, rdI hlt, e2, w64n (show i < 9223372036854775807 by omega)]
    refine evIte (fun _ => evIte (fun _ => evIte (fun _ => ?_) (fun h => absurd (by omega) h)) (fun h => absurd (by omega) h)) (fun h => absurd (by omega) h)
    rw [List.drop_eq_getElem_cons hlt, List.take_succ_cons, List.foldl_cons]
    exact ih
theorem specTake (l : List Int) (o n : Nat) (hB : isB l) (ho : o + n ≤ l.length) (hl : l.length ≤ 1048576) (hn : n ≤ 4) : Ev (fun k => Zsl1Take.f k l (o : Int) (n : Int)) (takeL ((l.drop o).take n)) := by
  have := specTake_l l o n hB ho hl hn n 0 0 (by omega) (by omega) (by decide)
  exact this
theorem wraps_i64 (n : Int) (h₀ : 0 ≤ n) (h₁ : n < 2 ^ 62) : IntKind.i64.wrap n = n := by rw [IntKind.wrap_i64]; omega
theorem implTake_l : ∀ (rest pre : List Int) (a : Int), isB rest → (pre ++ rest).length ≤ 4 → 0 ≤ a → a < (256 : Int) ^ pre.length → Ev (fun k => Zitake.l0 k a (pre ++ rest) ((pre ++ rest).length : Int) (pre.length : Int)) (rest.foldl takeStep a)
  | [], pre, a, hB, hn, h0, h1 => by
    refine evSucc ?_
    simp only [Zitake.l0, List.append_nil, Int.lt_irrefl, if_false]
    exact evRet rfl
  | v :: vs, pre, a, hB, hn, h0, h1 => by
    have hn1 : pre.length + vs.length + 1 ≤ 4 := by simp at hn; omega
    have hb := hB v (by simp)
    have hp : (256 : Int) ^ (pre.length + 1) = (256 : Int) ^ pre.length * 256 := Int.pow_succ _ _
    have hq := p256 (show pre.length ≤ 4 by omega)
    have e2 : Go.bits .or .i64 (wrap64 (a * 256)) (wrap64 v) = takeStep a v := by
      rw [w64 (x := a * 256) (by omega) (by omega), w64 (x := v) (by omega) (by omega)]
      exact Go.bits_join .i64 62 (by decide) wraps_i64 8 (a * 256) v (by omega) (by omega) (by omega) (by omega) (by omega) (by omega)
    have ih := implTake_l vs (pre ++ [v]) (takeStep a v) (fun x hx => hB x (by simp [hx])) (by simp; omega) (by unfold takeStep; omega) (by rw [List.length_append, List.length_singleton]; unfold takeStep; omega)
    have h1' : (pre.length : Int) < ((pre ++ v :: vs).length : Int) := by simp <;> omega
    have hnn : (((pre ++ [v]).length : Nat) : Int) = wrap64 ((pre.length : Int) + 1) := by rw [w64n (by omega)]; simp
    rw [List.append_assoc, List.singleton_append, hnn] at ih
    refine evSucc ?_
    simp only [Zitake.l0, h1', Int.natCast_nonneg, if_true, rdI_mid, e2]
    exact ih
theorem implTake (l : List Int) (hB : isB l) (hn : l.length ≤ 4) : Ev (fun k => Zitake.f k l) (takeL l) := implTake_l l [] 0 hB hn (by omega) (by decide)
theorem sEq_l : ∀ (ra rb pre : List Int), ra.length = rb.length → (pre ++ ra).length ≤ 1099511627776 → Ev (fun k => ZcEqual_byte.l0 k (pre ++ ra) (pre ++ rb) ((pre ++ ra).length : Int) (pre.length : Int)) (decide (ra = rb))
  | [], [], pre, _, hb => by
    refine evSucc ?_
    simp only [ZcEqual_byte.l0, List.append_nil, Int.lt_irrefl, if_false]
    exact evRet rfl
  | [], y :: ys, pre, h, _ => by simp at h
  | x :: xs, [], pre, h, _ => by simp at h
  | x :: xs, y :: ys, pre, h, hb => by
    have h1 : (pre.length : Int) < ((pre ++ x :: xs).length : Int) := by simp <;> omega
    have h2 : (pre.length : Int) < ((pre ++ y :: ys).length : Int) := by simp <;> omega
    have hn : (((pre ++ [x]).length : Nat) : Int) = wrap64 ((pre.length : Int) + 1) := by rw [w64n (by simp at hb; omega)]; simp
    refine evSucc ?_
    simp only [ZcEqual_byte.l0, h1, h2, Int.natCast_nonneg, if_true, rdI_mid]
    refine evIte (fun hxy => ?_) (fun hxy => evRet (by simp [hxy]))
    subst hxy
    have ih := sEq_l xs ys (pre ++ [x]) (by simpa using h) (by simpa using hb)
    rw [List.append_assoc, List.singleton_append, List.append_assoc, List.singleton_append, hn] at ih
    exact evEq ih (by simp)
theorem sEq (a b : List Int) (hb : a.length ≤ 1099511627776) : Ev (fun k => ZcEqual_byte.f k a b) (decide (a = b)) := by
  unfold ZcEqual_byte.f
  refine evIte (fun h => sEq_l a b [] (by omega) hb) (fun h => evRet ?_)
  rw [eq_comm, decide_eq_false_iff_not]
  intro h2
  exact h (by rw [h2])
theorem u8_inj : ∀ {a b : List Int}, isB a → isB b → (a.map fun n => UInt8.ofNat n.toNat) = (b.map fun n => UInt8.ofNat n.toNat) → a = b
  | [], [], _, _, _ => rfl
  | [], y :: ys, _, _, h => by simp at h
  | x :: xs, [], _, _, h => by simp at h
  | x :: xs, y :: ys, ha, hb, h => by
    rw [List.map_cons, List.map_cons, List.cons.injEq] at h
    have h1 := congrArg UInt8.toNat h.1
    simp only [UInt8.toNat_ofNat'] at h1
    have hx := ha x (by simp)
    have hy := hb y (by simp)
    have h2 := u8_inj (fun z hz => ha z (by simp [hz])) (fun z hz => hb z (by simp [hz])) h.2
    rw [h2, show x = y by omega]
theorem strOf_inj {a b : List Int} (ha : isB a) (hb : isB b) : (strOfNums a).toList = (strOfNums b).toList ↔ a = b := by
  constructor
  · intro h
    rw [ByteArray.toList_eq, ByteArray.toList_eq] at h
    exact u8_inj ha hb (by simpa [strOfNums] using h)
  · intro h
    rw [h]
theorem isB_bytesN (n : Int) : ∀ s, isB (bytesN n s)
  | 0 => fun x hx => by simp [bytesN] at hx
  | s + 1 => fun x hx => by
    rcases List.mem_cons.1 hx with rfl | h
    · unfold byteOf; omega
    · exact isB_bytesN n s x h
theorem isB_append {a b : List Int} (ha : isB a) (hb : isB b) : isB (a ++ b) := fun x hx => (List.mem_append.1 hx).elim (ha x) (hb x)
theorem isB_sub {a b : List Int} (h : ∀ x ∈ a, x ∈ b) (hB : isB b) : isB a := fun x hx => hB x (h x hx)
theorem isB_drop {l : List Int} (n : Nat) (hB : isB l) : isB (l.drop n) := isB_sub (fun x hx => List.mem_of_mem_drop hx) hB
theorem isB_take {l : List Int} (n : Nat) (hB : isB l) : isB (l.take n) := isB_sub (fun x hx => List.mem_of_mem_take hx) hB
end Go.Proofs.Ythagppmaofcllaa.Q
namespace Go.Proofs.Ythagppmaofcllaa.Q
open Go.RowKit Go.Proofs.Ythagppmaofcllaa.P Go.Proofs.YthagppmaofcllaaW.PrintWords Go.Proofs.YthagppmaofcllaaW.PrintLast Go.Proofs.YthagppmaofcllaaW.PrintMore Go.Proofs.Ythagppmaofcllaa.Lb
set_option linter.unusedVariables false
set_option linter.unusedSimpArgs false
theorem specIn (a b c : Int) : Zsl1In.f a b c = some (decide (b ≤ a ∧ a ≤ c)) := by
  unfold Zsl1In.f
  by_cases h : b ≤ a <;> simp [h]
theorem implIn (a b c : Int) : Ziwithin.f a b c = some (decide (b ≤ a ∧ a ≤ c)) := by
  unfold Ziwithin.f
  by_cases h : b ≤ a <;> simp [h]
def okR (a0 a1 a2 a4 a6 a7 : Int) : Prop := (1 ≤ a0 ∧ a0 ≤ 6) ∧ ((a0 = 6 ∧ a1 = 0) ∨ (a0 ≠ 6 ∧ 1 ≤ a1 ∧ a1 ≤ 999)) ∧ (0 ≤ a2 ∧ a2 ≤ 31) ∧ (0 ≤ a4 ∧ a4 ≤ 9999) ∧ (0 ≤ a6 ∧ a6 ≤ 9999) ∧ (0 ≤ a7 ∧ a7 ≤ 1000)
instance (a0 a1 a2 a4 a6 a7 : Int) : Decidable (okR a0 a1 a2 a4 a6 a7) := by unfold okR; infer_instance
def bad1 (a0 a2 : Int) (a3 : Bool) (a4 : Int) (a5 : Bool) (a6 : Int) : Prop := ¬ (a0 = 2 ∨ a0 = 5) ∧ (a2 ≠ 0 ∨ a3 = true ∨ a4 ≠ 0 ∨ a5 = true ∨ a6 ≠ 0)
def bad2 (a0 : Int) (a3 : Bool) (a4 : Int) (a5 : Bool) (a6 a7 : Int) : Prop := (a3 = false ∧ a4 ≠ 0) ∨ (a5 = false ∧ a6 ≠ 0) ∨ ¬ (a0 = 5 ↔ a7 ≠ 0)
def badR (a0 a2 : Int) (a3 : Bool) (a4 : Int) (a5 : Bool) (a6 a7 : Int) : Prop := bad1 a0 a2 a3 a4 a5 a6 ∨ bad2 a0 a3 a4 a5 a6 a7
instance (a0 a2 : Int) (a3 : Bool) (a4 : Int) (a5 : Bool) (a6 a7 : Int) : Decidable (badR a0 a2 a3 a4 a5 a6 a7) := by unfold badR bad1 bad2; infer_instance
/-- What RecFault tells. -/
def rf (a0 a1 a2 : Int) (a3 : Bool) (a4 : Int) (a5 : Bool) (a6 a7 : Int) : Int := if okR a0 a1 a2 a4 a6 a7 then (if badR a0 a2 a3 a4 a5 a6 a7 then 1 else 0) else 3
theorem rf_bad {a0 a1 a2 : Int} {a3 : Bool} {a4 : Int} {a5 : Bool} {a6 a7 : Int} (h : okR a0 a1 a2 a4 a6 a7) (hb : badR a0 a2 a3 a4 a5 a6 a7) : 1 = rf a0 a1 a2 a3 a4 a5 a6 a7 := by simp [rf, h, hb]
theorem rf_good {a0 a1 a2 : Int} {a3 : Bool} {a4 : Int} {a5 : Bool} {a6 a7 : Int} (h : okR a0 a1 a2 a4 a6 a7) (hb : ¬ badR a0 a2 a3 a4 a5 a6 a7) : 0 = rf a0 a1 a2 a3 a4 a5 a6 a7 := by simp [rf, h, hb]

set_option maxHeartbeats 2000000 in
theorem specRF (a0 a1 a2 : Int) (a3 : Bool) (a4 : Int) (a5 : Bool) (a6 a7 : Int) : Ev (fun k => ZsRecFault.f k a0 a1 a2 a3 a4 a5 a6 a7) (rf a0 a1 a2 a3 a4 a5 a6 a7) := by
  have key2 : ∀ b : Bool, (b = true ↔ bad1 a0 a2 a3 a4 a5 a6) → okR a0 a1 a2 a4 a6 a7 → Ev (fun k => ZsRecFault.j2 k b a0 a1 a2 a3 a4 a5 a6 a7) (rf a0 a1 a2 a3 a4 a5 a6 a7) := by
    intro b hb hok
    refine evSucc ?_
    simp only [ZsRecFault.j2]
    refine evIte (fun h => evRet (rf_bad hok (.inl (hb.1 h)))) (fun h => ?_)
    have hn : ¬ bad1 a0 a2 a3 a4 a5 a6 := fun h2 => h (hb.2 h2)
    have e1 : bad2 a0 a3 a4 a5 a6 a7 → 1 = rf a0 a1 a2 a3 a4 a5 a6 a7 := fun h2 => rf_bad hok (.inr h2)
    have e0 : ¬ bad2 a0 a3 a4 a5 a6 a7 → 0 = rf a0 a1 a2 a3 a4 a5 a6 a7 := fun h2 => rf_good hok (fun h3 => h3.elim hn h2)
    clear hok hn hb h
    generalize rf a0 a1 a2 a3 a4 a5 a6 a7 = r at *
    repeat' (refine evIte (fun _ => ?_) (fun _ => ?_))
    all_goals first | exact evRet (e1 (by simp only [bad2]; grind)) | exact evRet (e0 (by simp only [bad2]; grind))
  have key1 : ∀ b : Bool, (b = true ↔ (a0 = 2 ∨ a0 = 5)) → okR a0 a1 a2 a4 a6 a7 → Ev (fun k => ZsRecFault.j1 k b a0 a1 a2 a3 a4 a5 a6 a7) (rf a0 a1 a2 a3 a4 a5 a6 a7) := by
    intro b hb hok
    refine evSucc ?_
    simp only [ZsRecFault.j1]
    repeat' (refine evIte (fun _ => ?_) (fun _ => ?_))
    all_goals (refine key2 _ ?_ hok; simp only [bad1]; clear key2 hok; grind)
  have key0 : ∀ b : Bool, (b = true ↔ ¬ okR a0 a1 a2 a4 a6 a7) → Ev (fun k => ZsRecFault.j0 k b a0 a1 a2 a3 a4 a5 a6 a7) (rf a0 a1 a2 a3 a4 a5 a6 a7) := by
    intro b hb
    refine evSucc ?_
    simp only [ZsRecFault.j0]
    refine evIte (fun h => evRet (by simp [rf, hb.1 h])) (fun h => ?_)
    have hok : okR a0 a1 a2 a4 a6 a7 := by
      by_cases ho : okR a0 a1 a2 a4 a6 a7
      · exact ho
      · exact absurd (hb.2 ho) h
    refine evIte (fun h2 => key1 _ (by simp [h2]) hok) (fun h2 => key1 _ (by simp [h2]) hok)
  unfold ZsRecFault.f
  simp only [Zsl3Txn.f, Zsl1Key.f, Zsl1Value.f, specIn, Option.bind_some, decide_eq_true_eq]
  repeat' (refine evIte (fun _ => ?_) (fun _ => ?_))
  all_goals (refine key0 _ ?_; simp only [okR]; clear key0 key1 key2; grind)
set_option maxHeartbeats 2000000 in
theorem implRF (a0 a1 a2 : Int) (a3 : Bool) (a4 : Int) (a5 : Bool) (a6 a7 : Int) : Ev (fun k => ZiRecFault.f k a0 a1 a2 a3 a4 a5 a6 a7) (rf a0 a1 a2 a3 a4 a5 a6 a7) := by
  have key4 : ∀ b : Bool, (b = true ↔ a5 = false ∧ a6 ≠ 0) → ¬ (a3 = false ∧ a4 ≠ 0) → ¬ bad1 a0 a2 a3 a4 a5 a6 → okR a0 a1 a2 a4 a6 a7 → Ev (fun k => ZiRecFault.j4 k b a0 a1 a2 a3 a4 a5 a6 a7) (rf a0 a1 a2 a3 a4 a5 a6 a7) := by
    intro b hb h3 h1 hok
    refine evSucc ?_
    simp only [ZiRecFault.j4]
    refine evIte (fun h => evRet (rf_bad hok (.inr (.inr (.inl (hb.1 h)))))) (fun h => ?_)
    have hg : (a0 = 5 ↔ a7 ≠ 0) → 0 = rf a0 a1 a2 a3 a4 a5 a6 a7 := by
      intro h2
      refine rf_good hok ?_
      rintro (h4 | h4 | h4 | h4)
      · exact h1 h4
      · exact h3 h4
      · exact h (hb.2 h4)
      · exact h4 h2
    have hx : ¬ (a0 = 5 ↔ a7 ≠ 0) → 1 = rf a0 a1 a2 a3 a4 a5 a6 a7 := fun h2 => rf_bad hok (.inr (.inr (.inr h2)))
    repeat' (refine evIte (fun _ => ?_) (fun _ => ?_))
    all_goals first | exact evRet (hg (by grind)) | exact evRet (hx (by grind))
  have key3 : ∀ b : Bool, (b = true ↔ a3 = false ∧ a4 ≠ 0) → ¬ bad1 a0 a2 a3 a4 a5 a6 → okR a0 a1 a2 a4 a6 a7 → Ev (fun k => ZiRecFault.j3 k b a0 a1 a2 a3 a4 a5 a6 a7) (rf a0 a1 a2 a3 a4 a5 a6 a7) := by
    intro b hb h1 hok
    refine evSucc ?_
    simp only [ZiRecFault.j3]
    refine evIte (fun h => evRet (rf_bad hok (.inr (.inl (hb.1 h))))) (fun h => evIte (fun h2 => key4 _ (by simp [h2]) (fun h3 => h (hb.2 h3)) h1 hok) (fun h2 => key4 _ (by simp [h2]) (fun h3 => h (hb.2 h3)) h1 hok))
  have key2 : ∀ b : Bool, (b = true ↔ bad1 a0 a2 a3 a4 a5 a6) → okR a0 a1 a2 a4 a6 a7 → Ev (fun k => ZiRecFault.j2 k b a0 a1 a2 a3 a4 a5 a6 a7) (rf a0 a1 a2 a3 a4 a5 a6 a7) := by
    intro b hb hok
    refine evSucc ?_
    simp only [ZiRecFault.j2]
    refine evIte (fun h => evRet (rf_bad hok (.inl (hb.1 h)))) (fun h => evIte (fun h2 => key3 _ (by simp [h2]) (fun h3 => h (hb.2 h3)) hok) (fun h2 => key3 _ (by simp [h2]) (fun h3 => h (hb.2 h3)) hok))
  have key1 : ∀ b : Bool, (b = true ↔ ¬ okR a0 a1 a2 a4 a6 a7) → Ev (fun k => ZiRecFault.j1 k b a0 a1 a2 a3 a4 a5 a6 a7) (rf a0 a1 a2 a3 a4 a5 a6 a7) := by
    intro b hb
    refine evSucc ?_
    simp only [ZiRecFault.j1]
    refine evIte (fun h => evRet (by simp [rf, hb.1 h])) (fun h => ?_)
    have hok : okR a0 a1 a2 a4 a6 a7 := by
      by_cases ho : okR a0 a1 a2 a4 a6 a7
      · exact ho
      · exact absurd (hb.2 ho) h
    refine evSeq (a := decide (a0 = 2 ∨ a0 = 5)) (by unfold ZiRec_turns.f; have e1 : (a0 == 5) = decide (a0 = 5) := by { rw [Bool.eq_iff_iff]; simp }; by_cases h2 : a0 = 2 <;> simp [h2, e1]) ?_
    simp only [decide_eq_true_eq]
    repeat' (refine evIte (fun _ => ?_) (fun _ => ?_))
    all_goals (refine key2 _ ?_ hok; simp only [bad1]; clear key2 key3 key4 hok hb h; grind)
  have key0 : ∀ b : Bool, (b = true ↔ ((a0 = 6 ∧ a1 = 0) ∨ (a0 ≠ 6 ∧ 1 ≤ a1 ∧ a1 ≤ 999))) → Ev (fun k => ZiRecFault.j0 k b a0 a1 a2 a3 a4 a5 a6 a7) (rf a0 a1 a2 a3 a4 a5 a6 a7) := by
    intro b hb
    refine evSucc ?_
    simp only [ZiRecFault.j0, ZiisKey.f, ZiisValue.f, implIn, Option.bind_some, decide_eq_true_eq]
    repeat' (refine evIte (fun _ => ?_) (fun _ => ?_))
    all_goals (refine key1 _ ?_; simp only [okR]; clear key1 key2 key3 key4; grind)
  unfold ZiRecFault.f
  simp only [ZiisTxn.f, implIn, Option.bind_some]
  refine evIte (fun h => key0 _ (by simp [h])) (fun h => key0 _ (by simp [h]))
end Go.Proofs.Ythagppmaofcllaa.Q
namespace Go.Proofs.Ythagppmaofcllaa.Q
open Go.RowKit Go.Proofs.Ythagppmaofcllaa.P Go.Proofs.YthagppmaofcllaaW.PrintWords Go.Proofs.YthagppmaofcllaaW.PrintLast Go.Proofs.YthagppmaofcllaaW.PrintMore Go.Proofs.Ythagppmaofcllaa.Lb
set_option linter.unusedVariables false
set_option linter.unusedSimpArgs false
def flagB (a3 a5 : Bool) : Int := (if a3 = true then 1 else 0) + (if a5 = true then 2 else 0)
def bodyR (a0 a1 a2 : Int) (a3 : Bool) (a4 : Int) (a5 : Bool) (a6 a7 : Int) : List Int := bytesN a0 1 ++ bytesN a1 2 ++ bytesN a2 1 ++ bytesN (flagB a3 a5) 1 ++ bytesN a4 2 ++ bytesN a6 2 ++ bytesN a7 2
def packR (a0 a1 a2 : Int) (a3 : Bool) (a4 : Int) (a5 : Bool) (a6 a7 : Int) : List Int := bodyR a0 a1 a2 a3 a4 a5 a6 a7 ++ bytesN (sumB (bodyR a0 a1 a2 a3 a4 a5 a6 a7)) 2
theorem bodyR_len (a0 a1 a2 : Int) (a3 : Bool) (a4 : Int) (a5 : Bool) (a6 a7 : Int) : (bodyR a0 a1 a2 a3 a4 a5 a6 a7).length = 11 := by simp [bodyR, bytesN_len]
theorem packR_len (a0 a1 a2 : Int) (a3 : Bool) (a4 : Int) (a5 : Bool) (a6 a7 : Int) : (packR a0 a1 a2 a3 a4 a5 a6 a7).length = 13 := by simp [packR, bodyR_len, bytesN_len]
theorem specPackR (a0 a1 a2 : Int) (a3 : Bool) (a4 : Int) (a5 : Bool) (a6 a7 : Int) : Ev (fun k => Zsl3Pack.f k a0 a1 a2 a3 a4 a5 a6 a7) (packR a0 a1 a2 a3 a4 a5 a6 a7) := by
  have key1 : Ev (fun k => Zsl3Pack.j1 k (flagB a3 a5) a0 a1 a2 a3 a4 a5 a6 a7) (packR a0 a1 a2 a3 a4 a5 a6 a7) := by
    refine evSucc ?_
    simp only [Zsl3Pack.j1, Option.bind_some]
    refine evCall (specBytes a1 2 (by omega)) (evIte (fun _ => evIte (fun _ => ?_) (fun h => absurd (by simp [bytesN_len]) h)) (fun h => absurd (by simp [bytesN_len]) h))
    refine evCall (specBytes a4 2 (by omega)) (evIte (fun _ => ?_) (fun h => absurd (by simp [bytesN_len]) h))
    refine evCall (specBytes a6 2 (by omega)) (evIte (fun _ => ?_) (fun h => absurd (by simp [bytesN_len]) h))
    refine evCall (specBytes a7 2 (by omega)) (evIte (fun _ => ?_) (fun h => absurd (by simp [bytesN_len]) h))
    have ef : flagB a3 a5 % 256 = flagB a3 a5 := by cases a3 <;> cases a5 <;> rfl
    have e : [a0 % 256] ++ bytesN a1 2 ++ [a2 % 256, flagB a3 a5] ++ bytesN a4 2 ++ bytesN a6 2 ++ bytesN a7 2 = bodyR a0 a1 a2 a3 a4 a5 a6 a7 := by simp [bodyR, bytes1, ef]
    simp only [e]
    have hl := bodyR_len a0 a1 a2 a3 a4 a5 a6 a7
    exact evCall (specSum _ (by omega)) (evCall (specBytes _ 2 (by omega)) (evIte (fun _ => evRet rfl) (fun h => absurd (by simp [bytesN_len, hl]) h)))
  have key0 : ∀ x : Int, x = (if a3 = true then 1 else 0) → Ev (fun k => Zsl3Pack.j0 k x a0 a1 a2 a3 a4 a5 a6 a7) (packR a0 a1 a2 a3 a4 a5 a6 a7) := by
    intro x hx
    refine evSucc ?_
    simp only [Zsl3Pack.j0]
    refine evIte (fun h => ?_) (fun h => ?_)
    · rw [show (x + 2) % 256 = flagB a3 a5 by subst hx; subst h; cases a3 <;> rfl]; exact key1
    · rw [show x = flagB a3 a5 by subst hx; simp only [flagB, if_neg h, Int.add_zero]]; exact key1
  unfold Zsl3Pack.f
  exact evIte (fun h => key0 1 (by rw [if_pos h])) (fun h => key0 0 (by rw [if_neg h]))
theorem implFlag (b : Bool) (n : Int) : Ziflag.f b n = some (if b = true then n else 0) := by
  unfold Ziflag.f
  cases b <;> rfl
theorem implPackR (a0 a1 a2 : Int) (a3 : Bool) (a4 : Int) (a5 : Bool) (a6 a7 : Int) : Ev (fun k => ZiRec_pack.f k a0 a1 a2 a3 a4 a5 a6 a7) (packR a0 a1 a2 a3 a4 a5 a6 a7) := by
  unfold ZiRec_pack.f
  have ef : wrap64 ((if a3 = true then 1 else 0) + (if a5 = true then 2 else 0)) = flagB a3 a5 := by unfold flagB; rw [w64 (by split <;> split <;> omega) (by split <;> split <;> omega)]
  refine evCall (implPut [] a0 1 (by omega) (by simp)) (evCall (implPut _ a1 2 (by omega) (by simp [bytesN_len])) (evCall (implPut _ a2 1 (by omega) (by simp [bytesN_len])) ?_))
  refine evSeq (implFlag a3 1) (evSeq (implFlag a5 2) ?_)
  simp only [ef]
  refine evCall (implPut _ _ 1 (by omega) (by simp [bytesN_len])) (evCall (implPut _ a4 2 (by omega) (by simp [bytesN_len])) (evCall (implPut _ a6 2 (by omega) (by simp [bytesN_len])) (evCall (implPut _ a7 2 (by omega) (by simp [bytesN_len])) ?_)))
  have e : [] ++ bytesN a0 1 ++ bytesN a1 2 ++ bytesN a2 1 ++ bytesN (flagB a3 a5) 1 ++ bytesN a4 2 ++ bytesN a6 2 ++ bytesN a7 2 = bodyR a0 a1 a2 a3 a4 a5 a6 a7 := by simp [bodyR]
  rw [e]
  have hl := bodyR_len a0 a1 a2 a3 a4 a5 a6 a7
  exact evCall (implSum _ (by omega)) (evCall (implPut _ _ 2 (by omega) (by omega)) (evRet rfl))
end Go.Proofs.Ythagppmaofcllaa.Q
namespace Go.Proofs.Ythagppmaofcllaa.Q
open Go.RowKit Go.Proofs.Ythagppmaofcllaa.P Go.Proofs.YthagppmaofcllaaW.PrintWords Go.Proofs.YthagppmaofcllaaW.PrintLast Go.Proofs.YthagppmaofcllaaW.PrintMore Go.Proofs.Ythagppmaofcllaa.Lb
set_option linter.unusedVariables false
set_option linter.unusedSimpArgs false
/-- The record that thirteen bytes tell. -/
def recU (d : List Int) : S48 := ⟨takeL (d.take 1), takeL ((d.drop 1).take 2), takeL ((d.drop 3).take 1), (Int.tmod (rd d 4) 2) == 1, takeL ((d.drop 5).take 2), (((Int.tdiv (rd d 4) 2) % 256) % 2) == 1, takeL ((d.drop 7).take 2), takeL ((d.drop 9).take 2)⟩
def rfU (r : S48) : Int := rf r.f0 r.f1 r.f2 r.f3 r.f4 r.f5 r.f6 r.f7
def packU (r : S48) : List Int := packR r.f0 r.f1 r.f2 r.f3 r.f4 r.f5 r.f6 r.f7
/-- The records at the beginning of bytes. -/
def recsU : Nat → List Int → List S48
  | 0, _ => []
  | n + 1, l => if 13 ≤ l.length then (if rfU (recU (l.take 13)) = 0 then (if packU (recU (l.take 13)) = l.take 13 then recU (l.take 13) :: recsU n (l.drop 13) else []) else []) else []
theorem recsU_len : ∀ (n : Nat) (l : List Int), 13 * (recsU n l).length ≤ l.length
  | 0, l => by simp [recsU]
  | n + 1, l => by
    unfold recsU
    split
    · split
      · split
        · have := recsU_len n (l.drop 13)
          rw [List.length_drop] at this
          simp only [List.length_cons]
          omega
        · simp
      · simp
    · simp
theorem isB_packU (r : S48) : isB (packU r) := by
  unfold packU packR bodyR
  exact isB_append (isB_append (isB_append (isB_append (isB_append (isB_append (isB_append (isB_bytesN _ _) (isB_bytesN _ _)) (isB_bytesN _ _)) (isB_bytesN _ _)) (isB_bytesN _ _)) (isB_bytesN _ _)) (isB_bytesN _ _)) (isB_bytesN _ _)
theorem take1_ {l : List Int} {i : Nat} (h : i < l.length) : takeL ((l.drop i).take 1) = l[i] := by
  have e : (l.drop i).take 1 = [l[i]] := by rw [List.drop_eq_getElem_cons h]; rfl
  rw [e]
  simp [takeL, takeStep]
set_option maxRecDepth 100000 in
theorem bit1 : ∀ n : Nat, n < 256 → ((Go.bits .and .u8 (n : Int) 1) == 1) = ((Int.tmod (n : Int) 2) == 1) := by
  intro n hn
  revert n
  decide
set_option maxRecDepth 100000 in
theorem bit2 : ∀ n : Nat, n < 256 → ((Go.bits .and .u8 (n : Int) 2) == 2) = ((((Int.tdiv (n : Int) 2) % 256) % 2) == 1) := by
  intro n hn
  revert n
  decide
theorem specRecs_l (x0 : List Int) (hB : isB x0) (hb : x0.length ≤ 1048576) : ∀ (n i : Nat) (acc : List S48), acc.length ≤ i → i ≤ x0.length → x0.length < i + 13 * n → Ev (fun k => Zsl3Recs.l0 k x0 acc (i : Int)) (acc ++ recsU n (x0.drop i), (i : Int) + 13 * (recsU n (x0.drop i)).length)
  | 0, i, acc, ha, hi, hn => absurd hn (by omega)
  | n + 1, i, acc, ha, hi, hn => by
    refine evSucc ?_
    have ew : wrap64 ((i : Int) + 13) = ((i + 13 : Nat) : Int) := by rw [w64 (by omega) (by omega)]; omega
    simp only [Zsl3Recs.l0, ew, Int.toNat_natCast]
    refine evIte (fun h13 => ?_) (fun h13 => ?_)
    rotate_left
    · have hn13 : ¬ 13 ≤ (x0.drop i).length := (by rw [List.length_drop]; omega)
      have e0 : recsU (n + 1) (x0.drop i) = [] := by rw [recsU, if_neg hn13]
      refine evRet ?_
      rw [e0]
      simp
    have hle : i + 13 ≤ x0.length := by omega
    have hL : 13 ≤ (x0.drop i).length := by rw [List.length_drop]; omega
    have ed : (x0.take (i + 13)).drop i = (x0.drop i).take 13 := by rw [List.drop_take]; congr 1; omega
    have e2 : x0.drop (i + 13) = (x0.drop i).drop 13 := by rw [List.drop_drop]
    rw [ed]
    unfold recsU
    simp only [if_pos hL]
    have hrec := fun a => specRecs_l x0 hB hb n (i + 13) a
    rw [e2] at hrec
    generalize recsU n ((x0.drop i).drop 13) = R at hrec ⊢
    have hBd : isB ((x0.drop i).take 13) := isB_take _ (isB_drop _ hB)
    have hdl : ((x0.drop i).take 13).length = 13 := by rw [List.length_take]; omega
    generalize (x0.drop i).take 13 = d at hBd hdl ⊢
    refine evIte (fun _ => evIte (fun _ => evIte (fun _ => ?_) (fun h => absurd (by omega) h)) (fun h => absurd (by omega) h)) (fun h => absurd (by omega) h)
    refine evCall (specTake d 1 2 hBd (by omega) (by omega) (by omega)) (evIte (fun _ => evIte (fun _ => ?_) (fun h => absurd (by omega) h)) (fun h => absurd (by omega) h))
    refine evCall (specTake d 5 2 hBd (by omega) (by omega) (by omega)) (evCall (specTake d 7 2 hBd (by omega) (by omega) (by omega)) (evCall (specTake d 9 2 hBd (by omega) (by omega) (by omega)) ?_))
    have g0 : wrap64 (rd d 0) = takeL (d.take 1) := by
      have h := take1_ (l := d) (i := 0) (by omega)
      rw [List.drop_zero] at h
      have hx := hBd d[0] (List.getElem_mem _)
      rw [h, show rd d 0 = d[0] from rdI (i := 0) (by omega), w64 (by omega) (by omega)]
    have g3 : wrap64 (rd d 3) = takeL ((d.drop 3).take 1) := by
      have hx := hBd d[3] (List.getElem_mem _)
      rw [take1_ (l := d) (i := 3) (by omega), show rd d 3 = d[3] from rdI (i := 3) (by omega), w64 (by omega) (by omega)]
    rw [g0, g3]
    have er : recU d = ⟨takeL (d.take 1), takeL ((d.drop 1).take 2), takeL ((d.drop 3).take 1), (Int.tmod (rd d 4) 2) == 1, takeL ((d.drop 5).take 2), (((Int.tdiv (rd d 4) 2) % 256) % 2) == 1, takeL ((d.drop 7).take 2), takeL ((d.drop 9).take 2)⟩ := rfl
    rw [← er]
    refine evCall (specRF _ _ _ _ _ _ _ _) (evIte (fun h0 => ?_) (fun h0 => evRet (by have h0' : ¬ rfU (recU d) = 0 := h0; simp [h0'])))
    have h0' : rfU (recU d) = 0 := h0
    simp only [if_pos h0']
    refine evCall (specPackR _ _ _ _ _ _ _ _) ?_
    have ep : packR (takeL (d.take 1)) (takeL ((d.drop 1).take 2)) (takeL ((d.drop 3).take 1)) ((Int.tmod (rd d 4) 2) == 1) (takeL ((d.drop 5).take 2)) ((((Int.tdiv (rd d 4) 2) % 256) % 2) == 1) (takeL ((d.drop 7).take 2)) (takeL ((d.drop 9).take 2)) = packU (recU d) := rfl
    rw [ep]
    refine evIte (fun h1 => ?_) (fun h1 => ?_)
    · have h1' : packU (recU d) = d := (strOf_inj (isB_packU _) hBd).1 h1
      simp only [if_pos h1']
      refine evIte (fun _ => ?_) (fun h => absurd (by omega) h)
      refine evEq (hrec (acc ++ [recU d]) (by simp; omega) hle (by omega)) ?_
      simp
      omega
    · have h1' : ¬ packU (recU d) = d := fun e => h1 ((strOf_inj (isB_packU _) hBd).2 e)
      exact evRet (by simp [h1'])
theorem implRecs_l : ∀ (n : Nat) (l : List Int) (acc : List S48), isB l → acc.length + l.length ≤ 1048576 → l.length < 13 * n → Ev (fun k => Ziunpack.l0 k l acc) (acc ++ recsU n l)
  | 0, l, acc, hB, hb, hn => absurd hn (by omega)
  | n + 1, l, acc, hB, hb, hn => by
    refine evSucc ?_
    simp only [Ziunpack.l0, Option.bind_some]
    refine evIte (fun h13 => ?_) (fun h13 => evRet (by have : ¬ 13 ≤ l.length := (by omega); simp [recsU, this]))
    have hL : 13 ≤ l.length := by omega
    refine evIte (fun _ => ?_) (fun h => absurd (by omega) h)
    unfold recsU
    simp only [if_pos hL]
    have hrec := fun a hb2 => implRecs_l n (l.drop 13) a (isB_drop _ hB) hb2 (by rw [List.length_drop]; omega)
    rw [List.length_drop] at hrec
    generalize recsU n (l.drop 13) = R at hrec ⊢
    have hBd : isB (l.take 13) := isB_take _ hB
    have hdl : (l.take 13).length = 13 := by rw [List.length_take]; omega
    generalize l.take 13 = d at hBd hdl ⊢
    have t1 : ∀ a b : Nat, isB ((d.take b).drop a) := fun a b => isB_drop _ (isB_take _ hBd)
    have t2 : ∀ a b : Nat, (d.take b).drop a = (d.drop a).take (b - a) := fun a b => List.drop_take
    have t3 : ∀ a b : Nat, ((d.take b).drop a).length ≤ b - a := fun a b => by rw [List.length_drop, List.length_take]; omega
    refine evIte (fun _ => ?_) (fun h => absurd (by omega) h)
    refine evCall (implTake (d.take 1) (isB_take _ hBd) (by rw [List.length_take]; omega)) (evIte (fun _ => ?_) (fun h => absurd (by omega) h))
    refine evCall (implTake _ (t1 1 3) (Nat.le_trans (t3 1 3) (by omega))) (evIte (fun _ => ?_) (fun h => absurd (by omega) h))
    refine evCall (implTake _ (t1 3 4) (Nat.le_trans (t3 3 4) (by omega))) (evIte (fun _ => evIte (fun _ => ?_) (fun h => absurd (by omega) h)) (fun h => absurd (by omega) h))
    refine evCall (implTake _ (t1 5 7) (Nat.le_trans (t3 5 7) (by omega))) (evIte (fun _ => ?_) (fun h => absurd (by omega) h))
    refine evCall (implTake _ (t1 7 9) (Nat.le_trans (t3 7 9) (by omega))) (evIte (fun _ => ?_) (fun h => absurd (by omega) h))
    refine evCall (implTake _ (t1 9 11) (Nat.le_trans (t3 9 11) (by omega))) ?_
    have hx := hBd d[4] (List.getElem_mem _)
    obtain ⟨m, hm⟩ : ∃ m : Nat, rd d 4 = (m : Int) := ⟨(rd d 4).toNat, by rw [show rd d 4 = d[4] from rdI (i := 4) (by omega)]; omega⟩
    have hm2 : m < 256 := by rw [show rd d 4 = d[4] from rdI (i := 4) (by omega)] at hm; omega
    have b1 : ((Go.bits .and .u8 (rd d 4) 1) == 1) = ((Int.tmod (rd d 4) 2) == 1) := by rw [hm]; exact bit1 m hm2
    have b2 : ((Go.bits .and .u8 (rd d 4) 2) == 2) = ((((Int.tdiv (rd d 4) 2) % 256) % 2) == 1) := by rw [hm]; exact bit2 m hm2
    simp only [t2, b1, b2]
    have er : recU d = ⟨takeL (d.take 1), takeL ((d.drop 1).take 2), takeL ((d.drop 3).take 1), (Int.tmod (rd d 4) 2) == 1, takeL ((d.drop 5).take 2), (((Int.tdiv (rd d 4) 2) % 256) % 2) == 1, takeL ((d.drop 7).take 2), takeL ((d.drop 9).take 2)⟩ := rfl
    simp only [show (3 : Nat) - 1 = 2 from rfl, show (4 : Nat) - 3 = 1 from rfl, show (7 : Nat) - 5 = 2 from rfl, show (9 : Nat) - 7 = 2 from rfl, show (11 : Nat) - 9 = 2 from rfl]
    rw [← er]
    refine evCall (implRF _ _ _ _ _ _ _ _) (evIte (fun h0 => ?_) (fun h0 => evRet (by have h0' : ¬ rfU (recU d) = 0 := h0; simp [h0'])))
    have h0' : rfU (recU d) = 0 := h0
    simp only [if_pos h0']
    refine evCall (implPackR _ _ _ _ _ _ _ _) ?_
    have ep : packR (takeL (d.take 1)) (takeL ((d.drop 1).take 2)) (takeL ((d.drop 3).take 1)) ((Int.tmod (rd d 4) 2) == 1) (takeL ((d.drop 5).take 2)) ((((Int.tdiv (rd d 4) 2) % 256) % 2) == 1) (takeL ((d.drop 7).take 2)) (takeL ((d.drop 9).take 2)) = packU (recU d) := rfl
    rw [ep]
    refine evCall (sEq _ d (by unfold packU; rw [packR_len]; omega)) ?_
    refine evIte (fun h1 => ?_) (fun h1 => ?_)
    · have h1' : packU (recU d) = d := of_decide_eq_true h1
      simp only [if_pos h1']
      refine evIte (fun _ => ?_) (fun h => absurd (by omega) h)
      refine evEq (hrec (acc ++ [recU d]) (by simp; omega)) ?_
      simp
    · have h1' : ¬ packU (recU d) = d := fun e => h1 (decide_eq_true e)
      exact evRet (by simp [h1'])
/-- All records at the beginning of bytes. -/
def recsA (l : List Int) : List S48 := recsU (l.length + 1) l
theorem recsA_len (l : List Int) : 13 * (recsA l).length ≤ l.length := recsU_len _ _
theorem specRecs (l : List Int) (hB : isB l) (hb : l.length ≤ 1048576) : Ev (fun k => Zsl3Recs.f k l) (recsA l, 13 * ((recsA l).length : Int)) := by
  have h := specRecs_l l hB hb (l.length + 1) 0 [] (by simp) (by omega) (by omega)
  rw [List.drop_zero] at h
  refine evEq h ?_
  simp [recsA]
theorem implRecs (l : List Int) (hB : isB l) (hb : l.length ≤ 1048576) : Ev (fun k => Ziunpack.f k l) (recsA l) := by
  refine evEq (implRecs_l (l.length + 1) l [] hB (by simpa using hb) (by omega)) ?_
  simp [recsA]
end Go.Proofs.Ythagppmaofcllaa.Q
namespace Go.Proofs.Ythagppmaofcllaa.Q
open Go.RowKit Go.Proofs.Ythagppmaofcllaa.P Go.Proofs.YthagppmaofcllaaW.PrintWords Go.Proofs.YthagppmaofcllaaW.PrintLast Go.Proofs.YthagppmaofcllaaW.PrintMore Go.Proofs.Ythagppmaofcllaa.Lb
set_option linter.unusedVariables false
set_option linter.unusedSimpArgs false
theorem specAll (a b : List Int) (h : a.length + b.length ≤ 1048576) : Zsl3All.f a b = some (a ++ b) := by
  unfold Zsl3All.f
  simp only [Option.bind_some]
  rw [if_pos (by simp; omega), if_pos (by simp; omega)]
  simp
theorem implConcat (a b : List Int) (h : a.length + b.length ≤ 1048576) : Ev (fun k => ZcConcat_byte.f k [a, b]) (a ++ b) := by
  unfold ZcConcat_byte.f
  have r0 : rd_L4 [a, b] 0 = a := rfl
  have r1 : rd_L4 [a, b] 1 = b := rfl
  have hl : (([a, b] : List (List Int)).length : Int) = 2 := rfl
  have e1 : wrap64 ((0 : Int) + 1) = 1 := by rw [w64 (by omega) (by omega)]; rfl
  have e2 : wrap64 ((1 : Int) + 1) = 2 := by rw [w64 (by omega) (by omega)]; rfl
  have s1 : wrap64 ((0 : Int) + (a.length : Int)) = a.length := by rw [w64 (by omega) (by omega)]; omega
  have s2 : wrap64 ((a.length : Int) + (b.length : Int)) = ((a.length + b.length : Nat) : Int) := by rw [w64 (by omega) (by omega)]; omega
  rw [hl]
  refine evSucc ?_
  simp only [ZcConcat_byte.l0, hl, r0, e1, s1]
  refine evIte (fun _ => evIte (fun _ => evIte (fun _ => evIte (fun h => absurd h (by omega)) (fun _ => ?_)) (fun h => absurd (by omega) h)) (fun h => absurd (by omega) h)) (fun h => absurd (by omega) h)
  refine evSucc ?_
  simp only [ZcConcat_byte.l0, hl, r1, e2, s2]
  refine evIte (fun _ => evIte (fun _ => evIte (fun _ => evIte (fun h => absurd h (by omega)) (fun _ => ?_)) (fun h => absurd (by omega) h)) (fun h => absurd (by omega) h)) (fun h => absurd (by omega) h)
  refine evSucc ?_
  simp only [ZcConcat_byte.l0, hl]
  refine evIte (fun h => absurd h (by omega)) (fun _ => ?_)
  have g : ZcGrow_byte.f ([] : List Int) ((a.length + b.length : Nat) : Int) = some [] := by
    unfold ZcGrow_byte.f
    rw [if_pos (by omega), if_pos (by simp; omega)]
  refine evSeq g ?_
  refine evSucc ?_
  simp only [ZcConcat_byte.l1, hl, r0, e1]
  refine evIte (fun _ => evIte (fun _ => evIte (fun _ => evIte (fun _ => ?_) (fun h => absurd (by simp; omega) h)) (fun h => absurd (by omega) h)) (fun h => absurd (by omega) h)) (fun h => absurd (by omega) h)
  refine evSucc ?_
  simp only [ZcConcat_byte.l1, hl, r1, e2, List.nil_append]
  refine evIte (fun _ => evIte (fun _ => evIte (fun _ => evIte (fun _ => ?_) (fun h => absurd (by omega) h)) (fun h => absurd (by omega) h)) (fun h => absurd (by omega) h)) (fun h => absurd (by omega) h)
  refine evSucc ?_
  simp only [ZcConcat_byte.l1]
  exact evIte (fun h => absurd h (by omega)) (fun _ => evRet rfl)
theorem implAll (a b : List Int) (h : a.length + b.length ≤ 1048576) : Ev (fun k => ZiLog_all.f k a b) (a ++ b) := by
  unfold ZiLog_all.f
  exact evCall (implConcat a b h) (evRet rfl)
/-- What LogFault tells. -/
def lgf (a b : List Int) : Int := if a.length + b.length > 4000 then 2 else if 13 * (recsA (a ++ b)).length = (a ++ b).length then 0 else 5
theorem specLogF (a b : List Int) (ha : isB a) (hb : isB b) (h : a.length + b.length ≤ 1048576) : Ev (fun k => ZsLogFault.f k a b) (lgf a b) := by
  unfold ZsLogFault.f lgf
  rw [w64 (by omega) (by omega)]
  refine evIte (fun h1 => evRet (by rw [if_pos (by omega)])) (fun h1 => ?_)
  rw [if_neg (by omega)]
  have hl : (a ++ b).length = a.length + b.length := List.length_append
  refine evSeq (specAll a b h) (evCall (specRecs _ (isB_append ha hb) (by omega)) ?_)
  exact evIte (fun h2 => evRet (by rw [if_pos (by simp only at h2; omega)])) (fun h2 => evRet (by rw [if_neg (by simp only at h2; omega)]))
theorem implLogF (a b : List Int) (ha : isB a) (hb : isB b) (h : a.length + b.length ≤ 1048576) : Ev (fun k => ZiLogFault.f k a b) (lgf a b) := by
  unfold ZiLogFault.f lgf
  have hl : (a ++ b).length = a.length + b.length := List.length_append
  refine evCall (implAll a b h) ?_
  refine evIte (fun h1 => evRet (by rw [if_pos (by omega)])) (fun h1 => ?_)
  rw [if_neg (by omega)]
  refine evCall (implRecs _ (isB_append ha hb) (by omega)) ?_
  have hr := recsA_len (a ++ b)
  rw [w64 (by omega) (by omega)]
  exact evIte (fun h2 => evRet (by rw [if_pos (by omega)])) (fun h2 => evRet (by rw [if_neg (by omega)]))
theorem lgf_0 {a b : List Int} (h : lgf a b = 0) : a.length + b.length ≤ 4000 ∧ 13 * (recsA (a ++ b)).length = (a ++ b).length := by
  unfold lgf at h
  split at h
  · omega
  · split at h
    · exact ⟨by omega, by assumption⟩
    · omega
/-- What UnpackRecs tells. -/
def unr (l : List Int) : Int × Int × List S48 := if l.length > 4000 then (2, 0, []) else (0, 13 * ((recsA l).length : Int), recsA l)
theorem specUnr (l : List Int) (hB : isB l) (h : l.length ≤ 1048576) : Ev (fun k => ZsUnpackRecs.f k l) (unr l) := by
  unfold ZsUnpackRecs.f unr
  refine evIte (fun h1 => evRet (by rw [if_pos (by omega)])) (fun h1 => ?_)
  rw [if_neg (by omega)]
  exact evCall (specRecs l hB h) (evRet rfl)
theorem implUnr (l : List Int) (hB : isB l) (h : l.length ≤ 1048576) : Ev (fun k => ZiUnpackRecs.f k l) (unr l) := by
  unfold ZiUnpackRecs.f unr
  refine evIte (fun h1 => evRet (by rw [if_pos (by omega)])) (fun h1 => ?_)
  rw [if_neg (by omega)]
  have hr := recsA_len l
  exact evCall (implRecs l hB h) (evRet (by rw [w64 (by omega) (by omega)]))
end Go.Proofs.Ythagppmaofcllaa.Q
namespace Go.Proofs.Ythagppmaofcllaa.Q
open Go.RowKit Go.Proofs.Ythagppmaofcllaa.P Go.Proofs.YthagppmaofcllaaW.PrintWords Go.Proofs.YthagppmaofcllaaW.PrintLast Go.Proofs.YthagppmaofcllaaW.PrintMore Go.Proofs.Ythagppmaofcllaa.Lb
set_option linter.unusedVariables false
set_option linter.unusedSimpArgs false
def rof (a b : List Int) : Int × Int × List S48 := if lgf a b = 0 then unr (a ++ b) else (lgf a b, 0, [])
theorem specRof (a b : List Int) (ha : isB a) (hb : isB b) (h : a.length + b.length ≤ 1048576) : Ev (fun k => ZsRecsOf.f k a b) (rof a b) := by
  unfold ZsRecsOf.f rof
  refine evCall (specLogF a b ha hb h) (evIte (fun h0 => ?_) (fun h0 => evRet (by rw [if_neg h0])))
  rw [if_pos h0]
  exact evSeq (specAll a b h) (evCall (specUnr _ (isB_append ha hb) (by rw [List.length_append]; exact h)) (evRet rfl))
theorem implRof (a b : List Int) (ha : isB a) (hb : isB b) (h : a.length + b.length ≤ 1048576) : Ev (fun k => ZiRecsOf.f k a b) (rof a b) := by
  unfold ZiRecsOf.f rof
  refine evCall (implLogF a b ha hb h) (evIte (fun h0 => ?_) (fun h0 => evRet (by rw [if_neg h0])))
  rw [if_pos h0]
  exact evCall (implAll a b h) (evCall (implUnr _ (isB_append ha hb) (by rw [List.length_append]; exact h)) (evRet rfl))
end Go.Proofs.Ythagppmaofcllaa.Q
namespace Go.Proofs.Ythagppmaofcllaa.Q
open Go.RowKit Go.Proofs.Ythagppmaofcllaa.P Go.Proofs.YthagppmaofcllaaW.PrintWords Go.Proofs.YthagppmaofcllaaW.PrintLast Go.Proofs.YthagppmaofcllaaW.PrintMore Go.Proofs.Ythagppmaofcllaa.Lb
set_option linter.unusedVariables false
set_option linter.unusedSimpArgs false
def craD (a b : List Int) (q : Int) : List Int := (a ++ b.take q.toNat).take (13 * (recsA (a ++ b.take q.toNat)).length)
def cra (a b : List Int) (q : Int) : Int × Int × List Int × List Int :=
  if lgf a b = 0 then (if 0 ≤ q ∧ q ≤ (b.length : Int) then (0, wrap64 (Int.tdiv (wrap64 (((craD a b q).length : Int) + (([] : List Int).length : Int))) 13), craD a b q, []) else (3, 0, [], [])) else (lgf a b, 0, [], [])
theorem specCra (a b : List Int) (q : Int) (ha : isB a) (hb : isB b) (h : a.length + b.length ≤ 1048576) : Ev (fun k => ZsCrashLog.f k a b q) (cra a b q) := by
  unfold ZsCrashLog.f cra
  refine evCall (specLogF a b ha hb h) (evIte (fun h0 => ?_) (fun h0 => evRet (by rw [if_neg h0])))
  rw [if_pos h0]
  refine evSeq (specIn q 0 _) (evIte (fun h1 => ?_) (fun h1 => evRet (by rw [if_neg (fun h2 => h1 (decide_eq_true h2))])))
  have h1' := of_decide_eq_true h1
  rw [if_pos h1']
  obtain ⟨m, rfl⟩ : ∃ m : Nat, q = (m : Int) := ⟨q.toNat, by omega⟩
  have hm : m ≤ b.length := by omega
  have hl2 : (b.take m).length ≤ b.length := by rw [List.length_take]; omega
  have hB2 : isB (a ++ b.take m) := isB_append ha (isB_take _ hb)
  have hL : (a ++ b.take m).length ≤ 1048576 := by rw [List.length_append]; omega
  have hr := recsA_len (a ++ b.take m)
  have e1 : (13 * ((recsA (a ++ b.take m)).length : Int)).toNat = 13 * (recsA (a ++ b.take m)).length := by omega
  have C : Ev (fun k => Zsl3Crash.f k a b (m : Int)) (craD a b (m : Int), []) := by
    unfold Zsl3Crash.f craD
    simp only [Option.bind_some, List.nil_append, Int.toNat_natCast, List.length_nil]
    refine evIte (fun _ => evIte (fun _ => evIte (fun _ => evIte (fun _ => ?_) (fun h => absurd (by omega) h)) (fun h => absurd (by omega) h)) (fun h => absurd (by omega) h)) (fun h => absurd (by omega) h)
    refine evCall (specRecs _ hB2 hL) ?_
    simp only [e1]
    refine evIte (fun _ => evIte (fun _ => evIte (fun _ => evRet rfl) (fun h => absurd (by rw [List.length_take]; omega) h)) (fun h => absurd (by omega) h)) (fun h => absurd (by omega) h)
  exact evCall C (evSeq (a := wrap64 (Int.tdiv (wrap64 (((craD a b (m : Int)).length : Int) + (([] : List Int).length : Int))) 13)) rfl (evRet rfl))
theorem implCra (a b : List Int) (q : Int) (ha : isB a) (hb : isB b) (h : a.length + b.length ≤ 1048576) : Ev (fun k => ZiCrashLog.f k a b q) (cra a b q) := by
  have E3 : ∀ c : Int, c ≠ 0 → Ev (fun k => ZiCrashLog.j1 k q c a b) (c, 0, [], []) := by
    intro c hc
    refine evSucc ?_
    simp only [ZiCrashLog.j1]
    exact evIte (fun h => absurd h hc) (fun _ => evRet rfl)
  unfold ZiCrashLog.f cra
  refine evCall (implLogF a b ha hb h) (evIte (fun h0 => ?_) (fun h0 => ?_))
  rotate_left
  · rw [if_neg h0]
    refine evSucc ?_
    simp only [ZiCrashLog.j0]
    exact evIte (fun h => absurd h (by decide)) (fun _ => E3 _ h0)
  rw [if_pos h0]
  refine evSeq (implIn q 0 _) (evSucc ?_)
  simp only [ZiCrashLog.j0]
  refine evIte (fun h1 => ?_) (fun h1 => ?_)
  · have h1' : ¬ (0 ≤ q ∧ q ≤ (b.length : Int)) := fun h2 => by rw [decide_eq_true h2] at h1; exact absurd h1 (by decide)
    rw [if_neg h1']
    exact E3 3 (by decide)
  have h1' : 0 ≤ q ∧ q ≤ (b.length : Int) := Classical.byContradiction fun h2 => h1 (by rw [decide_eq_false h2]; rfl)
  rw [if_pos h1', h0]
  obtain ⟨m, rfl⟩ : ∃ m : Nat, q = (m : Int) := ⟨q.toNat, by omega⟩
  have hm : m ≤ b.length := by omega
  have hl2 : (b.take m).length ≤ b.length := by rw [List.length_take]; omega
  have hB2 : isB (a ++ b.take m) := isB_append ha (isB_take _ hb)
  have hL : (a ++ b.take m).length ≤ 1048576 := by rw [List.length_append]; omega
  have hr := recsA_len (a ++ b.take m)
  refine evSucc ?_
  simp only [ZiCrashLog.j1, if_true, Int.toNat_natCast]
  refine evIte (fun _ => evIte (fun _ => ?_) (fun h => absurd (by omega) h)) (fun h => absurd (by omega) h)
  refine evCall (implConcat a (b.take m) (by omega)) (evCall (implRecs _ hB2 hL) ?_)
  have e0 : wrap64 (13 * ((recsA (a ++ b.take m)).length : Int)) = ((13 * (recsA (a ++ b.take m)).length : Nat) : Int) := by rw [w64 (by omega) (by omega)]; omega
  simp only [e0, Int.toNat_natCast, Option.bind_some]
  refine evIte (fun _ => evIte (fun _ => ?_) (fun h => absurd (by omega) h)) (fun h => absurd (by omega) h)
  exact evSeq (a := wrap64 (Int.tdiv (wrap64 (((craD a b (m : Int)).length : Int) + (([] : List Int).length : Int))) 13)) rfl (evRet rfl)
end Go.Proofs.Ythagppmaofcllaa.Q
namespace Go.Proofs.Ythagppmaofcllaa.Q
open Go.RowKit Go.Proofs.Ythagppmaofcllaa.P Go.Proofs.YthagppmaofcllaaW.PrintWords Go.Proofs.YthagppmaofcllaaW.PrintLast Go.Proofs.YthagppmaofcllaaW.PrintMore Go.Proofs.Ythagppmaofcllaa.Lb
set_option linter.unusedVariables false
set_option linter.unusedSimpArgs false
theorem recsU_pre : ∀ (n : Nat) (d t : List Int) (m : Nat), n ≤ m → recsU n d <+: recsU m (d ++ t)
  | 0, d, t, m, _ => List.nil_prefix
  | n + 1, d, t, 0, h => absurd h (by omega)
  | n + 1, d, t, m + 1, h => by
    unfold recsU
    by_cases h1 : 13 ≤ d.length
    · have e1 : (d ++ t).take 13 = d.take 13 := List.take_append_of_le_length h1
      have e2 : (d ++ t).drop 13 = d.drop 13 ++ t := List.drop_append_of_le_length h1
      have h1' : 13 ≤ (d ++ t).length := by rw [List.length_append]; omega
      rw [if_pos h1, if_pos h1', e1, e2]
      split
      · split
        · obtain ⟨x, hx⟩ := recsU_pre n (d.drop 13) t m (by omega)
          exact ⟨x, by rw [List.cons_append, hx]⟩
        · exact List.nil_prefix
      · exact List.nil_prefix
    · rw [if_neg h1]
      exact List.nil_prefix
theorem recsA_pre (d t : List Int) : recsA d <+: recsA (d ++ t) := recsU_pre _ d t _ (by rw [List.length_append]; omega)
theorem recsU_nil (m : Nat) : recsU m [] = [] := by
  cases m with
  | zero => rfl
  | succ m => simp [recsU]
theorem recsU_cut : ∀ (n : Nat) (d : List Int) (m : Nat), (recsU n d).length ≤ m → recsU m (d.take (13 * (recsU n d).length)) = recsU n d
  | 0, d, m, _ => by simp [recsU, recsU_nil]
  | n + 1, d, m, h => by
    by_cases h1 : 13 ≤ d.length
    · by_cases h2 : rfU (recU (d.take 13)) = 0
      · by_cases h3 : packU (recU (d.take 13)) = d.take 13
        · have e : recsU (n + 1) d = recU (d.take 13) :: recsU n (d.drop 13) := by rw [recsU, if_pos h1, if_pos h2, if_pos h3]
          rw [e] at h ⊢
          cases m with
          | zero => simp at h
          | succ m =>
            have hr := recsU_len n (d.drop 13)
            rw [List.length_drop] at hr
            have ih := recsU_cut n (d.drop 13) m (by simpa using h)
            rw [List.length_cons]
            have l1 : 13 ≤ (d.take (13 * ((recsU n (d.drop 13)).length + 1))).length := by rw [List.length_take]; omega
            have t1 : (d.take (13 * ((recsU n (d.drop 13)).length + 1))).take 13 = d.take 13 := by rw [List.take_take]; congr 1 <;> omega
            have t2 : (d.take (13 * ((recsU n (d.drop 13)).length + 1))).drop 13 = (d.drop 13).take (13 * (recsU n (d.drop 13)).length) := by rw [List.drop_take]; congr 1
            rw [recsU, if_pos l1, t1, if_pos h2, if_pos h3, t2, ih]
        · have e : recsU (n + 1) d = [] := by rw [recsU, if_pos h1, if_pos h2, if_neg h3]
          rw [e]; simp [recsU_nil]
      · have e : recsU (n + 1) d = [] := by rw [recsU, if_pos h1, if_neg h2]
        rw [e]; simp [recsU_nil]
    · have e : recsU (n + 1) d = [] := by rw [recsU, if_neg h1]
      rw [e]; simp [recsU_nil]
theorem recsA_cut (d : List Int) : recsA (d.take (13 * (recsA d).length)) = recsA d := by
  have hr := recsA_len d
  refine recsU_cut _ d _ ?_
  have : (recsA d).length ≤ (d.take (13 * (recsA d).length)).length := by rw [List.length_take]; omega
  unfold recsA at this ⊢
  omega
end Go.Proofs.Ythagppmaofcllaa.Q
namespace Go.Proofs.Ythagppmaofcllaa.Q
open Go.RowKit Go.Proofs.Ythagppmaofcllaa.P Go.Proofs.YthagppmaofcllaaW.PrintWords Go.Proofs.YthagppmaofcllaaW.PrintLast Go.Proofs.YthagppmaofcllaaW.PrintMore Go.Proofs.Ythagppmaofcllaa.Lb
set_option linter.unusedVariables false
set_option linter.unusedSimpArgs false
theorem rd_isB {s : List Int} (hs : isB s) {i : Int} (h0 : 0 ≤ i) (h1 : i < (s.length : Int)) : 0 ≤ rd s i ∧ rd s i ≤ 255 := by
  unfold rd
  have hlt : i.toNat < s.length := by omega
  rw [getD_at hlt]
  exact hs _ (List.getElem_mem hlt)
/-- A source of draws. -/
def src (s : List Int) (a : Int) : Prop := isB s ∧ s.length ≤ 1048576 ∧ 0 ≤ a ∧ a ≤ 1000000
theorem src_up {s : List Int} {a b : Int} (h : src s a) (h1 : a ≤ b) (h2 : b ≤ 1000000) : src s b := ⟨h.1, h.2.1, by have := h.2.2.1; omega, h2⟩
theorem nx {s : List Int} {a n : Int} (h : src s a) (hn : n ≤ 1000000) : ∃ r, Zsl1Next.f s a n = some (r, a + 1) ∧ 0 ≤ r ∧ (1 ≤ n → r < n) := by
  obtain ⟨hs, hl, h0, h1⟩ := h
  unfold Zsl1Next.f
  have e1 : wrap64 (a + 1) = a + 1 := w64 (by omega) (by omega)
  have e2 : wrap64 (a + 1 - 1) = a := by rw [w64 (by omega) (by omega)]; omega
  simp only [e1, e2]
  by_cases c1 : n < 1
  · rw [if_pos c1]
    exact ⟨0, rfl, by omega, by omega⟩
  rw [if_neg c1]
  have fin : ∀ v : Int, 0 ≤ v → ∃ r, some (Int.tmod v n, a + 1) = some (r, a + 1) ∧ 0 ≤ r ∧ (1 ≤ n → r < n) := by
    intro v hv
    rw [Int.tmod_eq_emod_of_nonneg hv]
    exact ⟨_, rfl, Int.emod_nonneg _ (by omega), fun _ => Int.emod_lt_of_pos _ (by omega)⟩
  by_cases c2 : (s.length : Int) = 0
  · rw [if_pos c2, if_neg (by omega)]
    refine fin _ ?_
    rw [w64 (by omega) (by omega)]
    omega
  rw [if_neg c2]
  have k0 : 0 < (s.length : Int) := by omega
  have i1 : ∀ x : Int, 0 ≤ x → 0 ≤ Int.tmod x (s.length : Int) ∧ Int.tmod x (s.length : Int) < (s.length : Int) := by
    intro x hx
    rw [Int.tmod_eq_emod_of_nonneg hx]
    exact ⟨Int.emod_nonneg _ (by omega), Int.emod_lt_of_pos _ k0⟩
  obtain ⟨m0, m1⟩ := i1 a h0
  rw [if_pos m0, if_pos m1]
  obtain ⟨x0, x1⟩ := rd_isB hs m0 m1
  have q0 : 0 ≤ Int.tdiv a (s.length : Int) ∧ Int.tdiv a (s.length : Int) ≤ a := by
    rw [Int.tdiv_eq_ediv_of_nonneg h0]
    exact ⟨Int.ediv_nonneg h0 (by omega), Int.ediv_le_self _ h0⟩
  generalize Int.tdiv a (s.length : Int) = q at q0 ⊢
  generalize rd s (Int.tmod a (s.length : Int)) = x at x0 x1 ⊢
  have W : wrap64 (wrap64 x + wrap64 (wrap64 q * 37)) = x + q * 37 := by
    rw [w64 (x := x) (by omega) (by omega), w64 (x := q) (by omega) (by omega), w64 (x := q * 37) (by omega) (by omega), w64 (by omega) (by omega)]
  by_cases c3 : n > 200
  · rw [if_pos c3]
    obtain ⟨m2, m3⟩ := i1 (a + 1) (by omega)
    rw [if_pos m2, if_pos m3, if_neg (by omega)]
    obtain ⟨y0, y1⟩ := rd_isB hs m2 m3
    generalize rd s (Int.tmod (a + 1) (s.length : Int)) = y at y0 y1 ⊢
    refine fin _ ?_
    rw [W, w64 (x := y) (by omega) (by omega), w64 (x := y * 13) (by omega) (by omega), w64 (x := (x + q * 37) * 251) (by omega) (by omega), w64 (x := (x + q * 37) * 251 + y * 13) (by omega) (by omega), w64 (by omega) (by omega)]
    omega
  · rw [if_neg c3, if_neg (by omega)]
    refine fin _ ?_
    rw [W]
    omega
theorem pk {s : List Int} {a : Int} (h : src s a) (l : List Int) (h0 : 0 < l.length) (h1 : l.length ≤ 1000) : ∃ r, Zsl1Pick.f s a l = some (r, a + 1) ∧ r ∈ l := by
  obtain ⟨i, e, i0, i1⟩ := nx (n := (l.length : Int)) h (by omega)
  have i1' := i1 (by omega)
  unfold Zsl1Pick.f
  rw [e]
  simp only [Option.bind_some, i0, i1', if_true]
  refine ⟨_, rfl, ?_⟩
  unfold rd
  have hlt : i.toNat < l.length := by omega
  rw [getD_at hlt]
  exact List.getElem_mem hlt
theorem ch {s : List Int} {a n : Int} (h : src s a) (hn : n ≤ 1000000) : ∃ b, Zsl1Chance.f s a n = some (b, a + 1) := by
  obtain ⟨r, e, _⟩ := nx h hn
  unfold Zsl1Chance.f
  rw [e]
  exact ⟨_, rfl⟩
end Go.Proofs.Ythagppmaofcllaa.Q
namespace Go.Proofs.Ythagppmaofcllaa.Q
open Go.RowKit Go.Proofs.Ythagppmaofcllaa.P Go.Proofs.YthagppmaofcllaaW.PrintWords Go.Proofs.YthagppmaofcllaaW.PrintLast Go.Proofs.YthagppmaofcllaaW.PrintMore Go.Proofs.Ythagppmaofcllaa.Lb
set_option linter.unusedVariables false
set_option linter.unusedSimpArgs false
/-- A draw of a record: some record, a little further on. -/
def recD (s : List Int) (a m : Int) (g : Nat → Option (Int × Int × Int × Bool × Int × Bool × Int × Int × Int)) : Prop :=
  ∃ r0 r1 r2 r3 r4 r5 r6 r7 b, Ev g (r0, r1, r2, r3, r4, r5, r6, r7, b) ∧ a ≤ b ∧ b ≤ a + m
theorem recD_ret {s : List Int} {a m : Int} (hm : 0 ≤ m) {r0 r1 r2 : Int} {r3 : Bool} {r4 : Int} {r5 : Bool} {r6 r7 : Int} : recD s a m (fun _ => some (r0, r1, r2, r3, r4, r5, r6, r7, a)) := ⟨_, _, _, _, _, _, _, _, _, evRet rfl, by omega, by omega⟩
theorem recD_up {s : List Int} {a m : Int} {g} (h : recD s (a + 1) m g) : recD s a (m + 1) g := by
  obtain ⟨r0, r1, r2, r3, r4, r5, r6, r7, b, hb, h0, h1⟩ := h
  exact ⟨r0, r1, r2, r3, r4, r5, r6, r7, b, hb, by omega, by omega⟩
theorem recD_more {s : List Int} {a m m' : Int} {g} (h : recD s a m g) (hm : m ≤ m') : recD s a m' g := by
  obtain ⟨r0, r1, r2, r3, r4, r5, r6, r7, b, hb, h0, h1⟩ := h
  exact ⟨r0, r1, r2, r3, r4, r5, r6, r7, b, hb, by omega, by omega⟩
theorem recD_seq {α : Type} {s : List Int} {a m : Int} {x : Option α} {v : α} {f : Nat → α → Option (Int × Int × Int × Bool × Int × Bool × Int × Int × Int)} (h : x = some v) (k : recD s a m (fun n => f n v)) : recD s a m (fun n => x.bind (f n)) := by subst h; exact k
theorem recD_ite {s : List Int} {a m : Int} {c : Prop} [Decidable c] {f g} (h1 : c → recD s a m f) (h2 : ¬ c → recD s a m g) : recD s a m (fun k => if c then f k else g k) := by
  by_cases hc : c
  · simp only [hc, if_true]; exact h1 hc
  · simp only [hc, if_false]; exact h2 hc
theorem recD_succ {s : List Int} {a m : Int} {g} (h : recD s a m (fun k => g (k + 1))) : recD s a m g := by
  obtain ⟨r0, r1, r2, r3, r4, r5, r6, r7, b, hb, h0, h1⟩ := h
  exact ⟨r0, r1, r2, r3, r4, r5, r6, r7, b, evSucc hb, h0, h1⟩
theorem recD_nx {s : List Int} {a n m : Int} (h : src s a) (ha : a ≤ 999000) (hn : n ≤ 1000000) {f : Nat → Int × Int → Option (Int × Int × Int × Bool × Int × Bool × Int × Int × Int)} (k : ∀ r, src s (a + 1) → recD s (a + 1) m (fun n' => f n' (r, a + 1))) : recD s a (m + 1) (fun n' => (Zsl1Next.f s a n).bind (f n')) := by
  obtain ⟨r, e, _⟩ := nx (n := n) h hn
  exact recD_seq e (recD_up (k r (src_up h (by omega) (by omega))))
theorem recD_ch {s : List Int} {a n m : Int} (h : src s a) (ha : a ≤ 999000) (hn : n ≤ 1000000) {f : Nat → Bool × Int → Option (Int × Int × Int × Bool × Int × Bool × Int × Int × Int)} (k : ∀ r, src s (a + 1) → recD s (a + 1) m (fun n' => f n' (r, a + 1))) : recD s a (m + 1) (fun n' => (Zsl1Chance.f s a n).bind (f n')) := by
  obtain ⟨r, e⟩ := ch (n := n) h hn
  exact recD_seq e (recD_up (k r (src_up h (by omega) (by omega))))
theorem recD_pk {s : List Int} {a m : Int} (h : src s a) (ha : a ≤ 999000) {l : List Int} (h0 : 0 < l.length) (h1 : l.length ≤ 1000) {f : Nat → Int × Int → Option (Int × Int × Int × Bool × Int × Bool × Int × Int × Int)} (k : ∀ r, src s (a + 1) → recD s (a + 1) m (fun n' => f n' (r, a + 1))) : recD s a (m + 1) (fun n' => (Zsl1Pick.f s a l).bind (f n')) := by
  obtain ⟨r, e, _⟩ := pk h l h0 h1
  exact recD_seq e (recD_up (k r (src_up h (by omega) (by omega))))
theorem dkey {s : List Int} {a : Int} (h : src s a) (ha : a ≤ 999000) : ∃ r, Zsl1DrawKey.f s a = some (r, a + 4) := by
  obtain ⟨r1, e1, _⟩ := nx (n := 8) h (by omega)
  obtain ⟨r2, e2, _⟩ := nx (n := 8) (src_up h (b := a + 1) (by omega) (by omega)) (by omega)
  obtain ⟨r3, e3, _⟩ := nx (n := 32) (src_up h (b := a + 1 + 1) (by omega) (by omega)) (by omega)
  obtain ⟨r4, e4, _⟩ := pk (src_up h (b := a + 1 + 1 + 1) (by omega) (by omega)) [r1, r2, r3] (by simp) (by simp)
  refine ⟨r4, ?_⟩
  unfold Zsl1DrawKey.f
  simp only [e1, e2, e3, e4, Option.bind_some]
  rw [show a + 1 + 1 + 1 + 1 = a + 4 by omega]
theorem recJ1 {s : List Int} {a : Int} (h : src s a) (ha : a ≤ 998000) (v0 v1 v2 : Int) (v3 : Bool) (v4 : Int) (v5 : Bool) (v6 v7 : Int) : recD s a 2 (fun k => Zsl3Rec.j1 k s a v0 v1 v2 v3 v4 v5 v6 v7) := by
  refine recD_succ ?_
  simp only [Zsl3Rec.j1]
  refine recD_ite (fun _ => ?_) (fun _ => ?_)
  · refine recD_nx (m := 1) h (by omega) (by omega) (fun r1 h1 => ?_)
    refine recD_ite (fun _ => ?_) (fun _ => recD_ret (by omega))
    exact recD_nx (m := 0) h1 (by omega) (by omega) (fun r2 h2 => recD_ret (by omega))
  · refine recD_ite (fun _ => ?_) (fun _ => recD_ret (by omega))
    exact recD_more (recD_nx (m := 0) h (by omega) (by omega) (fun r2 h2 => recD_ret (by omega))) (by omega)
theorem recJ0 {s : List Int} {a : Int} (h : src s a) (ha : a ≤ 997000) (t : Bool) (v0 v1 v2 : Int) (v3 : Bool) (v4 : Int) (v5 : Bool) (v6 v7 : Int) : recD s a 10 (fun k => Zsl3Rec.j0 k t s a v0 v1 v2 v3 v4 v5 v6 v7) := by
  refine recD_succ ?_
  simp only [Zsl3Rec.j0]
  refine recD_ite (fun _ => ?_) (fun _ => recD_ret (by omega))
  refine recD_pk (m := 9) h (by omega) (by simp) (by simp) (fun r1 h1 => ?_)
  obtain ⟨r2, e2⟩ := dkey h1 (by omega)
  refine recD_seq e2 ?_
  have h2 : src s (a + 1 + 4) := src_up h1 (by omega) (by omega)
  have up4 : ∀ {g}, recD s (a + 1 + 4) 5 g → recD s (a + 1) 9 g := by
    rintro g ⟨r0, r1, r2, r3, r4, r5, r6, r7, b, hb, h0, h1⟩
    exact ⟨r0, r1, r2, r3, r4, r5, r6, r7, b, hb, by omega, by omega⟩
  refine up4 ?_
  refine recD_ch (m := 4) h2 (by omega) (by omega) (fun b3 h3 => ?_)
  refine recD_ch (m := 3) h3 (by omega) (by omega) (fun b4 h4 => ?_)
  refine recD_ite (fun _ => ?_) (fun _ => ?_)
  · exact recD_nx (m := 2) h4 (by omega) (by omega) (fun r5 h5 => recJ1 h5 (by omega) _ _ _ _ _ _ _ _)
  · exact recD_more (recJ1 h4 (by omega) _ _ _ _ _ _ _ _) (by omega)
theorem recF {s : List Int} {a : Int} (h : src s a) (ha : a ≤ 996000) : recD s a 14 (fun k => Zsl3Rec.f k s a) := by
  unfold Zsl3Rec.f
  refine recD_nx (m := 13) h (by omega) (by omega) (fun r1 h1 => ?_)
  refine recD_nx (m := 12) h1 (by omega) (by omega) (fun r2 h2 => ?_)
  refine recD_ch (m := 11) h2 (by omega) (by omega) (fun b3 h3 => ?_)
  refine recD_ite (fun _ => recD_ret (by omega)) (fun _ => ?_)
  refine recD_ite (fun _ => recD_more (recJ0 h3 (by omega) _ _ _ _ _ _ _ _ _) (by omega)) (fun _ => ?_)
  refine recD_ite (fun _ => recD_more (recJ0 h3 (by omega) _ _ _ _ _ _ _ _ _) (by omega)) (fun _ => ?_)
  exact recD_ch (m := 10) h3 (by omega) (by omega) (fun b4 h4 => recJ0 h4 (by omega) _ _ _ _ _ _ _ _ _)
theorem wtot {n : Nat} {a : Int} (h : a = (n : Int)) (hn : n ≤ 4000) : wrap64 a = (n : Int) := by
  subst h
  rw [w64 (by omega) (by omega)]
theorem appT {n m : Nat} (h : m + n + 13 ≤ 4000) : n + 13 < 140737488355328 ∧ ¬ ((m + n + 13 : Nat) : Int) > 4000 := by omega
theorem copyT {n m : Nat} (h : m + n + 13 ≤ 4000) : 0 + m < 140737488355328 ∧ 0 + n < 140737488355328 := by omega
theorem appL (x y : List Int) (r0 r1 r2 : Int) (r3 : Bool) (r4 : Int) (r5 : Bool) (r6 r7 : Int) (h : x.length + y.length + 13 ≤ 4000) : Ev (fun k => Zsl3Append.f k x y r0 r1 r2 r3 r4 r5 r6 r7) (x, y ++ packR r0 r1 r2 r3 r4 r5 r6 r7, 0) := by
  unfold Zsl3Append.f
  have hc : Zsl3Copy.f x y = some (x, y) := by
    unfold Zsl3Copy.f
    simp only [Option.bind_some, List.nil_append, List.length_nil]
    rw [if_pos (copyT h).1, if_pos (copyT h).2]
  have hp := packR_len r0 r1 r2 r3 r4 r5 r6 r7
  have S := specPackR r0 r1 r2 r3 r4 r5 r6 r7
  generalize packR r0 r1 r2 r3 r4 r5 r6 r7 = P at hp S ⊢
  have t1 : y.length + P.length < 140737488355328 := by rw [hp]; exact (appT h).1
  have e : wrap64 ((x.length : Int) + ((y ++ P).length : Int)) = ((x.length + y.length + 13 : Nat) : Int) := wtot (by rw [List.length_append, hp]; omega) h
  have t2 := (appT h).2
  generalize x.length + y.length + 13 = n at e t2
  refine evSeq hc (evCall S (evIte (fun _ => evSeq rfl (evIte (fun h => absurd (e ▸ h) t2) (fun _ => evRet rfl))) (fun h => absurd t1 h)))
/-- A draw of a log: bytes, not too many. -/
def logD (g : Nat → Option (List Int × List Int × Int)) : Prop := ∃ x y b, Ev g (x, y, b) ∧ isB x ∧ isB y ∧ x.length + y.length ≤ 10000 ∧ 0 ≤ b ∧ b ≤ 900000
theorem logD_end {s : List Int} {a : Int} (h : src s a) (ha : a ≤ 800000) {x y : List Int} (hx : isB x) (hy : isB y) (hl : x.length + y.length ≤ 200) :
    logD (fun k => (Zsl1Next.f s a 20).bind fun bt970 => (if bt970.1 = 0 then ((some (([1, 2] : List Int) : List Int)).bind fun y972 => (if y.length + y972.length < 140737488355328 then (some (x, (y ++ y972), bt970.2)) else (none))) else (if bt970.1 = 1 then (if (x.length : Int) > 0 then ((Zsl1Next.f s bt970.2 (x.length : Int)).bind fun bt978 => ((Zsl1Next.f s bt978.2 256).bind fun bt980 => (if 0 ≤ bt978.1 then (if bt978.1 < (x.length : Int) then (some ((x.set (bt978.1 : Int).toNat ((bt980.1) % 256)), y, bt980.2)) else (none)) else (none)))) else (some (x, y, bt970.2))) else (if bt970.1 = 2 then (some ((List.replicate 4001 0), y, bt970.2)) else (some (x, y, bt970.2)))))) := by
  have h0 := h.2.2.1
  obtain ⟨r, e, _⟩ := nx (n := 20) h (by omega)
  have h1 : src s (a + 1) := src_up h (by omega) (by omega)
  simp only [e, Option.bind_some]
  by_cases c0 : r = 0
  · refine ⟨x, y ++ [1, 2], a + 1, evPure (by rw [if_pos c0, if_pos (by simp; omega)]), hx, isB_append hy (by intro z hz; simp at hz; omega), by simp; omega, by omega, by omega⟩
  · by_cases c1 : r = 1
    · by_cases c2 : (x.length : Int) > 0
      · obtain ⟨r2, e2, g0, g1⟩ := nx (n := (x.length : Int)) h1 (by omega)
        obtain ⟨r3, e3, _⟩ := nx (n := 256) (src_up h1 (b := a + 1 + 1) (by omega) (by omega)) (by omega)
        refine ⟨x.set r2.toNat (r3 % 256), y, a + 1 + 1 + 1, evPure ?_, ?_, hy, by rw [List.length_set]; omega, by omega, by omega⟩
        · simp only [if_neg c0, if_pos c1, if_pos c2, e2, e3, Option.bind_some, if_pos g0, if_pos (g1 (by omega))]
        · intro z hz
          rcases List.mem_or_eq_of_mem_set hz with hz | rfl
          · exact hx z hz
          · omega
      · exact ⟨x, y, a + 1, evPure (by simp only [if_neg c0, if_pos c1, if_neg c2]), hx, hy, by omega, by omega, by omega⟩
    · by_cases c2 : r = 2
      · refine ⟨List.replicate 4001 0, y, a + 1, evPure (by simp only [if_neg c0, if_neg c1, if_pos c2]), ?_, hy, by rw [List.length_replicate]; omega, by omega, by omega⟩
        intro z hz
        have := (List.mem_replicate.1 hz).2
        omega
      · exact ⟨x, y, a + 1, evPure (by simp only [if_neg c0, if_neg c1, if_neg c2]), hx, hy, by omega, by omega, by omega⟩
theorem logD_l {s : List Int} : ∀ (d : Nat) (x y : List Int) (a : Int), src s a → a + 20 * d ≤ 700000 → d ≤ 9 → isB x → isB y → x.length + y.length + 13 * d ≤ 120 → logD (fun k => Zsl3Log.l0 k (d : Int) s a x y)
  | 0, x, y, a, hs, ha, hd, hx, hy, hl => by
    obtain ⟨x', y', b, hE, h1, h2, h3, h4, h5⟩ := logD_end hs (by omega) hx hy (by omega)
    refine ⟨x', y', b, evSucc ?_, h1, h2, h3, h4, h5⟩
    simp only [Zsl3Log.l0]
    exact evIte (fun h => absurd h (by omega)) (fun _ => hE)
  | d + 1, x, y, a, hs, ha, hd, hx, hy, hl => by
    have e : wrap64 (((d + 1 : Nat) : Int) - 1) = (d : Int) := by rw [w64 (by omega) (by omega)]; omega
    obtain ⟨r0, r1, r2, r3, r4, r5, r6, r7, b, hR, hb0, hb1⟩ := recF hs (by omega)
    have h0 := hs.2.2.1
    have hs2 : src s b := src_up hs hb0 (by omega)
    have hp := packR_len r0 r1 r2 r3 r4 r5 r6 r7
    have hBp : isB (packR r0 r1 r2 r3 r4 r5 r6 r7) := isB_packU ⟨r0, r1, r2, r3, r4, r5, r6, r7⟩
    obtain ⟨q, eq⟩ := ch (n := 3) hs2 (by omega)
    have hs3 : src s (b + 1) := src_up hs2 (by omega) (by omega)
    have hy2 : isB (y ++ packR r0 r1 r2 r3 r4 r5 r6 r7) := isB_append hy hBp
    cases q with
    | true =>
      obtain ⟨x', y', b', hE, t⟩ := logD_l d (x ++ (y ++ packR r0 r1 r2 r3 r4 r5 r6 r7)) [] (b + 1) hs3 (by omega) (by omega) (isB_append hx hy2) (fun z hz => by simp at hz) (by simp; omega)
      refine ⟨x', y', b', evSucc ?_, t⟩
      simp only [Zsl3Log.l0, e]
      refine evIte (fun _ => evCall hR (evCall (appL x y r0 r1 r2 r3 r4 r5 r6 r7 (by omega)) (evIte (fun _ => evSeq eq (evIte (fun _ => ?_) (fun h => absurd rfl h))) (fun h => absurd rfl h)))) (fun h => absurd (by omega) h)
      refine evSeq (a := (x ++ (y ++ packR r0 r1 r2 r3 r4 r5 r6 r7), [])) ?_ hE
      unfold Zsl3Flush.f
      rw [specAll _ _ (by simp; omega)]
      rfl
    | false =>
      obtain ⟨x', y', b', hE, t⟩ := logD_l d x (y ++ packR r0 r1 r2 r3 r4 r5 r6 r7) (b + 1) hs3 (by omega) (by omega) hx hy2 (by simp; omega)
      refine ⟨x', y', b', evSucc ?_, t⟩
      simp only [Zsl3Log.l0, e]
      exact evIte (fun _ => evCall hR (evCall (appL x y r0 r1 r2 r3 r4 r5 r6 r7 (by omega)) (evIte (fun _ => evSeq eq (evIte (fun h => absurd h (by simp)) (fun _ => hE))) (fun h => absurd rfl h)))) (fun h => absurd (by omega) h)
theorem logF {s : List Int} (hs : isB s) (hl : s.length ≤ 1048576) : logD (fun k => Zsl3Log.f k s 0) := by
  have h0 : src s 0 := ⟨hs, hl, by omega, by omega⟩
  obtain ⟨r, e, g0, g1⟩ := nx (n := 9) h0 (by omega)
  have g2 := g1 (by omega)
  obtain ⟨d, rfl⟩ : ∃ d : Nat, r = (d : Int) := ⟨r.toNat, by omega⟩
  obtain ⟨x, y, b, hE, t⟩ := logD_l d [] [] (0 + 1) (src_up h0 (by omega) (by omega)) (by omega) (by omega) (fun z hz => by simp at hz) (fun z hz => by simp at hz) (by simp; omega)
  refine ⟨x, y, b, ?_, t⟩
  unfold Zsl3Log.f
  exact evSeq e hE
theorem drawCrash (s : List Int) (hs : isB s) (hl : s.length ≤ 1048576) : ∃ a b q, Ev (fun k => ZsDrawCrashLog.f k s) (a, b, q) ∧ isB a ∧ isB b ∧ a.length + b.length ≤ 10000 := by
  obtain ⟨x, y, b, hE, h1, h2, h3, h4, h5⟩ := logF hs hl
  have e : wrap64 ((y.length : Int) + 1) = (y.length : Int) + 1 := w64 (by omega) (by omega)
  have hs1 : src s b := ⟨hs, hl, h4, by omega⟩
  obtain ⟨r1, e1, _⟩ := nx (n := (y.length : Int) + 1) hs1 (by omega)
  obtain ⟨r2, e2, _⟩ := nx (n := (y.length : Int) + 1) (src_up hs1 (b := b + 1) (by omega) (by omega)) (by omega)
  obtain ⟨r3, e3, _⟩ := pk (src_up hs1 (b := b + 1 + 1) (by omega) (by omega)) [r1, r2, 0, (y.length : Int), (y.length : Int) + 1, -1] (by simp) (by simp)
  refine ⟨x, y, r3, ?_, h1, h2, h3⟩
  unfold ZsDrawCrashLog.f
  refine evSeq (a := (s, 0)) rfl (evCall hE ?_)
  simp only [e]
  exact evSeq e1 (evSeq e2 (evSeq e3 (evRet rfl)))
end Go.Proofs.Ythagppmaofcllaa.Q
