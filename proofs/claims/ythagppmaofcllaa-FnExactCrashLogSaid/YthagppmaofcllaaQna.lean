/- Bytes: taken, compared, turned into strings. -/
import Derived.Test.YthagppmaofcllaaLb
import Derived.Test.YthagppmaofcllaaQib
import Derived.Test.YthagppmaofcllaaQf
import Derived.Test.YthagppmaofcllaaQk
import Derived.Test.YthagppmaofcllaaP0
import Derived.Test.YthagppmaofcllaaPDadefgh0
namespace Go.Proofs.Ythagppmaofcllaa.Q
open Go.RowKit Go.Proofs.Ythagppmaofcllaa.P Go.Proofs.YthagppmaofcllaaW.PrintWords Go.Proofs.YthagppmaofcllaaW.PrintLast Go.Proofs.YthagppmaofcllaaW.PrintMore Go.Proofs.Ythagppmaofcllaa.Lb
set_option linter.unusedVariables false
set_option linter.unusedSimpArgs false
def takeStep (a b : Int) : Int := a * 256 + b
def takeL (l : List Int) : Int := l.foldl takeStep 0
theorem p256 {i : Nat} (h : i ≤ 4) : (256 : Int) ^ i ≤ 4294967296 := by
  rcases i with _ | _ | _ | _ | _ | i
  · decide
  · decide
  · decide
  · decide
  · decide
  · omega
theorem specTake_l (l : List Int) (o n : Nat) (hB : isB l) (ho : o + n ≤ l.length) (hl : l.length ≤ 1048576) (hn : n ≤ 4) : ∀ (s i : Nat) (a : Int), i + s = n → 0 ≤ a → a < (256 : Int) ^ i → Ev (fun k => Zsl1Take.l0 k l (o : Int) (n : Int) a (i : Int)) (((l.drop (o + i)).take s).foldl takeStep a)
  | 0, i, a, hi, h0, h1 => by
    refine evSucc ?_
    simp only [Zsl1Take.l0]
    exact evIte (fun h => absurd h (by omega)) (fun _ => evRet (by simp))
  | s + 1, i, a, hi, h0, h1 => by
    have hlt : o + i < l.length := by omega
    have e1 : wrap64 ((o : Int) + (i : Int)) = ((o + i : Nat) : Int) := by rw [w64 (by omega) (by omega)]; omega
    have hb := hB _ (List.getElem_mem hlt)
    have hp : (256 : Int) ^ (i + 1) = (256 : Int) ^ i * 256 := Int.pow_succ _ _
    have hq := p256 (show i ≤ 4 by omega)
    have e2 : wrap64 ((wrap64 (a * 256)) + (wrap64 l[o + i])) = takeStep a l[o + i] := by
      rw [w64 (x := a * 256) (by omega) (by omega), w64 (x := l[o + i]) (by omega) (by omega), w64 (by omega) (by omega)]
      rfl
    have ih := specTake_l l o n hB ho hl hn s (i + 1) (takeStep a l[o + i]) (by omega) (by unfold takeStep; omega) (by unfold takeStep; omega)
    refine evSucc ?_
    simp only [Zsl1Take.l0, e1, rdI hlt, e2, w64n (show i < 9223372036854775807 by omega)]
    refine evIte (fun _ => evIte (fun _ => evIte (fun _ => ?_) (fun h => absurd (by omega) h)) (fun h => absurd (by omega) h)) (fun h => absurd (by omega) h)
    rw [List.drop_eq_getElem_cons hlt, List.take_succ_cons, List.foldl_cons]
    exact ih
theorem specTake (l : List Int) (o n : Nat) (hB : isB l) (ho : o + n ≤ l.length) (hl : l.length ≤ 1048576) (hn : n ≤ 4) : Ev (fun k => Zsl1Take.f k l (o : Int) (n : Int)) (takeL ((l.drop o).take n)) := by
  have := specTake_l l o n hB ho hl hn n 0 0 (by omega) (by omega) (by decide)
  exact this
theorem wraps_i64 (n : Int) (h₀ : 0 ≤ n) (h₁ : n < 2 ^ 62) : IntKind.i64.wrap n = n := by rw [IntKind.wrap_i64]; omega
theorem implTake_l : ∀ (rest pre : List Int) (a : Int), isB rest → (pre ++ rest).length ≤ 4 → 0 ≤ a → a < (256 : Int) ^ pre.length → Ev (fun k => Zitake.l0 k a (pre ++ rest) ((pre ++ rest).length : Int) (pre.length : Int)) (rest.foldl takeStep a)
  | [], pre, a, hB, hn, h0, h1 => by
    refine evSucc ?_
    simp only [Zitake.l0, List.append_nil, Int.lt_irrefl, if_false]
    exact evRet rfl
  | v :: vs, pre, a, hB, hn, h0, h1 => by
    have hn1 : pre.length + vs.length + 1 ≤ 4 := by simp at hn; omega
    have hb := hB v (by simp)
    have hp : (256 : Int) ^ (pre.length + 1) = (256 : Int) ^ pre.length * 256 := Int.pow_succ _ _
    have hq := p256 (show pre.length ≤ 4 by omega)
    have e2 : Go.bits .or .i64 (wrap64 (a * 256)) (wrap64 v) = takeStep a v := by
      rw [w64 (x := a * 256) (by omega) (by omega), w64 (x := v) (by omega) (by omega)]
      exact Go.bits_join .i64 62 (by decide) wraps_i64 8 (a * 256) v (by omega) (by omega) (by omega) (by omega) (by omega) (by omega)
    have ih := implTake_l vs (pre ++ [v]) (takeStep a v) (fun x hx => hB x (by simp [hx])) (by simp; omega) (by unfold takeStep; omega) (by rw [List.length_append, List.length_singleton]; unfold takeStep; omega)
    have h1' : (pre.length : Int) < ((pre ++ v :: vs).length : Int) := by simp <;> omega
    have hnn : (((pre ++ [v]).length : Nat) : Int) = wrap64 ((pre.length : Int) + 1) := by rw [w64n (by omega)]; simp
    rw [List.append_assoc, List.singleton_append, hnn] at ih
    refine evSucc ?_
    simp only [Zitake.l0, h1', Int.natCast_nonneg, if_true, rdI_mid, e2]
    exact ih
theorem implTake (l : List Int) (hB : isB l) (hn : l.length ≤ 4) : Ev (fun k => Zitake.f k l) (takeL l) := implTake_l l [] 0 hB hn (by omega) (by decide)
theorem sEq_l : ∀ (ra rb pre : List Int), ra.length = rb.length → (pre ++ ra).length ≤ 1099511627776 → Ev (fun k => ZcEqual_byte.l0 k (pre ++ ra) (pre ++ rb) ((pre ++ ra).length : Int) (pre.length : Int)) (decide (ra = rb))
  | [], [], pre, _, hb => by
    refine evSucc ?_
    simp only [ZcEqual_byte.l0, List.append_nil, Int.lt_irrefl, if_false]
    exact evRet rfl
  | [], y :: ys, pre, h, _ => by simp at h
  | x :: xs, [], pre, h, _ => by simp at h
  | x :: xs, y :: ys, pre, h, hb => by
    have h1 : (pre.length : Int) < ((pre ++ x :: xs).length : Int) := by simp <;> omega
    have h2 : (pre.length : Int) < ((pre ++ y :: ys).length : Int) := by simp <;> omega
    have hn : (((pre ++ [x]).length : Nat) : Int) = wrap64 ((pre.length : Int) + 1) := by rw [w64n (by simp at hb; omega)]; simp
    refine evSucc ?_
    simp only [ZcEqual_byte.l0, h1, h2, Int.natCast_nonneg, if_true, rdI_mid]
    refine evIte (fun hxy => ?_) (fun hxy => evRet (by simp [hxy]))
    subst hxy
    have ih := sEq_l xs ys (pre ++ [x]) (by simpa using h) (by simpa using hb)
    rw [List.append_assoc, List.singleton_append, List.append_assoc, List.singleton_append, hn] at ih
    exact evEq ih (by simp)
theorem sEq (a b : List Int) (hb : a.length ≤ 1099511627776) : Ev (fun k => ZcEqual_byte.f k a b) (decide (a = b)) := by
  unfold ZcEqual_byte.f
  refine evIte (fun h => sEq_l a b [] (by omega) hb) (fun h => evRet ?_)
  rw [eq_comm, decide_eq_false_iff_not]
  intro h2
  exact h (by rw [h2])
theorem u8_inj : ∀ {a b : List Int}, isB a → isB b → (a.map fun n => UInt8.ofNat n.toNat) = (b.map fun n => UInt8.ofNat n.toNat) → a = b
  | [], [], _, _, _ => rfl
  | [], y :: ys, _, _, h => by simp at h
  | x :: xs, [], _, _, h => by simp at h
  | x :: xs, y :: ys, ha, hb, h => by
    rw [List.map_cons, List.map_cons, List.cons.injEq] at h
    have h1 := congrArg UInt8.toNat h.1
    simp only [UInt8.toNat_ofNat'] at h1
    have hx := ha x (by simp)
    have hy := hb y (by simp)
    have h2 := u8_inj (fun z hz => ha z (by simp [hz])) (fun z hz => hb z (by simp [hz])) h.2
    rw [h2, show x = y by omega]
theorem strOf_inj {a b : List Int} (ha : isB a) (hb : isB b) : (strOfNums a).toList = (strOfNums b).toList ↔ a = b := by
  constructor
  · intro h
    rw [ByteArray.toList_eq, ByteArray.toList_eq] at h
    exact u8_inj ha hb (by simpa [strOfNums] using h)
  · intro h
    rw [h]
theorem isB_bytesN (n : Int) : ∀ s, isB (bytesN n s)
  | 0 => fun x hx => by simp [bytesN] at hx
  | s + 1 => fun x hx => by
    rcases List.mem_cons.1 hx with rfl | h
    · unfold byteOf; omega
    · exact isB_bytesN n s x h
theorem isB_append {a b : List Int} (ha : isB a) (hb : isB b) : isB (a ++ b) := fun x hx => (List.mem_append.1 hx).elim (ha x) (hb x)
theorem isB_sub {a b : List Int} (h : ∀ x ∈ a, x ∈ b) (hB : isB b) : isB a := fun x hx => hB x (h x hx)
theorem isB_drop {l : List Int} (n : Nat) (hB : isB l) : isB (l.drop n) := isB_sub (fun x hx => List.mem_of_mem_drop hx) hB
theorem isB_take {l : List Int} (n : Nat) (hB : isB l) : isB (l.take n) := isB_sub (fun x hx => List.mem_of_mem_take hx) hB
end Go.Proofs.Ythagppmaofcllaa.Q
