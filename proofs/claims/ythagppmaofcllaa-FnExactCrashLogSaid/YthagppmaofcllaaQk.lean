/- Numbers in bytes, and the sum of bytes: what both sides come to. -/
import Derived.Test.YthagppmaofcllaaLb
import Derived.Test.YthagppmaofcllaaQf
import Derived.Test.YthagppmaofcllaaQsum
import Derived.Test.YthagppmaofcllaaP0
import Derived.Test.YthagppmaofcllaaPDadefgh0
namespace Go.Proofs.Ythagppmaofcllaa.Q
open Go.RowKit Go.Proofs.Ythagppmaofcllaa.P Go.Proofs.YthagppmaofcllaaW.PrintWords Go.Proofs.YthagppmaofcllaaW.PrintLast Go.Proofs.YthagppmaofcllaaW.PrintMore Go.Proofs.Ythagppmaofcllaa.Lb
set_option linter.unusedVariables false
set_option linter.unusedSimpArgs false
def byteOf (n : Int) (j : Nat) : Int := shr .i64 n (8 * (j : Int)) % 256
def bytesN (n : Int) : Nat → List Int
  | 0 => []
  | s + 1 => byteOf n s :: bytesN n s
theorem bytesN_len (n : Int) : ∀ s, (bytesN n s).length = s
  | 0 => rfl
  | s + 1 => by simp [bytesN, bytesN_len n s]
theorem implPut_l (n : Int) : ∀ (s : Nat) (l : List Int), s ≤ 8 → l.length + s ≤ 1099511627776 → Ev (fun k => Ziput.l0 k l n ((s : Int) - 1)) (l ++ bytesN n s)
  | 0, l, _, _ => by
    refine evSucc ?_
    simp only [Ziput.l0]
    exact evIte (fun h => absurd h (by decide)) (fun _ => evRet (by simp [bytesN]))
  | s + 1, l, hs, hl => by
    refine evSucc ?_
    have e : (((s + 1 : Nat) : Int) - 1) = (s : Int) := by omega
    have e8 : wrap64 (8 * (s : Int)) = 8 * (s : Int) := w64 (by omega) (by omega)
    have e1 : wrap64 ((s : Int) - 1) = (s : Int) - 1 := w64 (by omega) (by omega)
    simp only [Ziput.l0, e, e8, e1]
    refine evIte (fun _ => evIte (fun _ => evIte (fun _ => ?_) (fun h => absurd (by omega) h)) (fun h => absurd (by omega) h)) (fun h => absurd (by omega) h)
    have ih := implPut_l n s (l ++ [byteOf n s]) (by omega) (by simp; omega)
    rw [List.append_assoc, List.singleton_append] at ih
    exact ih
theorem implPut (l : List Int) (n : Int) (s : Nat) (hs : s ≤ 8) (hl : l.length ≤ 1000000) : Ev (fun k => Ziput.f k l n (s : Int)) (l ++ bytesN n s) := by
  unfold Ziput.f
  rw [w64 (by omega) (by omega)]
  exact implPut_l n s l hs (by omega)
theorem specBytes_l (n : Int) : ∀ (s : Nat) (l : List Int), s ≤ 8 → l.length + s ≤ 1099511627776 → Ev (fun k => Zsl1Bytes.l0 k n l ((s : Int) - 1)) (l ++ bytesN n s)
  | 0, l, _, _ => by
    refine evSucc ?_
    simp only [Zsl1Bytes.l0]
    exact evIte (fun h => absurd h (by decide)) (fun _ => evRet (by simp [bytesN]))
  | s + 1, l, hs, hl => by
    refine evSucc ?_
    have e : (((s + 1 : Nat) : Int) - 1) = (s : Int) := by omega
    have e8 : wrap64 (8 * (s : Int)) = 8 * (s : Int) := w64 (by omega) (by omega)
    have eu : IntKind.u64.wrap (8 * (s : Int)) = 8 * (s : Int) := by unfold IntKind.wrap; simp [IntKind.min, IntKind.max, IntKind.bits, IntKind.signed]; omega
    have e1 : wrap64 ((s : Int) - 1) = (s : Int) - 1 := w64 (by omega) (by omega)
    simp only [Zsl1Bytes.l0, e, e8, eu, e1]
    refine evIte (fun _ => evIte (fun _ => evIte (fun _ => ?_) (fun h => absurd (by omega) h)) (fun h => absurd (by omega) h)) (fun h => absurd (by omega) h)
    have ih := specBytes_l n s (l ++ [byteOf n s]) (by omega) (by simp; omega)
    rw [List.append_assoc, List.singleton_append] at ih
    exact ih
theorem specBytes (n : Int) (s : Nat) (hs : s ≤ 8) : Ev (fun k => Zsl1Bytes.f k n (s : Int)) (bytesN n s) := by
  unfold Zsl1Bytes.f
  rw [w64 (by omega) (by omega)]
  exact specBytes_l n s [] hs (by simp <;> omega)
theorem byteOf0 (n : Int) : byteOf n 0 = n % 256 := by simp [byteOf, shr]
theorem bytes1 (n : Int) : bytesN n 1 = [n % 256] := by simp [bytesN, byteOf0]
end Go.Proofs.Ythagppmaofcllaa.Q
