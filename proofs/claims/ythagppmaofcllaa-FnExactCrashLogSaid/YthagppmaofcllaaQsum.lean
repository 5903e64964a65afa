/- The sum of bytes: what both sides come to. -/
import Derived.Test.YthagppmaofcllaaLb
import Derived.Test.YthagppmaofcllaaQf
import Derived.Test.YthagppmaofcllaaP0
import Derived.Test.YthagppmaofcllaaPDadefgh0
namespace Go.Proofs.Ythagppmaofcllaa.Q
open Go.RowKit Go.Proofs.Ythagppmaofcllaa.P Go.Proofs.YthagppmaofcllaaW.PrintWords Go.Proofs.YthagppmaofcllaaW.PrintLast Go.Proofs.YthagppmaofcllaaW.PrintMore Go.Proofs.Ythagppmaofcllaa.Lb
set_option linter.unusedVariables false
set_option linter.unusedSimpArgs false
def sumStep (h b : Int) : Int := Int.tmod (wrap64 ((wrap64 ((wrap64 (h * 269)) + (wrap64 b))) + 1)) 65521
def sumB (l : List Int) : Int := l.foldl sumStep 9
theorem specSum_l : ∀ (rest pre : List Int) (h : Int), (pre ++ rest).length ≤ 1099511627776 → Ev (fun k => ZsSumBytes.l0 k (pre ++ rest) h (pre.length : Int)) (rest.foldl sumStep h)
  | [], pre, h, hb => by
    refine evSucc ?_
    simp only [ZsSumBytes.l0, List.append_nil, Int.lt_irrefl, if_false]
    exact evRet rfl
  | v :: vs, pre, h, hb => by
    have ih := specSum_l vs (pre ++ [v]) (sumStep h v) (by simpa using hb)
    have h1 : (pre.length : Int) < ((pre ++ v :: vs).length : Int) := by simp <;> omega
    have hn : (((pre ++ [v]).length : Nat) : Int) = wrap64 ((pre.length : Int) + 1) := by rw [w64n (by simp at hb; omega)]; simp
    rw [List.append_assoc, List.singleton_append, hn] at ih
    refine evSucc ?_
    simp only [ZsSumBytes.l0, h1, Int.natCast_nonneg, if_true, rdI_mid]
    exact ih
theorem specSum (l : List Int) (hb : l.length ≤ 1099511627776) : Ev (fun k => ZsSumBytes.f k l) (sumB l) := specSum_l l [] 9 hb
theorem implSum_l : ∀ (rest pre : List Int) (h : Int), (pre ++ rest).length ≤ 1099511627776 → Ev (fun k => ZiSumBytes.l0 k h (pre ++ rest) ((pre ++ rest).length : Int) (pre.length : Int)) (rest.foldl sumStep h)
  | [], pre, h, hb => by
    refine evSucc ?_
    simp only [ZiSumBytes.l0, List.append_nil, Int.lt_irrefl, if_false]
    exact evRet rfl
  | v :: vs, pre, h, hb => by
    have ih := implSum_l vs (pre ++ [v]) (sumStep h v) (by simpa using hb)
    have h1 : (pre.length : Int) < ((pre ++ v :: vs).length : Int) := by simp <;> omega
    have hn : (((pre ++ [v]).length : Nat) : Int) = wrap64 ((pre.length : Int) + 1) := by rw [w64n (by simp at hb; omega)]; simp
    rw [List.append_assoc, List.singleton_append, hn] at ih
    refine evSucc ?_
    simp only [ZiSumBytes.l0, h1, Int.natCast_nonneg, if_true, rdI_mid]
    exact ih
theorem implSum (l : List Int) (hb : l.length ≤ 1099511627776) : Ev (fun k => ZiSumBytes.f k l) (sumB l) := implSum_l l [] 9 hb
end Go.Proofs.Ythagppmaofcllaa.Q
