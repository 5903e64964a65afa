/- Pages' faults on the program's side; pages copied, compared, marked. -/
import Derived.Test.YtpdfpbnlablhoaaLb
import Derived.Test.YtpdfpbnlablhoaaQf
import Derived.Test.YtpdfpbnlablhoaaQg
import Derived.Test.YtpdfpbnlablhoaaP0
import Derived.Test.YtpdfpbnlablhoaaPD0
namespace Go.Proofs.Ytpdfpbnlablhoaa.Q
open Go.RowKit Go.Proofs.Ytpdfpbnlablhoaa.P Go.Proofs.YtpdfpbnlablhoaaW.PrintWords Go.Proofs.YtpdfpbnlablhoaaW.PrintLast Go.Proofs.YtpdfpbnlablhoaaW.PrintMore Go.Proofs.Ytpdfpbnlablhoaa.Lb
set_option linter.unusedVariables false
set_option linter.unusedSimpArgs false
theorem implPF (id lsn : Int) (l : List S49) (hb : l.length ≤ 1099511627776) : Ev (fun k => impl_PageFault.f k id lsn l) (pf id lsn l) := by
  unfold impl_PageFault.f pf
  have key : ∀ b : Bool, (b = true ↔ ¬ ((0 ≤ id ∧ id ≤ 7) ∧ 0 ≤ lsn ∧ lsn ≤ 1000000)) → Ev (fun k => impl_PageFault.j0 k b id lsn l) (if (0 ≤ id ∧ id ≤ 7) ∧ 0 ≤ lsn ∧ lsn ≤ 1000000 then (if 12 < l.length then 2 else cL none l) else 3) := by
    intro b hbv
    refine evSucc ?_
    simp only [impl_PageFault.j0]
    refine evIte (fun h => evRet (by rw [if_neg (hbv.1 h)])) (fun h => ?_)
    have hok : (0 ≤ id ∧ id ≤ 7) ∧ 0 ≤ lsn ∧ lsn ≤ 1000000 := by
      by_cases ho : (0 ≤ id ∧ id ≤ 7) ∧ 0 ≤ lsn ∧ lsn ≤ 1000000
      · exact ho
      · exact absurd (hbv.2 ho) h
    rw [if_pos hok]
    refine evIte (fun h2 => evRet (by rw [if_pos (by omega)])) (fun h2 => ?_)
    rw [if_neg (by omega)]
    exact evCall (implCells l hb) (evRet rfl)
  refine evSeq (implIn _ _ _) ?_
  simp only [impl_isLsn.f, implIn, Option.bind_some, decide_eq_true_eq]
  refine evIte (fun h2 => key _ ?_) (fun h2 => key _ ?_)
  · by_cases h3 : 0 ≤ lsn ∧ lsn ≤ 1000000 <;> simp [h2, h3]
  · simp [h2]
theorem toPage (id lsn : Int) (l : List S92) (hb : l.length ≤ 1099511627776) : Ev (fun k => laws_toPage.f k id lsn l) (id, lsn, l.map cvCell) := by
  unfold laws_toPage.f
  exact evCall (toCellS l hb) (evRet rfl)
theorem szPage (id lsn : Int) (l : List S92) (hl : l.length ≤ 9223372036854775807) : laws_szPage.f id lsn l 1048576 = some (if (1048576 : Int) < l.length then (-1 : Int) else 1048576 - (l.length : Int)) := by
  unfold laws_szPage.f
  rw [szCellS l 1048576 (by omega) (by omega) hl, Option.bind_some]
  by_cases h : (1048576 : Int) < l.length
  · simp [h]
  · rw [if_neg h, if_neg (by omega)]
theorem eqPage (id lsn : Int) (l : List S49) (hb : l.length ≤ 1099511627776) : Ev (fun k => laws_eqPage.f k id lsn l id lsn l) true := by
  unfold laws_eqPage.f
  exact evIte (fun _ => evIte (fun _ => evCall (eqCellS l hb) (evIte (fun _ => evRet rfl) (fun h => absurd rfl h))) (fun h => absurd rfl h)) (fun h => absurd rfl h)
theorem eqPageResult (c id lsn : Int) (l : List S49) (hb : l.length ≤ 1099511627776) : Ev (fun k => laws_eqPageResult.f k c id lsn l c id lsn l) true := by
  unfold laws_eqPageResult.f
  exact evIte (fun _ => evCall (eqPage id lsn l hb) (evIte (fun _ => evRet rfl) (fun h => absurd rfl h))) (fun h => absurd rfl h)
theorem markPage (id lsn : Int) (l : List S49) (hb : l.length ≤ 1099511627776) : Ev (fun k => laws_markPage.f k id lsn l 1) (1 + 2 * l.length, marked meCell 2 1 l.length) := by
  unfold laws_markPage.f
  exact evCall (markCellS l 1 (by omega) (by omega) hb) (evRet rfl)
theorem markPageResult (c id lsn : Int) (l : List S49) (hb : l.length ≤ 1099511627776) : Ev (fun k => laws_markPageResult.f k c id lsn l 1) (1 + 2 * l.length, marked meCell 2 1 l.length) := by
  unfold laws_markPageResult.f
  exact evCall (markPage id lsn l hb) (evRet rfl)
theorem heldPageResult (c id lsn : Int) (n : Nat) (hb : n ≤ 1099511627776) : Ev (fun k => laws_heldPageResult.f k c id lsn (marked meCell 2 1 n) 1) (1 + 2 * n) := by
  unfold laws_heldPageResult.f laws_heldPage.f
  refine evCall (a := 1 + 2 * n) ?_ (evIte (fun h => absurd h (by omega)) (fun _ => evRet rfl))
  exact evCall (heldCellS n 1 (by omega) (by omega) hb) (evIte (fun h => absurd h (by omega)) (fun _ => evRet rfl))
end Go.Proofs.Ytpdfpbnlablhoaa.Q
