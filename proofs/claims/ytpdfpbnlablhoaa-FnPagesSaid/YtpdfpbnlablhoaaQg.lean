/- Pages: their faults, copies, comparisons and marks: what both sides come to. -/
import Derived.Test.YtpdfpbnlablhoaaLb
import Derived.Test.YtpdfpbnlablhoaaQf
import Derived.Test.YtpdfpbnlablhoaaP0
import Derived.Test.YtpdfpbnlablhoaaPD0
namespace Go.Proofs.Ytpdfpbnlablhoaa.Q
open Go.RowKit Go.Proofs.Ytpdfpbnlablhoaa.P Go.Proofs.YtpdfpbnlablhoaaW.PrintWords Go.Proofs.YtpdfpbnlablhoaaW.PrintLast Go.Proofs.YtpdfpbnlablhoaaW.PrintMore Go.Proofs.Ytpdfpbnlablhoaa.Lb
set_option linter.unusedVariables false
set_option linter.unusedSimpArgs false
theorem specIn (a b c : Int) : spec_l1In.f a b c = some (decide (b ≤ a ∧ a ≤ c)) := by
  unfold spec_l1In.f
  by_cases h : b ≤ a <;> simp [h]
theorem implIn (a b c : Int) : impl_within.f a b c = some (decide (b ≤ a ∧ a ≤ c)) := by
  unfold impl_within.f
  by_cases h : b ≤ a <;> simp [h]
def okC (v : S49) : Prop := (0 ≤ v.f0 ∧ v.f0 ≤ 31) ∧ 0 ≤ v.f1 ∧ v.f1 ≤ 9999
instance (v : S49) : Decidable (okC v) := by unfold okC; infer_instance
/-- The first fault behind p. -/
def cL : Option S49 → List S49 → Int
  | _, [] => 0
  | none, v :: vs => if okC v then cL (some v) vs else 3
  | some q, v :: vs => if okC v then (if v.f0 ≤ q.f0 then 1 else cL (some v) vs) else 3
def pf (id lsn : Int) (l : List S49) : Int := if (0 ≤ id ∧ id ≤ 7) ∧ 0 ≤ lsn ∧ lsn ≤ 1000000 then (if 12 < l.length then 2 else cL none l) else 3
theorem rdCell_last (pre : List S49) (q v : S49) (vs : List S49) : rd_T49 (pre ++ [q] ++ v :: vs) (pre.length : Int) = q := by rw [List.append_assoc, List.singleton_append, rdCell_mid]

set_option maxHeartbeats 1000000 in
theorem specCL (id lsn : Int) : ∀ (rest pre : List S49) (p : Option S49), p = pre.getLast? → (pre ++ rest).length ≤ 1099511627776 → Ev (fun k => spec_PageFault.l0 k (pre.length : Int) id lsn (pre ++ rest)) (cL p rest)
  | [], pre, p, hpp, hb => by
    refine evSucc ?_
    simp only [spec_PageFault.l0, List.append_nil, Int.lt_irrefl, if_false]
    exact evRet (by simp [cL])
  | v :: vs, pre, p, hpp, hb => by
    have ih := specCL id lsn vs (pre ++ [v]) (some v) (by simp) (by simpa using hb)
    have hb' : pre.length + 1 ≤ 1099511627776 := by simp at hb; omega
    have hn : (((pre ++ [v]).length : Nat) : Int) = wrap64 ((pre.length : Int) + 1) := by rw [w64n (by omega)]; simp
    rw [List.append_assoc, List.singleton_append, hn] at ih
    have h1 : (pre.length : Int) < ((pre ++ v :: vs).length : Int) := by simp <;> omega
    have rv := rdCell_mid pre v vs
    have key : ∀ b : Bool, (b = true ↔ ¬ okC v) → Ev (fun k => spec_PageFault.j2 k (pre.length : Int) b id lsn (pre ++ v :: vs)) (cL p (v :: vs)) := by
      intro b hbv
      refine evSucc ?_
      simp only [spec_PageFault.j2]
      refine evIte (fun h => evRet (by cases p <;> simp [cL, hbv.1 h])) (fun h => ?_)
      have hok : okC v := by
        by_cases ho : okC v
        · exact ho
        · exact absurd (hbv.2 ho) h
      rcases List.eq_nil_or_concat pre with rfl | ⟨pre0, q, rfl⟩
      · obtain rfl : p = none := by simpa using hpp
        refine evIte (fun h2 => absurd h2 (by simp)) (fun _ => evEq ih (by simp [cL, hok]))
      · obtain rfl : p = some q := by simpa using hpp
        have hw : wrap64 (((pre0 ++ [q]).length : Int) - 1) = (pre0.length : Int) := by rw [w64 (by simp <;> omega) (by simp at hb' ⊢ <;> omega)]; simp
        have rq := rdCell_last pre0 q v vs
        have hp : (((pre0 ++ [q]).length : Nat) : Int) > 0 := by simp <;> omega
        have hlt : (pre0.length : Int) < ((pre0 ++ [q] ++ v :: vs).length : Int) := by simp <;> omega
        simp only [List.concat_eq_append] at ih h1 rv ⊢
        simp only [hw, rq, rv, hp, h1, hlt, Int.natCast_nonneg, if_true]
        exact evIte (fun h2 => evRet (by simp [cL, hok, h2])) (fun h2 => evEq ih (by simp [cL, hok, h2]))
    refine evSucc ?_
    simp only [spec_PageFault.l0, spec_l1Key.f, spec_l1Value.f, specIn, Option.bind_some, h1, Int.natCast_nonneg, if_true, rv, decide_eq_true_eq]
    refine evIte (fun h2 => key _ ?_) (fun h2 => key _ ?_)
    · simp only [okC]; by_cases h3 : 0 ≤ v.f1 ∧ v.f1 ≤ 9999 <;> simp [h2, h3]
    · simp only [okC]; simp [h2]
theorem specPF (id lsn : Int) (l : List S49) (hb : l.length ≤ 1099511627776) : Ev (fun k => spec_PageFault.f k id lsn l) (pf id lsn l) := by
  unfold spec_PageFault.f pf
  have key : ∀ b : Bool, (b = true ↔ ¬ ((0 ≤ id ∧ id ≤ 7) ∧ 0 ≤ lsn ∧ lsn ≤ 1000000)) → Ev (fun k => spec_PageFault.j0 k b id lsn l) (if (0 ≤ id ∧ id ≤ 7) ∧ 0 ≤ lsn ∧ lsn ≤ 1000000 then (if 12 < l.length then 2 else cL none l) else 3) := by
    intro b hbv
    refine evSucc ?_
    simp only [spec_PageFault.j0]
    refine evIte (fun h => evRet (by rw [if_neg (hbv.1 h)])) (fun h => ?_)
    have hok : (0 ≤ id ∧ id ≤ 7) ∧ 0 ≤ lsn ∧ lsn ≤ 1000000 := by
      by_cases ho : (0 ≤ id ∧ id ≤ 7) ∧ 0 ≤ lsn ∧ lsn ≤ 1000000
      · exact ho
      · exact absurd (hbv.2 ho) h
    rw [if_pos hok]
    refine evIte (fun h2 => evRet (by rw [if_pos (by omega)])) (fun h2 => ?_)
    rw [if_neg (by omega)]
    exact specCL id lsn l [] none rfl hb
  refine evSeq (specIn _ _ _) ?_
  simp only [spec_l1Lsn.f, specIn, Option.bind_some, decide_eq_true_eq]
  refine evIte (fun h2 => key _ ?_) (fun h2 => key _ ?_)
  · by_cases h3 : 0 ≤ lsn ∧ lsn ≤ 1000000 <;> simp [h2, h3]
  · simp [h2]
set_option maxHeartbeats 1000000 in
theorem implCL : ∀ (rest pre : List S49) (p : Option S49), p = pre.getLast? → (pre ++ rest).length ≤ 1099511627776 → Ev (fun k => impl_cellsFault.l0 k (pre ++ rest) (pre ++ rest) ((pre ++ rest).length : Int) (pre.length : Int)) (cL p rest)
  | [], pre, p, hpp, hb => by
    refine evSucc ?_
    simp only [impl_cellsFault.l0, List.append_nil, Int.lt_irrefl, if_false]
    exact evRet (by simp [cL])
  | v :: vs, pre, p, hpp, hb => by
    have ih := implCL vs (pre ++ [v]) (some v) (by simp) (by simpa using hb)
    have hb' : pre.length + 1 ≤ 1099511627776 := by simp at hb; omega
    have hn : (((pre ++ [v]).length : Nat) : Int) = wrap64 ((pre.length : Int) + 1) := by rw [w64n (by omega)]; simp
    rw [List.append_assoc, List.singleton_append, hn] at ih
    have h1 : (pre.length : Int) < ((pre ++ v :: vs).length : Int) := by simp <;> omega
    have rv := rdCell_mid pre v vs
    have key : ∀ b : Bool, (b = true ↔ ¬ okC v) → Ev (fun k => impl_cellsFault.j1 k (pre ++ v :: vs) (pre.length : Int) (pre ++ v :: vs) ((pre ++ v :: vs).length : Int) (pre.length : Int) b v.f0 v.f1) (cL p (v :: vs)) := by
      intro b hbv
      refine evSucc ?_
      simp only [impl_cellsFault.j1]
      refine evIte (fun h => evRet (by cases p <;> simp [cL, hbv.1 h])) (fun h => ?_)
      have hok : okC v := by
        by_cases ho : okC v
        · exact ho
        · exact absurd (hbv.2 ho) h
      rcases List.eq_nil_or_concat pre with rfl | ⟨pre0, q, rfl⟩
      · obtain rfl : p = none := by simpa using hpp
        refine evIte (fun h2 => absurd h2 (by simp)) (fun _ => evEq ih (by simp [cL, hok]))
      · obtain rfl : p = some q := by simpa using hpp
        have hw : wrap64 (((pre0 ++ [q]).length : Int) - 1) = (pre0.length : Int) := by rw [w64 (by simp <;> omega) (by simp at hb' ⊢ <;> omega)]; simp
        have rq := rdCell_last pre0 q v vs
        have hp : (((pre0 ++ [q]).length : Nat) : Int) > 0 := by simp <;> omega
        have hlt : (pre0.length : Int) < ((pre0 ++ [q] ++ v :: vs).length : Int) := by simp <;> omega
        simp only [List.concat_eq_append] at ih h1 rv ⊢
        simp only [hw, rq, hp, hlt, Int.natCast_nonneg, if_true]
        exact evIte (fun h2 => evRet (by simp [cL, hok, h2])) (fun h2 => evEq ih (by simp [cL, hok, h2]))
    refine evSucc ?_
    simp only [impl_cellsFault.l0, impl_isKey.f, impl_isValue.f, implIn, Option.bind_some, h1, Int.natCast_nonneg, if_true, rv, decide_eq_true_eq]
    refine evIte (fun h2 => key _ ?_) (fun h2 => key _ ?_)
    · simp only [okC]; by_cases h3 : 0 ≤ v.f1 ∧ v.f1 ≤ 9999 <;> simp [h2, h3]
    · simp only [okC]; simp [h2]
theorem implCells (l : List S49) (hb : l.length ≤ 1099511627776) : Ev (fun k => impl_cellsFault.f k l) (cL none l) := implCL l [] none rfl hb
end Go.Proofs.Ytpdfpbnlablhoaa.Q
