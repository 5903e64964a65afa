/- Pairs: their faults: what both sides come to. -/
import Derived.Test.YtocdahbinombkaaGreatLb
import Derived.Test.YtocdahbinombkaaGreatQf
import Derived.Test.YtocdahbinombkaaGreatP0
import Derived.Test.YtocdahbinombkaaGreatPDall0
import Derived.Test.YtocdahbinombkaaGreatPDm0
namespace Go.Proofs.YtocdahbinombkaaGreat.Q
open Go.RowKit Go.Proofs.YtocdahbinombkaaGreat.P Go.Proofs.YtocdahbinombkaaGreatW.PrintWords Go.Proofs.YtocdahbinombkaaGreatW.PrintLast Go.Proofs.YtocdahbinombkaaGreatW.PrintMore Go.Proofs.YtocdahbinombkaaGreat.Lb
set_option linter.unusedVariables false
set_option linter.unusedSimpArgs false
theorem specIn (a b c : Int) : spec_l1In.f a b c = some (decide (b ≤ a ∧ a ≤ c)) := by
  unfold spec_l1In.f
  by_cases h : b ≤ a <;> simp [h]
theorem implIn (a b c : Int) : impl_within.f a b c = some (decide (b ≤ a ∧ a ≤ c)) := by
  unfold impl_within.f
  by_cases h : b ≤ a <;> simp [h]
def okP (v : S55) : Prop := (0 ≤ v.f0 ∧ v.f0 ≤ 9999) ∧ 0 ≤ v.f1 ∧ v.f1 ≤ 31
instance (v : S55) : Decidable (okP v) := by unfold okP; infer_instance
def lt2 (a0 a1 b0 b1 : Int) : Bool := if a0 = b0 then decide (a1 < b1) else decide (a0 < b0)
def ltP (q v : S55) : Bool := lt2 q.f0 q.f1 v.f0 v.f1
/-- The first fault behind p. -/
def pL : Option S55 → List S55 → Int
  | _, [] => 0
  | none, v :: vs => if okP v then pL (some v) vs else 3
  | some q, v :: vs => if okP v then (if ltP q v = true then pL (some v) vs else 1) else 3
def prf (l : List S55) : Int := if 400 < l.length then 2 else pL none l
theorem rdPair_last (pre : List S55) (q v : S55) (vs : List S55) : rd_T55 (pre ++ [q] ++ v :: vs) (pre.length : Int) = q := by rw [List.append_assoc, List.singleton_append, rdPair_mid]
theorem specBehind (a0 a1 b0 b1 : Int) : spec_l8Behind.f a0 a1 b0 b1 = some (lt2 a0 a1 b0 b1) := by
  unfold spec_l8Behind.f lt2
  split <;> rfl
def cmp1 (a b : Int) : Int := if a < b then -1 else if a > b then 1 else 0
theorem cmpOne (a b : Int) : cmp_Compare_int64.f a b = some (cmp1 a b) := by
  unfold cmp_Compare_int64.f cmp_isNaN_int64.f cmp1
  simp only [Option.bind_some, bne_self_eq_false, Bool.false_eq_true, if_false]
  repeat' split
  all_goals rfl
theorem orTwo (x y : Int) : Ev (fun k => cmp_Or_int.f k [x, y]) (if x = 0 then y else x) := by
  unfold cmp_Or_int.f
  have e1 : wrap64 (0 + 1) = 1 := w64 (by omega) (by omega)
  have e2 : wrap64 (1 + 1) = 2 := w64 (by omega) (by omega)
  have l2 : (([x, y] : List Int).length : Int) = 2 := rfl
  have r0 : rd [x, y] 0 = x := rfl
  have r1 : rd [x, y] 1 = y := rfl
  refine evSucc ?_
  simp only [cmp_Or_int.l0, e1, l2, r0]
  refine evIte (fun _ => evIte (fun _ => evIte (fun _ => evIte (fun h => ?_) (fun h => evRet (by rw [if_neg h]))) (fun h => absurd (by omega) h)) (fun h => absurd (by omega) h)) (fun h => absurd (by omega) h)
  rw [if_pos h]
  refine evSucc ?_
  simp only [cmp_Or_int.l0, e2, l2, r1]
  refine evIte (fun _ => evIte (fun _ => evIte (fun _ => evIte (fun h2 => ?_) (fun h2 => evRet rfl)) (fun h => absurd (by omega) h)) (fun h => absurd (by omega) h)) (fun h => absurd (by omega) h)
  refine evSucc ?_
  simp only [cmp_Or_int.l0]
  exact evIte (fun h => absurd h (by omega)) (fun _ => evRet h2.symm)
def cmp2 (a0 a1 b0 b1 : Int) : Int := if cmp1 a0 b0 = 0 then cmp1 a1 b1 else cmp1 a0 b0
theorem implCmp (a0 a1 b0 b1 : Int) : Ev (fun k => impl_comparePairs.f k a0 a1 b0 b1) (cmp2 a0 a1 b0 b1) := by
  unfold impl_comparePairs.f
  exact evSeq (cmpOne a0 b0) (evSeq (cmpOne a1 b1) (evCall (orTwo _ _) (evRet rfl)))
theorem cmp2_le (a0 a1 b0 b1 : Int) : cmp2 a0 a1 b0 b1 ≤ 0 ↔ ¬ lt2 b0 b1 a0 a1 = true := by
  unfold cmp2 cmp1 lt2
  repeat' split
  all_goals (simp; try omega)

set_option maxHeartbeats 1000000 in
theorem specPL : ∀ (rest pre : List S55) (p : Option S55), p = pre.getLast? → (pre ++ rest).length ≤ 1099511627776 → Ev (fun k => spec_PairsFault.l0 k (pre ++ rest) (pre.length : Int)) (pL p rest)
  | [], pre, p, hpp, hb => by
    refine evSucc ?_
    simp only [spec_PairsFault.l0, List.append_nil, Int.lt_irrefl, if_false]
    exact evRet (by simp [pL])
  | v :: vs, pre, p, hpp, hb => by
    have ih := specPL vs (pre ++ [v]) (some v) (by simp) (by simpa using hb)
    have hb' : pre.length + 1 ≤ 1099511627776 := by simp at hb; omega
    have hn : (((pre ++ [v]).length : Nat) : Int) = wrap64 ((pre.length : Int) + 1) := by rw [w64n (by omega)]; simp
    rw [List.append_assoc, List.singleton_append, hn] at ih
    have h1 : (pre.length : Int) < ((pre ++ v :: vs).length : Int) := by simp <;> omega
    have rv := rdPair_mid pre v vs
    have key : ∀ b : Bool, (b = true ↔ ¬ okP v) → Ev (fun k => spec_PairsFault.j1 k (pre ++ v :: vs) (pre.length : Int) b) (pL p (v :: vs)) := by
      intro b hbv
      refine evSucc ?_
      simp only [spec_PairsFault.j1]
      refine evIte (fun h => evRet (by cases p <;> simp [pL, hbv.1 h])) (fun h => ?_)
      have hok : okP v := by
        by_cases ho : okP v
        · exact ho
        · exact absurd (hbv.2 ho) h
      rcases List.eq_nil_or_concat pre with rfl | ⟨pre0, q, rfl⟩
      · obtain rfl : p = none := by simpa using hpp
        refine evIte (fun h2 => absurd h2 (by simp)) (fun _ => evEq ih (by simp [pL, hok]))
      · obtain rfl : p = some q := by simpa using hpp
        have hw : wrap64 (((pre0 ++ [q]).length : Int) - 1) = (pre0.length : Int) := by rw [w64 (by simp <;> omega) (by simp at hb' ⊢ <;> omega)]; simp
        have rq := rdPair_last pre0 q v vs
        have hp : (((pre0 ++ [q]).length : Nat) : Int) > 0 := by simp <;> omega
        have hlt : (pre0.length : Int) < ((pre0 ++ [q] ++ v :: vs).length : Int) := by simp <;> omega
        simp only [List.concat_eq_append] at ih h1 rv ⊢
        simp only [hw, rq, rv, hp, h1, hlt, Int.natCast_nonneg, if_true, specBehind, Option.bind_some]
        exact evIte (fun h2 => evEq ih (by simp [pL, hok, ltP, h2])) (fun h2 => evRet (by simp [pL, hok, ltP, h2]))
    refine evSucc ?_
    simp only [spec_PairsFault.l0, spec_l1Key.f, spec_l1Value.f, specIn, Option.bind_some, h1, Int.natCast_nonneg, if_true, rv, decide_eq_true_eq]
    refine evIte (fun h2 => key _ ?_) (fun h2 => key _ ?_)
    · simp only [okP]; by_cases h3 : 0 ≤ v.f1 ∧ v.f1 ≤ 31 <;> simp [h2, h3]
    · simp only [okP]; simp [h2]
theorem specPR (l : List S55) (hb : l.length ≤ 1099511627776) : Ev (fun k => spec_PairsFault.f k l) (prf l) := by
  unfold spec_PairsFault.f prf
  refine evIte (fun h2 => evRet (by rw [if_pos (by omega)])) (fun h2 => ?_)
  rw [if_neg (by omega)]
  exact specPL l [] none rfl hb

set_option maxHeartbeats 1000000 in
theorem implPL : ∀ (rest pre : List S55) (p : Option S55), p = pre.getLast? → (pre ++ rest).length ≤ 1099511627776 → Ev (fun k => impl_PairsFault.l0 k (pre ++ rest) (pre ++ rest) ((pre ++ rest).length : Int) (pre.length : Int)) (pL p rest)
  | [], pre, p, hpp, hb => by
    refine evSucc ?_
    simp only [impl_PairsFault.l0, List.append_nil, Int.lt_irrefl, if_false]
    exact evRet (by simp [pL])
  | v :: vs, pre, p, hpp, hb => by
    have ih := implPL vs (pre ++ [v]) (some v) (by simp) (by simpa using hb)
    have hb' : pre.length + 1 ≤ 1099511627776 := by simp at hb; omega
    have hn : (((pre ++ [v]).length : Nat) : Int) = wrap64 ((pre.length : Int) + 1) := by rw [w64n (by omega)]; simp
    rw [List.append_assoc, List.singleton_append, hn] at ih
    have h1 : (pre.length : Int) < ((pre ++ v :: vs).length : Int) := by simp <;> omega
    have rv := rdPair_mid pre v vs
    have key : ∀ b : Bool, (b = true ↔ ¬ okP v) → Ev (fun k => impl_PairsFault.j1 k (pre ++ v :: vs) (pre.length : Int) (pre ++ v :: vs) ((pre ++ v :: vs).length : Int) (pre.length : Int) b v.f0 v.f1) (pL p (v :: vs)) := by
      intro b hbv
      refine evSucc ?_
      simp only [impl_PairsFault.j1]
      refine evIte (fun h => evRet (by cases p <;> simp [pL, hbv.1 h])) (fun h => ?_)
      have hok : okP v := by
        by_cases ho : okP v
        · exact ho
        · exact absurd (hbv.2 ho) h
      rcases List.eq_nil_or_concat pre with rfl | ⟨pre0, q, rfl⟩
      · obtain rfl : p = none := by simpa using hpp
        refine evIte (fun h2 => absurd h2 (by simp)) (fun _ => evEq ih (by simp [pL, hok]))
      · obtain rfl : p = some q := by simpa using hpp
        have hw : wrap64 (((pre0 ++ [q]).length : Int) - 1) = (pre0.length : Int) := by rw [w64 (by simp <;> omega) (by simp at hb' ⊢ <;> omega)]; simp
        have rq := rdPair_last pre0 q v vs
        have hp : (((pre0 ++ [q]).length : Nat) : Int) > 0 := by simp <;> omega
        have hlt : (pre0.length : Int) < ((pre0 ++ [q] ++ v :: vs).length : Int) := by simp <;> omega
        simp only [List.concat_eq_append] at ih h1 rv ⊢
        simp only [hw, rq, hp, hlt, Int.natCast_nonneg, if_true]
        refine evCall (implCmp v.f0 v.f1 q.f0 q.f1) ?_
        simp only [cmp2_le]
        exact evIte (fun h2 => evRet (by simp [pL, hok, ltP, h2])) (fun h2 => evEq ih (by
          have h3 : lt2 q.f0 q.f1 v.f0 v.f1 = true := Classical.not_not.1 h2
          simp [pL, hok, ltP, h3]))
    refine evSucc ?_
    simp only [impl_PairsFault.l0, impl_isKey.f, impl_isValue.f, implIn, Option.bind_some, h1, Int.natCast_nonneg, if_true, rv, decide_eq_true_eq]
    refine evIte (fun h2 => key _ ?_) (fun h2 => key _ ?_)
    · simp only [okP]; by_cases h3 : 0 ≤ v.f1 ∧ v.f1 ≤ 31 <;> simp [h2, h3]
    · simp only [okP]; simp [h2]
theorem implPR (l : List S55) (hb : l.length ≤ 1099511627776) : Ev (fun k => impl_PairsFault.f k l) (prf l) := by
  unfold impl_PairsFault.f prf
  refine evIte (fun h2 => evRet (by rw [if_pos (by omega)])) (fun h2 => ?_)
  rw [if_neg (by omega)]
  exact implPL l [] none rfl hb
end Go.Proofs.YtocdahbinombkaaGreat.Q
