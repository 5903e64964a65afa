/- Records: their faults: what both sides come to. -/
import Derived.Test.YthagppmaofcllaaLb
import Derived.Test.YthagppmaofcllaaQf
import Derived.Test.YthagppmaofcllaaP0
import Derived.Test.YthagppmaofcllaaPDall0
namespace Go.Proofs.Ythagppmaofcllaa.Q
open Go.RowKit Go.Proofs.Ythagppmaofcllaa.P Go.Proofs.YthagppmaofcllaaW.PrintWords Go.Proofs.YthagppmaofcllaaW.PrintLast Go.Proofs.YthagppmaofcllaaW.PrintMore Go.Proofs.Ythagppmaofcllaa.Lb
set_option linter.unusedVariables false
set_option linter.unusedSimpArgs false
theorem specIn (a b c : Int) : spec_l1In.f a b c = some (decide (b ≤ a ∧ a ≤ c)) := by
  unfold spec_l1In.f
  by_cases h : b ≤ a <;> simp [h]
theorem implIn (a b c : Int) : impl_within.f a b c = some (decide (b ≤ a ∧ a ≤ c)) := by
  unfold impl_within.f
  by_cases h : b ≤ a <;> simp [h]
def okR (a0 a1 a2 a4 a6 a7 : Int) : Prop := (1 ≤ a0 ∧ a0 ≤ 6) ∧ ((a0 = 6 ∧ a1 = 0) ∨ (a0 ≠ 6 ∧ 1 ≤ a1 ∧ a1 ≤ 999)) ∧ (0 ≤ a2 ∧ a2 ≤ 31) ∧ (0 ≤ a4 ∧ a4 ≤ 9999) ∧ (0 ≤ a6 ∧ a6 ≤ 9999) ∧ (0 ≤ a7 ∧ a7 ≤ 1000)
instance (a0 a1 a2 a4 a6 a7 : Int) : Decidable (okR a0 a1 a2 a4 a6 a7) := by unfold okR; infer_instance
def bad1 (a0 a2 : Int) (a3 : Bool) (a4 : Int) (a5 : Bool) (a6 : Int) : Prop := ¬ (a0 = 2 ∨ a0 = 5) ∧ (a2 ≠ 0 ∨ a3 = true ∨ a4 ≠ 0 ∨ a5 = true ∨ a6 ≠ 0)
def bad2 (a0 : Int) (a3 : Bool) (a4 : Int) (a5 : Bool) (a6 a7 : Int) : Prop := (a3 = false ∧ a4 ≠ 0) ∨ (a5 = false ∧ a6 ≠ 0) ∨ ¬ (a0 = 5 ↔ a7 ≠ 0)
def badR (a0 a2 : Int) (a3 : Bool) (a4 : Int) (a5 : Bool) (a6 a7 : Int) : Prop := bad1 a0 a2 a3 a4 a5 a6 ∨ bad2 a0 a3 a4 a5 a6 a7
instance (a0 a2 : Int) (a3 : Bool) (a4 : Int) (a5 : Bool) (a6 a7 : Int) : Decidable (badR a0 a2 a3 a4 a5 a6 a7) := by unfold badR bad1 bad2; infer_instance
/-- What RecFault tells. -/
def rf (a0 a1 a2 : Int) (a3 : Bool) (a4 : Int) (a5 : Bool) (a6 a7 : Int) : Int := if okR a0 a1 a2 a4 a6 a7 then (if badR a0 a2 a3 a4 a5 a6 a7 then 1 else 0) else 3
theorem rf_bad {a0 a1 a2 : Int} {a3 : Bool} {a4 : Int} {a5 : Bool} {a6 a7 : Int} (h : okR a0 a1 a2 a4 a6 a7) (hb : badR a0 a2 a3 a4 a5 a6 a7) : 1 = rf a0 a1 a2 a3 a4 a5 a6 a7 := by simp [rf, h, hb]
theorem rf_good {a0 a1 a2 : Int} {a3 : Bool} {a4 : Int} {a5 : Bool} {a6 a7 : Int} (h : okR a0 a1 a2 a4 a6 a7) (hb : ¬ badR a0 a2 a3 a4 a5 a6 a7) : 0 = rf a0 a1 a2 a3 a4 a5 a6 a7 := by simp [rf, h, hb]

set_option maxHeartbeats 2000000 in
theorem specRF (a0 a1 a2 : Int) (a3 : Bool) (a4 : Int) (a5 : Bool) (a6 a7 : Int) : Ev (fun k => spec_RecFault.f k a0 a1 a2 a3 a4 a5 a6 a7) (rf a0 a1 a2 a3 a4 a5 a6 a7) := by
  have key2 : ∀ b : Bool, (b = true ↔ bad1 a0 a2 a3 a4 a5 a6) → okR a0 a1 a2 a4 a6 a7 → Ev (fun k => spec_RecFault.j2 k b a0 a1 a2 a3 a4 a5 a6 a7) (rf a0 a1 a2 a3 a4 a5 a6 a7) := by
    intro b hb hok
    refine evSucc ?_
    simp only [spec_RecFault.j2]
    refine evIte (fun h => evRet (rf_bad hok (.inl (hb.1 h)))) (fun h => ?_)
    have hn : ¬ bad1 a0 a2 a3 a4 a5 a6 := fun h2 => h (hb.2 h2)
    have e1 : bad2 a0 a3 a4 a5 a6 a7 → 1 = rf a0 a1 a2 a3 a4 a5 a6 a7 := fun h2 => rf_bad hok (.inr h2)
    have e0 : ¬ bad2 a0 a3 a4 a5 a6 a7 → 0 = rf a0 a1 a2 a3 a4 a5 a6 a7 := fun h2 => rf_good hok (fun h3 => h3.elim hn h2)
    clear hok hn hb h
    generalize rf a0 a1 a2 a3 a4 a5 a6 a7 = r at *
    repeat' (refine evIte (fun _ => ?_) (fun _ => ?_))
    all_goals first | exact evRet (e1 (by simp only [bad2]; grind)) | exact evRet (e0 (by simp only [bad2]; grind))
  have key1 : ∀ b : Bool, (b = true ↔ (a0 = 2 ∨ a0 = 5)) → okR a0 a1 a2 a4 a6 a7 → Ev (fun k => spec_RecFault.j1 k b a0 a1 a2 a3 a4 a5 a6 a7) (rf a0 a1 a2 a3 a4 a5 a6 a7) := by
    intro b hb hok
    refine evSucc ?_
    simp only [spec_RecFault.j1]
    repeat' (refine evIte (fun _ => ?_) (fun _ => ?_))
    all_goals (refine key2 _ ?_ hok; simp only [bad1]; clear key2 hok; grind)
  have key0 : ∀ b : Bool, (b = true ↔ ¬ okR a0 a1 a2 a4 a6 a7) → Ev (fun k => spec_RecFault.j0 k b a0 a1 a2 a3 a4 a5 a6 a7) (rf a0 a1 a2 a3 a4 a5 a6 a7) := by
    intro b hb
    refine evSucc ?_
    simp only [spec_RecFault.j0]
    refine evIte (fun h => evRet (by simp [rf, hb.1 h])) (fun h => ?_)
    have hok : okR a0 a1 a2 a4 a6 a7 := by
      by_cases ho : okR a0 a1 a2 a4 a6 a7
      · exact ho
      · exact absurd (hb.2 ho) h
    refine evIte (fun h2 => key1 _ (by simp [h2]) hok) (fun h2 => key1 _ (by simp [h2]) hok)
  unfold spec_RecFault.f
  simp only [spec_l3Txn.f, spec_l1Key.f, spec_l1Value.f, specIn, Option.bind_some, decide_eq_true_eq]
  repeat' (refine evIte (fun _ => ?_) (fun _ => ?_))
  all_goals (refine key0 _ ?_; simp only [okR]; clear key0 key1 key2; grind)
set_option maxHeartbeats 2000000 in
theorem implRF (a0 a1 a2 : Int) (a3 : Bool) (a4 : Int) (a5 : Bool) (a6 a7 : Int) : Ev (fun k => impl_RecFault.f k a0 a1 a2 a3 a4 a5 a6 a7) (rf a0 a1 a2 a3 a4 a5 a6 a7) := by
  have key4 : ∀ b : Bool, (b = true ↔ a5 = false ∧ a6 ≠ 0) → ¬ (a3 = false ∧ a4 ≠ 0) → ¬ bad1 a0 a2 a3 a4 a5 a6 → okR a0 a1 a2 a4 a6 a7 → Ev (fun k => impl_RecFault.j4 k b a0 a1 a2 a3 a4 a5 a6 a7) (rf a0 a1 a2 a3 a4 a5 a6 a7) := by
    intro b hb h3 h1 hok
    refine evSucc ?_
    simp only [impl_RecFault.j4]
    refine evIte (fun h => evRet (rf_bad hok (.inr (.inr (.inl (hb.1 h)))))) (fun h => ?_)
    have hg : (a0 = 5 ↔ a7 ≠ 0) → 0 = rf a0 a1 a2 a3 a4 a5 a6 a7 := by
      intro h2
      refine rf_good hok ?_
      rintro (h4 | h4 | h4 | h4)
      · exact h1 h4
      · exact h3 h4
      · exact h (hb.2 h4)
      · exact h4 h2
    have hx : ¬ (a0 = 5 ↔ a7 ≠ 0) → 1 = rf a0 a1 a2 a3 a4 a5 a6 a7 := fun h2 => rf_bad hok (.inr (.inr (.inr h2)))
    repeat' (refine evIte (fun _ => ?_) (fun _ => ?_))
    all_goals first | exact evRet (hg (by grind)) | exact evRet (hx (by grind))
  have key3 : ∀ b : Bool, (b = true ↔ a3 = false ∧ a4 ≠ 0) → ¬ bad1 a0 a2 a3 a4 a5 a6 → okR a0 a1 a2 a4 a6 a7 → Ev (fun k => impl_RecFault.j3 k b a0 a1 a2 a3 a4 a5 a6 a7) (rf a0 a1 a2 a3 a4 a5 a6 a7) := by
    intro b hb h1 hok
    refine evSucc ?_
    simp only [impl_RecFault.j3]
    refine evIte (fun h => evRet (rf_bad hok (.inr (.inl (hb.1 h))))) (fun h => evIte (fun h2 => key4 _ (by simp [h2]) (fun h3 => h (hb.2 h3)) h1 hok) (fun h2 => key4 _ (by simp [h2]) (fun h3 => h (hb.2 h3)) h1 hok))
  have key2 : ∀ b : Bool, (b = true ↔ bad1 a0 a2 a3 a4 a5 a6) → okR a0 a1 a2 a4 a6 a7 → Ev (fun k => impl_RecFault.j2 k b a0 a1 a2 a3 a4 a5 a6 a7) (rf a0 a1 a2 a3 a4 a5 a6 a7) := by
    intro b hb hok
    refine evSucc ?_
    simp only [impl_RecFault.j2]
    refine evIte (fun h => evRet (rf_bad hok (.inl (hb.1 h)))) (fun h => evIte (fun h2 => key3 _ (by simp [h2]) (fun h3 => h (hb.2 h3)) hok) (fun h2 => key3 _ (by simp [h2]) (fun h3 => h (hb.2 h3)) hok))
  have key1 : ∀ b : Bool, (b = true ↔ ¬ okR a0 a1 a2 a4 a6 a7) → Ev (fun k => impl_RecFault.j1 k b a0 a1 a2 a3 a4 a5 a6 a7) (rf a0 a1 a2 a3 a4 a5 a6 a7) := by
    intro b hb
    refine evSucc ?_
    simp only [impl_RecFault.j1]
    refine evIte (fun h => evRet (by simp [rf, hb.1 h])) (fun h => ?_)
    have hok : okR a0 a1 a2 a4 a6 a7 := by
      by_cases ho : okR a0 a1 a2 a4 a6 a7
      · exact ho
      · exact absurd (hb.2 ho) h
    refine evSeq (a := decide (a0 = 2 ∨ a0 = 5)) (by unfold impl_Rec_turns.f; have e1 : (a0 == 5) = decide (a0 = 5) := by { rw [Bool.eq_iff_iff]; simp }; by_cases h2 : a0 = 2 <;> simp [h2, e1]) ?_
    simp only [decide_eq_true_eq]
    repeat' (refine evIte (fun _ => ?_) (fun _ => ?_))
    all_goals (refine key2 _ ?_ hok; simp only [bad1]; clear key2 key3 key4 hok hb h; grind)
  have key0 : ∀ b : Bool, (b = true ↔ ((a0 = 6 ∧ a1 = 0) ∨ (a0 ≠ 6 ∧ 1 ≤ a1 ∧ a1 ≤ 999))) → Ev (fun k => impl_RecFault.j0 k b a0 a1 a2 a3 a4 a5 a6 a7) (rf a0 a1 a2 a3 a4 a5 a6 a7) := by
    intro b hb
    refine evSucc ?_
    simp only [impl_RecFault.j0, impl_isKey.f, impl_isValue.f, implIn, Option.bind_some, decide_eq_true_eq]
    repeat' (refine evIte (fun _ => ?_) (fun _ => ?_))
    all_goals (refine key1 _ ?_; simp only [okR]; clear key1 key2 key3 key4; grind)
  unfold impl_RecFault.f
  simp only [impl_isTxn.f, implIn, Option.bind_some]
  refine evIte (fun h => key0 _ (by simp [h])) (fun h => key0 _ (by simp [h]))
end Go.Proofs.Ythagppmaofcllaa.Q
