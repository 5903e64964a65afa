/- Pushing a version: what both sides come to. -/
import Derived.Test.YtkaammmkejiafaaLb
import Derived.Test.YtkaammmkejiafaaQv
import Derived.Test.YtkaammmkejiafaaQc
import Derived.Test.YtkaammmkejiafaaQd
import Derived.Test.YtkaammmkejiafaaQe
import Derived.Test.YtkaammmkejiafaaP0
import Derived.Test.YtkaammmkejiafaaPDall0
import Derived.Test.YtkaammmkejiafaaPDb0
namespace Go.Proofs.Ytkaammmkejiafaa.Q
open Go.RowKit Go.Proofs.Ytkaammmkejiafaa.P Go.Proofs.YtkaammmkejiafaaW.PrintWords Go.Proofs.YtkaammmkejiafaaW.PrintLast Go.Proofs.YtkaammmkejiafaaW.PrintMore Go.Proofs.Ytkaammmkejiafaa.Lb
set_option linter.unusedVariables false
set_option linter.unusedSimpArgs false
/-- The first version is not committed. -/
def loose (l : List S51) : Bool := match l with | [] => false | v :: _ => v.f1 == 0
def pushed (l : List S51) (own : Int) (gone : Bool) (value : Int) : Int × List S51 :=
  if loose l = true then (0, ⟨own, 0, gone, value⟩ :: l.drop 1) else if l.length = 12 then (2, []) else (0, ⟨own, 0, gone, value⟩ :: l)
def push (l : List S51) (at_ own : Int) (gone : Bool) (value : Int) : Int × List S51 :=
  if asked l at_ own = 0 then (if 0 ≤ value ∧ value ≤ 9999 then (if gone = true ∧ value ≠ 0 then (1, []) else (if mw l at_ own = 0 then pushed l own gone value else (mw l at_ own, []))) else (3, [])) else (asked l at_ own, [])
theorem push_len (l : List S51) (at_ own : Int) (gone : Bool) (value : Int) : (push l at_ own gone value).2.length ≤ l.length + 1 := by
  unfold push pushed
  repeat' split
  all_goals simp <;> omega
theorem mw_ok {l : List S51} {at_ own : Int} (h : mw l at_ own = 0) : asked l at_ own = 0 ∧ own ≠ 0 ∧ may l at_ own = true := by
  unfold mw at h
  by_cases h1 : asked l at_ own = 0
  · by_cases h2 : own = 0
    · subst h2; rw [if_pos h1] at h; simp at h
    · by_cases h3 : may l at_ own = true
      · exact ⟨h1, h2, h3⟩
      · simp [h1, h2, h3] at h
  · simp [h1] at h
theorem cf_len {l : List S51} (h : cf l = 0) : l.length ≤ 12 := (cf_ok h).1
theorem specPushed (l : List S51) (at_ own : Int) (gone : Bool) (value : Int) (h : mw l at_ own = 0) : ∃ q c, spec_l5Push.f l own gone value = some (q, c) ∧ (if c = 0 then (0, q) else (c, [])) = pushed l own gone value := by
  obtain ⟨h1, h2, h3⟩ := mw_ok h
  have hl := cf_len (asked_ok h1).1
  unfold spec_l5Push.f pushed
  rw [specWriter, Option.bind_some]
  match l, h3, hl with
  | [], _, _ =>
    rw [if_neg (show ¬ writer [] = own by simp [writer]; omega), if_neg (by simp)]
    simp only [Option.bind_some]
    rw [if_pos (by simp)]
    exact ⟨_, _, rfl, by simp [loose]⟩
  | v :: vs, h3, hl =>
    by_cases hv : v.f1 = 0
    · have h4 : v.f0 = own := by simpa [may, hv] using h3
      rw [if_pos (show writer (v :: vs) = own by simp [writer, hv, h4]), copyV _ (by omega), Option.bind_some, if_pos (by simp <;> omega)]
      exact ⟨_, _, rfl, by simp [loose, hv]⟩
    · rw [if_neg (show ¬ writer (v :: vs) = own by simp [writer, hv]; omega)]
      by_cases h5 : (v :: vs).length = 12
      · rw [if_pos (by omega)]
        exact ⟨_, _, rfl, by simp [loose, hv, h5]⟩
      · rw [if_neg (by omega)]
        simp only [Option.bind_some]
        rw [if_pos (by simp at hl ⊢; omega)]
        exact ⟨_, _, rfl, by simp only [loose, hv, h5]; simp [hv]⟩
theorem specPush (l : List S51) (at_ own : Int) (gone : Bool) (value : Int) (hb : l.length ≤ 1048576) : Ev (fun k => spec_PushVersion.f k l at_ own gone value) (push l at_ own gone value) := by
  unfold spec_PushVersion.f push
  refine evCall (specAsked l at_ own (by omega)) (evIte (fun h => ?_) (fun h => evRet (by rw [if_neg h])))
  rw [if_pos h]
  refine evSeq (a := decide (0 ≤ value ∧ value ≤ 9999)) (by simp only [spec_l1Value.f, specIn, Option.bind_some]) ?_
  simp only [decide_eq_true_eq]
  refine evIte (fun h1 => ?_) (fun h1 => evRet (by rw [if_neg h1]))
  rw [if_pos h1]
  have key : ∀ b : Bool, (b = true ↔ gone = true ∧ value ≠ 0) → Ev (fun k => spec_PushVersion.j0 k l gone value b at_ own) (if gone = true ∧ value ≠ 0 then (1, []) else (if mw l at_ own = 0 then pushed l own gone value else (mw l at_ own, []))) := by
    intro b hb'
    refine evSucc ?_
    simp only [spec_PushVersion.j0]
    refine evIte (fun h2 => evRet (by rw [if_pos (hb'.1 h2)])) (fun h2 => ?_)
    rw [if_neg (fun h3 => h2 (hb'.2 h3))]
    refine evCall (specMW l at_ own (by omega)) (evIte (fun h3 => ?_) (fun h3 => evRet (by rw [if_neg h3])))
    rw [if_pos h3]
    obtain ⟨q, c, h4, h5⟩ := specPushed l at_ own gone value h3
    refine evSeq h4 (evIte (fun h6 => evRet ?_) (fun h6 => evRet ?_))
    · rw [← h5, if_pos h6]
    · rw [← h5, if_neg h6]
  refine evIte (fun h2 => key _ (by simp [h2])) (fun h2 => key _ (by simp [h2]))
theorem implPush (l : List S51) (at_ own : Int) (gone : Bool) (value : Int) (hb : l.length ≤ 1048576) : Ev (fun k => impl_PushVersion.f k l at_ own gone value) (push l at_ own gone value) := by
  unfold impl_PushVersion.f
  have key : ∀ c : Int, (c = 0 → mw l at_ own = 0) → Ev (fun k => impl_PushVersion.j0 k l gone value c at_ own) (if c = 0 then pushed l own gone value else (c, [])) := by
    intro c hc
    refine evSucc ?_
    simp only [impl_PushVersion.j0]
    refine evIte (fun h => ?_) (fun h => evRet (by rw [if_neg h]))
    rw [if_pos h]
    have hl := cf_len (asked_ok (mw_ok (hc h)).1).1
    have key2 : ∀ b : Bool, b = loose l → Ev (fun k => impl_PushVersion.j1 k l b own 0 gone value) (pushed l own gone value) := by
      intro b hb'
      refine evSucc ?_
      simp only [impl_PushVersion.j1]
      unfold pushed
      subst hb'
      refine evIte (fun h2 => ?_) (fun h2 => ?_)
      · rw [if_pos h2]
        match l, h2, hl with
        | [], h2, _ => simp [loose] at h2
        | v :: vs, h2, hl => exact evSeq (cloneV _ (by omega)) (evIte (fun _ => evRet (by simp)) (fun h3 => absurd (by simp <;> omega) h3))
      · rw [if_neg h2]
        refine evIte (fun h3 => evRet (by rw [if_pos (by omega)])) (fun h3 => ?_)
        rw [if_neg (by omega)]
        simp only [Option.bind_some]
        exact evIte (fun _ => evRet (by simp)) (fun h4 => absurd (by simp <;> omega) h4)
    match l, key2 with
    | [], key2 => exact evIte (fun h2 => absurd h2 (by simp)) (fun _ => key2 _ rfl)
    | v :: vs, key2 =>
      refine evIte (fun _ => evIte (fun _ => ?_) (fun h2 => absurd (by simp <;> omega) h2)) (fun h2 => absurd (by simp <;> omega) h2)
      exact key2 _ rfl
  refine evCall (implView l at_ own (by omega)) (evIte (fun h => ?_) (fun h => evEq (key _ (fun h2 => absurd h2 h)) (by unfold push; rw [if_neg h, if_neg h])))
  refine evSeq (a := decide (0 ≤ value ∧ value ≤ 9999)) (by simp only [impl_isValue.f, implIn, Option.bind_some]) ?_
  simp only [decide_eq_true_eq]
  have hm : Ev (fun k => impl_PushVersion.j0 k l gone value (mw l at_ own) at_ own) (if mw l at_ own = 0 then pushed l own gone value else (mw l at_ own, [])) := key _ (fun h => h)
  unfold push
  rw [if_pos h]
  refine evIte (fun h1 => ?_) (fun h1 => ?_)
  · rw [if_pos h1]
    refine evIte (fun h2 => evIte (fun h3 => ?_) (fun h3 => ?_)) (fun h2 => ?_)
    · rw [if_neg (by simp [h3])]
      exact evCall (implMW l at_ own (by omega)) hm
    · rw [if_pos ⟨h2, h3⟩]
      exact evEq (key 1 (fun h4 => absurd h4 (by decide))) (by rw [if_neg (by decide)])
    · rw [if_neg (fun h4 => h2 h4.1)]
      exact evCall (implMW l at_ own (by omega)) hm
  · rw [if_neg h1]
    exact evEq (key 3 (fun h4 => absurd h4 (by decide))) (by rw [if_neg (by decide)])
end Go.Proofs.Ytkaammmkejiafaa.Q
