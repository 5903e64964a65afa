/- Views and chains: what both sides' small functions come to. -/
import Derived.Test.YtkaammmkejiafaaLb
import Derived.Test.YtkaammmkejiafaaQv
import Derived.Test.YtkaammmkejiafaaQc
import Derived.Test.YtkaammmkejiafaaP0
import Derived.Test.YtkaammmkejiafaaPDall0
import Derived.Test.YtkaammmkejiafaaPDb0
namespace Go.Proofs.Ytkaammmkejiafaa.Q
open Go.RowKit Go.Proofs.Ytkaammmkejiafaa.P Go.Proofs.YtkaammmkejiafaaW.PrintWords Go.Proofs.YtkaammmkejiafaaW.PrintLast Go.Proofs.YtkaammmkejiafaaW.PrintMore Go.Proofs.Ytkaammmkejiafaa.Lb
set_option linter.unusedVariables false
set_option linter.unusedSimpArgs false

theorem rd0 (v : S51) (vs : List S51) : rd_T51 (v :: vs) 0 = v := rfl

/-- A chain without a fault: each version is right. -/
theorem cfL_ok : ∀ (l : List S51) (p : Option S51), cfL p l = 0 → ∀ v ∈ l, okV v
  | [], _, _, v, hv => by simp at hv
  | x :: xs, p, h, v, hv => by
    unfold cfL at h
    by_cases ho : okV x
    · by_cases hb : badV p x
      · simp [ho, hb] at h
      · simp [ho, hb] at h
        rcases List.mem_cons.1 hv with rfl | hv
        · exact ho
        · exact cfL_ok xs _ h v hv
    · simp [ho] at h
theorem cf_ok {l : List S51} (h : cf l = 0) : l.length ≤ 12 ∧ ∀ v ∈ l, okV v := by
  unfold cf at h
  by_cases hl : 12 < l.length
  · simp [hl] at h
  · simp [hl] at h
    exact ⟨by omega, cfL_ok l none h⟩

def viewOK (at_ own : Int) : Prop := (0 ≤ at_ ∧ at_ ≤ 1000000) ∧ 0 ≤ own ∧ own ≤ 999
instance (a b : Int) : Decidable (viewOK a b) := by unfold viewOK; infer_instance
def asked (l : List S51) (at_ own : Int) : Int := if cf l = 0 then (if viewOK at_ own then 0 else 3) else cf l
theorem specAsked (l : List S51) (at_ own : Int) (hb : l.length ≤ 8796093022208) : Ev (fun k => spec_l5Asked.f k l at_ own) (asked l at_ own) := by
  unfold spec_l5Asked.f asked
  refine evCall (specCF l hb) (evIte (fun h => ?_) (fun h => evRet (by rw [if_neg h])))
  rw [if_pos h]
  simp only [spec_l5View.f, specIn, Option.bind_some, decide_eq_true_eq]
  by_cases h1 : 0 ≤ at_ ∧ at_ ≤ 1000000
  · by_cases h2 : 0 ≤ own ∧ own ≤ 999
    · simp only [h1, h2, and_self, if_true, Option.bind_some, decide_true, viewOK]; exact evRet rfl
    · simp only [h1, h2, and_self, and_false, if_true, if_false, Option.bind_some, decide_false, Bool.false_eq_true, viewOK]; exact evRet rfl
  · simp only [h1, false_and, if_false, Option.bind_some, Bool.false_eq_true, viewOK]; exact evRet rfl
theorem implView (l : List S51) (at_ own : Int) (hb : l.length ≤ 8796093022208) : Ev (fun k => impl_viewCode.f k l at_ own) (asked l at_ own) := by
  unfold impl_viewCode.f asked
  refine evCall (implCF l hb) (evIte (fun h => ?_) (fun h => evRet (by rw [if_neg h])))
  rw [if_pos h]
  simp only [impl_isLsn.f, implIn, Option.bind_some, decide_eq_true_eq]
  by_cases h1 : 0 ≤ at_ ∧ at_ ≤ 1000000
  · by_cases h2 : 0 ≤ own ∧ own ≤ 999
    · simp only [h1, h2, and_self, if_true, viewOK]; exact evRet h
    · simp only [h1, h2, and_self, and_false, if_true, if_false, viewOK]; exact evRet rfl
  · simp only [h1, false_and, if_false, viewOK]; exact evRet rfl
theorem asked_ok {l : List S51} {at_ own : Int} (h : asked l at_ own = 0) : cf l = 0 ∧ viewOK at_ own := by
  unfold asked at h
  by_cases h1 : cf l = 0
  · by_cases h2 : viewOK at_ own
    · exact ⟨h1, h2⟩
    · simp [h1, h2] at h
  · simp [h1] at h

def writer : List S51 → Int
  | [] => 0
  | v :: _ => if v.f1 = 0 then v.f0 else 0
theorem specWriter (l : List S51) : spec_l5Writer.f l = some (writer l) := by
  cases l with
  | nil => rfl
  | cons v vs =>
    have h : ((v :: vs).length : Int) > 0 := by simp <;> omega
    unfold spec_l5Writer.f
    rw [if_pos h, if_pos h, rd0]
    by_cases h1 : v.f1 = 0 <;> simp [writer, h1]
def may (l : List S51) (at_ own : Int) : Bool :=
  match l with
  | [] => true
  | v :: _ => if v.f1 = 0 then v.f0 == own else decide (v.f1 ≤ at_)
theorem specMay (l : List S51) (at_ own : Int) : spec_l5May.f l at_ own = some (may l at_ own) := by
  cases l with
  | nil => rfl
  | cons v vs =>
    have h : ((v :: vs).length : Int) > 0 := by simp <;> omega
    unfold spec_l5May.f
    rw [if_neg (by omega), if_pos h, rd0]
    by_cases h1 : v.f1 = 0 <;> simp [may, h1]
theorem implMay (l : List S51) (at_ own : Int) (h0 : 0 ≤ at_) : impl_mayWrite.f l at_ own = some (if may l at_ own = true then 0 else 9) := by
  cases l with
  | nil => rfl
  | cons v vs =>
    have h : ((v :: vs).length : Int) > 0 := by simp <;> omega
    unfold impl_mayWrite.f
    rw [if_pos h, if_pos h, rd0]
    by_cases h1 : v.f1 = 0
    · by_cases h2 : v.f0 = own <;> simp [may, h1, h2] <;> omega
    · by_cases h2 : v.f1 ≤ at_
      · simp [may, h1, h2] <;> omega
      · simp [may, h1, h2] <;> omega
def mw (l : List S51) (at_ own : Int) : Int := if asked l at_ own = 0 then (if own = 0 then 3 else if may l at_ own = true then 0 else 9) else asked l at_ own
theorem specMW (l : List S51) (at_ own : Int) (hb : l.length ≤ 8796093022208) : Ev (fun k => spec_MayWrite.f k l at_ own) (mw l at_ own) := by
  unfold spec_MayWrite.f mw
  refine evCall (specAsked l at_ own hb) (evIte (fun h => ?_) (fun h => evRet (by rw [if_neg h])))
  rw [if_pos h]
  refine evIte (fun h1 => evRet (by rw [if_pos h1])) (fun h1 => ?_)
  rw [if_neg h1]
  exact evSeq (specMay l at_ own) (evIte (fun h2 => evRet (by rw [if_pos h2])) (fun h2 => evRet (by rw [if_neg h2])))
theorem implMW (l : List S51) (at_ own : Int) (hb : l.length ≤ 8796093022208) : Ev (fun k => impl_MayWrite.f k l at_ own) (mw l at_ own) := by
  unfold impl_MayWrite.f mw
  have key : ∀ b : Bool, (b = true ↔ asked l at_ own = 0 ∧ own = 0) → Ev (fun k => impl_MayWrite.j0 k l (asked l at_ own) b at_ own) (if asked l at_ own = 0 then (if own = 0 then 3 else if may l at_ own = true then 0 else 9) else asked l at_ own) := by
    intro b hb'
    refine evSucc ?_
    simp only [impl_MayWrite.j0]
    refine evIte (fun h => evRet ?_) (fun h => evIte (fun h2 => ?_) (fun h2 => evRet (by rw [if_neg h2])))
    · rw [if_pos (hb'.1 h).1, if_pos (hb'.1 h).2]
    · rw [if_pos h2, if_neg (fun h3 => h (hb'.2 ⟨h2, h3⟩))]
      exact evSeq (implMay l at_ own (asked_ok h2).2.1.1) (evRet rfl)
  refine evCall (implView l at_ own hb) (evIte (fun h => key _ (by simp [h])) (fun h => key _ (by simp [h])))
end Go.Proofs.Ytkaammmkejiafaa.Q
