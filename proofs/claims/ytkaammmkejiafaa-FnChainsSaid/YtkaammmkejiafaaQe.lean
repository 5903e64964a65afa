/- Purging, rolling back, committing and pushing: what both sides come to. -/
import Derived.Test.YtkaammmkejiafaaLb
import Derived.Test.YtkaammmkejiafaaQv
import Derived.Test.YtkaammmkejiafaaQc
import Derived.Test.YtkaammmkejiafaaQd
import Derived.Test.YtkaammmkejiafaaP0
import Derived.Test.YtkaammmkejiafaaPDall0
import Derived.Test.YtkaammmkejiafaaPDb0
import Derived.Test.YtkaammmkejiafaaPDm0
namespace Go.Proofs.Ytkaammmkejiafaa.Q
open Go.RowKit Go.Proofs.Ytkaammmkejiafaa.P Go.Proofs.YtkaammmkejiafaaW.PrintWords Go.Proofs.YtkaammmkejiafaaW.PrintLast Go.Proofs.YtkaammmkejiafaaW.PrintMore Go.Proofs.Ytkaammmkejiafaa.Lb
set_option linter.unusedVariables false
set_option linter.unusedSimpArgs false

/-- Committed at most at the floor. -/
def under (fl : Int) (v : S51) : Prop := v.f1 ≠ 0 ∧ v.f1 ≤ fl
instance (fl : Int) (v : S51) : Decidable (under fl v) := by unfold under; infer_instance





theorem copyV (l : List S51) (hb : l.length ≤ 1048576) : spec_l5Copy.f l = some l := by
  simp [spec_l5Copy.f]; omega
theorem cloneV (l : List S51) (hb : l.length ≤ 1048576) : slices_Clone_impl_Version.f l = some l := by
  simp [slices_Clone_impl_Version.f]; omega
theorem specTxn (a : Int) : spec_l5Txn.f a = some (decide (1 ≤ a ∧ a ≤ 999)) := by simp only [spec_l5Txn.f, specIn, Option.bind_some]
theorem implTxn (a : Int) : impl_isTxn.f a = some (decide (1 ≤ a ∧ a ≤ 999)) := by simp only [impl_isTxn.f, implIn, Option.bind_some]
/-- The first version is one of a, not committed. -/
def opn (l : List S51) (a : Int) : Bool := match l with | [] => false | v :: _ => v.f1 == 0 && v.f0 == a
theorem implOpen (l : List S51) (a : Int) : impl_isOpenOf.f l a = some (opn l a) := by
  cases l with
  | nil => rfl
  | cons v vs =>
    have h : ((v :: vs).length : Int) > 0 := by simp <;> omega
    unfold impl_isOpenOf.f
    rw [if_pos h, if_pos h, rd0]
    by_cases h1 : v.f1 = 0 <;> simp [opn, h1]
theorem writer_opn {l : List S51} {a : Int} (h : 1 ≤ a) : writer l = a ↔ opn l a = true := by
  cases l with
  | nil => simp [writer, opn] <;> omega
  | cons v vs =>
    by_cases h1 : v.f1 = 0
    · simp [writer, opn, h1]
    · simp [writer, opn, h1] <;> omega

/-- What RollChain tells. -/
def roll (l : List S51) (a : Int) : Int × List S51 := if cf l = 0 then (if 1 ≤ a ∧ a ≤ 999 then (if opn l a = true then (0, l.drop 1) else (4, [])) else (3, [])) else (cf l, [])
theorem opn_len {l : List S51} {a : Int} (h : opn l a = true) : 1 ≤ (l.length : Int) := by
  cases l with
  | nil => simp [opn] at h
  | cons v vs => simp <;> omega
theorem implRoll (l : List S51) (a : Int) (hb : l.length ≤ 1048576) : Ev (fun k => impl_RollChain.f k l a) (roll l a) := by
  unfold impl_RollChain.f roll
  refine evCall (implCF l (by omega)) (evIte (fun h => ?_) (fun h => evRet (by rw [if_neg h])))
  rw [if_pos h]
  refine evSeq (implTxn a) ?_
  simp only [decide_eq_true_eq]
  refine evIte (fun h1 => ?_) (fun h1 => evRet (by rw [if_neg h1]))
  rw [if_pos h1]
  refine evSeq (implOpen l a) (evIte (fun h2 => ?_) (fun h2 => evRet (by rw [if_neg h2])))
  rw [if_pos h2]
  refine evIte (fun _ => ?_) (fun h4 => absurd (opn_len h2) h4)
  exact evSeq (cloneV _ (by simp <;> omega)) (evRet rfl)

/-- What CommitChain tells. -/
def late (l : List S51) (at_ : Int) : Bool := match l with | _ :: v :: _ => decide (at_ ≤ v.f1) | _ => false
def setAt (l : List S51) (at_ : Int) : List S51 := match l with | [] => [] | v :: vs => ⟨v.f0, at_, v.f2, v.f3⟩ :: vs
def cmt (l : List S51) (a at_ : Int) : Int × List S51 :=
  if cf l = 0 then (if (1 ≤ a ∧ a ≤ 999) ∧ (1 ≤ at_ ∧ at_ ≤ 1000000) then (if opn l a = true then (if late l at_ = true then (1, []) else (0, setAt l at_)) else (4, [])) else (3, [])) else (cf l, [])
theorem rd1 (v u : S51) (vs : List S51) : rd_T51 (v :: u :: vs) 1 = u := rfl
theorem specCmt (l : List S51) (a at_ : Int) (hb : l.length ≤ 1048576) : Ev (fun k => spec_CommitChain.f k l a at_) (cmt l a at_) := by
  unfold spec_CommitChain.f cmt
  refine evCall (specCF l (by omega)) (evIte (fun h => ?_) (fun h => evRet (by rw [if_neg h])))
  rw [if_pos h]
  have key : ∀ b : Bool, (b = true ↔ ¬ ((1 ≤ a ∧ a ≤ 999) ∧ (1 ≤ at_ ∧ at_ ≤ 1000000))) → Ev (fun k => spec_CommitChain.j0 k l a at_ b) (if (1 ≤ a ∧ a ≤ 999) ∧ (1 ≤ at_ ∧ at_ ≤ 1000000) then (if opn l a = true then (if late l at_ = true then (1, []) else (0, setAt l at_)) else (4, [])) else (3, [])) := by
    intro b hb'
    refine evSucc ?_
    simp only [spec_CommitChain.j0]
    refine evIte (fun h1 => evRet (by rw [if_neg (hb'.1 h1)])) (fun h1 => ?_)
    have h3 : (1 ≤ a ∧ a ≤ 999) ∧ (1 ≤ at_ ∧ at_ ≤ 1000000) := by
      by_cases h3 : (1 ≤ a ∧ a ≤ 999) ∧ (1 ≤ at_ ∧ at_ ≤ 1000000)
      · exact h3
      · exact absurd (hb'.2 h3) h1
    rw [if_pos h3]
    refine evSeq (specWriter l) (evIte (fun h2 => ?_) (fun h2 => evRet (by rw [if_neg (fun h4 => h2 ((writer_opn h3.1.1).2 h4))])))
    have h4 := (writer_opn h3.1.1).1 h2
    rw [if_pos h4]
    match l, h4, hb with
    | [v], h4, hb =>
      refine evIte (fun h5 => absurd h5 (by simp)) (fun _ => evSeq (copyV _ hb) (evIte (fun _ => evRet ?_) (fun h5 => absurd (by simp) h5)))
      simp [late, setAt, rd0]
    | v :: u :: vs, h4, hb =>
      refine evIte (fun _ => evIte (fun _ => ?_) (fun h5 => absurd (by simp <;> omega) h5)) (fun h5 => absurd (by simp <;> omega) h5)
      rw [rd1]
      refine evIte (fun h5 => evRet ?_) (fun h5 => evSeq (copyV _ hb) (evIte (fun _ => evRet ?_) (fun h6 => absurd (by simp <;> omega) h6)))
      · rw [if_pos (by simp [late]; omega)]
      · rw [if_neg (by simp [late]; omega)]; simp [setAt, rd0]
  refine evSeq (specTxn a) ?_
  simp only [decide_eq_true_eq]
  refine evIte (fun h1 => ?_) (fun h1 => key _ (by simp [h1]))
  refine evSeq (a := decide (1 ≤ at_ ∧ at_ ≤ 1000000)) (by simp only [spec_l5At.f, specIn, Option.bind_some]) (key _ ?_)
  by_cases h2 : 1 ≤ at_ ∧ at_ ≤ 1000000 <;> simp [h1, h2]
theorem implCmt (l : List S51) (a at_ : Int) (hb : l.length ≤ 1048576) : Ev (fun k => impl_CommitChain.f k l a at_) (cmt l a at_) := by
  unfold impl_CommitChain.f cmt
  refine evCall (implCF l (by omega)) (evIte (fun h => ?_) (fun h => evRet (by rw [if_neg h])))
  rw [if_pos h]
  have key : ∀ b : Bool, (b = true ↔ ¬ ((1 ≤ a ∧ a ≤ 999) ∧ (1 ≤ at_ ∧ at_ ≤ 1000000))) → Ev (fun k => impl_CommitChain.j0 k l a at_ (cf l) b) (if (1 ≤ a ∧ a ≤ 999) ∧ (1 ≤ at_ ∧ at_ ≤ 1000000) then (if opn l a = true then (if late l at_ = true then (1, []) else (0, setAt l at_)) else (4, [])) else (3, [])) := by
    intro b hb'
    refine evSucc ?_
    simp only [impl_CommitChain.j0]
    refine evIte (fun h1 => evRet (by rw [if_neg (hb'.1 h1)])) (fun h1 => ?_)
    have h3 : (1 ≤ a ∧ a ≤ 999) ∧ (1 ≤ at_ ∧ at_ ≤ 1000000) := by
      by_cases h3 : (1 ≤ a ∧ a ≤ 999) ∧ (1 ≤ at_ ∧ at_ ≤ 1000000)
      · exact h3
      · exact absurd (hb'.2 h3) h1
    rw [if_pos h3]
    refine evSeq (implOpen l a) (evIte (fun h4 => ?_) (fun h4 => evRet (by rw [if_neg h4])))
    rw [if_pos h4]
    have key2 : ∀ c : Bool, c = late l at_ → Ev (fun k => impl_CommitChain.j1 k l at_ (cf l) c) (if late l at_ = true then (1, []) else (0, setAt l at_)) := by
      intro c hc
      refine evSucc ?_
      simp only [impl_CommitChain.j1]
      refine evIte (fun h5 => evRet (by rw [if_pos (hc ▸ h5)])) (fun h5 => evIte (fun _ => ?_) (fun h6 => absurd h h6))
      rw [if_neg (hc ▸ h5)]
      refine evSeq (cloneV _ hb) ?_
      match l, h4 with
      | v :: vs, h4 => exact evIte (fun _ => evRet (by simp [setAt, rd0])) (fun h6 => absurd (by simp <;> omega) h6)
    match l, h4, key2 with
    | [v], h4, key2 => exact evIte (fun h5 => absurd h5 (by simp)) (fun _ => key2 _ rfl)
    | v :: u :: vs, h4, key2 =>
      refine evIte (fun _ => evIte (fun _ => ?_) (fun h5 => absurd (by simp <;> omega) h5)) (fun h5 => absurd (by simp <;> omega) h5)
      rw [rd1]
      exact key2 _ rfl
  refine evSeq (implTxn a) ?_
  simp only [decide_eq_true_eq]
  refine evIte (fun h1 => ?_) (fun h1 => key _ (by simp [h1]))
  refine evSeq (implIn _ _ _) (key _ ?_)
  by_cases h2 : 1 ≤ at_ ∧ at_ ≤ 1000000 <;> simp [h1, h2]
end Go.Proofs.Ytkaammmkejiafaa.Q

