/- The records of a transaction that lead back: what both sides come to. -/
import Derived.Test.YthagppmaofcllaaLb
import Derived.Test.YthagppmaofcllaaQf
import Derived.Test.YthagppmaofcllaaQr
import Derived.Test.YthagppmaofcllaaP0
import Derived.Test.YthagppmaofcllaaPDall0
import Derived.Test.YthagppmaofcllaaPDm0
import Derived.Test.YthagppmaofcllaaPDm1
namespace Go.Proofs.Ythagppmaofcllaa.Q
open Go.RowKit Go.Proofs.Ythagppmaofcllaa.P Go.Proofs.YthagppmaofcllaaW.PrintWords Go.Proofs.YthagppmaofcllaaW.PrintLast Go.Proofs.YthagppmaofcllaaW.PrintMore Go.Proofs.Ythagppmaofcllaa.Lb
set_option linter.unusedVariables false
set_option linter.unusedSimpArgs false
theorem specHas_l (n : Int) : ∀ (ra pre : List Int), (pre ++ ra).length ≤ 1099511627776 → Ev (fun k => spec_l1Has.l0 k (pre ++ ra) n (pre.length : Int)) (ra.any (fun g => g == n))
  | [], pre, hb => by
    refine evSucc ?_
    simp only [spec_l1Has.l0]
    exact evIte (fun h => absurd h (by simp)) (fun _ => evRet rfl)
  | v :: vs, pre, hb => by
    refine evSucc ?_
    simp only [spec_l1Has.l0]
    refine evIte (fun _ => evIte (fun _ => evIte (fun h => ?_) (fun h => ?_)) (fun h => absurd (by omega) h)) (fun h => absurd (by simp; omega) h)
    · rw [rdI_mid] at h
      exact evRet (by simp [h])
    · rw [rdI_mid] at h
      have := specHas_l n vs (pre ++ [v]) (by simpa using hb)
      rw [List.append_assoc, List.singleton_append, List.length_append] at this
      rw [w64n (by simp at hb; omega)]
      exact evEq this (by simp [h])
theorem specHas (l : List Int) (n : Int) (hb : l.length ≤ 1099511627776) : Ev (fun k => spec_l1Has.f k l n) (l.any (fun g => g == n)) := by
  unfold spec_l1Has.f
  exact specHas_l n l [] (by simpa using hb)
theorem specBack_l (l : List S48) (a : Int) (hl : l.length ≤ 400) : ∀ (m : Nat) (g out : List Int), m ≤ l.length → g.length + m ≤ l.length → out.length + m ≤ l.length → (∀ n, g.any (fun x => x == n) = (l.drop m).any (impl_chain.p a n)) → Ev (fun k => spec_l3Back.l0 k l a g out ((m : Int) - 1)) (impl_chain.go l a m out)
  | 0, g, out, hm, hg, ho, hG => by
    refine evSucc ?_
    simp only [spec_l3Back.l0]
    exact evIte (fun h => absurd h (by omega)) (fun _ => evRet rfl)
  | m + 1, g, out, hm, hg, ho, hG => by
    have hlt : m < l.length := by omega
    rw [show ((m + 1 : Nat) : Int) - 1 = (m : Int) by omega]
    refine evSucc ?_
    simp only [spec_l3Back.l0]
    refine evIte (fun _ => evIte (fun _ => evIte (fun _ => ?_) (fun h => absurd (by omega) h)) (fun h => absurd (by omega) h)) (fun h => absurd (by omega) h)
    have hd : l.drop m = l[m] :: l.drop (m + 1) := List.drop_eq_getElem_cons hlt
    have hgd : l.getD m z48 = l[m] := getD_at hlt _
    have hgo : impl_chain.go l a (m + 1) out = impl_chain.go l a m (if impl_chain.hit l a m = true then out ++ [(m : Int) + 1] else out) := rfl
    rw [rdRec hlt, hgo, show wrap64 ((m : Int) - 1) = (m : Int) - 1 from w64 (by omega) (by omega), show wrap64 ((m : Int) + 1) = (m : Int) + 1 from w64 (by omega) (by omega)]
    unfold impl_chain.hit
    rw [hgd]
    have ih := specBack_l l a hl m
    rw [hd] at ih
    generalize l[m] = x at *
    obtain ⟨x0, x1, x2, x3, x4, x5, x6, x7⟩ := x
    simp only [List.any_cons, impl_chain.p] at ih
    refine evIte (fun h1 => ?_) (fun h1 => ?_)
    · subst h1
      refine evIte (fun h0 => ?_) (fun h0 => ?_)
      · subst h0
        refine evIte (fun _ => evSeq rfl ?_) (fun h => absurd (by omega) h)
        refine evIte (fun h => absurd (show (5 : Int) = 2 from h) (by decide)) (fun _ => ?_)
        refine evEq (ih (g ++ [x7]) out (by omega) (by simp; omega) (by omega) ?_) (by simp)
        intro n
        rw [List.any_append, hG n, Bool.or_comm]
        simp [impl_chain.p]
      · have h5 : (x0 == 5) = false := by simpa using h0
        have ih2 := fun (out : List Int) (h : out.length + m ≤ l.length) => ih g out (by omega) (by omega) h (by intro n; rw [hG n, h5]; simp [impl_chain.p])
        refine evIte (fun h2 => ?_) (fun h2 => ?_)
        · subst h2
          refine evCall (specHas g _ (by omega)) (evIte (fun h => ?_) (fun h => ?_))
          · rw [hG] at h
            exact evEq (ih2 out (by omega)) (by simp [h])
          · rw [hG] at h
            refine evIte (fun _ => ?_) (fun h => absurd (by omega) h)
            exact evEq (ih2 (out ++ [(m : Int) + 1]) (by simp; omega)) (by rw [Bool.eq_false_iff.2 h]; simp)
        · exact evEq (ih2 out (by omega)) (by simp [h2])
    · have h5 : (x1 == a) = false := by simpa using h1
      exact evEq (ih g out (by omega) (by omega) (by omega) (by intro n; rw [hG n, h5]; simp [impl_chain.p])) (by simp [h5])
theorem specBack (l : List S48) (a : Int) (hl : l.length ≤ 400) : Ev (fun k => spec_l3Back.f k l a) (impl_chain.go l a l.length []) := by
  unfold spec_l3Back.f
  rw [w64 (by omega) (by omega)]
  exact specBack_l l a hl l.length [] [] (Nat.le_refl _) (by simp) (by simp) (by intro n; simp)
theorem go_len (l : List S48) (a : Int) : ∀ (m : Nat) (out : List Int), (impl_chain.go l a m out).length ≤ out.length + m
  | 0, out => by simp [impl_chain.go]
  | m + 1, out => by
    unfold impl_chain.go
    split
    · have := go_len l a m (out ++ [(m : Int) + 1])
      simp at this
      omega
    · have := go_len l a m out
      omega
/-- The first fault among records. -/
def rfs : List S48 → Int
  | [] => 0
  | x :: xs => if rf x.f0 x.f1 x.f2 x.f3 x.f4 x.f5 x.f6 x.f7 = 0 then rfs xs else rf x.f0 x.f1 x.f2 x.f3 x.f4 x.f5 x.f6 x.f7
/-- What ChainBack tells. -/
def cb (l : List S48) (a : Int) : Int × List Int := if 400 < l.length then (2, []) else if rfs l = 0 then (if 1 ≤ a ∧ a ≤ 999 then (0, impl_chain.go l a l.length []) else (3, [])) else (rfs l, [])
theorem cb_len (l : List S48) (a : Int) : (cb l a).2.length ≤ 400 := by
  unfold cb
  split
  · simp
  · split
    · split
      · have := go_len l a l.length []
        simp at this ⊢
        omega
      · simp
    · simp
theorem specCB_l (a : Int) (r : Int × List Int) (l : List S48) (hl : l.length ≤ 400) : ∀ (ra pre : List S48), pre ++ ra = l → r = (if rfs ra = 0 then (if 1 ≤ a ∧ a ≤ 999 then (0, impl_chain.go l a l.length []) else (3, [])) else (rfs ra, [])) → Ev (fun k => spec_ChainBack.l0 k l a (pre.length : Int)) r
  | [], pre, hp, hr => by
    subst hp
    refine evSucc ?_
    simp only [spec_ChainBack.l0]
    refine evIte (fun h => absurd h (by simp)) (fun _ => ?_)
    refine evSeq (a := decide (1 ≤ a ∧ a ≤ 999)) (by unfold spec_l3Txn.f; rw [specIn]; rfl) (evIte (fun h => ?_) (fun h => ?_))
    · exact evCall (specBack _ a hl) (evRet (by rw [hr]; simp [rfs, of_decide_eq_true h]))
    · exact evRet (by rw [hr]; simp at h; simp [rfs]; intro h1; have := h h1; omega)
  | v :: vs, pre, hp, hr => by
    subst hp
    refine evSucc ?_
    simp only [spec_ChainBack.l0]
    refine evIte (fun _ => evIte (fun _ => ?_) (fun h => absurd (by omega) h)) (fun h => absurd (by simp; omega) h)
    rw [rdRec_mid]
    refine evCall (specRF _ _ _ _ _ _ _ _) (evIte (fun h => ?_) (fun h => ?_))
    · rw [w64n (by simp at hl; omega)]
      have := specCB_l a r (pre ++ v :: vs) hl vs (pre ++ [v]) (by simp) (by rw [hr]; simp [rfs, h])
      rw [List.length_append] at this
      exact this
    · exact evRet (by rw [hr]; simp [rfs, h])
theorem specCB (l : List S48) (a : Int) : Ev (fun k => spec_ChainBack.f k l a) (cb l a) := by
  unfold spec_ChainBack.f cb
  refine evIte (fun h => evRet (by rw [if_pos (by omega)])) (fun h => ?_)
  rw [if_neg (by omega)]
  exact specCB_l a _ l (by omega) l [] rfl rfl
theorem implRFs_l (l : List S48) (hl : l.length ≤ 400) : ∀ (ra pre : List S48), pre ++ ra = l → Ev (fun k => impl_recsFault.l0 k l (l.length : Int) (pre.length : Int)) (rfs ra)
  | [], pre, hp => by
    subst hp
    refine evSucc ?_
    simp only [impl_recsFault.l0]
    exact evIte (fun h => absurd h (by simp)) (fun _ => evRet rfl)
  | v :: vs, pre, hp => by
    subst hp
    refine evSucc ?_
    simp only [impl_recsFault.l0]
    refine evIte (fun _ => evIte (fun _ => evIte (fun _ => ?_) (fun h => absurd (by simp; omega) h)) (fun h => absurd (by omega) h)) (fun h => absurd (by simp; omega) h)
    rw [rdRec_mid]
    refine evCall (implRF _ _ _ _ _ _ _ _) (evIte (fun h => ?_) (fun h => ?_))
    · rw [w64n (by simp at hl; omega)]
      have := implRFs_l (pre ++ v :: vs) hl vs (pre ++ [v]) (by simp)
      rw [show ((pre ++ [v]).length : Int) = ((pre.length + 1 : Nat) : Int) by simp] at this
      exact evEq this (by simp [rfs, h])
    · exact evRet (by simp [rfs, h])
theorem implCB (l : List S48) (a : Int) : Ev (fun k => impl_ChainBack.f k l a) (cb l a) := by
  unfold impl_ChainBack.f cb
  by_cases hl : 400 < l.length
  · rw [if_pos hl]
    refine evCall (a := 2) (by unfold impl_recsFault.f; exact evIte (fun _ => evRet rfl) (fun h => absurd (by omega) h)) ?_
    refine evIte (fun h => absurd h (by decide)) (fun _ => evSucc ?_)
    simp only [impl_ChainBack.j0]
    exact evIte (fun h => absurd h (by decide)) (fun _ => evIte (fun h => absurd h (by decide)) (fun _ => evRet rfl))
  · rw [if_neg hl]
    refine evCall (a := rfs l) (by unfold impl_recsFault.f; exact evIte (fun h => absurd h (by omega)) (fun _ => implRFs_l l (by omega) l [] rfl)) ?_
    refine evIte (fun h => ?_) (fun h => ?_)
    · rw [if_pos h]
      refine evSeq (a := decide (1 ≤ a ∧ a ≤ 999)) (by unfold impl_isTxn.f; rw [implIn]; rfl) (evSucc ?_)
      simp only [impl_ChainBack.j0]
      refine evIte (fun h2 => ?_) (fun h2 => ?_)
      · exact evRet (by rw [if_neg (by intro h3; simp at h2; omega)])
      · refine evIte (fun _ => ?_) (fun h3 => absurd h h3)
        refine evSeq (a := impl_chain.go l a l.length []) (by unfold impl_chain.f; exact if_pos (by omega)) (evRet ?_)
        rw [if_pos (by simpa using h2)]
    · rw [if_neg h]
      refine evSucc ?_
      simp only [impl_ChainBack.j0]
      exact evIte (fun h => absurd h (by decide)) (fun _ => evIte (fun h2 => absurd h2 h) (fun _ => evRet rfl))
theorem eqIntsResult (c : Int) (l : List Int) (hb : l.length ≤ 1048576) : Ev (fun k => laws_eqIntsResult.f k c l c l) true := by
  unfold laws_eqIntsResult.f
  simp only [if_true]
  exact evCall (eqInt64S l (by omega)) (evIte (fun _ => evRet rfl) (fun h => absurd rfl h))
theorem markIntsResult (c : Int) (l : List Int) (hb : l.length ≤ 1048576) : Ev (fun k => laws_markIntsResult.f k c l 1) (1 + 1 * l.length, marked meInt64 1 1 l.length) := by
  unfold laws_markIntsResult.f
  exact evCall (markInt64S l 1 (by omega) (by omega) (by omega)) (evRet rfl)
theorem heldIntsResult (c : Int) (m : Nat) (hb : m ≤ 1048576) : Ev (fun k => laws_heldIntsResult.f k c (marked meInt64 1 1 m) 1) (1 + 1 * m) := by
  unfold laws_heldIntsResult.f
  exact evCall (heldInt64S m 1 (by omega) (by omega) (by omega)) (evIte (fun h => absurd h (by omega)) (fun _ => evRet rfl))
end Go.Proofs.Ythagppmaofcllaa.Q
