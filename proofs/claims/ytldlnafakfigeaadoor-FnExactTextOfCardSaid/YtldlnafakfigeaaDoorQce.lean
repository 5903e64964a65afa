/- Chains' faults: what both sides' ChainFault comes to. -/
import Derived.Test.YtldlnafakfigeaaDoorLb
import Derived.Test.YtldlnafakfigeaaDoorQf
import Derived.Test.YtldlnafakfigeaaDoorP0
import Derived.Test.YtldlnafakfigeaaDoorPDall0
namespace Go.Proofs.YtldlnafakfigeaaDoor.Q
open Go.RowKit Go.Proofs.YtldlnafakfigeaaDoor.P Go.Proofs.YtldlnafakfigeaaDoorW.PrintWords Go.Proofs.YtldlnafakfigeaaDoorW.PrintLast Go.Proofs.YtldlnafakfigeaaDoorW.PrintMore Go.Proofs.YtldlnafakfigeaaDoor.Lb
set_option linter.unusedVariables false
set_option linter.unusedSimpArgs false

theorem rdV {xs : List S51} {i : Nat} (h : i < xs.length) : rd_T51 xs (i : Int) = xs[i] := rdVersion h
theorem specIn (a b c : Int) : spec_l1In.f a b c = some (decide (b ≤ a ∧ a ≤ c)) := by
  unfold spec_l1In.f
  by_cases h : b ≤ a <;> simp [h]
theorem implIn (a b c : Int) : impl_within.f a b c = some (decide (b ≤ a ∧ a ≤ c)) := by
  unfold impl_within.f
  by_cases h : b ≤ a <;> simp [h]

def okV (v : S51) : Prop := 1 ≤ v.f0 ∧ v.f0 ≤ 999 ∧ 0 ≤ v.f1 ∧ v.f1 ≤ 1000000 ∧ 0 ≤ v.f3 ∧ v.f3 ≤ 9999
instance (v : S51) : Decidable (okV v) := by unfold okV; infer_instance
/-- What is wrong behind a version (none: at the head). -/
def badV (p : Option S51) (v : S51) : Prop := (v.f2 = true ∧ v.f3 ≠ 0) ∨ (match p with | none => False | some q => v.f1 = 0 ∨ (q.f1 ≠ 0 ∧ q.f1 ≤ v.f1))
instance (p : Option S51) (v : S51) : Decidable (badV p v) := by unfold badV; cases p <;> infer_instance
def cfL : Option S51 → List S51 → Int
  | _, [] => 0
  | p, v :: vs => if okV v then (if badV p v then 1 else cfL (some v) vs) else 3
def cf (l : List S51) : Int := if 12 < l.length then 2 else cfL none l

theorem rd_mid (pre : List S51) (v : S51) (vs : List S51) : rd_T51 (pre ++ v :: vs) (pre.length : Int) = v := by rw [rdV (by simp)]; simp
theorem rd_last (pre : List S51) (q v : S51) (vs : List S51) : rd_T51 (pre ++ [q] ++ v :: vs) (pre.length : Int) = q := by rw [List.append_assoc, List.singleton_append, rd_mid]

set_option maxHeartbeats 1000000 in
theorem specCF_l : ∀ (rest pre : List S51) (p : Option S51), p = pre.getLast? → (pre ++ rest).length ≤ 8796093022208 → Ev (fun k => spec_ChainFault.l0 k (pre ++ rest) (pre.length : Int)) (cfL p rest)
  | [], pre, p, hpp, hb => by
    refine evSucc ?_
    simp only [spec_ChainFault.l0, List.append_nil, Int.lt_irrefl, if_false]
    exact evRet (by simp [cfL])
  | v :: vs, pre, p, hpp, hb => by
    have ih := specCF_l vs (pre ++ [v]) (some v) (by simp) (by simpa using hb)
    have hb' : pre.length + 1 ≤ 8796093022208 := by simp at hb; omega
    have hn : (((pre ++ [v]).length : Nat) : Int) = wrap64 ((pre.length : Int) + 1) := by rw [w64n (by omega)]; simp
    rw [List.append_assoc, List.singleton_append, hn] at ih
    have h1 : (pre.length : Int) < ((pre ++ v :: vs).length : Int) := by simp <;> omega
    have rv := rd_mid pre v vs
    refine evSucc ?_
    simp only [spec_ChainFault.l0, spec_l5Txn.f, spec_l5At.f, spec_l1Value.f, specIn, Option.bind_some, h1, Int.natCast_nonneg, if_true, rv, decide_eq_true_eq]
    have key : ∀ b : Bool, (b = true ↔ ¬ okV v) → Ev (fun k => spec_ChainFault.j1 k (pre ++ v :: vs) (pre.length : Int) b v.f0 v.f1 v.f2 v.f3) (cfL p (v :: vs)) := by
      intro b hbv
      refine evSucc ?_
      simp only [spec_ChainFault.j1]
      refine evIte (fun h => evRet (by simp [cfL, hbv.1 h])) (fun h => ?_)
      have hok : okV v := by
        by_cases ho : okV v
        · exact ho
        · exact absurd (hbv.2 ho) h
      have hr1 : badV p v → 1 = cfL p (v :: vs) := fun hbad => by simp [cfL, hok, hbad]
      have hr2 : ¬ badV p v → cfL (some v) vs = cfL p (v :: vs) := fun hbad => by simp [cfL, hok, hbad]
      rcases List.eq_nil_or_concat pre with rfl | ⟨pre0, q, rfl⟩
      · obtain rfl : p = none := by simpa using hpp
        simp only [List.length_nil, Int.natCast_zero, gt_iff_lt, Int.lt_irrefl, if_false] at ih ⊢
        repeat' (refine evIte (fun _ => ?_) (fun _ => ?_))
        all_goals first | exact evRet (hr1 (by simp only [badV]; grind)) | exact evEq ih (hr2 (by simp only [badV]; grind))
      · have rq : rd_T51 (pre0 ++ [q] ++ v :: vs) (wrap64 (((pre0 ++ [q]).length : Int) - 1)) = q := by
          rw [show wrap64 (((pre0 ++ [q]).length : Int) - 1) = (pre0.length : Int) by rw [w64 (by simp <;> omega) (by simp at hb' ⊢ <;> omega)]; simp]
          exact rd_last _ _ _ _
        have hw : wrap64 (((pre0 ++ [q]).length : Int) - 1) = (pre0.length : Int) := by rw [w64 (by simp <;> omega) (by simp at hb' ⊢ <;> omega)]; simp
        have hp : (((pre0 ++ [q]).length : Nat) : Int) > 0 := by simp <;> omega
        have hlt : (pre0.length : Int) < ((pre0 ++ [q] ++ v :: vs).length : Int) := by simp <;> omega
        rw [hw] at rq
        obtain rfl : p = some q := by simpa using hpp
        simp only [List.concat_eq_append, hw, rq, hp, hlt, Int.natCast_nonneg, if_true] at ih ⊢
        repeat' (refine evIte (fun _ => ?_) (fun _ => ?_))
        all_goals first | exact evRet (hr1 (by simp only [badV]; grind)) | exact evEq ih (hr2 (by simp only [badV]; grind))
    repeat' (refine evIte (fun _ => ?_) (fun _ => ?_))
    all_goals (refine key _ ?_; simp only [okV]; grind)
theorem specCF (l : List S51) (hb : l.length ≤ 8796093022208) : Ev (fun k => spec_ChainFault.f k l) (cf l) := by
  unfold spec_ChainFault.f cf
  refine evIte (fun h => evRet (by rw [if_pos (by omega)])) (fun h => ?_)
  rw [if_neg (by omega)]
  exact specCF_l l [] none rfl hb

set_option maxHeartbeats 1000000 in
theorem implCF_l : ∀ (rest pre : List S51) (p : Option S51), p = pre.getLast? → (pre ++ rest).length ≤ 8796093022208 → Ev (fun k => impl_ChainFault.l0 k (pre ++ rest) (pre ++ rest) ((pre ++ rest).length : Int) (pre.length : Int)) (cfL p rest)
  | [], pre, p, hpp, hb => by
    refine evSucc ?_
    simp only [impl_ChainFault.l0, List.append_nil, Int.lt_irrefl, if_false]
    exact evRet (by simp [cfL])
  | v :: vs, pre, p, hpp, hb => by
    have ih := implCF_l vs (pre ++ [v]) (some v) (by simp) (by simpa using hb)
    have hb' : pre.length + 1 ≤ 8796093022208 := by simp at hb; omega
    have hn : (((pre ++ [v]).length : Nat) : Int) = wrap64 ((pre.length : Int) + 1) := by rw [w64n (by omega)]; simp
    rw [List.append_assoc, List.singleton_append, hn] at ih
    have h1 : (pre.length : Int) < ((pre ++ v :: vs).length : Int) := by simp <;> omega
    have rv := rd_mid pre v vs
    refine evSucc ?_
    simp only [impl_ChainFault.l0, impl_isTxn.f, impl_isLsn.f, impl_isValue.f, implIn, Option.bind_some, h1, Int.natCast_nonneg, if_true, rv, decide_eq_true_eq]
    have key3 : ∀ b : Bool, okV v → ¬ (v.f2 = true ∧ v.f3 ≠ 0) → (b = true ↔ v.f1 = 0 ∧ pre ≠ []) → Ev (fun k => impl_ChainFault.j3 k (pre ++ v :: vs) (pre.length : Int) (pre ++ v :: vs) ((pre ++ v :: vs).length : Int) (pre.length : Int) b v.f0 v.f1 v.f2 v.f3) (cfL p (v :: vs)) := by
      intro b hok hg hbv
      have hr1 : badV p v → 1 = cfL p (v :: vs) := fun hbad => by simp [cfL, hok, hbad]
      have hr2 : ¬ badV p v → cfL (some v) vs = cfL p (v :: vs) := fun hbad => by simp [cfL, hok, hbad]
      refine evSucc ?_
      simp only [impl_ChainFault.j3]
      rcases List.eq_nil_or_concat pre with rfl | ⟨pre0, q, rfl⟩
      · obtain rfl : p = none := by simpa using hpp
        simp only [List.length_nil, Int.natCast_zero, gt_iff_lt, Int.lt_irrefl, if_false] at ih ⊢
        refine evIte (fun h => ?_) (fun h => ?_)
        · exact absurd rfl (hbv.1 h).2
        · exact evEq ih (hr2 (by simp only [badV]; grind))
      · have hw : wrap64 (((pre0 ++ [q]).length : Int) - 1) = (pre0.length : Int) := by rw [w64 (by simp <;> omega) (by simp at hb' ⊢ <;> omega)]; simp
        have rq := rd_last pre0 q v vs
        have hp : (((pre0 ++ [q]).length : Nat) : Int) > 0 := by simp <;> omega
        have hlt : (pre0.length : Int) < ((pre0 ++ [q] ++ v :: vs).length : Int) := by simp <;> omega
        have hne : pre0 ++ [q] ≠ [] := by simp
        obtain rfl : p = some q := by simpa using hpp
        simp only [List.concat_eq_append, hw, rq, hp, hlt, Int.natCast_nonneg, if_true] at ih hbv ⊢
        refine evIte (fun h => evRet (hr1 (by simp only [badV]; grind))) (fun h => ?_)
        · refine evIte (fun h2 => ?_) (fun h2 => evIte (fun h3 => evRet (hr1 (by simp only [badV]; grind))) (fun h3 => ?_))
          · exact evEq ih (hr2 (by simp only [badV]; grind))
          · exact evEq ih (hr2 (by simp only [badV]; grind))
    have key2 : ∀ b : Bool, okV v → (b = true ↔ v.f2 = true ∧ v.f3 ≠ 0) → Ev (fun k => impl_ChainFault.j2 k (pre ++ v :: vs) (pre.length : Int) (pre ++ v :: vs) ((pre ++ v :: vs).length : Int) (pre.length : Int) b v.f0 v.f1 v.f2 v.f3) (cfL p (v :: vs)) := by
      intro b hok hbv
      refine evSucc ?_
      simp only [impl_ChainFault.j2]
      refine evIte (fun h => evRet ?_) (fun h => evIte (fun h2 => key3 _ hok (fun h3 => h (hbv.2 h3)) ?_) (fun h2 => key3 _ hok (fun h3 => h (hbv.2 h3)) (by simp [h2])))
      · have hb2 := hbv.1 h
        simp [cfL, hok, badV, hb2]
      · simp only [decide_eq_true_eq, h2, true_and, gt_iff_lt]
        cases pre <;> simp <;> omega
    have key1 : ∀ b : Bool, (b = true ↔ ¬ okV v) → Ev (fun k => impl_ChainFault.j1 k (pre ++ v :: vs) (pre.length : Int) (pre ++ v :: vs) ((pre ++ v :: vs).length : Int) (pre.length : Int) b v.f0 v.f1 v.f2 v.f3) (cfL p (v :: vs)) := by
      intro b hbv
      refine evSucc ?_
      simp only [impl_ChainFault.j1]
      refine evIte (fun h => evRet (by simp [cfL, hbv.1 h])) (fun h => ?_)
      have hok : okV v := by
        by_cases ho : okV v
        · exact ho
        · exact absurd (hbv.2 ho) h
      refine evIte (fun h2 => key2 _ hok (by simp [h2])) (fun h2 => key2 _ hok (by simp [h2]))
    repeat' (refine evIte (fun _ => ?_) (fun _ => ?_))
    all_goals (refine key1 _ ?_; simp only [okV]; grind)
theorem implCF (l : List S51) (hb : l.length ≤ 8796093022208) : Ev (fun k => impl_ChainFault.f k l) (cf l) := by
  unfold impl_ChainFault.f cf
  refine evIte (fun h => evRet (by rw [if_pos (by omega)])) (fun h => ?_)
  rw [if_neg (by omega)]
  exact implCF_l l [] none rfl hb
end Go.Proofs.YtldlnafakfigeaaDoor.Q
