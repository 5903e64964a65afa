/- Purging, rolling back, committing and pushing: what both sides come to. -/
import Derived.Test.YtkaammmkejiafaaLb
import Derived.Test.YtkaammmkejiafaaQv
import Derived.Test.YtkaammmkejiafaaQc
import Derived.Test.YtkaammmkejiafaaQd
import Derived.Test.YtkaammmkejiafaaP0
import Derived.Test.YtkaammmkejiafaaPD0
namespace Go.Proofs.Ytkaammmkejiafaa.Q
open Go.RowKit Go.Proofs.Ytkaammmkejiafaa.P Go.Proofs.YtkaammmkejiafaaW.PrintWords Go.Proofs.YtkaammmkejiafaaW.PrintLast Go.Proofs.YtkaammmkejiafaaW.PrintMore Go.Proofs.Ytkaammmkejiafaa.Lb
set_option linter.unusedVariables false
set_option linter.unusedSimpArgs false

/-- Committed at most at the floor. -/
def under (fl : Int) (v : S51) : Prop := v.f1 ≠ 0 ∧ v.f1 ≤ fl
instance (fl : Int) (v : S51) : Decidable (under fl v) := by unfold under; infer_instance
def purge (fl : Int) : List S51 → List S51
  | [] => []
  | v :: vs => if under fl v then (if v.f2 = true then [] else [v]) else v :: purge fl vs
theorem purge_len (fl : Int) : ∀ l : List S51, (purge fl l).length ≤ l.length
  | [] => by simp [purge]
  | v :: vs => by
    unfold purge
    have := purge_len fl vs
    split
    · split <;> simp
    · simp <;> omega

theorem last_of (pre : List S51) (v : S51) (hb : pre.length ≤ 8796093022208) : wrap64 (((pre ++ [v]).length : Int) - 1) = (pre.length : Int) := by
  rw [w64 (by simp <;> omega) (by simp <;> omega)]; simp
theorem rd_end (pre : List S51) (v : S51) : rd_T51 (pre ++ [v]) (pre.length : Int) = v := rd_mid pre v []

set_option maxHeartbeats 1000000 in
theorem specPurge_l (fl : Int) : ∀ (rest pre : List S51), (∀ x ∈ pre, ¬ under fl x) → (pre ++ rest).length ≤ 1048576 → Ev (fun k => spec_l5Purge.l0 k (pre ++ rest) fl pre (pre.length : Int)) (pre ++ purge fl rest)
  | [], pre, hq, hb => by
    refine evSucc ?_
    simp only [spec_l5Purge.l0, List.append_nil, Int.lt_irrefl, if_false, purge]
    rcases List.eq_nil_or_concat pre with rfl | ⟨pre0, v, rfl⟩
    · simp only [List.length_nil, Int.natCast_zero, gt_iff_lt, Int.lt_irrefl, if_false]
      exact evRet rfl
    · simp only [List.concat_eq_append] at hq hb ⊢
      have hb' : pre0.length ≤ 8796093022208 := by simp at hb; omega
      have hv := hq v (by simp)
      have hp : (((pre0 ++ [v]).length : Nat) : Int) > 0 := by simp <;> omega
      have hlt : (pre0.length : Int) < ((pre0 ++ [v]).length : Int) := by simp <;> omega
      simp only [last_of _ _ hb', rd_end, hp, hlt, Int.natCast_nonneg, if_true]
      repeat' (refine evIte (fun _ => ?_) (fun _ => ?_))
      all_goals first | exact evRet rfl | (exfalso; simp only [under] at hv; grind)
  | v :: vs, pre, hq, hb => by
    have hb' : pre.length + 1 ≤ 1048576 := by simp at hb; omega
    have h1 : (pre.length : Int) < ((pre ++ v :: vs).length : Int) := by simp <;> omega
    have hn : (((pre ++ [v]).length : Nat) : Int) = wrap64 ((pre.length : Int) + 1) := by rw [w64n (by omega)]; simp
    have rv := rd_mid pre v vs
    refine evSucc ?_
    simp only [spec_l5Purge.l0, Option.bind_some, h1, Int.natCast_nonneg, if_true, rv, show pre.length < 4398046511104 by omega]
    have hp : (((pre ++ [v]).length : Nat) : Int) > 0 := by simp <;> omega
    have hlt : (pre.length : Int) < ((pre ++ [v]).length : Int) := by simp <;> omega
    simp only [last_of _ _ (show pre.length ≤ 8796093022208 by omega), rd_end, hp, hlt, Int.natCast_nonneg, if_true, Int.le_of_lt hlt, Int.toNat_natCast]
    have htake : (pre ++ [v]).take pre.length = pre := by simp
    by_cases hu : under fl v
    · have hr : purge fl (v :: vs) = if v.f2 = true then [] else [v] := by rw [purge, if_pos hu]
      simp only [under] at hu
      by_cases hg : v.f2 = true
      · rw [show pre ++ purge fl (v :: vs) = pre by rw [hr, if_pos hg, List.append_nil]]
        repeat' (refine evIte (fun _ => ?_) (fun _ => ?_))
        all_goals first | exact evRet htake | (exfalso; clear rv hn hr htake hb hlt hp h1; grind)
      · rw [show pre ++ purge fl (v :: vs) = pre ++ [v] by rw [hr, if_neg hg]]
        repeat' (refine evIte (fun _ => ?_) (fun _ => ?_))
        all_goals first | exact evRet rfl | (exfalso; clear rv hn hr htake hb hlt hp h1; grind)
    · have hr : purge fl (v :: vs) = v :: purge fl vs := by rw [purge, if_neg hu]
      have ih := specPurge_l fl vs (pre ++ [v]) (fun x hx => (List.mem_append.1 hx).elim (hq x) (fun hx => by simp at hx; subst hx; exact hu)) (by simpa using hb)
      rw [hn, List.append_assoc, List.append_assoc, List.singleton_append, List.singleton_append] at ih
      rw [hr]
      simp only [under] at hu
      repeat' (refine evIte (fun _ => ?_) (fun _ => ?_))
      all_goals first | exact ih | (exfalso; grind)
theorem specPurge (fl : Int) (l : List S51) (hb : l.length ≤ 1048576) : Ev (fun k => spec_l5Purge.f k l fl) (purge fl l) := specPurge_l fl l [] (by simp) hb

set_option maxHeartbeats 1000000 in
theorem implPurge_l (fl : Int) : ∀ (rest pre : List S51), (∀ x ∈ pre ++ rest, 0 ≤ x.f1) → (∀ x ∈ pre, ¬ under fl x) → (pre ++ rest).length ≤ 1048576 → Ev (fun k => impl_purged.l0 k fl pre (pre ++ rest) ((pre ++ rest).length : Int) (pre.length : Int)) (pre ++ purge fl rest)
  | [], pre, h0, hq, hb => by
    refine evSucc ?_
    simp only [impl_purged.l0, List.append_nil, Int.lt_irrefl, if_false, purge]
    rcases List.eq_nil_or_concat pre with rfl | ⟨pre0, v, rfl⟩
    · simp only [List.length_nil, Int.natCast_zero, gt_iff_lt, Int.lt_irrefl, if_false]
      exact evRet rfl
    · simp only [List.concat_eq_append] at hq hb h0 ⊢
      have hb' : pre0.length ≤ 8796093022208 := by simp at hb; omega
      have hv := hq v (by simp)
      have hp : (((pre0 ++ [v]).length : Nat) : Int) > 0 := by simp <;> omega
      have hlt : (pre0.length : Int) < ((pre0 ++ [v]).length : Int) := by simp <;> omega
      simp only [last_of _ _ hb', rd_end, hp, hlt, Int.natCast_nonneg, if_true]
      repeat' (refine evIte (fun _ => ?_) (fun _ => ?_))
      all_goals first | exact evRet rfl | (exfalso; simp only [under] at hv; grind)
  | v :: vs, pre, h0, hq, hb => by
    have hb' : pre.length + 1 ≤ 1048576 := by simp at hb; omega
    have h1 : (pre.length : Int) < ((pre ++ v :: vs).length : Int) := by simp <;> omega
    have hn : (((pre ++ [v]).length : Nat) : Int) = wrap64 ((pre.length : Int) + 1) := by rw [w64n (by omega)]; simp
    have rv := rd_mid pre v vs
    have hv0 := h0 v (by simp)
    refine evSucc ?_
    simp only [impl_purged.l0, Option.bind_some, h1, Int.natCast_nonneg, if_true, rv, show pre.length < 4398046511104 by omega]
    have hp : (((pre ++ [v]).length : Nat) : Int) > 0 := by simp <;> omega
    have hlt : (pre.length : Int) < ((pre ++ [v]).length : Int) := by simp <;> omega
    simp only [last_of _ _ (show pre.length ≤ 8796093022208 by omega), rd_end, hp, hlt, Int.natCast_nonneg, if_true, Int.le_of_lt hlt, Int.toNat_natCast]
    have htake : (pre ++ [v]).take pre.length = pre := by simp
    by_cases hu : under fl v
    · have hr : purge fl (v :: vs) = if v.f2 = true then [] else [v] := by rw [purge, if_pos hu]
      simp only [under] at hu
      by_cases hg : v.f2 = true
      · rw [show pre ++ purge fl (v :: vs) = pre by rw [hr, if_pos hg, List.append_nil]]
        repeat' (refine evIte (fun _ => ?_) (fun _ => ?_))
        all_goals first | exact evRet htake | (exfalso; clear rv hn hr htake hb hlt hp h1; grind)
      · rw [show pre ++ purge fl (v :: vs) = pre ++ [v] by rw [hr, if_neg hg]]
        repeat' (refine evIte (fun _ => ?_) (fun _ => ?_))
        all_goals first | exact evRet rfl | (exfalso; clear rv hn hr htake hb hlt hp h1; grind)
    · have hr : purge fl (v :: vs) = v :: purge fl vs := by rw [purge, if_neg hu]
      have ih := implPurge_l fl vs (pre ++ [v]) (by simpa using h0) (fun x hx => (List.mem_append.1 hx).elim (hq x) (fun hx => by simp at hx; subst hx; exact hu)) (by simpa using hb)
      rw [hn, List.append_assoc, List.append_assoc, List.singleton_append, List.singleton_append] at ih
      rw [hr]
      simp only [under] at hu
      repeat' (refine evIte (fun _ => ?_) (fun _ => ?_))
      all_goals first | exact ih | (exfalso; grind)
theorem implPurge (fl : Int) (l : List S51) (h0 : ∀ x ∈ l, 0 ≤ x.f1) (hb : l.length ≤ 1048576) : Ev (fun k => impl_purged.f k l fl) (purge fl l) := implPurge_l fl l [] h0 (by simp) hb

/-- What PurgeChain tells. -/
def pgc (l : List S51) (fl : Int) : Int × List S51 := if cf l = 0 then (if 0 ≤ fl ∧ fl ≤ 1000000 then (0, purge fl l) else (3, [])) else (cf l, [])
theorem specPGC (l : List S51) (fl : Int) (hb : l.length ≤ 1048576) : Ev (fun k => spec_PurgeChain.f k l fl) (pgc l fl) := by
  unfold spec_PurgeChain.f pgc
  refine evCall (specCF l (by omega)) (evIte (fun h => ?_) (fun h => evRet (by rw [if_neg h])))
  rw [if_pos h]
  refine evSeq (specIn _ _ _) ?_
  simp only [decide_eq_true_eq]
  refine evIte (fun h1 => ?_) (fun h1 => evRet (by rw [if_neg h1]))
  rw [if_pos h1]
  exact evCall (specPurge fl l hb) (evRet rfl)
theorem implPGC (l : List S51) (fl : Int) (hb : l.length ≤ 1048576) : Ev (fun k => impl_PurgeChain.f k l fl) (pgc l fl) := by
  unfold impl_PurgeChain.f pgc
  have key : ∀ b : Bool, (b = true ↔ cf l = 0 ∧ ¬ (0 ≤ fl ∧ fl ≤ 1000000)) → Ev (fun k => impl_PurgeChain.j0 k l fl (cf l) b) (if cf l = 0 then (if 0 ≤ fl ∧ fl ≤ 1000000 then (0, purge fl l) else (3, [])) else (cf l, [])) := by
    intro b hb'
    refine evSucc ?_
    simp only [impl_PurgeChain.j0]
    refine evIte (fun h => evRet ?_) (fun h => evIte (fun h2 => ?_) (fun h2 => evRet (by rw [if_neg h2])))
    · rw [if_pos (hb'.1 h).1, if_neg (hb'.1 h).2]
    · have h3 : 0 ≤ fl ∧ fl ≤ 1000000 := by
        by_cases h3 : 0 ≤ fl ∧ fl ≤ 1000000
        · exact h3
        · exact absurd (hb'.2 ⟨h2, h3⟩) h
      rw [if_pos h2, if_pos h3]
      exact evCall (implPurge fl l (fun x hx => ((cf_ok h2).2 x hx).2.2.1) hb) (evRet rfl)
  refine evCall (implCF l (by omega)) (evIte (fun h => ?_) (fun h => key _ (by simp [h])))
  refine evSeq (a := decide (0 ≤ fl ∧ fl ≤ 1000000)) (by simp only [impl_isLsn.f, implIn, Option.bind_some]) (key _ ?_)
  by_cases h3 : 0 ≤ fl ∧ fl ≤ 1000000 <;> simp [h, h3]
theorem pgc_len (l : List S51) (fl : Int) : (pgc l fl).2.length ≤ l.length := by
  unfold pgc
  have := purge_len fl l
  split
  · split
    · exact this
    · simp
  · simp

theorem copyV (l : List S51) (hb : l.length ≤ 1048576) : spec_l5Copy.f l = some l := by
  simp [spec_l5Copy.f]; omega
theorem cloneV (l : List S51) (hb : l.length ≤ 1048576) : slices_Clone_impl_Version.f l = some l := by
  simp [slices_Clone_impl_Version.f]; omega
theorem specTxn (a : Int) : spec_l5Txn.f a = some (decide (1 ≤ a ∧ a ≤ 999)) := by simp only [spec_l5Txn.f, specIn, Option.bind_some]
theorem implTxn (a : Int) : impl_isTxn.f a = some (decide (1 ≤ a ∧ a ≤ 999)) := by simp only [impl_isTxn.f, implIn, Option.bind_some]
/-- The first version is one of a, not committed. -/
def opn (l : List S51) (a : Int) : Bool := match l with | [] => false | v :: _ => v.f1 == 0 && v.f0 == a
theorem implOpen (l : List S51) (a : Int) : impl_isOpenOf.f l a = some (opn l a) := by
  cases l with
  | nil => rfl
  | cons v vs =>
    have h : ((v :: vs).length : Int) > 0 := by simp <;> omega
    unfold impl_isOpenOf.f
    rw [if_pos h, if_pos h, rd0]
    by_cases h1 : v.f1 = 0 <;> simp [opn, h1]
theorem writer_opn {l : List S51} {a : Int} (h : 1 ≤ a) : writer l = a ↔ opn l a = true := by
  cases l with
  | nil => simp [writer, opn] <;> omega
  | cons v vs =>
    by_cases h1 : v.f1 = 0
    · simp [writer, opn, h1]
    · simp [writer, opn, h1] <;> omega

/-- What RollChain tells. -/
def roll (l : List S51) (a : Int) : Int × List S51 := if cf l = 0 then (if 1 ≤ a ∧ a ≤ 999 then (if opn l a = true then (0, l.drop 1) else (4, [])) else (3, [])) else (cf l, [])
theorem opn_len {l : List S51} {a : Int} (h : opn l a = true) : 1 ≤ (l.length : Int) := by
  cases l with
  | nil => simp [opn] at h
  | cons v vs => simp <;> omega
theorem implRoll (l : List S51) (a : Int) (hb : l.length ≤ 1048576) : Ev (fun k => impl_RollChain.f k l a) (roll l a) := by
  unfold impl_RollChain.f roll
  refine evCall (implCF l (by omega)) (evIte (fun h => ?_) (fun h => evRet (by rw [if_neg h])))
  rw [if_pos h]
  refine evSeq (implTxn a) ?_
  simp only [decide_eq_true_eq]
  refine evIte (fun h1 => ?_) (fun h1 => evRet (by rw [if_neg h1]))
  rw [if_pos h1]
  refine evSeq (implOpen l a) (evIte (fun h2 => ?_) (fun h2 => evRet (by rw [if_neg h2])))
  rw [if_pos h2]
  refine evIte (fun _ => ?_) (fun h4 => absurd (opn_len h2) h4)
  exact evSeq (cloneV _ (by simp <;> omega)) (evRet rfl)
theorem roll_len (l : List S51) (a : Int) : (roll l a).2.length ≤ l.length := by
  unfold roll
  repeat' split
  all_goals simp

/-- What CommitChain tells. -/
def late (l : List S51) (at_ : Int) : Bool := match l with | _ :: v :: _ => decide (at_ ≤ v.f1) | _ => false
def setAt (l : List S51) (at_ : Int) : List S51 := match l with | [] => [] | v :: vs => ⟨v.f0, at_, v.f2, v.f3⟩ :: vs
def cmt (l : List S51) (a at_ : Int) : Int × List S51 :=
  if cf l = 0 then (if (1 ≤ a ∧ a ≤ 999) ∧ (1 ≤ at_ ∧ at_ ≤ 1000000) then (if opn l a = true then (if late l at_ = true then (1, []) else (0, setAt l at_)) else (4, [])) else (3, [])) else (cf l, [])
theorem rd1 (v u : S51) (vs : List S51) : rd_T51 (v :: u :: vs) 1 = u := rfl
theorem specCmt (l : List S51) (a at_ : Int) (hb : l.length ≤ 1048576) : Ev (fun k => spec_CommitChain.f k l a at_) (cmt l a at_) := by
  unfold spec_CommitChain.f cmt
  refine evCall (specCF l (by omega)) (evIte (fun h => ?_) (fun h => evRet (by rw [if_neg h])))
  rw [if_pos h]
  have key : ∀ b : Bool, (b = true ↔ ¬ ((1 ≤ a ∧ a ≤ 999) ∧ (1 ≤ at_ ∧ at_ ≤ 1000000))) → Ev (fun k => spec_CommitChain.j0 k l a at_ b) (if (1 ≤ a ∧ a ≤ 999) ∧ (1 ≤ at_ ∧ at_ ≤ 1000000) then (if opn l a = true then (if late l at_ = true then (1, []) else (0, setAt l at_)) else (4, [])) else (3, [])) := by
    intro b hb'
    refine evSucc ?_
    simp only [spec_CommitChain.j0]
    refine evIte (fun h1 => evRet (by rw [if_neg (hb'.1 h1)])) (fun h1 => ?_)
    have h3 : (1 ≤ a ∧ a ≤ 999) ∧ (1 ≤ at_ ∧ at_ ≤ 1000000) := by
      by_cases h3 : (1 ≤ a ∧ a ≤ 999) ∧ (1 ≤ at_ ∧ at_ ≤ 1000000)
      · exact h3
      · exact absurd (hb'.2 h3) h1
    rw [if_pos h3]
    refine evSeq (specWriter l) (evIte (fun h2 => ?_) (fun h2 => evRet (by rw [if_neg (fun h4 => h2 ((writer_opn h3.1.1).2 h4))])))
    have h4 := (writer_opn h3.1.1).1 h2
    rw [if_pos h4]
    match l, h4, hb with
    | [v], h4, hb =>
      refine evIte (fun h5 => absurd h5 (by simp)) (fun _ => evSeq (copyV _ hb) (evIte (fun _ => evRet ?_) (fun h5 => absurd (by simp) h5)))
      simp [late, setAt, rd0]
    | v :: u :: vs, h4, hb =>
      refine evIte (fun _ => evIte (fun _ => ?_) (fun h5 => absurd (by simp <;> omega) h5)) (fun h5 => absurd (by simp <;> omega) h5)
      rw [rd1]
      refine evIte (fun h5 => evRet ?_) (fun h5 => evSeq (copyV _ hb) (evIte (fun _ => evRet ?_) (fun h6 => absurd (by simp <;> omega) h6)))
      · rw [if_pos (by simp [late]; omega)]
      · rw [if_neg (by simp [late]; omega)]; simp [setAt, rd0]
  refine evSeq (specTxn a) ?_
  simp only [decide_eq_true_eq]
  refine evIte (fun h1 => ?_) (fun h1 => key _ (by simp [h1]))
  refine evSeq (a := decide (1 ≤ at_ ∧ at_ ≤ 1000000)) (by simp only [spec_l5At.f, specIn, Option.bind_some]) (key _ ?_)
  by_cases h2 : 1 ≤ at_ ∧ at_ ≤ 1000000 <;> simp [h1, h2]
theorem implCmt (l : List S51) (a at_ : Int) (hb : l.length ≤ 1048576) : Ev (fun k => impl_CommitChain.f k l a at_) (cmt l a at_) := by
  unfold impl_CommitChain.f cmt
  refine evCall (implCF l (by omega)) (evIte (fun h => ?_) (fun h => evRet (by rw [if_neg h])))
  rw [if_pos h]
  have key : ∀ b : Bool, (b = true ↔ ¬ ((1 ≤ a ∧ a ≤ 999) ∧ (1 ≤ at_ ∧ at_ ≤ 1000000))) → Ev (fun k => impl_CommitChain.j0 k l a at_ (cf l) b) (if (1 ≤ a ∧ a ≤ 999) ∧ (1 ≤ at_ ∧ at_ ≤ 1000000) then (if opn l a = true then (if late l at_ = true then (1, []) else (0, setAt l at_)) else (4, [])) else (3, [])) := by
    intro b hb'
    refine evSucc ?_
    simp only [impl_CommitChain.j0]
    refine evIte (fun h1 => evRet (by rw [if_neg (hb'.1 h1)])) (fun h1 => ?_)
    have h3 : (1 ≤ a ∧ a ≤ 999) ∧ (1 ≤ at_ ∧ at_ ≤ 1000000) := by
      by_cases h3 : (1 ≤ a ∧ a ≤ 999) ∧ (1 ≤ at_ ∧ at_ ≤ 1000000)
      · exact h3
      · exact absurd (hb'.2 h3) h1
    rw [if_pos h3]
    refine evSeq (implOpen l a) (evIte (fun h4 => ?_) (fun h4 => evRet (by rw [if_neg h4])))
    rw [if_pos h4]
    have key2 : ∀ c : Bool, c = late l at_ → Ev (fun k => impl_CommitChain.j1 k l at_ (cf l) c) (if late l at_ = true then (1, []) else (0, setAt l at_)) := by
      intro c hc
      refine evSucc ?_
      simp only [impl_CommitChain.j1]
      refine evIte (fun h5 => evRet (by rw [if_pos (hc ▸ h5)])) (fun h5 => evIte (fun _ => ?_) (fun h6 => absurd h h6))
      rw [if_neg (hc ▸ h5)]
      refine evSeq (cloneV _ hb) ?_
      match l, h4 with
      | v :: vs, h4 => exact evIte (fun _ => evRet (by simp [setAt, rd0])) (fun h6 => absurd (by simp <;> omega) h6)
    match l, h4, key2 with
    | [v], h4, key2 => exact evIte (fun h5 => absurd h5 (by simp)) (fun _ => key2 _ rfl)
    | v :: u :: vs, h4, key2 =>
      refine evIte (fun _ => evIte (fun _ => ?_) (fun h5 => absurd (by simp <;> omega) h5)) (fun h5 => absurd (by simp <;> omega) h5)
      rw [rd1]
      exact key2 _ rfl
  refine evSeq (implTxn a) ?_
  simp only [decide_eq_true_eq]
  refine evIte (fun h1 => ?_) (fun h1 => key _ (by simp [h1]))
  refine evSeq (implIn _ _ _) (key _ ?_)
  by_cases h2 : 1 ≤ at_ ∧ at_ ≤ 1000000 <;> simp [h1, h2]
theorem setAt_len (l : List S51) (a : Int) : (setAt l a).length = l.length := by cases l <;> simp [setAt]
theorem cmt_len (l : List S51) (a at_ : Int) : (cmt l a at_).2.length ≤ l.length := by
  unfold cmt
  repeat' split
  all_goals simp [setAt_len]
end Go.Proofs.Ytkaammmkejiafaa.Q
