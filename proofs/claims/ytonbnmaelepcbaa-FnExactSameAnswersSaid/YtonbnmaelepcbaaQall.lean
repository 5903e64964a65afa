/- Texts of this seat, put into one file. -/
import Derived.Test.YtonbnmaelepcbaaLb
import Derived.Test.YtonbnmaelepcbaaP0
import Derived.Test.YtonbnmaelepcbaaPDacdefgh0
import Derived.Test.YtonbnmaelepcbaaPDb0
import Derived.Test.YtonbnmaelepcbaaPDm0
import Derived.Test.YtonbnmaelepcbaaPDm1
import Derived.Test.YtonbnmaelepcbaaPDm2
import Derived.Test.YtonbnmaelepcbaaPDm3
import Derived.Test.YtonbnmaelepcbaaPDg0
namespace Go.Proofs.Ytonbnmaelepcbaa.Q
open Go.RowKit Go.Proofs.Ytonbnmaelepcbaa.P Go.Proofs.YtonbnmaelepcbaaW.PrintWords Go.Proofs.YtonbnmaelepcbaaW.PrintLast Go.Proofs.YtonbnmaelepcbaaW.PrintMore Go.Proofs.Ytonbnmaelepcbaa.Lb
set_option linter.unusedVariables false
set_option linter.unusedSimpArgs false
theorem rdCell {xs : List S105} {i : Nat} (h : i < xs.length) : rd_T105 xs (i : Int) = xs[i] := by
  unfold rd_T105
  rw [Int.toNat_natCast]
  exact getD_at h _
theorem rdVersion {xs : List S90} {i : Nat} (h : i < xs.length) : rd_T90 xs (i : Int) = xs[i] := by
  unfold rd_T90
  rw [Int.toNat_natCast]
  exact getD_at h _
theorem rdVersionl {xs : List S173} {i : Nat} (h : i < xs.length) : rd_T173 xs (i : Int) = xs[i] := by
  unfold rd_T173
  rw [Int.toNat_natCast]
  exact getD_at h _
def cvVersion (v : S173) : S90 := ⟨v.f0, v.f1, v.f2, v.f3⟩
theorem toVersionS (xs : List S173) (hb : xs.length ≤ 1099511627776) : Ev (fun k => laws_toVersionS.f k xs) (xs.map cvVersion) := by
  unfold laws_toVersionS.f
  refine evIte (fun _ => evIte (fun _ => ?_) (fun h => absurd (by simp; omega) h)) (fun h => absurd (by omega) h)
  rw [Int.toNat_natCast]
  refine mapLoop (L := fun k ys i => laws_toVersionS.l0 k xs ys i) cvVersion z90 xs ?_ ?_
  · intro k ys i h hl
    have h1 : (i : Int) < (xs.length : Int) := by omega
    have h2 : (i : Int) < (ys.length : Int) := by omega
    simp only [laws_toVersionS.l0, laws_toVersion.f, Option.bind_some, h1, h2, Int.natCast_nonneg, if_true, Int.toNat_natCast, rdVersionl h, w64n (show i < 9223372036854775807 by omega), cvVersion]
  · intro k ys
    simp only [laws_toVersionS.l0, Int.lt_irrefl, if_false]
theorem szVersionS (xs : List S173) (n : Int) (h0 : 0 ≤ n) (h1 : n ≤ 9223372036854775807) (hl : xs.length ≤ 9223372036854775807) : laws_szVersionS.f xs n = some (if n < xs.length then -1 else n - xs.length) := by
  unfold laws_szVersionS.f
  rw [w64 (by omega) (by omega)]
  by_cases h : n < xs.length
  · rw [if_pos (by omega), if_pos h]
  · rw [if_neg (by omega), if_neg h]
theorem eqVersionS (xs : List S90) (hb : xs.length ≤ 1099511627776) : Ev (fun k => laws_eqVersionS.f k xs xs) true := by
  unfold laws_eqVersionS.f
  simp only [if_true]
  refine allLoop (L := fun k i => laws_eqVersionS.l0 k xs xs i) xs.length ?_ ?_
  · intro k i h
    have h1 : (i : Int) < (xs.length : Int) := by omega
    simp only [laws_eqVersionS.l0, laws_eqVersion.f, Option.bind_some, h1, Int.natCast_nonneg, if_true, bne_self_eq_false, Bool.false_eq_true, if_false, rdVersion h, w64n (show i < 9223372036854775807 by omega)]
  · intro k
    simp only [laws_eqVersionS.l0, Int.lt_irrefl, if_false]
theorem rdUndo {xs : List S96} {i : Nat} (h : i < xs.length) : rd_T96 xs (i : Int) = xs[i] := by
  unfold rd_T96
  rw [Int.toNat_natCast]
  exact getD_at h _
theorem rdUndol {xs : List S171} {i : Nat} (h : i < xs.length) : rd_T171 xs (i : Int) = xs[i] := by
  unfold rd_T171
  rw [Int.toNat_natCast]
  exact getD_at h _
def cvUndo (v : S171) : S96 := ⟨v.f0, v.f1, v.f2, v.f3⟩
theorem toUndoS (xs : List S171) (hb : xs.length ≤ 1099511627776) : Ev (fun k => laws_toUndoS.f k xs) (xs.map cvUndo) := by
  unfold laws_toUndoS.f
  refine evIte (fun _ => evIte (fun _ => ?_) (fun h => absurd (by simp; omega) h)) (fun h => absurd (by omega) h)
  rw [Int.toNat_natCast]
  refine mapLoop (L := fun k ys i => laws_toUndoS.l0 k xs ys i) cvUndo z96 xs ?_ ?_
  · intro k ys i h hl
    have h1 : (i : Int) < (xs.length : Int) := by omega
    have h2 : (i : Int) < (ys.length : Int) := by omega
    simp only [laws_toUndoS.l0, laws_toUndo.f, Option.bind_some, h1, h2, Int.natCast_nonneg, if_true, Int.toNat_natCast, rdUndol h, w64n (show i < 9223372036854775807 by omega), cvUndo]
  · intro k ys
    simp only [laws_toUndoS.l0, Int.lt_irrefl, if_false]
theorem szUndoS (xs : List S171) (n : Int) (h0 : 0 ≤ n) (h1 : n ≤ 9223372036854775807) (hl : xs.length ≤ 9223372036854775807) : laws_szUndoS.f xs n = some (if n < xs.length then -1 else n - xs.length) := by
  unfold laws_szUndoS.f
  rw [w64 (by omega) (by omega)]
  by_cases h : n < xs.length
  · rw [if_pos (by omega), if_pos h]
  · rw [if_neg (by omega), if_neg h]
theorem eqUndoS (xs : List S96) (hb : xs.length ≤ 1099511627776) : Ev (fun k => laws_eqUndoS.f k xs xs) true := by
  unfold laws_eqUndoS.f
  simp only [if_true]
  refine allLoop (L := fun k i => laws_eqUndoS.l0 k xs xs i) xs.length ?_ ?_
  · intro k i h
    have h1 : (i : Int) < (xs.length : Int) := by omega
    simp only [laws_eqUndoS.l0, laws_eqUndo.f, Option.bind_some, h1, Int.natCast_nonneg, if_true, bne_self_eq_false, Bool.false_eq_true, if_false, rdUndo h, w64n (show i < 9223372036854775807 by omega)]
  · intro k
    simp only [laws_eqUndoS.l0, Int.lt_irrefl, if_false]
theorem rdI {xs : List Int} {i : Nat} (h : i < xs.length) : rd xs (i : Int) = xs[i] := by
  unfold rd
  rw [Int.toNat_natCast]
  exact getD_at h _
end Go.Proofs.Ytonbnmaelepcbaa.Q
namespace Go.Proofs.Ytonbnmaelepcbaa.Q
open Go.RowKit Go.Proofs.Ytonbnmaelepcbaa.P Go.Proofs.YtonbnmaelepcbaaW.PrintWords Go.Proofs.YtonbnmaelepcbaaW.PrintLast Go.Proofs.YtonbnmaelepcbaaW.PrintMore Go.Proofs.Ytonbnmaelepcbaa.Lb
set_option linter.unusedVariables false
set_option linter.unusedSimpArgs false

theorem rdV {xs : List S90} {i : Nat} (h : i < xs.length) : rd_T90 xs (i : Int) = xs[i] := rdVersion h
theorem specIn (a b c : Int) : spec_l1In.f a b c = some (decide (b ≤ a ∧ a ≤ c)) := by
  unfold spec_l1In.f
  by_cases h : b ≤ a <;> simp [h]
theorem implIn (a b c : Int) : impl_within.f a b c = some (decide (b ≤ a ∧ a ≤ c)) := by
  unfold impl_within.f
  by_cases h : b ≤ a <;> simp [h]

def okV (v : S90) : Prop := 1 ≤ v.f0 ∧ v.f0 ≤ 999 ∧ 0 ≤ v.f1 ∧ v.f1 ≤ 1000000 ∧ 0 ≤ v.f3 ∧ v.f3 ≤ 9999
instance (v : S90) : Decidable (okV v) := by unfold okV; infer_instance
/-- What is wrong behind a version (none: at the head). -/
def badV (p : Option S90) (v : S90) : Prop := (v.f2 = true ∧ v.f3 ≠ 0) ∨ (match p with | none => False | some q => v.f1 = 0 ∨ (q.f1 ≠ 0 ∧ q.f1 ≤ v.f1))
instance (p : Option S90) (v : S90) : Decidable (badV p v) := by unfold badV; cases p <;> infer_instance
def cfL : Option S90 → List S90 → Int
  | _, [] => 0
  | p, v :: vs => if okV v then (if badV p v then 1 else cfL (some v) vs) else 3
def cf (l : List S90) : Int := if 12 < l.length then 2 else cfL none l

theorem rd_mid (pre : List S90) (v : S90) (vs : List S90) : rd_T90 (pre ++ v :: vs) (pre.length : Int) = v := by rw [rdV (by simp)]; simp
theorem rd_last (pre : List S90) (q v : S90) (vs : List S90) : rd_T90 (pre ++ [q] ++ v :: vs) (pre.length : Int) = q := by rw [List.append_assoc, List.singleton_append, rd_mid]

set_option maxHeartbeats 1000000 in
theorem specCF_l : ∀ (rest pre : List S90) (p : Option S90), p = pre.getLast? → (pre ++ rest).length ≤ 8796093022208 → Ev (fun k => spec_ChainFault.l0 k (pre ++ rest) (pre.length : Int)) (cfL p rest)
  | [], pre, p, hpp, hb => by
    refine evSucc ?_
    simp only [spec_ChainFault.l0, List.append_nil, Int.lt_irrefl, if_false]
    exact evRet (by simp [cfL])
  | v :: vs, pre, p, hpp, hb => by
    have ih := specCF_l vs (pre ++ [v]) (some v) (by simp) (by simpa using hb)
    have hb' : pre.length + 1 ≤ 8796093022208 := by simp at hb; omega
    have hn : (((pre ++ [v]).length : Nat) : Int) = wrap64 ((pre.length : Int) + 1) := by rw [w64n (by omega)]; simp
    rw [List.append_assoc, List.singleton_append, hn] at ih
    have h1 : (pre.length : Int) < ((pre ++ v :: vs).length : Int) := by simp <;> omega
    have rv := rd_mid pre v vs
    refine evSucc ?_
    simp only [spec_ChainFault.l0, spec_l5Txn.f, spec_l5At.f, spec_l1Value.f, specIn, Option.bind_some, h1, Int.natCast_nonneg, if_true, rv, decide_eq_true_eq]
    have key : ∀ b : Bool, (b = true ↔ ¬ okV v) → Ev (fun k => spec_ChainFault.j1 k (pre ++ v :: vs) (pre.length : Int) b v.f0 v.f1 v.f2 v.f3) (cfL p (v :: vs)) := by
      intro b hbv
      refine evSucc ?_
      simp only [spec_ChainFault.j1]
      refine evIte (fun h => evRet (by simp [cfL, hbv.1 h])) (fun h => ?_)
      have hok : okV v := by
        by_cases ho : okV v
        · exact ho
        · exact absurd (hbv.2 ho) h
      have hr1 : badV p v → 1 = cfL p (v :: vs) := fun hbad => by simp [cfL, hok, hbad]
      have hr2 : ¬ badV p v → cfL (some v) vs = cfL p (v :: vs) := fun hbad => by simp [cfL, hok, hbad]
      rcases List.eq_nil_or_concat pre with rfl | ⟨pre0, q, rfl⟩
      · obtain rfl : p = none := by simpa using hpp
        simp only [List.length_nil, Int.natCast_zero, gt_iff_lt, Int.lt_irrefl, if_false] at ih ⊢
        repeat' (refine evIte (fun _ => ?_) (fun _ => ?_))
        all_goals first | exact evRet (hr1 (by simp only [badV]; grind)) | exact evEq ih (hr2 (by simp only [badV]; grind))
      · have rq : rd_T90 (pre0 ++ [q] ++ v :: vs) (wrap64 (((pre0 ++ [q]).length : Int) - 1)) = q := by
          rw [show wrap64 (((pre0 ++ [q]).length : Int) - 1) = (pre0.length : Int) by rw [w64 (by simp <;> omega) (by simp at hb' ⊢ <;> omega)]; simp]
          exact rd_last _ _ _ _
        have hw : wrap64 (((pre0 ++ [q]).length : Int) - 1) = (pre0.length : Int) := by rw [w64 (by simp <;> omega) (by simp at hb' ⊢ <;> omega)]; simp
        have hp : (((pre0 ++ [q]).length : Nat) : Int) > 0 := by simp <;> omega
        have hlt : (pre0.length : Int) < ((pre0 ++ [q] ++ v :: vs).length : Int) := by simp <;> omega
        rw [hw] at rq
        obtain rfl : p = some q := by simpa using hpp
        simp only [List.concat_eq_append, hw, rq, hp, hlt, Int.natCast_nonneg, if_true] at ih ⊢
        repeat' (refine evIte (fun _ => ?_) (fun _ => ?_))
        all_goals first | exact evRet (hr1 (by simp only [badV]; grind)) | exact evEq ih (hr2 (by simp only [badV]; grind))
    repeat' (refine evIte (fun _ => ?_) (fun _ => ?_))
    all_goals (refine key _ ?_; simp only [okV]; grind)
theorem specCF (l : List S90) (hb : l.length ≤ 8796093022208) : Ev (fun k => spec_ChainFault.f k l) (cf l) := by
  unfold spec_ChainFault.f cf
  refine evIte (fun h => evRet (by rw [if_pos (by omega)])) (fun h => ?_)
  rw [if_neg (by omega)]
  exact specCF_l l [] none rfl hb

set_option maxHeartbeats 1000000 in
theorem implCF_l : ∀ (rest pre : List S90) (p : Option S90), p = pre.getLast? → (pre ++ rest).length ≤ 8796093022208 → Ev (fun k => impl_ChainFault.l0 k (pre ++ rest) (pre ++ rest) ((pre ++ rest).length : Int) (pre.length : Int)) (cfL p rest)
  | [], pre, p, hpp, hb => by
    refine evSucc ?_
    simp only [impl_ChainFault.l0, List.append_nil, Int.lt_irrefl, if_false]
    exact evRet (by simp [cfL])
  | v :: vs, pre, p, hpp, hb => by
    have ih := implCF_l vs (pre ++ [v]) (some v) (by simp) (by simpa using hb)
    have hb' : pre.length + 1 ≤ 8796093022208 := by simp at hb; omega
    have hn : (((pre ++ [v]).length : Nat) : Int) = wrap64 ((pre.length : Int) + 1) := by rw [w64n (by omega)]; simp
    rw [List.append_assoc, List.singleton_append, hn] at ih
    have h1 : (pre.length : Int) < ((pre ++ v :: vs).length : Int) := by simp <;> omega
    have rv := rd_mid pre v vs
    refine evSucc ?_
    simp only [impl_ChainFault.l0, impl_isTxn.f, impl_isLsn.f, impl_isValue.f, implIn, Option.bind_some, h1, Int.natCast_nonneg, if_true, rv, decide_eq_true_eq]
    have key3 : ∀ b : Bool, okV v → ¬ (v.f2 = true ∧ v.f3 ≠ 0) → (b = true ↔ v.f1 = 0 ∧ pre ≠ []) → Ev (fun k => impl_ChainFault.j3 k (pre ++ v :: vs) (pre.length : Int) (pre ++ v :: vs) ((pre ++ v :: vs).length : Int) (pre.length : Int) b v.f0 v.f1 v.f2 v.f3) (cfL p (v :: vs)) := by
      intro b hok hg hbv
      have hr1 : badV p v → 1 = cfL p (v :: vs) := fun hbad => by simp [cfL, hok, hbad]
      have hr2 : ¬ badV p v → cfL (some v) vs = cfL p (v :: vs) := fun hbad => by simp [cfL, hok, hbad]
      refine evSucc ?_
      simp only [impl_ChainFault.j3]
      rcases List.eq_nil_or_concat pre with rfl | ⟨pre0, q, rfl⟩
      · obtain rfl : p = none := by simpa using hpp
        simp only [List.length_nil, Int.natCast_zero, gt_iff_lt, Int.lt_irrefl, if_false] at ih ⊢
        refine evIte (fun h => ?_) (fun h => ?_)
        · exact absurd rfl (hbv.1 h).2
        · exact evEq ih (hr2 (by simp only [badV]; grind))
      · have hw : wrap64 (((pre0 ++ [q]).length : Int) - 1) = (pre0.length : Int) := by rw [w64 (by simp <;> omega) (by simp at hb' ⊢ <;> omega)]; simp
        have rq := rd_last pre0 q v vs
        have hp : (((pre0 ++ [q]).length : Nat) : Int) > 0 := by simp <;> omega
        have hlt : (pre0.length : Int) < ((pre0 ++ [q] ++ v :: vs).length : Int) := by simp <;> omega
        have hne : pre0 ++ [q] ≠ [] := by simp
        obtain rfl : p = some q := by simpa using hpp
        simp only [List.concat_eq_append, hw, rq, hp, hlt, Int.natCast_nonneg, if_true] at ih hbv ⊢
        refine evIte (fun h => evRet (hr1 (by simp only [badV]; grind))) (fun h => ?_)
        · refine evIte (fun h2 => ?_) (fun h2 => evIte (fun h3 => evRet (hr1 (by simp only [badV]; grind))) (fun h3 => ?_))
          · exact evEq ih (hr2 (by simp only [badV]; grind))
          · exact evEq ih (hr2 (by simp only [badV]; grind))
    have key2 : ∀ b : Bool, okV v → (b = true ↔ v.f2 = true ∧ v.f3 ≠ 0) → Ev (fun k => impl_ChainFault.j2 k (pre ++ v :: vs) (pre.length : Int) (pre ++ v :: vs) ((pre ++ v :: vs).length : Int) (pre.length : Int) b v.f0 v.f1 v.f2 v.f3) (cfL p (v :: vs)) := by
      intro b hok hbv
      refine evSucc ?_
      simp only [impl_ChainFault.j2]
      refine evIte (fun h => evRet ?_) (fun h => evIte (fun h2 => key3 _ hok (fun h3 => h (hbv.2 h3)) ?_) (fun h2 => key3 _ hok (fun h3 => h (hbv.2 h3)) (by simp [h2])))
      · have hb2 := hbv.1 h
        simp [cfL, hok, badV, hb2]
      · simp only [decide_eq_true_eq, h2, true_and, gt_iff_lt]
        cases pre <;> simp <;> omega
    have key1 : ∀ b : Bool, (b = true ↔ ¬ okV v) → Ev (fun k => impl_ChainFault.j1 k (pre ++ v :: vs) (pre.length : Int) (pre ++ v :: vs) ((pre ++ v :: vs).length : Int) (pre.length : Int) b v.f0 v.f1 v.f2 v.f3) (cfL p (v :: vs)) := by
      intro b hbv
      refine evSucc ?_
      simp only [impl_ChainFault.j1]
      refine evIte (fun h => evRet (by simp [cfL, hbv.1 h])) (fun h => ?_)
      have hok : okV v := by
        by_cases ho : okV v
        · exact ho
        · exact absurd (hbv.2 ho) h
      refine evIte (fun h2 => key2 _ hok (by simp [h2])) (fun h2 => key2 _ hok (by simp [h2]))
    repeat' (refine evIte (fun _ => ?_) (fun _ => ?_))
    all_goals (refine key1 _ ?_; simp only [okV]; grind)
theorem implCF (l : List S90) (hb : l.length ≤ 8796093022208) : Ev (fun k => impl_ChainFault.f k l) (cf l) := by
  unfold impl_ChainFault.f cf
  refine evIte (fun h => evRet (by rw [if_pos (by omega)])) (fun h => ?_)
  rw [if_neg (by omega)]
  exact implCF_l l [] none rfl hb
end Go.Proofs.Ytonbnmaelepcbaa.Q
namespace Go.Proofs.Ytonbnmaelepcbaa.Q
open Go.RowKit Go.Proofs.Ytonbnmaelepcbaa.P Go.Proofs.YtonbnmaelepcbaaW.PrintWords Go.Proofs.YtonbnmaelepcbaaW.PrintLast Go.Proofs.YtonbnmaelepcbaaW.PrintMore Go.Proofs.Ytonbnmaelepcbaa.Lb
set_option linter.unusedVariables false
set_option linter.unusedSimpArgs false

/-- A loop whose rounds, from some number of rounds on, go on to the next place. -/
theorem placesEv {β : Type} {L : Nat → Nat → Option β} {r : β} (n : Nat) (hs : ∀ i, i < n → ∃ K, ∀ k, K ≤ k → L (k + 1) i = L k (i + 1)) (he : Ev (fun k => L k n) r) : ∀ d i, n - i = d → i ≤ n → Ev (fun k => L k i) r
  | 0, i, hd, hi => by
    have : i = n := by omega
    subst this
    exact he
  | d + 1, i, hd, hi => by
    obtain ⟨K2, h2⟩ := placesEv n hs he d (i + 1) (by omega) (by omega)
    obtain ⟨K1, h1⟩ := hs i (by omega)
    refine ⟨K1 + K2 + 1, fun k hk => ?_⟩
    obtain ⟨m, rfl⟩ : ∃ m, k = m + 1 := ⟨k - 1, by omega⟩
    exact (h1 m (by omega)).trans (h2 m (by omega))
theorem mapLoopEv {α β : Type} {L : Nat → List β → Int → Option (List β)} (c : α → β) (z : β) (xs : List α)
    (hs : ∀ (i : Nat) (h : i < xs.length), ∃ K, ∀ k, K ≤ k → ∀ ys : List β, ys.length = xs.length → L (k + 1) ys (i : Int) = L k (ys.set i (c xs[i])) ((i + 1 : Nat) : Int))
    (he : ∀ k (ys : List β), L (k + 1) ys (xs.length : Int) = some ys) : Ev (fun k => L k (List.replicate xs.length z) 0) (xs.map c) := by
  have := placesEv (L := fun k i => L k ((xs.take i).map c ++ List.replicate (xs.length - i) z) (i : Int)) (r := xs.map c) xs.length ?_ ?_ xs.length 0 (by omega) (by omega)
  · simpa using this
  · intro i hlt
    obtain ⟨K, hK⟩ := hs i hlt
    refine ⟨K, fun k hk => ?_⟩
    have hlen : ((xs.take i).map c ++ List.replicate (xs.length - i) z).length = xs.length := by simp; omega
    have e2 : ((xs.take i).map c ++ List.replicate (xs.length - i) z).set i (c xs[i]) = (xs.take (i + 1)).map c ++ List.replicate (xs.length - (i + 1)) z := by
      rw [List.take_succ_eq_append_getElem hlt, List.map_append, show xs.length - i = (xs.length - (i + 1)) + 1 by omega, List.replicate_succ, List.set_append_right _ _ (by simp; omega), List.length_map, List.length_take, show min i xs.length = i by omega, Nat.sub_self, List.set_cons_zero]
      simp
    show L (k + 1) _ _ = L k _ _
    rw [hK k hk _ hlen, e2]
  · refine evSucc ?_
    simp only [he]
    exact evRet (by simp)
theorem allLoopEv {ρ : Type} {L : Nat → Int → Option ρ} {r : ρ} (n : Nat) (hs : ∀ (i : Nat), i < n → ∃ K, ∀ k, K ≤ k → L (k + 1) (i : Int) = L k ((i + 1 : Nat) : Int)) (he : ∀ k, L (k + 1) (n : Int) = some r) : Ev (fun k => L k 0) r := by
  have := placesEv (L := fun k i => L k (i : Int)) (r := r) n hs (evSucc (by simp only [he]; exact evRet rfl)) n 0 (by omega) (by omega)
  simpa using this
/-- From some number of rounds on, all elements are known. -/
theorem evAll {α β : Type} {g : Nat → α → Option β} {r : α → β} : ∀ (l : List α), (∀ x ∈ l, Ev (fun k => g k x) (r x)) → ∃ K, ∀ k, K ≤ k → ∀ x ∈ l, g k x = some (r x)
  | [], _ => ⟨0, fun _ _ x hx => by simp at hx⟩
  | x :: xs, h => by
    obtain ⟨K1, h1⟩ := h x (by simp)
    obtain ⟨K2, h2⟩ := evAll xs (fun y hy => h y (by simp [hy]))
    refine ⟨K1 + K2, fun k hk y hy => ?_⟩
    rcases List.mem_cons.1 hy with rfl | hy
    · exact h1 k (by omega)
    · exact h2 k (by omega) y hy
theorem rdTxn {xs : List S83} {i : Nat} (h : i < xs.length) : rd_T83 xs (i : Int) = xs[i] := by
  unfold rd_T83
  rw [Int.toNat_natCast]
  exact getD_at h _
theorem rdTxnl {xs : List S139} {i : Nat} (h : i < xs.length) : rd_T139 xs (i : Int) = xs[i] := by
  unfold rd_T139
  rw [Int.toNat_natCast]
  exact getD_at h _
def cvTxn (v : S139) : S83 := ⟨v.f0, v.f1, v.f2, v.f3, (v.f4).map cvUndo⟩
theorem toTxnS (xs : List S139) (hx : xs.length ≤ 1099511627776) (hb : ∀ x ∈ xs, x.f4.length ≤ 1099511627776) : Ev (fun k => laws_toTxnS.f k xs) (xs.map cvTxn) := by
  unfold laws_toTxnS.f
  refine evIte (fun _ => evIte (fun _ => ?_) (fun h => absurd (by simp; omega) h)) (fun h => absurd (by omega) h)
  rw [Int.toNat_natCast]
  refine mapLoopEv (L := fun k ys i => laws_toTxnS.l0 k xs ys i) cvTxn z83 xs ?_ ?_
  · intro i h
    have hm := hb xs[i] (List.getElem_mem h)
    obtain ⟨K0, e0_⟩ := toUndoS xs[i].f4 hm
    refine ⟨K0, fun k hk ys hl => ?_⟩
    have h1 : (i : Int) < (xs.length : Int) := by omega
    have h2 : (i : Int) < (ys.length : Int) := by omega
    simp only [laws_toTxnS.l0, laws_toTxn.f, rdTxnl h, e0_ k (by omega), Option.bind_some, h1, h2, Int.natCast_nonneg, if_true, Int.toNat_natCast, w64n (show i < 9223372036854775807 by omega), cvTxn]
  · intro k ys
    simp only [laws_toTxnS.l0, Int.lt_irrefl, if_false]
theorem szTxn_l (xs : List S139) (hl : ∀ x ∈ xs, x.f4.length ≤ 9223372036854775807) (hx : xs.length ≤ 9223372036854775807) : ∀ (d i : Nat) (q : Int), xs.length - i = d → i ≤ xs.length → 0 ≤ q → q ≤ 9223372036854775807 → ∃ t, Ev (fun k => laws_szTxnS.l0 k xs q (i : Int)) t ∧ (0 ≤ t → t + ((((xs.drop i).map fun x => x.f4.length).sum : Nat) : Int) = q)
  | 0, i, q, hd, hi, h0, h1 => by
    have : i = xs.length := by omega
    subst this
    refine ⟨q, evSucc ?_, fun _ => by simp⟩
    simp only [laws_szTxnS.l0, Int.lt_irrefl, if_false]
    exact evRet rfl
  | d + 1, i, q, hd, hi, h0, h1 => by
    have h : i < xs.length := by omega
    have hm := hl xs[i] (List.getElem_mem h)
    have h2 : (i : Int) < (xs.length : Int) := by omega
    have hdr : xs.drop i = xs[i] :: xs.drop (i + 1) := List.drop_eq_getElem_cons h
    by_cases c0 : q < xs[i].f4.length
    · refine ⟨-1, evSucc ?_, fun ht => by omega⟩
      have s0 := szUndoS xs[i].f4 (q) (by omega) (by omega) hm
      rw [if_pos c0] at s0
      simp only [laws_szTxnS.l0, laws_szTxn.f, rdTxnl h, s0, Option.bind_some, h2, Int.natCast_nonneg, if_true, if_false, show ((-1 : Int) < 0) = True from by decide]
      exact evRet rfl
    · have s0 := szUndoS xs[i].f4 (q) (by omega) (by omega) hm
      rw [if_neg c0] at s0
      have n0 : (q - (xs[i].f4.length : Int) < 0) = False := eq_false (by omega)
      obtain ⟨t, h3, h4⟩ := szTxn_l xs hl hx d (i + 1) (q - (xs[i].f4.length : Int)) (by omega) (by omega) (by omega) (by omega)
      refine ⟨t, evSucc ?_, fun ht => ?_⟩
      · simp only [laws_szTxnS.l0, laws_szTxn.f, rdTxnl h, s0, Option.bind_some, h2, Int.natCast_nonneg, if_true, if_false, w64n (show i < 9223372036854775807 by omega), n0]
        exact h3
      · have := h4 ht; rw [hdr]; simp only [List.map_cons, List.sum_cons]; omega
theorem szTxnS (xs : List S139) (n : Int) (hl : ∀ x ∈ xs, x.f4.length ≤ 9223372036854775807) (hx : xs.length ≤ 9223372036854775807) (h0 : 0 ≤ n) (h1 : n ≤ 9223372036854775807) : ∃ t, Ev (fun k => laws_szTxnS.f k xs n) t ∧ (0 ≤ t → t + xs.length + (((xs.map fun x => x.f4.length).sum : Nat) : Int) = n) := by
  unfold laws_szTxnS.f
  rw [w64 (by omega) (by omega)]
  by_cases h : n - xs.length < 0
  · exact ⟨-1, evIte (fun _ => evRet rfl) (fun hn => absurd h hn), fun ht => by omega⟩
  · obtain ⟨t, h2, h3⟩ := szTxn_l xs hl hx xs.length 0 (n - xs.length) (by omega) (by omega) (by omega) (by omega)
    refine ⟨t, evIte (fun hp => absurd hp h) (fun _ => by simpa using h2), fun ht => ?_⟩
    have := h3 ht
    simp only [List.drop_zero] at this
    omega
theorem eqTxnS (xs : List S83) (hx : xs.length ≤ 1099511627776) (hb : ∀ x ∈ xs, x.f4.length ≤ 1099511627776) : Ev (fun k => laws_eqTxnS.f k xs xs) true := by
  unfold laws_eqTxnS.f
  simp only [if_true]
  refine allLoopEv (L := fun k i => laws_eqTxnS.l0 k xs xs i) xs.length ?_ ?_
  · intro i h
    have hm := hb xs[i] (List.getElem_mem h)
    obtain ⟨K0, e0_⟩ := eqUndoS xs[i].f4 hm
    refine ⟨K0, fun k hk => ?_⟩
    have h1 : (i : Int) < (xs.length : Int) := by omega
    simp only [laws_eqTxnS.l0, laws_eqTxn.f, rdTxn h, e0_ k (by omega), Option.bind_some, h1, Int.natCast_nonneg, if_true, bne_self_eq_false, Bool.false_eq_true, if_false, w64n (show i < 9223372036854775807 by omega)]
  · intro k
    simp only [laws_eqTxnS.l0, Int.lt_irrefl, if_false]
theorem rdRow {xs : List S87} {i : Nat} (h : i < xs.length) : rd_T87 xs (i : Int) = xs[i] := by
  unfold rd_T87
  rw [Int.toNat_natCast]
  exact getD_at h _
theorem rdRowl {xs : List S143} {i : Nat} (h : i < xs.length) : rd_T143 xs (i : Int) = xs[i] := by
  unfold rd_T143
  rw [Int.toNat_natCast]
  exact getD_at h _
def cvRow (v : S143) : S87 := ⟨v.f0, (v.f1).map cvVersion⟩
theorem toRowS (xs : List S143) (hx : xs.length ≤ 1099511627776) (hb : ∀ x ∈ xs, x.f1.length ≤ 1099511627776) : Ev (fun k => laws_toRowS.f k xs) (xs.map cvRow) := by
  unfold laws_toRowS.f
  refine evIte (fun _ => evIte (fun _ => ?_) (fun h => absurd (by simp; omega) h)) (fun h => absurd (by omega) h)
  rw [Int.toNat_natCast]
  refine mapLoopEv (L := fun k ys i => laws_toRowS.l0 k xs ys i) cvRow z87 xs ?_ ?_
  · intro i h
    have hm := hb xs[i] (List.getElem_mem h)
    obtain ⟨K0, e0_⟩ := toVersionS xs[i].f1 hm
    refine ⟨K0, fun k hk ys hl => ?_⟩
    have h1 : (i : Int) < (xs.length : Int) := by omega
    have h2 : (i : Int) < (ys.length : Int) := by omega
    simp only [laws_toRowS.l0, laws_toRow.f, rdRowl h, e0_ k (by omega), Option.bind_some, h1, h2, Int.natCast_nonneg, if_true, Int.toNat_natCast, w64n (show i < 9223372036854775807 by omega), cvRow]
  · intro k ys
    simp only [laws_toRowS.l0, Int.lt_irrefl, if_false]
theorem szRow_l (xs : List S143) (hl : ∀ x ∈ xs, x.f1.length ≤ 9223372036854775807) (hx : xs.length ≤ 9223372036854775807) : ∀ (d i : Nat) (q : Int), xs.length - i = d → i ≤ xs.length → 0 ≤ q → q ≤ 9223372036854775807 → ∃ t, Ev (fun k => laws_szRowS.l0 k xs q (i : Int)) t ∧ (0 ≤ t → t + ((((xs.drop i).map fun x => x.f1.length).sum : Nat) : Int) = q)
  | 0, i, q, hd, hi, h0, h1 => by
    have : i = xs.length := by omega
    subst this
    refine ⟨q, evSucc ?_, fun _ => by simp⟩
    simp only [laws_szRowS.l0, Int.lt_irrefl, if_false]
    exact evRet rfl
  | d + 1, i, q, hd, hi, h0, h1 => by
    have h : i < xs.length := by omega
    have hm := hl xs[i] (List.getElem_mem h)
    have h2 : (i : Int) < (xs.length : Int) := by omega
    have hdr : xs.drop i = xs[i] :: xs.drop (i + 1) := List.drop_eq_getElem_cons h
    by_cases c0 : q < xs[i].f1.length
    · refine ⟨-1, evSucc ?_, fun ht => by omega⟩
      have s0 := szVersionS xs[i].f1 (q) (by omega) (by omega) hm
      rw [if_pos c0] at s0
      simp only [laws_szRowS.l0, laws_szRow.f, rdRowl h, s0, Option.bind_some, h2, Int.natCast_nonneg, if_true, if_false, show ((-1 : Int) < 0) = True from by decide]
      exact evRet rfl
    · have s0 := szVersionS xs[i].f1 (q) (by omega) (by omega) hm
      rw [if_neg c0] at s0
      have n0 : (q - (xs[i].f1.length : Int) < 0) = False := eq_false (by omega)
      obtain ⟨t, h3, h4⟩ := szRow_l xs hl hx d (i + 1) (q - (xs[i].f1.length : Int)) (by omega) (by omega) (by omega) (by omega)
      refine ⟨t, evSucc ?_, fun ht => ?_⟩
      · simp only [laws_szRowS.l0, laws_szRow.f, rdRowl h, s0, Option.bind_some, h2, Int.natCast_nonneg, if_true, if_false, w64n (show i < 9223372036854775807 by omega), n0]
        exact h3
      · have := h4 ht; rw [hdr]; simp only [List.map_cons, List.sum_cons]; omega
theorem szRowS (xs : List S143) (n : Int) (hl : ∀ x ∈ xs, x.f1.length ≤ 9223372036854775807) (hx : xs.length ≤ 9223372036854775807) (h0 : 0 ≤ n) (h1 : n ≤ 9223372036854775807) : ∃ t, Ev (fun k => laws_szRowS.f k xs n) t ∧ (0 ≤ t → t + xs.length + (((xs.map fun x => x.f1.length).sum : Nat) : Int) = n) := by
  unfold laws_szRowS.f
  rw [w64 (by omega) (by omega)]
  by_cases h : n - xs.length < 0
  · exact ⟨-1, evIte (fun _ => evRet rfl) (fun hn => absurd h hn), fun ht => by omega⟩
  · obtain ⟨t, h2, h3⟩ := szRow_l xs hl hx xs.length 0 (n - xs.length) (by omega) (by omega) (by omega) (by omega)
    refine ⟨t, evIte (fun hp => absurd hp h) (fun _ => by simpa using h2), fun ht => ?_⟩
    have := h3 ht
    simp only [List.drop_zero] at this
    omega
theorem eqRowS (xs : List S87) (hx : xs.length ≤ 1099511627776) (hb : ∀ x ∈ xs, x.f1.length ≤ 1099511627776) : Ev (fun k => laws_eqRowS.f k xs xs) true := by
  unfold laws_eqRowS.f
  simp only [if_true]
  refine allLoopEv (L := fun k i => laws_eqRowS.l0 k xs xs i) xs.length ?_ ?_
  · intro i h
    have hm := hb xs[i] (List.getElem_mem h)
    obtain ⟨K0, e0_⟩ := eqVersionS xs[i].f1 hm
    refine ⟨K0, fun k hk => ?_⟩
    have h1 : (i : Int) < (xs.length : Int) := by omega
    simp only [laws_eqRowS.l0, laws_eqRow.f, rdRow h, e0_ k (by omega), Option.bind_some, h1, Int.natCast_nonneg, if_true, bne_self_eq_false, Bool.false_eq_true, if_false, w64n (show i < 9223372036854775807 by omega)]
  · intro k
    simp only [laws_eqRowS.l0, Int.lt_irrefl, if_false]
end Go.Proofs.Ytonbnmaelepcbaa.Q
namespace Go.Proofs.Ytonbnmaelepcbaa.Q
open Go.RowKit Go.Proofs.Ytonbnmaelepcbaa.P Go.Proofs.YtonbnmaelepcbaaW.PrintWords Go.Proofs.YtonbnmaelepcbaaW.PrintLast Go.Proofs.YtonbnmaelepcbaaW.PrintMore Go.Proofs.Ytonbnmaelepcbaa.Lb
set_option linter.unusedVariables false
set_option linter.unusedSimpArgs false

/-! ### undo lists -/
def okU (u : S96) : Prop := (0 ≤ u.f0 ∧ u.f0 ≤ 31) ∧ (0 ≤ u.f3 ∧ u.f3 ≤ 9999)
instance (u : S96) : Decidable (okU u) := by unfold okU; infer_instance
theorem undoF_eq (u : S96) : undoF u = if okU u then (if undoBad u = true then 1 else 0) else 3 := by
  unfold undoF okU inB
  by_cases h1 : 0 ≤ u.f0 <;> by_cases h2 : u.f0 ≤ 31 <;> by_cases h3 : 0 ≤ u.f3 <;> by_cases h4 : u.f3 ≤ 9999 <;> simp [h1, h2, h3, h4]
theorem implUF_l (l : List S96) (hb : l.length ≤ 8796093022208) : ∀ (d i : Nat), l.length - i = d → i ≤ l.length → Ev (fun k => impl_undosFault.l0 k l (l.length : Int) (i : Int)) (scanI (fun i => undoF (l.getD i z96)) d i)
  | 0, i, hd, hi => by
    have : i = l.length := by omega
    subst this
    refine evSucc ?_
    simp only [impl_undosFault.l0, Int.lt_irrefl, if_false]
    exact evRet rfl
  | d + 1, i, hd, hi => by
    have h : i < l.length := by omega
    have ih := implUF_l l hb d (i + 1) (by omega) (by omega)
    have h1 : (i : Int) < (l.length : Int) := by omega
    have hw := w64n (show i < 9223372036854775807 by omega)
    obtain ⟨u, hu⟩ : ∃ u, u = l[i] := ⟨_, rfl⟩
    have hsc : scanI (fun i => undoF (l.getD i z96)) (d + 1) i = if undoF u = 0 then scanI (fun i => undoF (l.getD i z96)) d (i + 1) else undoF u := by
      show (if undoF (l.getD i z96) = 0 then _ else undoF (l.getD i z96)) = _
      rw [getD_at h, ← hu]
    rw [undoF_eq] at hsc
    generalize scanI (fun i => undoF (l.getD i z96)) (d + 1) i = R at hsc ⊢
    have hr3 : ¬ okU u → 3 = R := fun h => by rw [hsc, if_neg h, if_neg (by decide)]
    have hr1 : okU u → undoBad u = true → 1 = R := fun h h2 => by rw [hsc, if_pos h, if_pos h2, if_neg (by decide)]
    have hrn : okU u → ¬ undoBad u = true → scanI (fun i => undoF (l.getD i z96)) d (i + 1) = R := fun h h2 => by rw [hsc, if_pos h, if_neg h2, if_pos rfl]
    have key2 : ∀ b : Bool, okU u → (b = true ↔ u.f1 = false ∧ (u.f2 = true ∨ u.f3 ≠ 0)) → Ev (fun k => impl_undosFault.j2 k l (l.length : Int) (i : Int) b u.f0 u.f1 u.f2 u.f3) R := by
      intro b hok hbv
      refine evSucc ?_
      simp only [impl_undosFault.j2, hw]
      refine evIte (fun hb2 => evRet (hr1 hok ?_)) (fun hb2 => evIte (fun h2 => evIte (fun h3 => evEq ih (hrn hok ?_)) (fun h3 => evRet (hr1 hok ?_))) (fun h2 => evEq ih (hrn hok ?_)))
      · have := hbv.1 hb2
        unfold undoBad
        rcases this with ⟨q1, q2 | q2⟩ <;> simp [q1, q2]
      · unfold undoBad
        have q : u.f1 = true := by
          cases hq : u.f1 with
          | true => rfl
          | false => exact absurd (hbv.2 ⟨hq, .inl h2⟩) hb2
        simp [q, h3]
      · unfold undoBad
        simp [h2, h3]
      · unfold undoBad
        cases hq : u.f1 with
        | true => simp [h2]
        | false =>
          have q : u.f3 = 0 := by
            by_cases hz : u.f3 = 0
            · exact hz
            · exact absurd (hbv.2 ⟨hq, .inr hz⟩) hb2
          simp [h2, q]
    have key1 : ∀ b : Bool, (b = true ↔ ¬ okU u) → Ev (fun k => impl_undosFault.j1 k l (l.length : Int) (i : Int) b u.f0 u.f1 u.f2 u.f3) R := by
      intro b hbv
      refine evSucc ?_
      simp only [impl_undosFault.j1]
      refine evIte (fun hb2 => evRet (hr3 (hbv.1 hb2))) (fun hb2 => ?_)
      have hok : okU u := by
        by_cases ho : okU u
        · exact ho
        · exact absurd (hbv.2 ho) hb2
      refine evIte (fun h2 => key2 _ hok (by simp [h2])) (fun h2 => evIte (fun h3 => key2 _ hok (by simp [h2, h3])) (fun h3 => key2 _ hok (by simp [h2, h3])))
    refine evSucc ?_
    simp only [impl_undosFault.l0, h1, Int.natCast_nonneg, if_true, rdUndo h, ← hu, impl_isKey.f, impl_isValue.f, implIn, Option.bind_some, decide_eq_true_eq]
    refine evIte (fun h2 => key1 _ ?_) (fun h2 => key1 _ ?_)
    · unfold okU; grind
    · unfold okU; simp only [true_iff]; exact fun q => h2 q.1
theorem implUF (l : List S96) (hb : l.length ≤ 8796093022208) : Ev (fun k => impl_undosFault.f k l) (undosF l) := by
  unfold impl_undosFault.f undosF
  refine evIte (fun h => evRet (by rw [if_pos (by omega)])) (fun h => ?_)
  rw [if_neg (by omega)]
  exact implUF_l l hb l.length 0 (by omega) (by omega)

/-! ### scans -/
theorem scan_congr {f g : Nat → Int} : ∀ (n i : Nat), (∀ j, i ≤ j → j < i + n → f j = g j) → scanI f n i = scanI g n i
  | 0, i, h => rfl
  | n + 1, i, h => by
    unfold scanI
    rw [h i (by omega) (by omega), scan_congr n (i + 1) (fun j h1 h2 => h j (by omega) (by omega))]
theorem scan_zero {f : Nat → Int} : ∀ (n i : Nat), scanI f n i = 0 → ∀ j, i ≤ j → j < i + n → f j = 0
  | 0, i, h, j, h1, h2 => by omega
  | n + 1, i, h, j, h1, h2 => by
    unfold scanI at h
    by_cases hf : f i = 0
    · rw [if_pos hf] at h
      by_cases hj : j = i
      · subst hj; exact hf
      · exact scan_zero n (i + 1) h j (by omega) (by omega)
    · rw [if_neg hf] at h
      exact absurd h hf
theorem scan_bit {f : Nat → Int} (hf : ∀ j, f j = 0 ∨ f j = 1) : ∀ (n i : Nat), scanI f n i = 0 ∨ scanI f n i = 1
  | 0, i => .inl rfl
  | n + 1, i => by
    unfold scanI
    rcases hf i with h | h
    · rw [if_pos h]; exact scan_bit hf n (i + 1)
    · rw [if_neg (by rw [h]; decide), h]; exact .inr rfl

/-! ### first places -/
theorem idx_from_spec {α : Type} (p : α → Bool) (z : α) : ∀ (l : List α) (i : Int), i ≤ idxFrom p i l → p (l.getD (idxFrom p i l - i).toNat z) = true ∧ (idxFrom p i l - i).toNat < l.length ∨ idxFrom p i l = -1
  | [], i, h => .inr rfl
  | x :: xs, i, h => by
    cases hp : p x with
    | true => simp [idxFrom, hp]
    | false =>
      simp only [idxFrom, hp, Bool.false_eq_true, if_false] at h ⊢
      rcases idxFrom_ge p xs (i + 1) with ⟨h1, _⟩ | ⟨h1, h2, _⟩
      · exact .inr h1
      · rcases idx_from_spec p z xs (i + 1) h1 with ⟨h3, h4⟩ | h3
        · left
          have e : (idxFrom p (i + 1) xs - i).toNat = (idxFrom p (i + 1) xs - (i + 1)).toNat + 1 := by omega
          rw [e]
          exact ⟨by simpa using h3, by simpa using h4⟩
        · exact .inr h3
theorem idx_spec {α : Type} (p : α → Bool) (z : α) (l : List α) (h : 0 ≤ idx p l) : p (l.getD (idx p l).toNat z) = true ∧ (idx p l).toNat < l.length := by
  unfold idx at h ⊢
  rcases idx_from_spec p z l 0 h with h1 | h1
  · simpa using h1
  · omega
theorem idx_none {α : Type} (p : α → Bool) (l : List α) (h : ∀ x ∈ l, p x = false) : idx p l = -1 := by
  unfold idx
  rcases idxFrom_ge p l 0 with ⟨h1, _⟩ | ⟨h1, h2, h3⟩
  · exact h1
  · rw [List.any_eq_true] at h3
    obtain ⟨x, hx, hp⟩ := h3
    rw [h x hx] at hp
    cases hp
theorem idx_at {α : Type} (p : α → Bool) (z : α) (l : List α) (n : Nat) (hn : n < l.length) (hp : p (l.getD n z) = true) (hu : ∀ j, j < l.length → p (l.getD j z) = true → j = n) : idx p l = n := by
  have h := idx_any p l
  have ha : l.any p = true := List.any_eq_true.2 ⟨l.getD n z, by rw [getD_at hn]; exact List.getElem_mem hn, hp⟩
  rw [ha] at h
  have h0 : 0 ≤ idx p l := of_decide_eq_true h
  obtain ⟨h1, h2⟩ := idx_spec p z l h0
  have := hu _ h2 h1
  omega
theorem any_first {α : Type} (p q : α → Bool) (z : α) (l : List α) (hu : ∀ i j, i < l.length → j < l.length → p (l.getD i z) = true → p (l.getD j z) = true → i = j) : l.any (fun t => p t && q t) = (decide (0 ≤ idx p l) && q (l.getD (idx p l).toNat z)) := by
  have ha := idx_any p l
  by_cases h0 : 0 ≤ idx p l
  · obtain ⟨h1, h2⟩ := idx_spec p z l h0
    rw [decide_eq_true h0, Bool.true_and]
    cases hq : q (l.getD (idx p l).toNat z) with
    | true => exact List.any_eq_true.2 ⟨l.getD (idx p l).toNat z, by rw [getD_at h2 z]; exact List.getElem_mem h2, by rw [h1, hq]; rfl⟩
    | false =>
      rw [List.any_eq_false]
      intro x hx
      obtain ⟨j, hj, rfl⟩ := List.mem_iff_getElem.1 hx
      rw [← getD_at hj z]
      cases hp : p (l.getD j z) with
      | false => simp
      | true =>
        have := hu j _ hj h2 hp h1
        rw [this, hq]
        simp
  · rw [decide_eq_false h0] at ha ⊢
    rw [Bool.false_and, List.any_eq_false]
    intro x hx
    have := (List.any_eq_false.1 ha.symm) x hx
    simp [this]
/-- What rises from place to place rises over all. -/
theorem rises {f : Nat → Int} {n : Nat} (h : ∀ i, 0 < i → i < n → f (i - 1) < f i) : ∀ j i, i < j → j < n → f i < f j
  | 0, i, h1, _ => by omega
  | j + 1, i, h1, h2 => by
    have h3 := h (j + 1) (by omega) h2
    rw [Nat.add_sub_cancel] at h3
    by_cases e : i = j
    · subst e; exact h3
    · exact Int.lt_trans (rises h j i (by omega) (by omega)) h3
theorem rises_inj {f : Nat → Int} {n : Nat} (h : ∀ i, 0 < i → i < n → f (i - 1) < f i) (i j : Nat) (hi : i < n) (hj : j < n) (e : f i = f j) : i = j := by
  rcases Nat.lt_trichotomy i j with h1 | h1 | h1
  · have := rises h j i h1 hj; omega
  · exact h1
  · have := rises h i j h1 hi; omega

/-! ### both sides' faults, over any number of rounds -/
theorem specFault (nx ck : Int) (txns : List S83) (rows : List S87) (hr : ∀ r ∈ rows, r.f1.length ≤ 1099511627776) : Ev (fun k => spec_l6Fault.f k nx ck txns rows) (faultF cf nx ck txns rows) := by
  obtain ⟨K, hK⟩ := evAll (g := fun k (r : S87) => spec_ChainFault.f k r.f1) (r := fun r => cf r.f1) rows (fun r hr' => specCF r.f1 (by have := hr r hr'; omega))
  refine ⟨K, fun k hk => ?_⟩
  show spec_l6Fault.f k nx ck txns rows = _
  unfold spec_l6Fault.f
  rw [if_pos (List.all_eq_true.2 fun r hr' => by rw [hK k hk r hr']; rfl)]
  congr 1
  unfold faultF
  have e : rowsF (spec_l6Fault.cf k) ck txns rows = rowsF cf ck txns rows := by
    unfold rowsF
    refine scan_congr _ _ fun j _ h2 => ?_
    have hj : j < rows.length := by omega
    have e2 : spec_l6Fault.cf k (rows.getD j z87).f1 = cf (rows.getD j z87).f1 := by
      unfold spec_l6Fault.cf
      rw [getD_at hj, hK k hk _ (List.getElem_mem hj)]
      rfl
    simp only [rowF, e2]
  rw [e]
theorem implFault (nx ck : Int) (txns : List S83) (rows : List S87) (ht : ∀ t ∈ txns, t.f4.length ≤ 1099511627776) (hr : ∀ r ∈ rows, r.f1.length ≤ 1099511627776) : Ev (fun k => impl_EngineFault.f k nx ck txns rows) (enF undosF cf nx ck txns rows) := by
  obtain ⟨K, hK⟩ := evAll (g := fun k (r : S87) => impl_ChainFault.f k r.f1) (r := fun r => cf r.f1) rows (fun r hr' => implCF r.f1 (by have := hr r hr'; omega))
  obtain ⟨K2, hK2⟩ := evAll (g := fun k (t : S83) => impl_undosFault.f k t.f4) (r := fun t => undosF t.f4) txns (fun t ht' => implUF t.f4 (by have := ht t ht'; omega))
  refine ⟨K + K2, fun k hk => ?_⟩
  show impl_EngineFault.f k nx ck txns rows = _
  unfold impl_EngineFault.f
  rw [if_pos (List.all_eq_true.2 fun t ht' => by rw [hK2 k (by omega) t ht']; rfl), if_pos (List.all_eq_true.2 fun r hr' => by rw [hK k (by omega) r hr']; rfl)]
  congr 1
  unfold enF
  have e : rowsG (impl_EngineFault.cf k) ck txns rows = rowsG cf ck txns rows := by
    unfold rowsG
    refine scan_congr _ _ fun j _ h2 => ?_
    have hj : j < rows.length := by omega
    have e2 : impl_EngineFault.cf k (rows.getD j z87).f1 = cf (rows.getD j z87).f1 := by
      unfold impl_EngineFault.cf
      rw [getD_at hj, hK k (by omega) _ (List.getElem_mem hj)]
      rfl
    simp only [rowG, e2]
  have e3 : txnsG (impl_EngineFault.uf k) nx ck txns = txnsG undosF nx ck txns := by
    unfold txnsG
    refine scan_congr _ _ fun j _ h2 => ?_
    have hj : j < txns.length := by omega
    have e2 : impl_EngineFault.uf k (txns.getD j z83).f4 = undosF (txns.getD j z83).f4 := by
      unfold impl_EngineFault.uf
      rw [getD_at hj, hK2 k (by omega) _ (List.getElem_mem hj)]
      rfl
    simp only [txnG, e2]
  rw [e, e3]

/-! ### right chains -/
theorem cfL_lt : ∀ (l : List S90) (q : S90), q.f1 ≠ 0 → cfL (some q) l = 0 → ∀ v ∈ l, v.f1 < q.f1
  | [], _, _, _, v, hv => by simp at hv
  | x :: xs, q, hq, h, v, hv => by
    unfold cfL at h
    by_cases ho : okV x
    · by_cases hb : badV (some q) x
      · simp [ho, hb] at h
      · simp [ho, hb] at h
        have hx : x.f1 ≠ 0 ∧ x.f1 < q.f1 := by
          unfold badV at hb
          simp only [not_or, not_and] at hb
          obtain ⟨_, h2, h3⟩ := hb
          exact ⟨h2, by have := h3 hq; omega⟩
        rcases List.mem_cons.1 hv with rfl | hv
        · exact hx.2
        · have := cfL_lt xs x hx.1 h v hv; omega
    · simp [ho] at h
theorem cf_any (ck : Int) (l : List S90) (h : cf l = 0) : l.any (fun x => decide (ck < x.f1)) = (decide (0 < l.length) && decide (ck < (l.getD 0 z90).f1) || (decide ((1 : Int) < (l.length : Int)) && decide (ck < (l.getD 1 z90).f1))) := by
  unfold cf at h
  by_cases hl : 12 < l.length
  · simp [hl] at h
  · rw [if_neg hl] at h
    match l, h with
    | [], _ => rfl
    | [v], _ => simp
    | v :: x :: xs, h =>
      unfold cfL at h
      by_cases ho : okV v
      · by_cases hb : badV none v
        · simp [ho, hb] at h
        · rw [if_pos ho, if_neg hb] at h
          unfold cfL at h
          by_cases ho2 : okV x
          · by_cases hb2 : badV (some v) x
            · simp [ho2, hb2] at h
            · rw [if_pos ho2, if_neg hb2] at h
              have hx : x.f1 ≠ 0 := by
                unfold badV at hb2
                simp only [not_or, not_and] at hb2
                exact hb2.2.1
              have hlt := cfL_lt xs x hx h
              have ha : xs.any (fun x => decide (ck < x.f1)) = true → ck < x.f1 := by
                intro hany
                rw [List.any_eq_true] at hany
                obtain ⟨y, hy, h2⟩ := hany
                have := hlt y hy
                have := of_decide_eq_true h2
                omega
              simp only [List.any_cons, List.length_cons, List.getD_cons_zero, List.getD_cons_succ]
              have e1 : decide (0 < xs.length + 1 + 1) = true := by simp
              have e2 : decide ((1 : Int) < ((xs.length + 1 + 1 : Nat) : Int)) = true := decide_eq_true (by omega)
              rw [e1, e2, Bool.true_and, Bool.true_and]
              cases hv : decide (ck < v.f1) <;> cases hx2 : decide (ck < x.f1) <;> simp
              intro y hy
              have := hlt y hy
              have := of_decide_eq_false hx2
              omega
          · simp [ho2] at h
      · simp [ho] at h
theorem cf_okV {l : List S90} (h : cf l = 0) (hl : 0 < l.length) : okV (l.getD 0 z90) := by
  unfold cf at h
  by_cases h12 : 12 < l.length
  · simp [h12] at h
  · rw [if_neg h12] at h
    match l, h, hl with
    | v :: xs, h, _ =>
      unfold cfL at h
      by_cases ho : okV v
      · exact ho
      · simp [ho] at h

/-! ### transactions and rows without a fault -/
structure TxOK (nx : Int) (txns : List S83) : Prop where
  up : ∀ i, 0 < i → i < txns.length → (txns.getD (i - 1) z83).f0 < (txns.getD i z83).f0
  id : ∀ i, i < txns.length → 1 ≤ (txns.getD i z83).f0
  us : ∀ i, i < txns.length → undosF (txns.getD i z83).f4 = 0
  at_ : ∀ i, i < txns.length → 0 ≤ (txns.getD i z83).f1
theorem txOK {nx ck : Int} {txns : List S83} (h : txnsF nx ck txns = 0) : TxOK nx txns := by
  have key : ∀ i, i < txns.length → (1 ≤ (txns.getD i z83).f0 ∧ 0 ≤ (txns.getD i z83).f1) ∧ txnBad txns i (txns.getD i z83) (txns.getD (i - 1) z83) = false ∧ undosF (txns.getD i z83).f4 = 0 := by
    intro i hi
    have hz := scan_zero _ _ h i (by omega) (by omega)
    simp only [txnF] at hz
    by_cases h1 : (inB (txns.getD i z83).f0 1 (nx - 1) && (inB (txns.getD i z83).f1 0 ck && (inB (txns.getD i z83).f2 1 3 && inB (txns.getD i z83).f3 0 ck))) = true
    · rw [if_pos h1] at hz
      by_cases h2 : txnBad txns i (txns.getD i z83) (txns.getD (i - 1) z83) = true
      · rw [if_pos h2] at hz; exact absurd hz (by decide)
      · rw [if_neg h2] at hz
        refine ⟨?_, by simpa using h2, hz⟩
        simp only [inB, Bool.and_eq_true, decide_eq_true_eq] at h1
        exact ⟨h1.1.1, h1.2.1.1⟩
    · rw [if_neg h1] at hz; exact absurd hz (by decide)
  refine ⟨fun i h0 hi => ?_, fun i hi => (key i hi).1.1, fun i hi => (key i hi).2.2, fun i hi => (key i hi).1.2⟩
  have := (key i hi).2.1
  unfold txnBad at this
  simp only [Bool.or_eq_false_iff, Bool.and_eq_false_iff, decide_eq_false_iff_not] at this
  rcases this.1 with h1 | h1
  · exact absurd h0 h1
  · omega
structure RwOK (rows : List S87) : Prop where
  up : ∀ i, 0 < i → i < rows.length → (rows.getD (i - 1) z87).f0 < (rows.getD i z87).f0
  key : ∀ i, i < rows.length → 0 ≤ (rows.getD i z87).f0 ∧ (rows.getD i z87).f0 ≤ 31
  ch : ∀ i, i < rows.length → cf (rows.getD i z87).f1 = 0
  ne : ∀ i, i < rows.length → 0 < (rows.getD i z87).f1.length
theorem rwOK {ck : Int} {txns : List S83} {rows : List S87} (h : rowsF cf ck txns rows = 0) : RwOK rows := by
  have key : ∀ i, i < rows.length → (0 ≤ (rows.getD i z87).f0 ∧ (rows.getD i z87).f0 ≤ 31) ∧ rowBad i (rows.getD i z87) (rows.getD (i - 1) z87) = false ∧ cf (rows.getD i z87).f1 = 0 := by
    intro i hi
    have hz := scan_zero _ _ h i (by omega) (by omega)
    simp only [rowF] at hz
    by_cases h1 : inB (rows.getD i z87).f0 0 31 = true
    · rw [if_pos h1] at hz
      by_cases h2 : rowBad i (rows.getD i z87) (rows.getD (i - 1) z87) = true
      · rw [if_pos h2] at hz; exact absurd hz (by decide)
      · rw [if_neg h2] at hz
        by_cases h3 : cf (rows.getD i z87).f1 = 0
        · exact ⟨by simpa [inB] using h1, by simpa using h2, h3⟩
        · rw [if_neg h3] at hz; exact absurd hz h3
    · rw [if_neg h1] at hz; exact absurd hz (by decide)
  refine ⟨fun i h0 hi => ?_, fun i hi => (key i hi).1, fun i hi => (key i hi).2.2, fun i hi => ?_⟩
  · have := (key i hi).2.1
    unfold rowBad at this
    simp only [Bool.or_eq_false_iff, Bool.and_eq_false_iff, decide_eq_false_iff_not] at this
    rcases this.1 with h1 | h1
    · exact absurd h0 h1
    · omega
  · have := (key i hi).2.1
    unfold rowBad at this
    simp only [Bool.or_eq_false_iff] at this
    have h2 := this.2
    simp at h2
    exact List.length_pos_iff.2 h2

theorem fst_eq (nx ck : Int) (txns : List S83) (hT : TxOK nx txns) (t : S87) (hc : cf t.f1 = 0) (hn : 0 < t.f1.length) : fstBad ck txns t.f0 t.f1 (t.f1.getD 0 z90) = P.rowAt ck txns t := by
  have hV := cf_okV hc hn
  unfold fstBad P.rowAt rowAtV
  rw [cf_any ck _ hc, decide_eq_true hn, Bool.true_and]
  have ho : ((t.f1.getD 0 z90).f1 == 0 && !(txns.any fun x => (x.f0 == (t.f1.getD 0 z90).f0) && undoesF x t.f0)) = !openF txns t.f0 t.f1 := by
    unfold openF writerF
    rw [decide_eq_true hn, Bool.true_and]
    by_cases h0 : (t.f1.getD 0 z90).f1 = 0
    · have h0' : ((t.f1.getD 0 z90).f1 == 0) = true := by simpa using h0
      rw [h0', if_pos rfl]
      have hne : ¬ ((t.f1.getD 0 z90).f0 == 0) = true := by unfold okV at hV; rw [beq_iff_eq]; omega
      rw [if_neg hne, Bool.true_and]
      congr 1
      refine any_first (fun x : S83 => x.f0 == (t.f1.getD 0 z90).f0) (fun x => undoesF x t.f0) z83 txns ?_
      intro i j hi hj h1 h2
      refine rises_inj (f := fun i => (txns.getD i z83).f0) hT.up i j hi hj ?_
      have e1 : (txns.getD i z83).f0 = (t.f1.getD 0 z90).f0 := by simpa using h1
      have e2 : (txns.getD j z83).f0 = (t.f1.getD 0 z90).f0 := by simpa using h2
      show (txns.getD i z83).f0 = (txns.getD j z83).f0
      rw [e1, e2]
    · have h0' : ((t.f1.getD 0 z90).f1 == 0) = false := by simpa using h0
      rw [h0']
      simp
  rw [ho]
  cases decide (ck < (t.f1.getD 0 z90).f1) <;> cases (decide ((1 : Int) < (t.f1.length : Int)) && decide (ck < (t.f1.getD 1 z90).f1)) <;> cases openF txns t.f0 t.f1 <;> rfl

theorem rows_eq (nx ck : Int) (txns : List S83) (rows : List S87) (hT : TxOK nx txns) : rowsG cf ck txns rows = rowsF cf ck txns rows := by
  unfold rowsG rowsF
  refine scan_congr _ _ fun j _ h2 => ?_
  unfold rowG rowF
  by_cases h1 : inB (rows.getD j z87).f0 0 31 = true
  · rw [if_pos h1, if_pos h1]
    by_cases h3 : rowBad j (rows.getD j z87) (rows.getD (j - 1) z87) = true
    · rw [if_pos h3, if_pos h3]
    · rw [if_neg h3, if_neg h3]
      by_cases h4 : cf (rows.getD j z87).f1 = 0
      · have hn : 0 < (rows.getD j z87).f1.length := by
          unfold rowBad at h3
          simp only [Bool.or_eq_true, not_or] at h3
          have h5 := h3.2
          simp at h5
          exact List.length_pos_iff.2 h5
        rw [if_pos h4, if_pos h4, fst_eq nx ck txns hT _ h4 hn]
      · rw [if_neg h4, if_neg h4]
  · rw [if_neg h1, if_neg h1]

theorem rowC_eq {key : Int} {x : S87} (h : 0 ≤ x.f0 ∧ x.f0 ≤ 31) (h0 : 0 ≤ key) (h1 : key ≤ 31) : rowC key x = x.f0 - key := by
  unfold rowC
  rw [w64 (by omega) (by omega)]
theorem ownF_bit (rows : List S87) (id : Int) (us : List S96) (i : Nat) (u : S96) : ownF rows id us i u = 0 ∨ ownF rows id us i u = 1 := by
  unfold ownF
  split
  · exact .inr rfl
  · split
    · exact .inl rfl
    · exact .inr rfl
/-- Where a key's row stands; whether there is one. -/
theorem row_at {rows : List S87} (hR : RwOK rows) {n : Nat} (hn : n < rows.length) : bs (rowC (rows.getD n z87).f0) z87 rows = n ∧ bsHit (rowC (rows.getD n z87).f0) z87 rows = true ∧ idx (fun u : S87 => u.f0 == (rows.getD n z87).f0) rows = n := by
  have hk := hR.key n hn
  have hrc : ∀ h, h < rows.length → rowC (rows.getD n z87).f0 (rows.getD h z87) = (rows.getD h z87).f0 - (rows.getD n z87).f0 := by
    intro h hh
    have := hR.key h hh
    exact rowC_eq this hk.1 hk.2
  have hb : bs (rowC (rows.getD n z87).f0) z87 rows = n := by
    refine bs_find n hn ?_ ?_
    · intro h hh hc
      rw [hrc h hh] at hc
      rcases Nat.lt_trichotomy h n with h1 | h1 | h1
      · exact h1
      · subst h1; omega
      · have := rises (f := fun i => (rows.getD i z87).f0) hR.up h n h1 hh
        omega
    · intro h hh hc
      rw [hrc h hh] at hc
      rcases Nat.lt_trichotomy h n with h1 | h1 | h1
      · have := rises (f := fun i => (rows.getD i z87).f0) hR.up n h h1 hn
        omega
      · omega
      · omega
  refine ⟨hb, ?_, ?_⟩
  · unfold bsHit
    rw [hb, decide_eq_true (by omega), Int.toNat_natCast, hrc n hn]
    simp
  · refine idx_at _ z87 rows n hn (by simp) ?_
    intro j hj hp
    exact rises_inj (f := fun i => (rows.getD i z87).f0) hR.up j n hj hn (by simpa using hp)
theorem row_none {rows : List S87} (hR : RwOK rows) {key : Int} (h0 : 0 ≤ key) (h1 : key ≤ 31) (h : ∀ n, n < rows.length → (rows.getD n z87).f0 ≠ key) : bsHit (rowC key) z87 rows = false ∧ idx (fun u : S87 => u.f0 == key) rows = -1 := by
  constructor
  · unfold bsHit
    by_cases hb : bs (rowC key) z87 rows < rows.length
    · have hg : 0 ≤ bs (rowC key) z87 rows := bs_ge
      have hl : (bs (rowC key) z87 rows).toNat < rows.length := by omega
      have := h _ hl
      have hk := hR.key _ hl
      have e : (rowC key (rows.getD (bs (rowC key) z87 rows).toNat z87) == 0) = false := by
        rw [rowC_eq hk h0 h1]
        exact beq_eq_false_iff_ne.2 (by omega)
      rw [e, Bool.and_false]
    · rw [decide_eq_false hb, Bool.false_and]
  · refine idx_none _ _ fun x hx => ?_
    obtain ⟨j, hj, rfl⟩ := List.mem_iff_getElem.1 hx
    have := h j hj
    rw [getD_at hj] at this
    simpa using this
theorem chain_at {rows : List S87} (hR : RwOK rows) {n : Nat} (hn : n < rows.length) : chainF rows (rows.getD n z87).f0 = (rows.getD n z87).f1 := by
  obtain ⟨h1, h2, _⟩ := row_at hR hn
  unfold chainF
  rw [if_pos h2, h1, Int.toNat_natCast]
theorem chain_none {rows : List S87} (hR : RwOK rows) {key : Int} (h0 : 0 ≤ key) (h1 : key ≤ 31) (h : ∀ n, n < rows.length → (rows.getD n z87).f0 ≠ key) : chainF rows key = [] := by
  unfold chainF
  rw [(row_none hR h0 h1 h).1, if_neg (by decide)]
/-- Either a row of a key, or none. -/
theorem row_or (rows : List S87) (key : Int) : (∃ n, n < rows.length ∧ (rows.getD n z87).f0 = key) ∨ (∀ n, n < rows.length → (rows.getD n z87).f0 ≠ key) := by
  by_cases h : ∃ n, n < rows.length ∧ (rows.getD n z87).f0 = key
  · exact .inl h
  · exact .inr fun n hn he => h ⟨n, hn, he⟩

theorem own_eq (rows : List S87) (hR : RwOK rows) (id : Int) (hid : 1 ≤ id) (us : List S96) (i : Nat) (u : S96) (hk : 0 ≤ u.f0 ∧ u.f0 ≤ 31) : ownG rows id us i u = ownF rows id us i u := by
  have hb : isOpF (chainF rows u.f0) id = !ownBad rows id u.f0 := by
    unfold ownBad ownAt
    rcases row_or rows u.f0 with ⟨n, hn, he⟩ | h
    · have h1 := chain_at hR hn
      have h2 := (row_at hR hn).2.2
      rw [he] at h1 h2
      rw [h1, h2, Int.toNat_natCast, decide_eq_false (by omega), Bool.false_or, Bool.not_not]
      unfold isOpF writerF
      have hl := hR.ne n hn
      rw [decide_eq_true hl, Bool.true_and, Bool.true_and]
      cases hz : ((rows.getD n z87).f1.getD 0 z90).f1 == 0 with
      | true => rw [if_pos rfl, Bool.true_and]
      | false =>
        rw [if_neg (by decide), Bool.false_and]
        symm
        simp
        omega
    · rw [chain_none hR hk.1 hk.2 h, (row_none hR hk.1 hk.2 h).2]
      rfl
  unfold ownG ownF
  rw [hb]
  cases ownBad rows id u.f0 with
  | true => simp
  | false =>
    simp only [Bool.not_false, if_true, Bool.false_eq_true, if_false]
    cases (us.take i).any (fun x => x.f0 == u.f0) <;> cases u.f1 <;> rfl
theorem owns_eq (nx : Int) (txns : List S83) (rows : List S87) (hT : TxOK nx txns) (hR : RwOK rows) : ownsG txns rows = ownAll txns rows := by
  unfold ownsG ownAll
  refine scan_congr _ _ fun j _ h2 => ?_
  have hj : j < txns.length := by omega
  have hid := hT.id j hj
  have hus := hT.us j hj
  generalize txns.getD j z83 = t at hid hus
  unfold ownT ownIf ownsF ownsI
  have hkey : ∀ i, i < t.f4.length → 0 ≤ (t.f4.getD i z96).f0 ∧ (t.f4.getD i z96).f0 ≤ 31 := by
    intro i hi
    unfold undosF at hus
    by_cases hl : t.f4.length > 60
    · rw [if_pos hl] at hus; exact absurd hus (by decide)
    · rw [if_neg hl] at hus
      have := scan_zero _ _ hus i (by omega) (by omega)
      rw [undoF_eq] at this
      by_cases ho : okU (t.f4.getD i z96)
      · exact ho.1
      · rw [if_neg ho] at this; exact absurd this (by decide)
  have e : scanI (fun i => ownG rows t.f0 t.f4 i (t.f4.getD i z96)) t.f4.length 0 = scanI (fun i => ownF rows t.f0 t.f4 i (t.f4.getD i z96)) t.f4.length 0 :=
    scan_congr _ _ fun i _ h3 => own_eq rows hR t.f0 hid t.f4 i _ (hkey i (by omega))
  rw [e]
  rcases scan_bit (f := fun i => ownF rows t.f0 t.f4 i (t.f4.getD i z96)) (fun i => ownF_bit rows t.f0 t.f4 i _) t.f4.length 0 with h | h
  · rw [h]; rfl
  · rw [h]; rfl
theorem en_eq (nx ck : Int) (txns : List S83) (rows : List S87) : enF undosF cf nx ck txns rows = faultF cf nx ck txns rows := by
  unfold enF faultF
  have e : txnsG undosF nx ck txns = txnsF nx ck txns := rfl
  rw [e]
  by_cases h1 : inB nx 1 999 = true
  · rw [if_pos h1, if_pos h1]
    by_cases h2 : inB ck 0 1000000 = true
    · rw [if_pos h2, if_pos h2]
      by_cases h3 : 20 < txns.length ∨ 32 < rows.length
      · rw [if_pos h3, if_pos h3]
      · rw [if_neg h3, if_neg h3]
        by_cases h4 : txnsF nx ck txns = 0
        · have hT := txOK h4
          rw [if_pos h4, if_pos h4, rows_eq nx ck txns rows hT]
          by_cases h5 : rowsF cf ck txns rows = 0
          · rw [if_pos h5, if_pos h5]
            exact owns_eq nx txns rows hT (rwOK h5)
          · rw [if_neg h5, if_neg h5]
        · rw [if_neg h4, if_neg h4]
    · rw [if_neg h2, if_neg h2]
  · rw [if_neg h1, if_neg h1]
theorem implEF (nx ck : Int) (txns : List S83) (rows : List S87) (ht : ∀ t ∈ txns, t.f4.length ≤ 1048576) (hr : ∀ r ∈ rows, r.f1.length ≤ 1048576) : Ev (fun k => impl_EngineFault.f k nx ck txns rows) (faultF cf nx ck txns rows) :=
  evEq (implFault nx ck txns rows (fun r h => by have := ht r h; omega) (fun r h => by have := hr r h; omega)) (en_eq nx ck txns rows)
/-- An engine without a fault. -/
theorem fault_ok {nx ck : Int} {txns : List S83} {rows : List S87} (h : faultF cf nx ck txns rows = 0) : (1 ≤ nx ∧ nx ≤ 999) ∧ (0 ≤ ck ∧ ck ≤ 1000000) ∧ txns.length ≤ 20 ∧ rows.length ≤ 32 ∧ TxOK nx txns ∧ RwOK rows := by
  unfold faultF at h
  by_cases h1 : inB nx 1 999 = true
  · rw [if_pos h1] at h
    by_cases h2 : inB ck 0 1000000 = true
    · rw [if_pos h2] at h
      by_cases h3 : 20 < txns.length ∨ 32 < rows.length
      · rw [if_pos h3] at h; exact absurd h (by decide)
      · rw [if_neg h3] at h
        by_cases h4 : txnsF nx ck txns = 0
        · rw [if_pos h4] at h
          by_cases h5 : rowsF cf ck txns rows = 0
          · refine ⟨by simpa [inB] using h1, by simpa [inB] using h2, by omega, by omega, txOK h4, rwOK h5⟩
          · rw [if_neg h5] at h; exact absurd h h5
        · rw [if_neg h4] at h; exact absurd h h4
    · rw [if_neg h2] at h; exact absurd h (by decide)
  · rw [if_neg h1] at h; exact absurd h (by decide)

/-! ### engines copied, counted, compared -/
theorem toEngine (a b : Int) (l : List S139) (m : List S143) (h1 : l.length ≤ 1048576) (h2 : m.length ≤ 1048576) (h3 : ∀ x ∈ l, x.f4.length ≤ 1048576) (h4 : ∀ x ∈ m, x.f1.length ≤ 1048576) : Ev (fun k => laws_toEngine.f k a b l m) (a, b, l.map cvTxn, m.map cvRow) := by
  unfold laws_toEngine.f
  exact evCall (toTxnS l (by omega) (fun x hx => by have := h3 x hx; omega)) (evCall (toRowS m (by omega) (fun x hx => by have := h4 x hx; omega)) (evRet rfl))
theorem eqEngine (a b : Int) (l : List S83) (m : List S87) (h1 : l.length ≤ 1048576) (h2 : m.length ≤ 1048576) (h3 : ∀ x ∈ l, x.f4.length ≤ 1048576) (h4 : ∀ x ∈ m, x.f1.length ≤ 1048576) : Ev (fun k => laws_eqEngine.f k a b l m a b l m) true := by
  unfold laws_eqEngine.f
  exact evIte (fun _ => evIte (fun _ => evCall (eqTxnS l (by omega) (fun x hx => by have := h3 x hx; omega)) (evIte (fun _ => evCall (eqRowS m (by omega) (fun x hx => by have := h4 x hx; omega)) (evIte (fun _ => evRet rfl) (fun h => absurd rfl h))) (fun h => absurd rfl h))) (fun h => absurd rfl h)) (fun h => absurd rfl h)
/-- What an engine of which a law speaks may hold. -/
def small (l : List S139) (m : List S143) : Prop := l.length ≤ 1048576 ∧ m.length ≤ 1048576 ∧ (∀ x ∈ l, x.f4.length ≤ 1048576) ∧ (∀ x ∈ m, x.f1.length ≤ 1048576)
theorem le_sum : ∀ (l : List Nat) (x : Nat), x ∈ l → x ≤ l.sum
  | y :: ys, x, h => by
    rcases List.mem_cons.1 h with rfl | h
    · simp
    · have := le_sum ys x h
      simp
      omega
theorem szEngine (a b : Int) (l : List S139) (m : List S143) (n : Int) (h0 : 0 ≤ n) (hn : n ≤ 1048576) (h1 : l.length ≤ 9223372036854775807) (h2 : m.length ≤ 9223372036854775807) (h3 : ∀ x ∈ l, x.f4.length ≤ 9223372036854775807) (h4 : ∀ x ∈ m, x.f1.length ≤ 9223372036854775807) : ∃ t, Ev (fun k => laws_szEngine.f k a b l m n) t ∧ (¬ t < 0 → t ≤ n ∧ small l m) := by
  unfold laws_szEngine.f
  obtain ⟨t, ht, hs⟩ := szTxnS l n h3 h1 h0 (by omega)
  by_cases hneg : t < 0
  · exact ⟨-1, evCall ht (evIte (fun _ => evRet rfl) (fun h => absurd hneg h)), fun h => absurd (by decide) h⟩
  · have hs' := hs (by omega)
    obtain ⟨t2, ht2, hs2⟩ := szRowS m t h4 h2 (by omega) (by omega)
    by_cases hneg2 : t2 < 0
    · exact ⟨-1, evCall ht (evIte (fun h => absurd h hneg) (fun _ => evCall ht2 (evIte (fun _ => evRet rfl) (fun h => absurd hneg2 h)))), fun h => absurd (by decide) h⟩
    · have hs2' := hs2 (by omega)
      refine ⟨t2, evCall ht (evIte (fun h => absurd h hneg) (fun _ => evCall ht2 (evIte (fun h => absurd h hneg2) (fun _ => evRet rfl)))), fun _ => ⟨by omega, by omega, by omega, fun x hx => ?_, fun x hx => ?_⟩⟩
      · have := le_sum (l.map fun x => x.f4.length) x.f4.length (List.mem_map_of_mem hx)
        omega
      · have := le_sum (m.map fun x => x.f1.length) x.f1.length (List.mem_map_of_mem hx)
        omega
end Go.Proofs.Ytonbnmaelepcbaa.Q
namespace Go.Proofs.Ytonbnmaelepcbaa.Q
open Go.RowKit Go.Proofs.Ytonbnmaelepcbaa.P Go.Proofs.YtonbnmaelepcbaaW.PrintWords Go.Proofs.YtonbnmaelepcbaaW.PrintLast Go.Proofs.YtonbnmaelepcbaaW.PrintMore Go.Proofs.Ytonbnmaelepcbaa.Lb
set_option linter.unusedVariables false
set_option linter.unusedSimpArgs false
end Go.Proofs.Ytonbnmaelepcbaa.Q
namespace Go.Proofs.Ytonbnmaelepcbaa.Q
open Go.RowKit Go.Proofs.Ytonbnmaelepcbaa.P Go.Proofs.YtonbnmaelepcbaaW.PrintWords Go.Proofs.YtonbnmaelepcbaaW.PrintLast Go.Proofs.YtonbnmaelepcbaaW.PrintMore Go.Proofs.Ytonbnmaelepcbaa.Lb
set_option linter.unusedVariables false
set_option linter.unusedSimpArgs false
theorem chain_len {m : List S87} (hR : RwOK m) (hr : ∀ r ∈ m, r.f1.length ≤ 1048576) {key : Int} (h0 : 0 ≤ key) (h1 : key ≤ 31) : (chainF m key).length ≤ 1048576 := by
  rcases row_or m key with ⟨n, hn, e⟩ | hno
  · rw [← e, chain_at hR hn, getD_at hn]
    exact hr _ (List.getElem_mem hn)
  · rw [chain_none hR h0 h1 hno]; simp
end Go.Proofs.Ytonbnmaelepcbaa.Q
namespace Go.Proofs.Ytonbnmaelepcbaa.Q
open Go.RowKit Go.Proofs.Ytonbnmaelepcbaa.P Go.Proofs.YtonbnmaelepcbaaW.PrintWords Go.Proofs.YtonbnmaelepcbaaW.PrintLast Go.Proofs.YtonbnmaelepcbaaW.PrintMore Go.Proofs.Ytonbnmaelepcbaa.Lb
set_option linter.unusedVariables false
set_option linter.unusedSimpArgs false
/-- What is told of the version that is seen. -/
def sv : Option S90 → Int × Int
  | some x => if x.f2 = true then (4, 0) else (0, x.f3)
  | none => (4, 0)
theorem idxFrom_find (p : S90 → Bool) : ∀ (rest pre : List S90), (idxFrom p (pre.length : Int) rest = -1 ∧ rest.find? p = none) ∨ ∃ i : Nat, idxFrom p (pre.length : Int) rest = i ∧ ∃ h : i < (pre ++ rest).length, rest.find? p = some (pre ++ rest)[i]
  | [], pre => .inl ⟨rfl, rfl⟩
  | v :: vs, pre => by
    cases hv : p v with
    | true => exact .inr ⟨pre.length, by simp [idxFrom, hv], by simp, by simp [hv]⟩
    | false =>
      have ih := idxFrom_find p vs (pre ++ [v])
      simp only [List.append_assoc, List.singleton_append] at ih
      have e : (((pre ++ [v]).length : Nat) : Int) = (pre.length : Int) + 1 := by simp
      rw [e] at ih
      simpa [idxFrom, hv] using ih
theorem implSV (l : List S90) (at_ own : Int) : impl_seenValue.f l at_ own = some (sv (l.find? (impl_seen.p at_ own))) := by
  unfold impl_seenValue.f impl_seen.f
  rw [Option.bind_some]
  rcases idxFrom_find (impl_seen.p at_ own) l [] with ⟨h1, h2⟩ | ⟨i, h1, h2, h3⟩
  · have h1' : idx (impl_seen.p at_ own) l = -1 := h1
    rw [h1', h2]
    rfl
  · have h1' : idx (impl_seen.p at_ own) l = (i : Int) := h1
    simp only [List.nil_append] at h2 h3
    have hlt : (i : Int) < (l.length : Int) := by omega
    rw [h1', h3]
    simp only [show ¬ ((i : Int) < 0) by omega, if_false, Int.natCast_nonneg, if_true, hlt, rdV h2, sv]
    by_cases hg : l[i].f2 = true <;> simp [hg]
/-- The place that the other side tells. -/
def sidx (p : S90 → Bool) : Int → List S90 → Int
  | _, [] => -1
  | i, v :: vs => if p v = true then (if v.f2 = true then -1 else i) else sidx p (i + 1) vs
theorem sidx_find (p : S90 → Bool) : ∀ (rest pre : List S90), (sidx p (pre.length : Int) rest = -1 ∧ sv (rest.find? p) = (4, 0)) ∨ ∃ i : Nat, sidx p (pre.length : Int) rest = i ∧ ∃ h : i < (pre ++ rest).length, sv (rest.find? p) = (0, (pre ++ rest)[i].f3)
  | [], pre => .inl ⟨rfl, rfl⟩
  | v :: vs, pre => by
    by_cases hv : p v = true
    · by_cases hg : v.f2 = true
      · exact .inl ⟨by simp [sidx, hv, hg], by simp [hv, sv, hg]⟩
      · exact .inr ⟨pre.length, by simp [sidx, hv, hg], by simp, by simp [hv, sv, hg]⟩
    · have ih := sidx_find p vs (pre ++ [v])
      simp only [List.append_assoc, List.singleton_append] at ih
      have e : (((pre ++ [v]).length : Nat) : Int) = (pre.length : Int) + 1 := by simp
      rw [e] at ih
      simpa [sidx, hv] using ih
set_option maxHeartbeats 1000000 in
theorem specSeen_l (at_ own : Int) : ∀ (rest pre : List S90), (∀ x ∈ rest, 0 ≤ x.f1) → (pre ++ rest).length ≤ 8796093022208 → Ev (fun k => spec_l5Seen.l0 k (pre ++ rest) (pre.length : Int) at_ own) (sidx (impl_seen.p at_ own) (pre.length : Int) rest)
  | [], pre, h0, hb => by
    refine evSucc ?_
    simp only [spec_l5Seen.l0, List.append_nil, Int.lt_irrefl, if_false]
    exact evRet (by simp [sidx])
  | v :: vs, pre, h0, hb => by
    have hb' : pre.length + 1 ≤ 8796093022208 := by simp at hb; omega
    have ih := specSeen_l at_ own vs (pre ++ [v]) (fun x hx => h0 x (by simp [hx])) (by simpa using hb)
    have hn : (((pre ++ [v]).length : Nat) : Int) = wrap64 ((pre.length : Int) + 1) := by rw [w64n (by omega)]; simp
    have hn2 : wrap64 ((pre.length : Int) + 1) = (pre.length : Int) + 1 := by rw [w64n (by omega)]; simp
    rw [hn, List.append_assoc, List.singleton_append] at ih
    have h1 : (pre.length : Int) < ((pre ++ v :: vs).length : Int) := by simp <;> omega
    have rv := rd_mid pre v vs
    have hv0 := h0 v (by simp)
    have key : ∀ b : Bool, b = impl_seen.p at_ own v → Ev (fun k => spec_l5Seen.j1 k (pre ++ v :: vs) (pre.length : Int) b at_ own v.f0 v.f1 v.f2 v.f3) (sidx (impl_seen.p at_ own) (pre.length : Int) (v :: vs)) := by
      intro b hb2
      subst hb2
      refine evSucc ?_
      simp only [spec_l5Seen.j1]
      refine evIte (fun h => evIte (fun h2 => evRet (by simp [sidx, h, h2])) (fun h2 => evRet (by simp [sidx, h, h2]))) (fun h => evEq ih ?_)
      rw [hn2]
      simp [sidx, h]
    refine evSucc ?_
    simp only [spec_l5Seen.l0, h1, Int.natCast_nonneg, if_true, rv]
    repeat' (refine evIte (fun _ => ?_) (fun _ => ?_))
    all_goals (refine key _ ?_; simp only [impl_seen.p]; grind)
theorem specSeenF (l : List S90) (at_ own : Int) (h0 : ∀ x ∈ l, 0 ≤ x.f1) (hb : l.length ≤ 1048576) : Ev (fun k => spec_l5Seen.f k l at_ own) (sidx (impl_seen.p at_ own) 0 l) := specSeen_l at_ own l [] h0 (by simpa using (by omega : l.length ≤ 8796093022208))
theorem cfL_all : ∀ (l : List S90) (p : Option S90), cfL p l = 0 → ∀ x ∈ l, okV x
  | [], _, _, x, hx => by simp at hx
  | v :: vs, p, h, x, hx => by
    unfold cfL at h
    by_cases ho : okV v
    · rw [if_pos ho] at h
      by_cases hb : badV p v
      · rw [if_pos hb] at h; exact absurd h (by decide)
      · rw [if_neg hb] at h
        rcases List.mem_cons.1 hx with rfl | hx
        · exact ho
        · exact cfL_all vs (some v) h x hx
    · rw [if_neg ho] at h; exact absurd h (by decide)
theorem cf_all {l : List S90} (h : cf l = 0) : ∀ x ∈ l, okV x := by
  unfold cf at h
  by_cases h12 : 12 < l.length
  · rw [if_pos h12] at h; exact absurd h (by decide)
  · rw [if_neg h12] at h; exact cfL_all l none h
theorem chain_all {m : List S87} (hR : RwOK m) {key : Int} (h0 : 0 ≤ key) (h1 : key ≤ 31) : ∀ x ∈ chainF m key, 0 ≤ x.f1 := by
  rcases row_or m key with ⟨n, hn, e⟩ | hno
  · rw [← e, chain_at hR hn]
    exact fun x hx => (cf_all (hR.ch n hn) x hx).2.2.1
  · rw [chain_none hR h0 h1 hno]; simp
def ro : Option S90 → Int × Bool
  | some x => if x.f2 = true then (0, false) else (x.f3, true)
  | none => (0, false)
theorem ro_none {o : Option S90} (h : sv o = (4, 0)) : ro o = (0, false) := by
  cases o with
  | none => rfl
  | some x => by_cases hx : x.f2 = true <;> simp [sv, ro, hx] at h ⊢
theorem ro_some {o : Option S90} {v : Int} (h : sv o = (0, v)) : ro o = (v, true) := by
  cases o with
  | none => simp [sv] at h
  | some x => by_cases hx : x.f2 = true <;> simp [sv, ro, hx] at h ⊢ <;> exact h
theorem sv_ro (o : Option S90) : sv o = if (ro o).2 = true then (0, (ro o).1) else (4, 0) := by
  cases o with
  | none => rfl
  | some x => by_cases hx : x.f2 = true <;> simp [sv, ro, hx]
theorem specRead {m : List S87} (hR : RwOK m) (hr : ∀ r ∈ m, r.f1.length ≤ 1048576) {key : Int} (h0 : 0 ≤ key) (h1 : key ≤ 31) (at_ own : Int) : Ev (fun k => spec_l6Read.f k m at_ own key) (ro ((chainF m key).find? (impl_seen.p at_ own))) := by
  unfold spec_l6Read.f
  have hlen := chain_len hR hr h0 h1
  have hall := chain_all hR h0 h1
  rcases row_or m key with ⟨n, hn, e⟩ | hno
  · obtain ⟨-, -, hi⟩ := row_at hR hn
    have hc := chain_at hR hn
    rw [e] at hi hc
    refine evIte (fun h2 => absurd h2 (by rw [hi]; omega)) (fun _ => ?_)
    simp only [hi, Int.toNat_natCast, ← hc]
    refine evCall (specSeenF _ at_ own hall hlen) ?_
    rcases sidx_find (impl_seen.p at_ own) (chainF m key) [] with ⟨g1, g2⟩ | ⟨i, g1, g2, g3⟩
    · have g1' : sidx (impl_seen.p at_ own) 0 (chainF m key) = -1 := g1
      rw [g1', ro_none g2]
      exact evIte (fun _ => evRet rfl) (fun h3 => absurd (by decide) h3)
    · have g1' : sidx (impl_seen.p at_ own) 0 (chainF m key) = (i : Int) := g1
      simp only [List.nil_append] at g2 g3
      have hlt : (i : Int) < ((chainF m key).length : Int) := by omega
      rw [g1', ro_some g3]
      refine evIte (fun h3 => absurd h3 (by omega)) (fun _ => evIte (fun _ => ?_) (fun h3 => absurd hlt h3))
      rw [rdV g2]
      exact evRet rfl
  · obtain ⟨-, hi⟩ := row_none hR h0 h1 hno
    have hc := chain_none hR h0 h1 hno
    rw [hc]
    exact evIte (fun _ => evRet rfl) (fun h2 => absurd hi (by omega))
end Go.Proofs.Ytonbnmaelepcbaa.Q
namespace Go.Proofs.Ytonbnmaelepcbaa.Q
open Go.RowKit Go.Proofs.Ytonbnmaelepcbaa.P Go.Proofs.YtonbnmaelepcbaaW.PrintWords Go.Proofs.YtonbnmaelepcbaaW.PrintLast Go.Proofs.YtonbnmaelepcbaaW.PrintMore Go.Proofs.Ytonbnmaelepcbaa.Lb
set_option linter.unusedVariables false
set_option linter.unusedSimpArgs false
def cellOf (p : S90 → Bool) (lo hi : Int) (r : S87) : List S105 := if (ro (r.f1.find? p)).2 = true then (if inB r.f0 lo hi = true then [⟨r.f0, (ro (r.f1.find? p)).1⟩] else []) else []
def scanF (p : S90 → Bool) (lo hi : Int) (m : List S87) : List S105 := m.flatMap (cellOf p lo hi)
theorem scanF_step (p : S90 → Bool) (lo hi : Int) (m : List S87) (i : Nat) (h : i < m.length) : scanF p lo hi (m.take (i + 1)) = scanF p lo hi (m.take i) ++ cellOf p lo hi m[i] := by
  unfold scanF
  rw [List.take_succ_eq_append_getElem h, List.flatMap_append]
  simp
theorem scanF_len (p : S90 → Bool) (lo hi : Int) (m : List S87) : (scanF p lo hi m).length ≤ m.length := by
  unfold scanF
  induction m with
  | nil => simp
  | cons x xs ih =>
    rw [List.flatMap_cons, List.length_append, List.length_cons]
    have : (cellOf p lo hi x).length ≤ 1 := by
      unfold cellOf
      by_cases h1 : (ro (x.f1.find? p)).2 = true
      · rw [if_pos h1]
        by_cases h2 : inB x.f0 lo hi = true
        · rw [if_pos h2]; simp
        · rw [if_neg h2]; simp
      · rw [if_neg h1]; simp
    omega
theorem specScan {m : List S87} (hR : RwOK m) (hm : m.length ≤ 1048576) (hr : ∀ r ∈ m, r.f1.length ≤ 1048576) (at_ own lo hi : Int) : Ev (fun k => spec_l6Scan.f k m at_ own lo hi) (scanF (impl_seen.p at_ own) lo hi m) := by
  unfold spec_l6Scan.f
  have := placesEv (L := fun k i => spec_l6Scan.l0 k m at_ own lo hi (i : Int) (scanF (impl_seen.p at_ own) lo hi (m.take i))) (r := scanF (impl_seen.p at_ own) lo hi m) m.length ?_ ?_ m.length 0 (by omega) (by omega)
  · simpa [scanF] using this
  · intro i h
    have h1 : (i : Int) < (m.length : Int) := by omega
    have hs := scanF_step (impl_seen.p at_ own) lo hi m i h
    have hk : (scanF (impl_seen.p at_ own) lo hi (m.take i)).length < 8796093022208 := by have := scanF_len (impl_seen.p at_ own) lo hi (m.take i); simp at this; omega
    have hg : m.getD i z87 = m[i] := getD_at h _
    have hkey := hR.key i h
    rw [hg] at hkey
    have hc := chain_at hR h
    rw [hg] at hc
    obtain ⟨K, hK⟩ := specRead hR hr hkey.1 hkey.2 at_ own
    refine ⟨K, fun k hkk => ?_⟩
    have hKk := hK k hkk
    simp only [hc] at hKk
    show spec_l6Scan.l0 (k + 1) _ _ _ _ _ _ _ = spec_l6Scan.l0 k _ _ _ _ _ _ _
    simp only [spec_l6Scan.l0, h1, Int.natCast_nonneg, if_true, rdRow h, hKk, Option.bind_some, w64n (show i < 9223372036854775807 by omega)]
    rw [hs]
    unfold cellOf
    by_cases h2 : (ro (m[i].f1.find? (impl_seen.p at_ own))).2 = true
    · rw [if_pos h2, if_pos h2]
      by_cases h3 : inB m[i].f0 lo hi = true
      · rw [if_pos h3, if_pos h3, if_pos hk]
      · rw [if_neg h3, if_neg h3, List.append_nil]
    · rw [if_neg h2, if_neg h2, List.append_nil]
  · refine evSucc ?_
    simp only [spec_l6Scan.l0, Int.lt_irrefl, if_false, List.take_length]
    exact evRet rfl
theorem implScan (a b : Int) (l : List S83) (m : List S87) (hm : m.length ≤ 1048576) (t0 t1 t2 t3 : Int) (t4 : List S96) (lo hi : Int) : Ev (fun k => impl_Engine_scan.f k a b l m t0 t1 t2 t3 t4 lo hi) (scanF (impl_seen.p t1 t0) lo hi m) := by
  unfold impl_Engine_scan.f
  have := placesEv (L := fun k i => impl_Engine_scan.l0 k lo hi (scanF (impl_seen.p t1 t0) lo hi (m.take i)) m (m.length : Int) (i : Int) t0 t1 t2 t3 t4) (r := scanF (impl_seen.p t1 t0) lo hi m) m.length ?_ ?_ m.length 0 (by omega) (by omega)
  · simpa [scanF] using this
  · intro i h
    refine ⟨0, fun k _ => ?_⟩
    have h1 : (i : Int) < (m.length : Int) := by omega
    have hs := scanF_step (impl_seen.p t1 t0) lo hi m i h
    have hk : (scanF (impl_seen.p t1 t0) lo hi (m.take i)).length < 8796093022208 := by have := scanF_len (impl_seen.p t1 t0) lo hi (m.take i); simp at this; omega
    have hv : impl_Txn_view.f t0 t1 t2 t3 t4 = some (t1, t0) := rfl
    have hw : impl_within.f m[i].f0 lo hi = some (inB m[i].f0 lo hi) := by
      rw [implIn]
      congr 1
      unfold inB
      by_cases q1 : lo ≤ m[i].f0 <;> by_cases q2 : m[i].f0 ≤ hi <;> simp [q1, q2]
    show impl_Engine_scan.l0 (k + 1) _ _ _ _ _ _ _ _ _ _ _ = impl_Engine_scan.l0 k _ _ _ _ _ _ _ _ _ _ _
    simp only [impl_Engine_scan.l0, h1, Int.natCast_nonneg, if_true, rdRow h, hv, implSV, hw, Option.bind_some, w64n (show i < 9223372036854775807 by omega)]
    rw [hs, sv_ro]
    unfold cellOf
    by_cases h2 : (ro (m[i].f1.find? (impl_seen.p t1 t0))).2 = true
    · rw [if_pos h2, if_pos h2, if_pos rfl]
      by_cases h3 : inB m[i].f0 lo hi = true
      · rw [if_pos h3, if_pos h3, if_pos hk]
      · rw [if_neg h3, if_neg h3, List.append_nil]
    · rw [if_neg h2, if_neg h2, List.append_nil, if_neg (by decide)]
  · refine evSucc ?_
    simp only [impl_Engine_scan.l0, Int.lt_irrefl, if_false, List.take_length]
    exact evRet rfl
end Go.Proofs.Ytonbnmaelepcbaa.Q
namespace Go.Proofs.Ytonbnmaelepcbaa.Q
open Go.RowKit Go.Proofs.Ytonbnmaelepcbaa.P Go.Proofs.YtonbnmaelepcbaaW.PrintWords Go.Proofs.YtonbnmaelepcbaaW.PrintLast Go.Proofs.YtonbnmaelepcbaaW.PrintMore Go.Proofs.Ytonbnmaelepcbaa.Lb
set_option linter.unusedVariables false
set_option linter.unusedSimpArgs false
def openF (l : List S83) : List Int := l.flatMap fun t => if t.f2 = 1 then [t.f0] else []
theorem open_step (l : List S83) (i : Nat) (h : i < l.length) : openF (l.take (i + 1)) = openF (l.take i) ++ (if l[i].f2 = 1 then [l[i].f0] else []) := by
  unfold openF
  rw [List.take_succ_eq_append_getElem h, List.flatMap_append]
  simp
theorem open_len (l : List S83) : (openF l).length ≤ l.length := by
  unfold openF
  induction l with
  | nil => simp
  | cons x xs ih =>
    rw [List.flatMap_cons, List.length_append, List.length_cons]
    by_cases h : x.f2 = 1
    · rw [if_pos h]; simp only [List.length_singleton]; omega
    · rw [if_neg h]; simp only [List.length_nil]; omega
theorem specOpen (a b : Int) (l : List S83) (m : List S87) (hb : l.length ≤ 1048576) : Ev (fun k => spec_OpenTxns.l0 k 0 a b l m 0 []) (0, openF l) := by
  have := placesEv (L := fun k i => spec_OpenTxns.l0 k (i : Int) a b l m 0 (openF (l.take i))) (r := ((0 : Int), openF l)) l.length ?_ ?_ l.length 0 (by omega) (by omega)
  · simpa [openF] using this
  · intro i h
    refine ⟨0, fun k _ => ?_⟩
    have h1 : (i : Int) < (l.length : Int) := by omega
    have hs := open_step l i h
    have hk : (openF (l.take i)).length < 17592186044416 := by have := open_len (l.take i); simp at this; omega
    show spec_OpenTxns.l0 (k + 1) _ _ _ _ _ _ _ = spec_OpenTxns.l0 k _ _ _ _ _ _ _
    simp only [spec_OpenTxns.l0, h1, Int.natCast_nonneg, if_true, rdTxn h, w64n (show i < 9223372036854775807 by omega), hk]
    rw [hs]
    by_cases h2 : l[i].f2 = 1
    · rw [if_pos h2, if_pos h2]
    · rw [if_neg h2, if_neg h2, List.append_nil]
  · refine evSucc ?_
    simp only [spec_OpenTxns.l0, Int.lt_irrefl, if_false, List.take_length]
    exact evRet rfl
theorem implOpen (a b : Int) (l : List S83) (m : List S87) (hb : l.length ≤ 1048576) : Ev (fun k => impl_Engine_open.f k a b l m) (openF l) := by
  unfold impl_Engine_open.f
  have := placesEv (L := fun k i => impl_Engine_open.l0 k (openF (l.take i)) l (l.length : Int) (i : Int)) (r := openF l) l.length ?_ ?_ l.length 0 (by omega) (by omega)
  · simpa [openF] using this
  · intro i h
    refine ⟨0, fun k _ => ?_⟩
    have h1 : (i : Int) < (l.length : Int) := by omega
    have hs := open_step l i h
    have hk : (openF (l.take i)).length < 17592186044416 := by have := open_len (l.take i); simp at this; omega
    show impl_Engine_open.l0 (k + 1) _ _ _ _ = impl_Engine_open.l0 k _ _ _ _
    simp only [impl_Engine_open.l0, h1, Int.natCast_nonneg, if_true, rdTxn h, w64n (show i < 9223372036854775807 by omega), hk]
    rw [hs]
    by_cases h2 : l[i].f2 = 1
    · rw [if_pos h2, if_pos h2]
    · rw [if_neg h2, if_neg h2, List.append_nil]
  · refine evSucc ?_
    simp only [impl_Engine_open.l0, Int.lt_irrefl, if_false, List.take_length]
    exact evRet rfl
def openOf (nx ck : Int) (l : List S83) (m : List S87) : Int × List Int := if faultF cf nx ck l m = 0 then (0, openF l) else (faultF cf nx ck l m, [])
theorem specOpenOf (nx ck : Int) (l : List S83) (m : List S87) (hl : l.length ≤ 1048576) (hr : ∀ r ∈ m, r.f1.length ≤ 1048576) : Ev (fun k => spec_OpenTxns.f k nx ck l m) (openOf nx ck l m) := by
  unfold spec_OpenTxns.f openOf
  refine evCall (specFault nx ck l m (fun r h => by have := hr r h; omega)) (evIte (fun h => ?_) (fun h => ?_))
  · rw [if_pos h]; exact specOpen nx ck l m hl
  · rw [if_neg h]; exact evRet rfl
end Go.Proofs.Ytonbnmaelepcbaa.Q
namespace Go.Proofs.Ytonbnmaelepcbaa.Q
open Go.RowKit Go.Proofs.Ytonbnmaelepcbaa.P Go.Proofs.YtonbnmaelepcbaaW.PrintWords Go.Proofs.YtonbnmaelepcbaaW.PrintLast Go.Proofs.YtonbnmaelepcbaaW.PrintMore Go.Proofs.Ytonbnmaelepcbaa.Lb
set_option linter.unusedVariables false
set_option linter.unusedSimpArgs false
/-- A loop that ends early where a test fails. -/
theorem allEv {F : Nat → Nat → Option Bool} {p : Nat → Bool} (n : Nat) (hs : ∀ i, i < n → p i = true → ∃ K, ∀ k, K ≤ k → F (k + 1) i = F k (i + 1)) (hf : ∀ i, i < n → p i = false → Ev (fun k => F k i) false) (he : Ev (fun k => F k n) true) :
    ∀ (d i : Nat), n - i = d → i ≤ n → ∀ r : Bool, (r = true ↔ ∀ j, i ≤ j → j < n → p j = true) → Ev (fun k => F k i) r
  | 0, i, hd, hi, r, hr => by
    obtain rfl : i = n := by omega
    rw [hr.2 (fun j h1 h2 => absurd h2 (by omega))]
    exact he
  | d + 1, i, hd, hi, r, hr => by
    have hlt : i < n := by omega
    cases hp : p i with
    | false =>
      have : r = false := by
        cases r with
        | false => rfl
        | true => have := hr.1 rfl i (Nat.le_refl _) hlt; rw [hp] at this; exact absurd this (by decide)
      rw [this]
      exact hf i hlt hp
    | true =>
      obtain ⟨K1, h1⟩ := hs i hlt hp
      obtain ⟨K2, h2⟩ := allEv n hs hf he d (i + 1) (by omega) (by omega) r (hr.trans ⟨fun h j a b => h j (by omega) b, fun h j a b => by
        by_cases e : j = i
        · rw [e]; exact hp
        · exact h j (by omega) b⟩)
      refine ⟨K1 + K2 + 1, fun k hk => ?_⟩
      obtain ⟨m, rfl⟩ : ∃ m, k = m + 1 := ⟨k - 1, by omega⟩
      exact (h1 m (by omega)).trans (h2 m (by omega))
theorem list_eq_iff {α : Type} {a b : List α} (h : a.length = b.length) : a = b ↔ ∀ j, 0 ≤ j → j < a.length → ∀ h1 : j < a.length, ∀ h2 : j < b.length, a[j] = b[j] := by
  constructor
  · rintro rfl j _ _ h1 h2; rfl
  · intro hh; exact List.ext_getElem h (fun j h1 h2 => hh j (by omega) h1 h1 h2)
/-- Equality of lists, told by a loop over the places. -/
theorem sameLoop {α : Type} [DecidableEq α] {F : Nat → Nat → Option Bool} (a b : List α) (hl : a.length = b.length) (z : α)
    (hs : ∀ i, i < a.length → a.getD i z = b.getD i z → ∃ K, ∀ k, K ≤ k → F (k + 1) i = F k (i + 1)) (hf : ∀ i, i < a.length → a.getD i z ≠ b.getD i z → Ev (fun k => F k i) false) (he : Ev (fun k => F k a.length) true) : Ev (fun k => F k 0) (decide (a = b)) := by
  refine allEv (p := fun i => decide (a.getD i z = b.getD i z)) a.length (fun i h hp => hs i h (by simpa using hp)) (fun i h hp => hf i h (by simpa using hp)) he a.length 0 (by omega) (by omega) _ ?_
  rw [decide_eq_true_iff, list_eq_iff hl]
  constructor
  · intro h j h0 h1; have := h j h0 h1 h1 (by omega); simp only [decide_eq_true_iff]; rw [getD_at h1, getD_at (by omega : j < b.length)]; exact this
  · intro h j h0 h1 h2 h3; have := h j h0 h1; simp only [decide_eq_true_iff] at this; rw [getD_at h2, getD_at h3] at this; exact this
theorem specSameI (a b : List Int) (ha : a.length ≤ 1048576) : Ev (fun k => spec_l7Same.f k a b) (decide (a = b)) := by
  unfold spec_l7Same.f
  refine evIte (fun h => ?_) (fun h => evRet (by symm; simp only [decide_eq_false_iff_not]; rintro rfl; exact h rfl))
  have hl : a.length = b.length := by omega
  refine sameLoop (F := fun k i => spec_l7Same.l0 k a b (i : Int)) a b hl 0 ?_ ?_ ?_
  · intro i h e
    refine ⟨0, fun k _ => ?_⟩
    rw [getD_at h, getD_at (by omega : i < b.length)] at e
    show spec_l7Same.l0 (k + 1) _ _ _ = spec_l7Same.l0 k _ _ _
    simp only [spec_l7Same.l0, show (i : Int) < (a.length : Int) by omega, show (i : Int) < (b.length : Int) by omega, Int.natCast_nonneg, if_true, rdI h, rdI (by omega : i < b.length), e, w64n (show i < 9223372036854775807 by omega)]
  · intro i h e
    rw [getD_at h, getD_at (by omega : i < b.length)] at e
    refine evSucc ?_
    simp only [spec_l7Same.l0, show (i : Int) < (a.length : Int) by omega, show (i : Int) < (b.length : Int) by omega, Int.natCast_nonneg, if_true, rdI h, rdI (by omega : i < b.length), if_neg e]
    exact evRet rfl
  · refine evSucc ?_
    simp only [spec_l7Same.l0, Int.lt_irrefl, if_false]
    exact evRet rfl
theorem implSameI (a b : List Int) (ha : a.length ≤ 1048576) : Ev (fun k => slices_Equal_int64.f k a b) (decide (a = b)) := by
  unfold slices_Equal_int64.f
  refine evIte (fun h => ?_) (fun h => evRet (by symm; simp only [decide_eq_false_iff_not]; rintro rfl; exact h rfl))
  have hl : a.length = b.length := by omega
  refine sameLoop (F := fun k i => slices_Equal_int64.l0 k a b (a.length : Int) (i : Int)) a b hl 0 ?_ ?_ ?_
  · intro i h e
    refine ⟨0, fun k _ => ?_⟩
    rw [getD_at h, getD_at (by omega : i < b.length)] at e
    show slices_Equal_int64.l0 (k + 1) _ _ _ _ = slices_Equal_int64.l0 k _ _ _ _
    simp only [slices_Equal_int64.l0, show (i : Int) < (a.length : Int) by omega, show (i : Int) < (b.length : Int) by omega, Int.natCast_nonneg, if_true, rdI h, rdI (by omega : i < b.length), e, w64n (show i < 9223372036854775807 by omega)]
  · intro i h e
    rw [getD_at h, getD_at (by omega : i < b.length)] at e
    refine evSucc ?_
    simp only [slices_Equal_int64.l0, show (i : Int) < (a.length : Int) by omega, show (i : Int) < (b.length : Int) by omega, Int.natCast_nonneg, if_true, rdI h, rdI (by omega : i < b.length), if_neg e]
    exact evRet rfl
  · refine evSucc ?_
    simp only [slices_Equal_int64.l0, Int.lt_irrefl, if_false]
    exact evRet rfl
def zC : S105 := ⟨0, 0⟩
theorem cell_ne (x y : S105) : (!(x.f0 == y.f0) || (!(x.f1 == y.f1))) = true ↔ x ≠ y := by
  rcases x with ⟨a, b⟩; rcases y with ⟨c, d⟩
  simp only [ne_eq, S105.mk.injEq, Bool.or_eq_true, Bool.not_eq_true', beq_eq_false_iff_ne]
  by_cases h : a = c <;> by_cases h2 : b = d <;> simp [h, h2]
theorem cell_ne0 {x y : S105} (h : x = y) : (!(x.f0 == y.f0) || (!(x.f1 == y.f1))) ≠ true := fun h2 => (cell_ne x y).1 h2 h
noncomputable instance decC : DecidableEq S105 := fun _ _ => Classical.propDecidable _
theorem specSameC (a b : List S105) (ha : a.length ≤ 1048576) : Ev (fun k => spec_l7Cells.f k a b) (decide (a = b)) := by
  unfold spec_l7Cells.f
  refine evIte (fun h => ?_) (fun h => evRet (by symm; simp only [decide_eq_false_iff_not]; rintro rfl; exact h rfl))
  have hl : a.length = b.length := by omega
  refine sameLoop (F := fun k i => spec_l7Cells.l0 k a b (i : Int)) a b hl zC ?_ ?_ ?_
  · intro i h e
    refine ⟨0, fun k _ => ?_⟩
    rw [getD_at h, getD_at (by omega : i < b.length)] at e
    show spec_l7Cells.l0 (k + 1) _ _ _ = spec_l7Cells.l0 k _ _ _
    simp only [spec_l7Cells.l0, show (i : Int) < (a.length : Int) by omega, show (i : Int) < (b.length : Int) by omega, Int.natCast_nonneg, if_true, rdCell h, rdCell (by omega : i < b.length), w64n (show i < 9223372036854775807 by omega)]
    rw [if_neg (cell_ne0 e)]
  · intro i h e
    rw [getD_at h, getD_at (by omega : i < b.length)] at e
    refine evSucc ?_
    simp only [spec_l7Cells.l0, show (i : Int) < (a.length : Int) by omega, show (i : Int) < (b.length : Int) by omega, Int.natCast_nonneg, if_true, rdCell h, rdCell (by omega : i < b.length), if_pos ((cell_ne _ _).2 e)]
    exact evRet rfl
  · refine evSucc ?_
    simp only [spec_l7Cells.l0, Int.lt_irrefl, if_false]
    exact evRet rfl
theorem implSameC (a b : List S105) (ha : a.length ≤ 1048576) : Ev (fun k => slices_Equal_impl_Cell.f k a b) (decide (a = b)) := by
  unfold slices_Equal_impl_Cell.f
  refine evIte (fun h => ?_) (fun h => evRet (by symm; simp only [decide_eq_false_iff_not]; rintro rfl; exact h rfl))
  have hl : a.length = b.length := by omega
  refine sameLoop (F := fun k i => slices_Equal_impl_Cell.l0 k a b (a.length : Int) (i : Int)) a b hl zC ?_ ?_ ?_
  · intro i h e
    refine ⟨0, fun k _ => ?_⟩
    rw [getD_at h, getD_at (by omega : i < b.length)] at e
    show slices_Equal_impl_Cell.l0 (k + 1) _ _ _ _ = slices_Equal_impl_Cell.l0 k _ _ _ _
    simp only [slices_Equal_impl_Cell.l0, show (i : Int) < (a.length : Int) by omega, show (i : Int) < (b.length : Int) by omega, Int.natCast_nonneg, if_true, rdCell h, rdCell (by omega : i < b.length), w64n (show i < 9223372036854775807 by omega)]
    rw [if_neg (cell_ne0 e)]
  · intro i h e
    rw [getD_at h, getD_at (by omega : i < b.length)] at e
    refine evSucc ?_
    simp only [slices_Equal_impl_Cell.l0, show (i : Int) < (a.length : Int) by omega, show (i : Int) < (b.length : Int) by omega, Int.natCast_nonneg, if_true, rdCell h, rdCell (by omega : i < b.length), if_pos ((cell_ne _ _).2 e)]
    exact evRet rfl
  · refine evSucc ?_
    simp only [slices_Equal_impl_Cell.l0, Int.lt_irrefl, if_false]
    exact evRet rfl
/-- May one write behind a chain? -/
def mB (at_ own : Int) : List S90 → Bool
  | [] => true
  | x :: _ => if x.f1 = 0 then x.f0 == own else decide (x.f1 ≤ at_)
theorem specMB (l : List S90) (at_ own : Int) : spec_l5May.f l at_ own = some (mB at_ own l) := by
  unfold spec_l5May.f
  cases l with
  | nil => rfl
  | cons x xs =>
    have e : rd_T90 (x :: xs) 0 = x := rfl
    have hb : mB at_ own (x :: xs) = if x.f1 = 0 then x.f0 == own else decide (x.f1 ≤ at_) := rfl
    rw [if_neg (by first | (simp; done) | (simp; omega)), if_pos (by first | (simp; done) | (simp; omega)), e]
    rw [hb]
    split <;> rfl
theorem implMB (l : List S90) (at_ own : Int) (h0 : 0 ≤ at_) : impl_mayWrite.f l at_ own = some (if mB at_ own l = true then 0 else 9) := by
  unfold impl_mayWrite.f
  cases l with
  | nil => rfl
  | cons x xs =>
    have e : rd_T90 (x :: xs) 0 = x := rfl
    have hb : mB at_ own (x :: xs) = if x.f1 = 0 then x.f0 == own else decide (x.f1 ≤ at_) := rfl
    rw [if_pos (by first | (simp; done) | (simp; omega)), if_pos (by first | (simp; done) | (simp; omega)), e]
    rw [hb]
    by_cases h1 : x.f1 = 0
    · rw [if_pos h1, if_pos h1]
      by_cases h2 : x.f0 = own
      · rw [if_pos h2, if_neg (by omega), if_pos (by simpa using h2)]
      · rw [if_neg h2, if_neg (by simpa using h2)]
    · rw [if_neg h1, if_neg h1]
      by_cases h2 : x.f1 ≤ at_
      · rw [if_neg (by omega), if_pos (by simpa using h2)]
      · rw [if_pos (by omega), if_neg (by simpa using h2)]
def keysF (p : Int → Bool) (n : Nat) : List Int := (List.range n).flatMap fun (i : Nat) => if p (i : Int) = true then [(i : Int)] else []
theorem keysF_step (p : Int → Bool) (n : Nat) : keysF p (n + 1) = keysF p n ++ (if p (n : Int) = true then [(n : Int)] else []) := by
  unfold keysF
  rw [List.range_succ, List.flatMap_append]
  simp
theorem keysF_len (p : Int → Bool) : ∀ n, (keysF p n).length ≤ n
  | 0 => by simp [keysF]
  | n + 1 => by
    rw [keysF_step, List.length_append]
    have := keysF_len p n
    split
    · simp; omega
    · simp; omega
theorem keysF_mem (p : Int → Bool) (n i : Nat) : (i : Int) ∈ keysF p n ↔ i < n ∧ p (i : Int) = true := by
  unfold keysF
  simp only [List.mem_flatMap, List.mem_range]
  constructor
  · rintro ⟨j, hj, h⟩
    by_cases hp : p (j : Int) = true
    · rw [if_pos hp] at h
      have : (i : Int) = j := by simpa using h
      have : i = j := by omega
      subst this
      exact ⟨hj, hp⟩
    · rw [if_neg hp] at h; simp at h
  · rintro ⟨h1, h2⟩
    exact ⟨i, h1, by rw [if_pos h2]; simp⟩
theorem keysF_congr (p q : Int → Bool) : ∀ n : Nat, (∀ j, j < n → p (j : Int) = q (j : Int)) → keysF p n = keysF q n
  | 0, _ => rfl
  | n + 1, h => by rw [keysF_step, keysF_step, keysF_congr p q n (fun j hj => h j (by omega)), h n (by omega)]
theorem keysF_eq (p q : Int → Bool) (n : Nat) : keysF p n = keysF q n ↔ ∀ j, 0 ≤ j → j < n → p (j : Int) = q (j : Int) := by
  constructor
  · intro h j _ hj
    have h1 := keysF_mem p n j
    have h2 := keysF_mem q n j
    rw [h] at h1
    have := h1.symm.trans h2
    cases hp : p (j : Int) <;> cases hq : q (j : Int) <;> simp [hp, hq, hj] at this ⊢
  · intro h
    exact keysF_congr p q n (fun j hj => h j (by omega) hj)
def mayP (m : List S87) (at_ own key : Int) : Bool := mB at_ own (chainF m key)
theorem mayK_eq {m : List S87} (hR : RwOK m) {key : Int} (h0 : 0 ≤ key) (h1 : key ≤ 31) (at_ own : Int) : mayK m at_ own key = some (mayP m at_ own key) := by
  unfold mayK mayP
  rcases row_or m key with ⟨n, hn, e⟩ | h
  · subst e
    obtain ⟨-, -, hi⟩ := row_at hR hn
    rw [hi, if_neg (by omega), chain_at hR hn, Int.toNat_natCast, specMB]
  · obtain ⟨-, hi⟩ := row_none hR h0 h1 h
    rw [hi, if_pos (by decide), chain_none hR h0 h1 h]
    rfl
theorem specMay {m : List S87} (hR : RwOK m) (at_ own : Int) : Ev (fun k => spec_l7May.f k m at_ own) (keysF (mayP m at_ own) 32) := by
  unfold spec_l7May.f
  have := placesEv (L := fun k i => spec_l7May.l0 k m at_ own (i : Int) (keysF (mayP m at_ own) i)) (r := keysF (mayP m at_ own) 32) 32 ?_ ?_ 32 0 (by omega) (by omega)
  · simpa [keysF] using this
  · intro i h
    refine ⟨0, fun k _ => ?_⟩
    have hk : (keysF (mayP m at_ own) i).length < 8796093022208 := by have := keysF_len (mayP m at_ own) i; omega
    show spec_l7May.l0 (k + 1) _ _ _ _ _ = spec_l7May.l0 k _ _ _ _ _
    simp only [spec_l7May.l0, show (i : Int) ≤ 31 by omega, if_true, mayK_eq hR (by omega : (0 : Int) ≤ i) (by omega) at_ own, Option.bind_some, w64n (show i < 9223372036854775807 by omega), keysF_step]
    by_cases h2 : mayP m at_ own (i : Int) = true
    · rw [if_pos h2, if_pos h2, if_pos hk]
    · rw [if_neg h2, if_neg h2, List.append_nil]
  · refine evSucc ?_
    simp only [spec_l7May.l0, show ¬ (((32 : Nat) : Int) ≤ 31) by omega, if_false]
    exact evRet rfl
theorem implMay {m m' : List S87} (ta ia tb ib : Int) (h0 : 0 ≤ ta) (h1 : 0 ≤ tb) : Ev (fun k => impl_SameAnswers.l1 k m m' ta ia tb ib 0) (decide (keysF (mayP m ta ia) 32 = keysF (mayP m' tb ib) 32)) := by
  refine allEv (F := fun k i => impl_SameAnswers.l1 k m m' ta ia tb ib (i : Int)) (p := fun i => mayP m ta ia (i : Int) == mayP m' tb ib (i : Int)) 32 ?_ ?_ ?_ 32 0 (by omega) (by omega) _ ?_
  · intro i h hp
    refine ⟨0, fun k _ => ?_⟩
    have e : mayP m ta ia (i : Int) = mayP m' tb ib (i : Int) := by simpa using hp
    show impl_SameAnswers.l1 (k + 1) _ _ _ _ _ _ _ = impl_SameAnswers.l1 k _ _ _ _ _ _ _
    simp only [impl_SameAnswers.l1, show (i : Int) < 32 by omega, if_true, implMB _ _ _ h0, implMB _ _ _ h1, Option.bind_some, w64n (show i < 9223372036854775807 by omega)]
    rw [if_pos (by unfold mayP at e; rw [e])]
  · intro i h hp
    have e : mayP m ta ia (i : Int) ≠ mayP m' tb ib (i : Int) := by simpa using hp
    refine evSucc ?_
    simp only [impl_SameAnswers.l1, show (i : Int) < 32 by omega, if_true, implMB _ _ _ h0, implMB _ _ _ h1, Option.bind_some]
    have hne : (if mB ta ia (chainF m (i : Int)) = true then (0 : Int) else 9) ≠ (if mB tb ib (chainF m' (i : Int)) = true then 0 else 9) := by
      unfold mayP at e
      intro h2
      cases hp2 : mB ta ia (chainF m (i : Int)) <;> cases hq2 : mB tb ib (chainF m' (i : Int)) <;> rw [hp2, hq2] at h2 e <;> first | exact e rfl | simp at h2
    simp only [if_neg hne]
    exact evRet rfl
  · refine evSucc ?_
    simp only [impl_SameAnswers.l1, show ¬ (((32 : Nat) : Int) < 32) by omega, if_false]
    exact evRet rfl
  · rw [decide_eq_true_iff, keysF_eq]
    constructor
    · intro h j a b; simpa using h j a b
    · intro h j a b; simpa using h j a b
/-- What is open has a place. -/
theorem open_mem {l : List S83} {id : Int} (h : id ∈ openF l) : ∃ n, n < l.length ∧ (l.getD n z83).f0 = id ∧ (l.getD n z83).f2 = 1 := by
  unfold openF at h
  obtain ⟨t, ht, hi⟩ := List.mem_flatMap.1 h
  obtain ⟨n, hn, rfl⟩ := List.getElem_of_mem ht
  by_cases c : l[n].f2 = 1
  · rw [if_pos c] at hi
    exact ⟨n, hn, by rw [getD_at hn]; exact (by simpa using hi : id = l[n].f0).symm, by rw [getD_at hn]; exact c⟩
  · rw [if_neg c] at hi; simp at hi
theorem open_etx {nx : Int} {l : List S83} (hT : TxOK nx l) {id : Int} (h : id ∈ openF l) : etxF l id = 0 ∧ 0 ≤ idx (fun u : S83 => u.f0 == id) l ∧ 0 ≤ (l.getD (idx (fun u : S83 => u.f0 == id) l).toNat z83).f1 := by
  obtain ⟨n, hn, e, e2⟩ := open_mem h
  have hi : idx (fun u : S83 => u.f0 == id) l = n := idx_at _ z83 l n hn (by simpa using e) (fun j hj hp => by
    have hj2 : (l.getD j z83).f0 = id := by simpa using hp
    exact rises_inj (f := fun i => (l.getD i z83).f0) (n := l.length) hT.up j n hj hn (by rw [hj2, e]))
  refine ⟨?_, by rw [hi]; omega, by rw [hi, Int.toNat_natCast]; exact hT.at_ n hn⟩
  unfold etxF
  rw [hi, if_neg (by omega), Int.toNat_natCast, e2]
  rfl
def txOf (l : List S83) (id : Int) : S83 := l.getD (idx (fun u : S83 => u.f0 == id) l).toNat z83
noncomputable def oneF (l : List S83) (m : List S87) (l' : List S83) (m' : List S87) (id : Int) : Bool := decide (scanF (impl_seen.p (txOf l id).f1 (txOf l id).f0) 0 31 m = scanF (impl_seen.p (txOf l' id).f1 (txOf l' id).f0) 0 31 m') && decide (keysF (mayP m (txOf l id).f1 (txOf l id).f0) 32 = keysF (mayP m' (txOf l' id).f1 (txOf l' id).f0) 32)
theorem scan_len {p : S90 → Bool} {m : List S87} (hm : m.length ≤ 1048576) : (scanF p 0 31 m).length ≤ 1048576 := Nat.le_trans (scanF_len p 0 31 m) hm
theorem specOne {m m' : List S87} (hR : RwOK m) (hR' : RwOK m') (hm : m.length ≤ 1048576) (hm' : m'.length ≤ 1048576) (hr : ∀ r ∈ m, r.f1.length ≤ 1048576) (hr' : ∀ r ∈ m', r.f1.length ≤ 1048576) (ta ia tb ib : Int) : Ev (fun k => sameScan k m m' ta ia tb ib) (decide (scanF (impl_seen.p ta ia) 0 31 m = scanF (impl_seen.p tb ib) 0 31 m')) := by
  unfold sameScan
  exact evCall (specScan hR hm hr ta ia 0 31) (evCall (specScan hR' hm' hr' tb ib 0 31) (specSameC _ _ (scan_len hm)))
theorem specTwo {m m' : List S87} (hR : RwOK m) (hR' : RwOK m') (ta ia tb ib : Int) : Ev (fun k => sameMay k m m' ta ia tb ib) (decide (keysF (mayP m ta ia) 32 = keysF (mayP m' tb ib) 32)) := by
  unfold sameMay
  exact evCall (specMay hR ta ia) (evCall (specMay hR' tb ib) (specSameI _ _ (by have := keysF_len (mayP m ta ia) 32; omega)))
theorem implOne (a b a' b' : Int) (l l' : List S83) {m m' : List S87} (hm : m.length ≤ 1048576) (hm' : m'.length ≤ 1048576) (Y Z : S83) : Ev (fun k => implSameScan k a b l m a' b' l' m' Y Z) (decide (scanF (impl_seen.p Y.f1 Y.f0) 0 31 m = scanF (impl_seen.p Z.f1 Z.f0) 0 31 m')) := by
  unfold implSameScan
  exact evCall (implScan a b l m hm _ _ _ _ _ 0 31) (evCall (implScan a' b' l' m' hm' _ _ _ _ _ 0 31) (implSameC _ _ (scan_len hm)))
noncomputable def restF (l : List S83) (m : List S87) (l' : List S83) (m' : List S87) : Bool := (openF l).all (oneF l m l' m')
theorem rest_iff (l : List S83) (m : List S87) (l' : List S83) (m' : List S87) : restF l m l' m' = true ↔ ∀ j, 0 ≤ j → j < (openF l).length → oneF l m l' m' ((openF l).getD j 0) = true := by
  unfold restF
  rw [List.all_eq_true]
  constructor
  · intro h j _ hj; rw [getD_at hj]; exact h _ (List.getElem_mem hj)
  · intro h x hx; obtain ⟨n, hn, rfl⟩ := List.getElem_of_mem hx; have := h n (by omega) hn; rw [getD_at hn] at this; exact this
section
variable {nx nx' : Int} {l l' : List S83} {m m' : List S87} (hT : TxOK nx l) (hT' : TxOK nx' l') (hR : RwOK m) (hR' : RwOK m') (hl : l.length ≤ 1048576) (hm : m.length ≤ 1048576) (hm' : m'.length ≤ 1048576) (hr : ∀ r ∈ m, r.f1.length ≤ 1048576) (hr' : ∀ r ∈ m', r.f1.length ≤ 1048576) (ho : openF l = openF l')
include hT hT' hR hR' hl hm hm' hr hr' ho
theorem specRest : Ev (fun k => spec_SameAnswers.l0 k l m l' m' (openF l) 0) (restF l m l' m') := by
  refine allEv (F := fun k i => spec_SameAnswers.l0 k l m l' m' (openF l) (i : Int)) (p := fun i => oneF l m l' m' ((openF l).getD i 0)) (openF l).length ?_ ?_ ?_ (openF l).length 0 (by omega) (by omega) _ (rest_iff l m l' m')
  · intro i h hp
    have hn : (openF l).length ≤ 1048576 := Nat.le_trans (open_len l) hl
    obtain ⟨id, hid⟩ : ∃ x, (openF l)[i] = x := ⟨_, rfl⟩
    have hmem : id ∈ openF l := hid ▸ List.getElem_mem h
    obtain ⟨-, j0, -⟩ := open_etx hT hmem
    obtain ⟨-, j1, -⟩ := open_etx hT' (ho ▸ hmem)
    rw [getD_at h, hid] at hp
    obtain ⟨p1, p2⟩ := Bool.and_eq_true_iff.1 hp
    obtain ⟨K1, h1⟩ := specOne hR hR' hm hm' hr hr' (txOf l id).f1 (txOf l id).f0 (txOf l' id).f1 (txOf l' id).f0
    obtain ⟨K2, h2⟩ := specTwo hR hR' (txOf l id).f1 (txOf l id).f0 (txOf l' id).f1 (txOf l' id).f0
    rw [p1] at h1
    rw [p2] at h2
    refine ⟨K1 + K2, fun k hk => ?_⟩
    have e1 := h1 k (by omega)
    have e2 := h2 k (by omega)
    unfold txOf at e1 e2
    show spec_SameAnswers.l0 (k + 1) _ _ _ _ _ _ = spec_SameAnswers.l0 k _ _ _ _ _ _
    simp only [spec_SameAnswers.l0, show (i : Int) < ((openF l).length : Int) by omega, if_true, rdI h, hid, show ¬ (idx (fun u : S83 => u.f0 == id) l < 0 ∨ idx (fun u : S83 => u.f0 == id) l' < 0) by omega, if_false, e1, e2, Option.bind_some, w64n (show i < 9223372036854775807 by omega)]
  · intro i h hp
    obtain ⟨id, hid⟩ : ∃ x, (openF l)[i] = x := ⟨_, rfl⟩
    have hmem : id ∈ openF l := hid ▸ List.getElem_mem h
    obtain ⟨-, j0, -⟩ := open_etx hT hmem
    obtain ⟨-, j1, -⟩ := open_etx hT' (ho ▸ hmem)
    rw [getD_at h, hid] at hp
    refine evSucc ?_
    simp only [spec_SameAnswers.l0, show (i : Int) < ((openF l).length : Int) by omega, if_true, rdI h, hid, show ¬ (idx (fun u : S83 => u.f0 == id) l < 0 ∨ idx (fun u : S83 => u.f0 == id) l' < 0) by omega, if_false]
    refine evCall (specOne hR hR' hm hm' hr hr' _ _ _ _) (evIte (fun p1 => ?_) (fun _ => evRet rfl))
    refine evCall (specTwo hR hR' _ _ _ _) (evIte (fun p2 => ?_) (fun _ => evRet rfl))
    unfold oneF txOf at hp
    rw [p1, p2] at hp
    exact absurd hp (by decide)
  · refine evSucc ?_
    simp only [spec_SameAnswers.l0, Int.lt_irrefl, if_false]
    exact evRet rfl
end
section
variable {nx nx' : Int} {l l' : List S83} {m m' : List S87} (hT : TxOK nx l) (hT' : TxOK nx' l') (hl : l.length ≤ 1048576) (hm : m.length ≤ 1048576) (hm' : m'.length ≤ 1048576) (ho : openF l = openF l')
include hT hT' hl hm hm' ho
theorem implRest (a b a' b' : Int) : Ev (fun k => impl_SameAnswers.l0 k a b l m a' b' l' m' (openF l) 0) (restF l m l' m') := by
  refine allEv (F := fun k i => impl_SameAnswers.l0 k a b l m a' b' l' m' (openF l) (i : Int)) (p := fun i => oneF l m l' m' ((openF l).getD i 0)) (openF l).length ?_ ?_ ?_ (openF l).length 0 (by omega) (by omega) _ (rest_iff l m l' m')
  · intro i h hp
    have hn : (openF l).length ≤ 1048576 := Nat.le_trans (open_len l) hl
    obtain ⟨id, hid⟩ : ∃ x, (openF l)[i] = x := ⟨_, rfl⟩
    have hmem : id ∈ openF l := hid ▸ List.getElem_mem h
    obtain ⟨j0, -, t0⟩ := open_etx hT hmem
    obtain ⟨j1, -, t1⟩ := open_etx hT' (ho ▸ hmem)
    rw [getD_at h, hid] at hp
    obtain ⟨p1, p2⟩ := Bool.and_eq_true_iff.1 hp
    obtain ⟨K1, h1⟩ := implOne a b a' b' l l' hm hm' (txOf l id) (txOf l' id)
    obtain ⟨K2, h2⟩ := implMay (m := m) (m' := m') (txOf l id).f1 (txOf l id).f0 (txOf l' id).f1 (txOf l' id).f0 t0 t1
    rw [p1] at h1
    rw [p2] at h2
    refine ⟨K1 + K2, fun k hk => ?_⟩
    have e1 := h1 k (by omega)
    have e2 := h2 k (by omega)
    unfold txOf at e1 e2
    show impl_SameAnswers.l0 (k + 1) _ _ _ _ _ _ _ _ _ _ = impl_SameAnswers.l0 k _ _ _ _ _ _ _ _ _ _
    simp only [impl_SameAnswers.l0, show (i : Int) < ((openF l).length : Int) by omega, if_true, rdI h, hid, j0, j1, and_self, e1, e2, Option.bind_some, w64n (show i < 9223372036854775807 by omega)]
  · intro i h hp
    obtain ⟨id, hid⟩ : ∃ x, (openF l)[i] = x := ⟨_, rfl⟩
    have hmem : id ∈ openF l := hid ▸ List.getElem_mem h
    obtain ⟨j0, -, t0⟩ := open_etx hT hmem
    obtain ⟨j1, -, t1⟩ := open_etx hT' (ho ▸ hmem)
    rw [getD_at h, hid] at hp
    refine evSucc ?_
    simp only [impl_SameAnswers.l0, show (i : Int) < ((openF l).length : Int) by omega, if_true, rdI h, hid, j0, j1, and_self]
    refine evCall (implOne a b a' b' l l' hm hm' _ _) (evIte (fun p1 => ?_) (fun _ => evRet rfl))
    refine evCall (implMay _ _ _ _ t0 t1) (evIte (fun p2 => ?_) (fun _ => evRet rfl))
    unfold oneF txOf at hp
    rw [p1, p2] at hp
    exact absurd hp (by decide)
  · refine evSucc ?_
    simp only [impl_SameAnswers.l0, Int.lt_irrefl, if_false]
    exact evRet rfl
end
noncomputable def sameOf (a b : Int) (l : List S83) (m : List S87) (a' b' : Int) (l' : List S83) (m' : List S87) : Bool := if faultF cf a b l m = 0 then (if faultF cf a' b' l' m' = 0 then (if b = b' then (if a = a' then (if openF l = openF l' then restF l m l' m' else false) else false) else false) else false) else false
theorem specSameOf (a b : Int) (l : List S83) (m : List S87) (a' b' : Int) (l' : List S83) (m' : List S87) (hl : l.length ≤ 1048576) (hl' : l'.length ≤ 1048576) (hm : m.length ≤ 1048576) (hm' : m'.length ≤ 1048576) (hr : ∀ r ∈ m, r.f1.length ≤ 1048576) (hr' : ∀ r ∈ m', r.f1.length ≤ 1048576) : Ev (fun k => spec_SameAnswers.f k a b l m a' b' l' m') (sameOf a b l m a' b' l' m') := by
  unfold spec_SameAnswers.f sameOf
  refine evCall (specFault a b l m (fun r h => by have := hr r h; omega)) (evIte (fun h => ?_) (fun h => evRet (by rw [if_neg h])))
  rw [if_pos h]
  refine evCall (specFault a' b' l' m' (fun r h => by have := hr' r h; omega)) (evIte (fun h2 => ?_) (fun h2 => evRet (by rw [if_neg h2])))
  rw [if_pos h2]
  refine evIte (fun h3 => ?_) (fun h3 => evRet (by rw [if_neg h3]))
  rw [if_pos h3]
  refine evIte (fun h4 => ?_) (fun h4 => evRet (by rw [if_neg h4]))
  rw [if_pos h4]
  have o1 : openOf a b l m = (0, openF l) := by unfold openOf; rw [if_pos h]
  have o2 : openOf a' b' l' m' = (0, openF l') := by unfold openOf; rw [if_pos h2]
  obtain ⟨-, -, -, -, hT, hR⟩ := fault_ok h
  obtain ⟨-, -, -, -, hT', hR'⟩ := fault_ok h2
  refine evCall (o1 ▸ specOpenOf a b l m hl hr) (evCall (o2 ▸ specOpenOf a' b' l' m' hl' hr') (evCall (specSameI _ _ (Nat.le_trans (open_len l) hl)) (evIte (fun h5 => ?_) (fun h5 => evRet ?_))))
  · have ho : openF l = openF l' := by simpa using h5
    rw [if_pos ho]
    exact specRest hT hT' hR hR' hl hm hm' hr hr' ho
  · rw [if_neg (by simpa using h5)]
theorem implSameOf (a b : Int) (l : List S83) (m : List S87) (a' b' : Int) (l' : List S83) (m' : List S87) (hl : l.length ≤ 1048576) (hl' : l'.length ≤ 1048576) (hm : m.length ≤ 1048576) (hm' : m'.length ≤ 1048576) (ht : ∀ t ∈ l, t.f4.length ≤ 1048576) (ht' : ∀ t ∈ l', t.f4.length ≤ 1048576) (hr : ∀ r ∈ m, r.f1.length ≤ 1048576) (hr' : ∀ r ∈ m', r.f1.length ≤ 1048576) : Ev (fun k => impl_SameAnswers.f k a b l m a' b' l' m') (sameOf a b l m a' b' l' m') := by
  unfold impl_SameAnswers.f sameOf
  refine evCall (implEF a b l m ht hr) (evIte (fun h => ?_) (fun h => evRet (by rw [if_neg h])))
  rw [if_pos h]
  refine evCall (implEF a' b' l' m' ht' hr') (evIte (fun h2 => ?_) (fun h2 => evRet (by rw [if_neg h2])))
  rw [if_pos h2]
  refine evIte (fun h3 => ?_) (fun h3 => evRet (by rw [if_neg h3]))
  rw [if_pos h3]
  refine evIte (fun h4 => ?_) (fun h4 => evRet (by rw [if_neg h4]))
  rw [if_pos h4]
  obtain ⟨-, -, -, -, hT, hR⟩ := fault_ok h
  obtain ⟨-, -, -, -, hT', hR'⟩ := fault_ok h2
  refine evCall (implOpen a b l m hl) (evCall (implOpen a' b' l' m' hl') (evCall (implSameI _ _ (Nat.le_trans (open_len l) hl)) (evIte (fun h5 => ?_) (fun h5 => evRet ?_))))
  · have ho : openF l = openF l' := by simpa using h5
    rw [if_pos ho]
    exact implRest hT hT' hl hm hm' ho a b a' b'
  · rw [if_neg (by simpa using h5)]
end Go.Proofs.Ytonbnmaelepcbaa.Q
