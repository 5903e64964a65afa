/- Disks: their faults, copies, comparisons and sizes: what both sides come to. -/
import Derived.Test.YtpkpicahbeiocaaLb
import Derived.Test.YtpkpicahbeiocaaQf
import Derived.Test.YtpkpicahbeiocaaQt
import Derived.Test.YtpkpicahbeiocaaQr
import Derived.Test.YtpkpicahbeiocaaP0
import Derived.Test.YtpkpicahbeiocaaPD0
namespace Go.Proofs.Ytpkpicahbeiocaa.Q
open Go.RowKit Go.Proofs.Ytpkpicahbeiocaa.P Go.Proofs.YtpkpicahbeiocaaW.PrintWords Go.Proofs.YtpkpicahbeiocaaW.PrintLast Go.Proofs.YtpkpicahbeiocaaW.PrintMore Go.Proofs.Ytpkpicahbeiocaa.Lb
set_option linter.unusedVariables false
set_option linter.unusedSimpArgs false
theorem rdL {xs : List (List Int)} {i : Nat} (h : i < xs.length) : rd_L5 xs (i : Int) = xs[i] := by
  unfold rd_L5
  rw [Int.toNat_natCast]
  exact getD_at h _
theorem rdL_mid (pre : List (List Int)) (v : List Int) (vs : List (List Int)) : rd_L5 (pre ++ v :: vs) (pre.length : Int) = v := by rw [rdL (by simp)]; simp
theorem rdLoose {xs : List S117} {i : Nat} (h : i < xs.length) : rd_T117 xs (i : Int) = xs[i] := by
  unfold rd_T117
  rw [Int.toNat_natCast]
  exact getD_at h _
theorem rdLoose_mid (pre : List S117) (v : S117) (vs : List S117) : rd_T117 (pre ++ v :: vs) (pre.length : Int) = v := by rw [rdLoose (by simp)]; simp
theorem rdLoosel {xs : List S137} {i : Nat} (h : i < xs.length) : rd_T137 xs (i : Int) = xs[i] := by
  unfold rd_T137
  rw [Int.toNat_natCast]
  exact getD_at h _
theorem rdLoosel_mid (pre : List S137) (v : S137) (vs : List S137) : rd_T137 (pre ++ v :: vs) (pre.length : Int) = v := by rw [rdLoosel (by simp)]; simp
/-- Sizes: what is left of n, or -1. -/
def szs (n : Int) : List Nat → Int
  | [] => n
  | x :: xs => if n < (x : Int) then -1 else szs (n - x) xs
theorem szs_le : ∀ (l : List Nat) (n : Int), szs n l ≤ n ∨ szs n l = -1
  | [], n => .inl (Int.le_refl _)
  | x :: xs, n => by
    simp only [szs]
    split
    · exact .inr rfl
    · rcases szs_le xs (n - x) with h | h
      · exact .inl (by omega)
      · exact .inr h
theorem szs_all : ∀ (l : List Nat) (n : Int), ¬ szs n l < 0 → ∀ x ∈ l, (x : Int) ≤ n
  | [], n, _, x, hx => by simp at hx
  | y :: ys, n, h, x, hx => by
    simp only [szs] at h
    by_cases hy : n < (y : Int)
    · rw [if_pos hy] at h; omega
    · rw [if_neg hy] at h
      rcases List.mem_cons.1 hx with rfl | hx
      · omega
      · have := szs_all ys (n - y) h x hx; omega
theorem szByteSS_l : ∀ (rest pre : List (List Int)) (n : Int), 0 ≤ n → n ≤ 1099511627776 → (pre ++ rest).length ≤ 1099511627776 → (∀ x ∈ rest, x.length ≤ 9223372036854775807) → Ev (fun k => laws_szByteSS.l0 k (pre ++ rest) n (pre.length : Int)) (szs n (rest.map List.length))
  | [], pre, n, h0, h1, hb, hm => by
    refine evSucc ?_
    simp only [laws_szByteSS.l0, List.append_nil, Int.lt_irrefl, if_false]
    exact evRet rfl
  | v :: vs, pre, n, h0, h1, hb, hm => by
    have hlt : (pre.length : Int) < ((pre ++ v :: vs).length : Int) := by simp <;> omega
    have hn : (((pre ++ [v]).length : Nat) : Int) = wrap64 ((pre.length : Int) + 1) := by rw [w64n (by simp at hb; omega)]; simp
    refine evSucc ?_
    simp only [laws_szByteSS.l0, hlt, Int.natCast_nonneg, if_true, rdL_mid, szByteS v n h0 (by omega) (hm v (by simp)), Option.bind_some]
    by_cases h : n < (v.length : Int)
    · simp only [h, if_true, List.map_cons, szs]
      exact evIte (fun _ => evRet rfl) (fun h => absurd (by omega) h)
    · simp only [h, if_false, List.map_cons, szs]
      have ih := szByteSS_l vs (pre ++ [v]) (n - v.length) (by omega) (by omega) (by simpa using hb) (fun x hx => hm x (by simp [hx]))
      rw [List.append_assoc, List.singleton_append, hn] at ih
      exact evIte (fun h => absurd h (by omega)) (fun _ => ih)
theorem szLooseS_l : ∀ (rest pre : List S137) (n : Int), 0 ≤ n → n ≤ 1099511627776 → (pre ++ rest).length ≤ 1099511627776 → (∀ x ∈ rest, x.f2.length ≤ 9223372036854775807) → Ev (fun k => laws_szLooseS.l0 k (pre ++ rest) n (pre.length : Int)) (szs n (rest.map fun v => v.f2.length))
  | [], pre, n, h0, h1, hb, hm => by
    refine evSucc ?_
    simp only [laws_szLooseS.l0, List.append_nil, Int.lt_irrefl, if_false]
    exact evRet rfl
  | v :: vs, pre, n, h0, h1, hb, hm => by
    have hlt : (pre.length : Int) < ((pre ++ v :: vs).length : Int) := by simp <;> omega
    have hn : (((pre ++ [v]).length : Nat) : Int) = wrap64 ((pre.length : Int) + 1) := by rw [w64n (by simp at hb; omega)]; simp
    refine evSucc ?_
    simp only [laws_szLooseS.l0, laws_szLoose.f, hlt, Int.natCast_nonneg, if_true, rdLoosel_mid, szByteS v.f2 n h0 (by omega) (hm v (by simp)), Option.bind_some]
    by_cases h : n < (v.f2.length : Int)
    · simp only [h, if_true, List.map_cons, szs]
      rw [if_pos (by omega)]
      exact evSeq rfl (evIte (fun _ => evRet rfl) (fun h => absurd (by omega) h))
    · simp only [h, if_false, List.map_cons, szs]
      have ih := szLooseS_l vs (pre ++ [v]) (n - v.f2.length) (by omega) (by omega) (by simpa using hb) (fun x hx => hm x (by simp [hx]))
      rw [List.append_assoc, List.singleton_append, hn] at ih
      rw [if_neg (show ¬ n - (v.f2.length : Int) < 0 by omega)]
      exact evSeq rfl (evIte (fun h => absurd h (by omega)) (fun _ => ih))
/-- What szDisk tells; where it is not below 0 all is short. -/
theorem szDisk (P : List (List Int)) (L : List S137) (hP : P.length ≤ 9223372036854775807) (hL : L.length ≤ 9223372036854775807) (hP2 : ∀ x ∈ P, x.length ≤ 9223372036854775807) (hL2 : ∀ x ∈ L, x.f2.length ≤ 9223372036854775807) :
    ∃ r : Int, Ev (fun k => laws_szDisk.f k P L 1048576) r ∧ (¬ r < 0 → P.length ≤ 1048576 ∧ L.length ≤ 1048576 ∧ (∀ x ∈ P, x.length ≤ 1048576) ∧ (∀ x ∈ L, x.f2.length ≤ 1048576)) := by
  have e1 : wrap64 (1048576 - (P.length : Int)) = 1048576 - (P.length : Int) := w64 (by omega) (by omega)
  by_cases h1 : (1048576 : Int) - (P.length : Int) < 0
  · refine ⟨-1, ?_, fun h => absurd (by omega) h⟩
    unfold laws_szDisk.f laws_szByteSS.f
    rw [e1]
    refine evCall (a := -1) (evIte (fun _ => evRet rfl) (fun h => absurd h1 h)) (evIte (fun _ => evRet rfl) (fun h => absurd (by omega) h))
  · have sP := szByteSS_l P [] (1048576 - (P.length : Int)) (by omega) (by omega) (by simp; omega) hP2
    have aP := szs_all (P.map List.length) (1048576 - (P.length : Int))
    have lP := szs_le (P.map List.length) (1048576 - (P.length : Int))
    generalize szs (1048576 - (P.length : Int)) (P.map List.length) = m at sP aP lP
    have sP' : Ev (fun k => laws_szByteSS.f k P 1048576) m := by
      unfold laws_szByteSS.f
      rw [e1]
      exact evIte (fun h => absurd h h1) (fun _ => sP)
    by_cases h2 : m < 0
    · refine ⟨-1, ?_, fun h => absurd (by omega) h⟩
      unfold laws_szDisk.f
      exact evCall sP' (evIte (fun _ => evRet rfl) (fun h => absurd h2 h))
    · have e2 : wrap64 (m - (L.length : Int)) = m - (L.length : Int) := w64 (by omega) (by omega)
      by_cases h3 : m - (L.length : Int) < 0
      · refine ⟨-1, ?_, fun h => absurd (by omega) h⟩
        have sL1 : Ev (fun k => laws_szLooseS.f k L m) (-1) := by
          unfold laws_szLooseS.f
          rw [e2]
          exact evIte (fun _ => evRet rfl) (fun h => absurd h3 h)
        unfold laws_szDisk.f
        exact evCall sP' (evIte (fun h => absurd h h2) (fun _ => evCall sL1 (evIte (fun _ => evRet rfl) (fun h => absurd (by omega) h))))
      · have sL := szLooseS_l L [] (m - (L.length : Int)) (by omega) (by omega) (by simp; omega) hL2
        have aL := szs_all (L.map fun v => v.f2.length) (m - (L.length : Int))
        generalize szs (m - (L.length : Int)) (L.map fun v => v.f2.length) = q at sL aL
        have sL' : Ev (fun k => laws_szLooseS.f k L m) q := by
          unfold laws_szLooseS.f
          rw [e2]
          exact evIte (fun h => absurd h h3) (fun _ => sL)
        by_cases h4 : q < 0
        · refine ⟨-1, ?_, fun h => absurd (by omega) h⟩
          unfold laws_szDisk.f
          exact evCall sP' (evIte (fun h => absurd h h2) (fun _ => evCall sL' (evIte (fun _ => evRet rfl) (fun h => absurd h4 h))))
        · refine ⟨q, ?_, fun _ => ⟨by omega, by omega, ?_, ?_⟩⟩
          · unfold laws_szDisk.f
            exact evCall sP' (evIte (fun h => absurd h h2) (fun _ => evCall sL' (evIte (fun h => absurd h h4) (fun _ => evRet rfl))))
          · intro x hx
            have := aP h2 x.length (List.mem_map.2 ⟨x, hx, rfl⟩)
            omega
          · intro x hx
            have := aL h4 x.f2.length (List.mem_map.2 ⟨x, hx, rfl⟩)
            omega
theorem toByteSS (P : List (List Int)) (hP : P.length ≤ 1048576) (hP2 : ∀ x ∈ P, x.length ≤ 1048576) : Ev (fun k => laws_toByteSS.f k P) P := by
  unfold laws_toByteSS.f
  refine evIte (fun _ => evIte (fun _ => ?_) (fun h => absurd (by simp; omega) h)) (fun h => absurd (by omega) h)
  rw [Int.toNat_natCast]
  refine evEq (mapLoopE (L := fun k ys i => laws_toByteSS.l0 k P ys i) (fun x => x) [] P ?_ ?_) (List.map_id' P)
  · intro ys i h r hl hr
    have h1 : (i : Int) < (P.length : Int) := by omega
    have h2 : (i : Int) < (ys.length : Int) := by omega
    refine evSucc ?_
    simp only [laws_toByteSS.l0, h1, h2, Int.natCast_nonneg, if_true, Int.toNat_natCast, rdL h, w64n (show i < 9223372036854775807 by omega)]
    exact evCall (toByteS P[i] (by have := hP2 _ (List.getElem_mem h); omega)) hr
  · intro ys
    refine evSucc ?_
    simp only [laws_toByteSS.l0, Int.lt_irrefl, if_false]
    exact evRet rfl
def cvLoose (v : S137) : S117 := ⟨v.f0, v.f1, v.f2⟩
theorem toLooseS (L : List S137) (hP : L.length ≤ 1048576) (hP2 : ∀ x ∈ L, x.f2.length ≤ 1048576) : Ev (fun k => laws_toLooseS.f k L) (L.map cvLoose) := by
  unfold laws_toLooseS.f
  refine evIte (fun _ => evIte (fun _ => ?_) (fun h => absurd (by simp; omega) h)) (fun h => absurd (by omega) h)
  rw [Int.toNat_natCast]
  refine mapLoopE (L := fun k ys i => laws_toLooseS.l0 k L ys i) cvLoose z117 L ?_ ?_
  · intro ys i h r hl hr
    have h1 : (i : Int) < (L.length : Int) := by omega
    have h2 : (i : Int) < (ys.length : Int) := by omega
    refine evSucc ?_
    simp only [laws_toLooseS.l0, laws_toLoose.f, h1, h2, Int.natCast_nonneg, if_true, Int.toNat_natCast, rdLoosel h, w64n (show i < 9223372036854775807 by omega)]
    exact evCall (evCall (toByteS L[i].f2 (by have := hP2 _ (List.getElem_mem h); omega)) (evRet rfl)) hr
  · intro ys
    refine evSucc ?_
    simp only [laws_toLooseS.l0, Int.lt_irrefl, if_false]
    exact evRet rfl
theorem toDisk (P : List (List Int)) (L : List S137) (h1 : P.length ≤ 1048576) (h2 : ∀ x ∈ P, x.length ≤ 1048576) (h3 : L.length ≤ 1048576) (h4 : ∀ x ∈ L, x.f2.length ≤ 1048576) : Ev (fun k => laws_toDisk.f k P L) (P, L.map cvLoose) := by
  unfold laws_toDisk.f
  exact evCall (toByteSS P h1 h2) (evCall (toLooseS L h3 h4) (evRet rfl))
theorem eqByteSS (P : List (List Int)) (h1 : P.length ≤ 1048576) (h2 : ∀ x ∈ P, x.length ≤ 1048576) : Ev (fun k => laws_eqByteSS.f k P P) true := by
  unfold laws_eqByteSS.f
  simp only [if_true]
  refine allLoopE (L := fun k i => laws_eqByteSS.l0 k P P i) P.length ?_ ?_
  · intro i h hr
    have h1 : (i : Int) < (P.length : Int) := by omega
    refine evSucc ?_
    simp only [laws_eqByteSS.l0, h1, Int.natCast_nonneg, if_true, rdL h, w64n (show i < 9223372036854775807 by omega)]
    exact evCall (eqByteS P[i] (by have := h2 _ (List.getElem_mem h); omega)) (evIte (fun _ => hr) (fun h => absurd rfl h))
  · refine evSucc ?_
    simp only [laws_eqByteSS.l0, Int.lt_irrefl, if_false]
    exact evRet rfl
theorem eqLooseS (L : List S117) (h1 : L.length ≤ 1048576) (h2 : ∀ x ∈ L, x.f2.length ≤ 1048576) : Ev (fun k => laws_eqLooseS.f k L L) true := by
  unfold laws_eqLooseS.f
  simp only [if_true]
  refine allLoopE (L := fun k i => laws_eqLooseS.l0 k L L i) L.length ?_ ?_
  · intro i h hr
    have h1 : (i : Int) < (L.length : Int) := by omega
    refine evSucc ?_
    simp only [laws_eqLooseS.l0, laws_eqLoose.f, h1, Int.natCast_nonneg, if_true, rdLoose h, w64n (show i < 9223372036854775807 by omega)]
    exact evCall (evCall (eqByteS L[i].f2 (by have := h2 _ (List.getElem_mem h); omega)) (evIte (fun _ => evRet rfl) (fun h => absurd rfl h))) (evIte (fun _ => hr) (fun h => absurd rfl h))
  · refine evSucc ?_
    simp only [laws_eqLooseS.l0, Int.lt_irrefl, if_false]
    exact evRet rfl
theorem eqDisk (P : List (List Int)) (L : List S117) (h1 : P.length ≤ 1048576) (h2 : ∀ x ∈ P, x.length ≤ 1048576) (h3 : L.length ≤ 1048576) (h4 : ∀ x ∈ L, x.f2.length ≤ 1048576) : Ev (fun k => laws_eqDisk.f k P L P L) true := by
  unfold laws_eqDisk.f
  exact evCall (eqByteSS P h1 h2) (evIte (fun _ => evCall (eqLooseS L h3 h4) (evIte (fun _ => evRet rfl) (fun h => absurd rfl h))) (fun h => absurd rfl h))
/-- The first fault of what is loose. -/
def lf (n : Int) : List S117 → Int
  | [] => 0
  | v :: vs => if (0 ≤ v.f0 ∧ v.f0 ≤ n - 1) ∧ 0 ≤ v.f1 ∧ v.f1 ≤ 2 then (if (v.f2.length : Int) = 16 then lf n vs else 1) else 3
def df (P : List (List Int)) (L : List S117) : Int := if (P.length : Int) < 1 ∨ (P.length : Int) > 8 ∨ P.any impl_DiskFault_1_any.p = true then 1 else if (L.length : Int) > 60 then 2 else lf P.length L
theorem specLF (P : List (List Int)) (hP : P.length ≤ 1048576) : ∀ (rest pre : List S117), (pre ++ rest).length ≤ 1048576 → Ev (fun k => spec_DiskFault.l1 k (pre.length : Int) P (pre ++ rest)) (lf P.length rest)
  | [], pre, hb => by
    refine evSucc ?_
    simp only [spec_DiskFault.l1, List.append_nil, Int.lt_irrefl, if_false]
    exact evRet rfl
  | v :: vs, pre, hb => by
    have ih := specLF P hP vs (pre ++ [v]) (by simpa using hb)
    have h1 : (pre.length : Int) < ((pre ++ v :: vs).length : Int) := by simp <;> omega
    have hn : (((pre ++ [v]).length : Nat) : Int) = wrap64 ((pre.length : Int) + 1) := by rw [w64n (by simp at hb; omega)]; simp
    have ew : wrap64 ((P.length : Int) - 1) = (P.length : Int) - 1 := w64 (by omega) (by omega)
    rw [List.append_assoc, List.singleton_append, hn] at ih
    have key : ∀ b : Bool, (b = true ↔ ¬ ((0 ≤ v.f0 ∧ v.f0 ≤ (P.length : Int) - 1) ∧ 0 ≤ v.f1 ∧ v.f1 ≤ 2)) → Ev (fun k => spec_DiskFault.j3 k (pre.length : Int) b P (pre ++ v :: vs)) (lf P.length (v :: vs)) := by
      intro b hb2
      refine evSucc ?_
      simp only [spec_DiskFault.j3, h1, Int.natCast_nonneg, if_true, rdLoose_mid, lf]
      refine evIte (fun h => evRet (by rw [if_neg (hb2.1 h)])) (fun h => ?_)
      have hok : (0 ≤ v.f0 ∧ v.f0 ≤ (P.length : Int) - 1) ∧ 0 ≤ v.f1 ∧ v.f1 ≤ 2 := Classical.not_not.1 (fun h2 => h (hb2.2 h2))
      rw [if_pos hok]
      exact evIte (fun h2 => by rw [if_pos h2]; exact ih) (fun h2 => evRet (by rw [if_neg h2]))
    refine evSucc ?_
    simp only [spec_DiskFault.l1, specIn, Option.bind_some, h1, Int.natCast_nonneg, if_true, rdLoose_mid, decide_eq_true_eq, ew]
    refine evIte (fun h2 => key _ ?_) (fun h2 => key _ ?_)
    · by_cases h3 : 0 ≤ v.f1 ∧ v.f1 ≤ 2 <;> simp [h2, h3]
    · simp [h2]
theorem specPG (P : List (List Int)) (L : List S117) (hP : P.length ≤ 1048576) (hL : L.length ≤ 1048576) : ∀ (rest pre : List (List Int)), pre ++ rest = P → Ev (fun k => spec_DiskFault.l0 k (pre.length : Int) P L) (if rest.any impl_DiskFault_1_any.p = true then 1 else if (L.length : Int) > 60 then 2 else lf P.length L)
  | [], pre, hb => by
    subst hb
    refine evSucc ?_
    simp only [spec_DiskFault.l0, List.append_nil, Int.lt_irrefl, if_false, List.any_nil, Bool.false_eq_true]
    refine evIte (fun h => evRet (by rw [if_pos h])) (fun h => ?_)
    rw [if_neg h]
    rw [List.append_nil] at hP
    exact specLF pre hP L [] hL
  | v :: vs, pre, hb => by
    have ih := specPG P L hP hL vs (pre ++ [v]) (by simpa using hb)
    subst hb
    have h1 : (pre.length : Int) < ((pre ++ v :: vs).length : Int) := by simp <;> omega
    have hn : (((pre ++ [v]).length : Nat) : Int) = wrap64 ((pre.length : Int) + 1) := by rw [w64n (by simp at hP; omega)]; simp
    rw [hn] at ih
    refine evSucc ?_
    simp only [spec_DiskFault.l0, h1, Int.natCast_nonneg, if_true, rdL_mid, List.any_cons]
    refine evIte (fun h => ?_) (fun h => evRet ?_)
    · have : impl_DiskFault_1_any.p v = false := by simp [impl_DiskFault_1_any.p, h]
      simp only [this, Bool.false_or]
      exact ih
    · have : impl_DiskFault_1_any.p v = true := by simpa [impl_DiskFault_1_any.p] using h
      simp [this]
theorem specDF (P : List (List Int)) (L : List S117) (hP : P.length ≤ 1048576) (hL : L.length ≤ 1048576) : Ev (fun k => spec_DiskFault.f k P L) (df P L) := by
  unfold spec_DiskFault.f df
  refine evIte (fun h => ?_) (fun h => ?_)
  · rw [if_pos (.inl h)]
    refine evSucc ?_
    simp only [spec_DiskFault.j0]
    exact evIte (fun _ => evRet rfl) (fun h => absurd trivial h)
  · refine evSucc ?_
    simp only [spec_DiskFault.j0, decide_eq_true_eq]
    refine evIte (fun h2 => evRet (by rw [if_pos (.inr (.inl h2))])) (fun h2 => ?_)
    refine evEq (specPG P L hP hL P [] rfl) ?_
    by_cases h3 : P.any impl_DiskFault_1_any.p = true
    · rw [if_pos h3, if_pos (.inr (.inr h3))]
    · rw [if_neg h3, if_neg (show ¬ ((P.length : Int) < 1 ∨ (P.length : Int) > 8 ∨ P.any impl_DiskFault_1_any.p = true) from fun h4 => h4.elim h (fun h5 => h5.elim h2 h3))]
theorem implLF (P : List (List Int)) (hP : P.length ≤ 1048576) (L : List S117) : ∀ (rest pre : List S117), (pre ++ rest).length ≤ 1048576 → Ev (fun k => impl_DiskFault.l0 k (pre ++ rest) ((pre ++ rest).length : Int) (pre.length : Int) P L) (lf P.length rest)
  | [], pre, hb => by
    refine evSucc ?_
    simp only [impl_DiskFault.l0, List.append_nil, Int.lt_irrefl, if_false]
    exact evRet rfl
  | v :: vs, pre, hb => by
    have ih := implLF P hP L vs (pre ++ [v]) (by simpa using hb)
    have h1 : (pre.length : Int) < ((pre ++ v :: vs).length : Int) := by simp <;> omega
    have hn : (((pre ++ [v]).length : Nat) : Int) = wrap64 ((pre.length : Int) + 1) := by rw [w64n (by simp at hb; omega)]; simp
    have ew : wrap64 ((P.length : Int) - 1) = (P.length : Int) - 1 := w64 (by omega) (by omega)
    rw [List.append_assoc, List.singleton_append, hn] at ih
    have key : ∀ b : Bool, (b = true ↔ ¬ ((0 ≤ v.f0 ∧ v.f0 ≤ (P.length : Int) - 1) ∧ 0 ≤ v.f1 ∧ v.f1 ≤ 2)) → Ev (fun k => impl_DiskFault.j2 k (pre ++ v :: vs) ((pre ++ v :: vs).length : Int) (pre.length : Int) b P L v.f0 v.f1 v.f2) (lf P.length (v :: vs)) := by
      intro b hb2
      refine evSucc ?_
      simp only [impl_DiskFault.j2, lf]
      refine evIte (fun h => evRet (by rw [if_neg (hb2.1 h)])) (fun h => ?_)
      have hok : (0 ≤ v.f0 ∧ v.f0 ≤ (P.length : Int) - 1) ∧ 0 ≤ v.f1 ∧ v.f1 ≤ 2 := Classical.not_not.1 (fun h2 => h (hb2.2 h2))
      rw [if_pos hok]
      exact evIte (fun h2 => by rw [if_pos h2]; exact ih) (fun h2 => evRet (by rw [if_neg h2]))
    refine evSucc ?_
    simp only [impl_DiskFault.l0, impl_Disk_hasPage.f, implIn, Option.bind_some, h1, Int.natCast_nonneg, if_true, rdLoose_mid, decide_eq_true_eq, ew]
    refine evIte (fun h2 => key _ ?_) (fun h2 => key _ ?_)
    · by_cases h3 : 0 ≤ v.f1 ∧ v.f1 ≤ 2 <;> simp [h2, h3]
    · simp [h2]
theorem implDF (P : List (List Int)) (L : List S117) (hP : P.length ≤ 1048576) (hL : L.length ≤ 1048576) : Ev (fun k => impl_DiskFault.f k P L) (df P L) := by
  have key : ∀ b : Bool, (b = true ↔ ((P.length : Int) < 1 ∨ (P.length : Int) > 8 ∨ P.any impl_DiskFault_1_any.p = true)) → Ev (fun k => impl_DiskFault.j0 k b P L) (df P L) := by
    intro b hb
    unfold df
    refine evSucc ?_
    simp only [impl_DiskFault.j0]
    refine evIte (fun h => evRet (by rw [if_pos (hb.1 h)])) (fun h => ?_)
    rw [if_neg (fun h2 => h (hb.2 h2))]
    refine evIte (fun h2 => evRet (by rw [if_pos h2])) (fun h2 => ?_)
    rw [if_neg h2]
    exact implLF P hP L L [] hL
  unfold impl_DiskFault.f
  refine evIte (fun h => key _ (by simp [h])) (fun h => evIte (fun h2 => key _ (by simp [h2])) (fun h2 => ?_))
  simp only [impl_DiskFault_1_any.f, Option.bind_some]
  exact key _ ⟨fun h3 => .inr (.inr h3), fun h3 => h3.elim (fun h4 => absurd h4 h) (fun h4 => h4.elim (fun h5 => absurd h5 h2) id)⟩
end Go.Proofs.Ytpkpicahbeiocaa.Q
