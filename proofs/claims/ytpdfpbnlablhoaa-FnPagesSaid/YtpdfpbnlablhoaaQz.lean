/- A page is read back from its bytes. -/
import Derived.Test.YtpdfpbnlablhoaaLb
import Derived.Test.YtpdfpbnlablhoaaQf
import Derived.Test.YtpdfpbnlablhoaaQsum
import Derived.Test.YtpdfpbnlablhoaaQg
import Derived.Test.YtpdfpbnlablhoaaQh
import Derived.Test.YtpdfpbnlablhoaaQk
import Derived.Test.YtpdfpbnlablhoaaQl
import Derived.Test.YtpdfpbnlablhoaaQn
import Derived.Test.YtpdfpbnlablhoaaP0
import Derived.Test.YtpdfpbnlablhoaaPD0
namespace Go.Proofs.Ytpdfpbnlablhoaa.Q
open Go.RowKit Go.Proofs.Ytpdfpbnlablhoaa.P Go.Proofs.YtpdfpbnlablhoaaW.PrintWords Go.Proofs.YtpdfpbnlablhoaaW.PrintLast Go.Proofs.YtpdfpbnlablhoaaW.PrintMore Go.Proofs.Ytpdfpbnlablhoaa.Lb
set_option linter.unusedVariables false
set_option linter.unusedSimpArgs false
theorem byteOf_at (n : Int) (j : Nat) : byteOf n j = n / 2 ^ (min (8 * j) 64) % 256 := by
  unfold byteOf shr
  rw [show (8 * (j : Int)).toNat = 8 * j by omega]
  rfl
theorem take_bytes1 {n : Int} (h : 0 ≤ n ∧ n < 256) : takeL (bytesN n 1) = n := by
  rw [bytes1]
  simp only [takeL, List.foldl_cons, List.foldl_nil, takeStep]
  omega
theorem take_bytes2 {n : Int} (h : 0 ≤ n ∧ n < 65536) : takeL (bytesN n 2) = n := by
  simp only [bytesN, takeL, List.foldl_cons, List.foldl_nil, takeStep, byteOf_at]
  rw [show (2 : Int) ^ (min (8 * 1) 64) = 256 from by decide, show (2 : Int) ^ (min (8 * 0) 64) = 1 from by decide]
  omega
theorem take_bytes4 {n : Int} (h : 0 ≤ n ∧ n < 4294967296) : takeL (bytesN n 4) = n := by
  simp only [bytesN, takeL, List.foldl_cons, List.foldl_nil, takeStep, byteOf_at]
  rw [show (2 : Int) ^ (min (8 * 3) 64) = 16777216 from by decide, show (2 : Int) ^ (min (8 * 2) 64) = 65536 from by decide, show (2 : Int) ^ (min (8 * 1) 64) = 256 from by decide, show (2 : Int) ^ (min (8 * 0) 64) = 1 from by decide]
  omega
theorem sum_range : ∀ (l : List Int) (h : Int), isB l → 0 ≤ h ∧ h < 65521 → 0 ≤ l.foldl sumStep h ∧ l.foldl sumStep h < 65521
  | [], h, _, hh => hh
  | b :: r, h, hB, hh => by
    have hb := hB b (by simp)
    refine sum_range r _ (fun x hx => hB x (by simp [hx])) ?_
    unfold sumStep
    rw [w64 (x := h * 269) (by omega) (by omega), w64 (x := b) (by omega) (by omega), w64 (x := h * 269 + b) (by omega) (by omega), w64 (by omega) (by omega), Int.tmod_eq_emod_of_nonneg (by omega)]
    omega
theorem cellsB_append : ∀ a b : List S49, cellsB (a ++ b) = cellsB a ++ cellsB b
  | [], b => rfl
  | x :: a, b => by
    rw [List.cons_append, cellsB, cellsB, cellsB_append a b, List.append_assoc]
theorem cellAt_mid {H T : List Int} (hH : H.length = 6) (pre : List S49) (v : S49) (hv : okC v) : cellAt (H ++ (cellsB pre ++ (cellB v ++ T))) pre.length = v := by
  have hl := cellsB_len pre
  unfold okC at hv
  have d1 : (H ++ (cellsB pre ++ (cellB v ++ T))).drop (6 + 3 * pre.length) = cellB v ++ T := by
    rw [← List.append_assoc, List.drop_append_of_le_length (by simp; omega), List.drop_of_length_le (by simp; omega), List.nil_append]
  have d2 : (H ++ (cellsB pre ++ (cellB v ++ T))).drop (7 + 3 * pre.length) = bytesN v.f1 2 ++ T := by
    rw [show 7 + 3 * pre.length = (6 + 3 * pre.length) + 1 by omega, ← List.drop_drop, d1]
    simp [cellB, bytes1]
  have t1 : (cellB v ++ T).take 1 = bytesN v.f0 1 := by simp [cellB, bytes1]
  have t2 : (bytesN v.f1 2 ++ T).take 2 = bytesN v.f1 2 := by
    rw [List.take_append_of_le_length (by rw [bytesN_len]; exact Nat.le_refl _), List.take_of_length_le (by rw [bytesN_len]; exact Nat.le_refl _)]
  unfold cellAt
  rw [d1, d2, t1, t2, take_bytes1 (by omega), take_bytes2 (by omega)]
theorem cellsU_pack {H T : List Int} (hH : H.length = 6) (C : List S49) (hC : ∀ v ∈ C, okC v) : cellsU (H ++ (cellsB C ++ T)) C.length = C := by
  have key : ∀ (rest pre : List S49), pre ++ rest = C → cellsU (H ++ (cellsB C ++ T)) pre.length = pre → cellsU (H ++ (cellsB C ++ T)) C.length = C := by
    intro rest
    induction rest with
    | nil => intro pre hp h; rw [← hp, List.append_nil] at *; exact h
    | cons v vs ih =>
      intro pre hp h
      refine ih (pre ++ [v]) (by rw [List.append_assoc]; exact hp) ?_
      rw [List.length_append, List.length_singleton, ← cellsU_succ, h]
      congr 1
      have hm := cellAt_mid (H := H) (T := cellsB vs ++ T) hH pre v (hC v (by rw [← hp]; simp))
      rw [← hp, cellsB_append]
      simp only [cellsB, List.append_assoc] at hm ⊢
      rw [hm]
  exact key C [] rfl rfl
theorem pf_parts {id lsn : Int} {C : List S49} (h : pf id lsn C = 0) : (0 ≤ id ∧ id ≤ 7) ∧ (0 ≤ lsn ∧ lsn ≤ 1000000) ∧ C.length ≤ 12 ∧ ∀ v ∈ C, okC v := by
  have h2 := pf_len h
  have h3 := h
  unfold pf at h3
  split at h3
  · rename_i q
    refine ⟨q.1, q.2, h2, ?_⟩
    rw [if_neg (by omega)] at h3
    have key : ∀ (l : List S49) (p : Option S49), cL p l = 0 → ∀ v ∈ l, okC v := by
      intro l
      induction l with
      | nil => intro p _ v hv; simp at hv
      | cons x xs ih =>
        intro p hp v hv
        by_cases hx : okC x
        · have hr : cL (some x) xs = 0 := by
            cases p with
            | none => simpa [cL, hx] using hp
            | some q =>
              rw [cL, if_pos hx] at hp
              split at hp
              · omega
              · exact hp
          rcases List.mem_cons.1 hv with rfl | hv
          · exact hx
          · exact ih (some x) hr v hv
        · exfalso
          cases p <;> simp [cL, hx] at hp
    exact key C none h3
  · omega
theorem unpk_pack {id lsn : Int} {C : List S49} (h : pf id lsn C = 0) : unpk (packB id lsn C) = (0, id, lsn, C) := by
  obtain ⟨hid, hlsn, hn, hok⟩ := pf_parts h
  have hb : (headB id lsn C.length ++ cellsB C).length ≤ 46 := by rw [List.length_append, headB_len, cellsB_len]; omega
  obtain ⟨P, hP⟩ : ∃ P, P = padB (headB id lsn C.length ++ cellsB C) := ⟨_, rfl⟩
  have lP : P.length = 46 := by rw [hP]; exact padB_len _ hb
  have ePack : packB id lsn C = P ++ bytesN (sumB P) 2 := by rw [hP]; rfl
  have hBP : isB P := by
    have := isB_pack id lsn C
    rw [ePack] at this
    exact fun x hx => this x (by simp [hx])
  have hsum := sum_range P 9 hBP (by omega)
  have len48 : (packB id lsn C).length = 48 := by rw [ePack, List.length_append, lP, bytesN_len]
  have d46 : (packB id lsn C).drop 46 = bytesN (sumB P) 2 := by rw [ePack, ← lP, List.drop_left]
  have t46 : (packB id lsn C).take 46 = P := by rw [ePack, ← lP, List.take_left]
  obtain ⟨T, hT⟩ : ∃ T, packB id lsn C = headB id lsn C.length ++ (cellsB C ++ T) := ⟨List.replicate (46 - (headB id lsn C.length ++ cellsB C).length) 0 ++ bytesN (sumB P) 2, by rw [ePack, hP]; simp [padB, List.append_assoc]⟩
  have hhead : headB id lsn C.length = [id % 256] ++ (bytesN lsn 4 ++ [(C.length : Int) % 256]) := by simp [headB, bytes1]
  have t1 : takeL ((packB id lsn C).take 1) = id := by
    rw [hT, hhead]
    simp only [List.append_assoc]
    rw [List.take_append_of_le_length (by simp), List.take_of_length_le (by simp)]
    simp only [takeL, List.foldl_cons, List.foldl_nil, takeStep]
    omega
  have l4 : (bytesN lsn 4).length = 4 := bytesN_len _ _
  have t4 : takeL (((packB id lsn C).drop 1).take 4) = lsn := by
    rw [hT, hhead, show [id % 256] ++ (bytesN lsn 4 ++ [(C.length : Int) % 256]) ++ (cellsB C ++ T) = (id % 256) :: (bytesN lsn 4 ++ ([(C.length : Int) % 256] ++ (cellsB C ++ T))) by simp, List.drop_succ_cons, List.drop_zero, List.take_left' l4]
    exact take_bytes4 (by omega)
  have r5 : rd (packB id lsn C) 5 = (C.length : Int) := by
    unfold rd
    rw [hT, hhead]
    have e : ([id % 256] ++ (bytesN lsn 4 ++ [(C.length : Int) % 256]) ++ (cellsB C ++ T)).getD (5 : Int).toNat 0 = (C.length : Int) % 256 := by
      rw [List.getD_eq_getElem?_getD, List.append_assoc, List.append_assoc, List.getElem?_append_right (by simp), List.getElem?_append_right (by rw [l4]; simp), l4]
      simp
    rw [e]
    omega
  have cnt : cntU (packB id lsn C) = C.length := by unfold cntU; rw [r5]; omega
  unfold unpk
  rw [if_pos len48, d46, t46, take_bytes2 (by unfold sumB; omega), if_pos rfl, t1, t4, cnt]
  have cu : cellsU (packB id lsn C) C.length = C := by rw [hT]; exact cellsU_pack (headB_len _ _ _) C hok
  rw [cu]
  unfold finU
  rw [if_pos h, if_pos rfl]
theorem lwC_l : ∀ (rest pre : List S49), (pre ++ rest).length ≤ 1000 → Ev (fun k => laws_lwCells.l0 k (pre ++ rest) (pre ++ rest) (pre.length : Int)) true
  | [], pre, hb => by
    refine evSucc ?_
    simp only [laws_lwCells.l0, List.append_nil, Int.lt_irrefl, if_false]
    exact evRet rfl
  | v :: vs, pre, hb => by
    have ih := lwC_l vs (pre ++ [v]) (by simpa using hb)
    have hn : (((pre ++ [v]).length : Nat) : Int) = wrap64 ((pre.length : Int) + 1) := by rw [w64n (by simp at hb; omega)]; simp
    rw [List.append_assoc, List.singleton_append, hn] at ih
    have h1 : (pre.length : Int) < ((pre ++ v :: vs).length : Int) := by simp <;> omega
    refine evSucc ?_
    simp only [laws_lwCells.l0, h1, Int.natCast_nonneg, if_true, rdCell_mid]
    exact evIte (fun h => absurd h (by simp)) (fun _ => ih)
theorem lwC (C : List S49) (hb : C.length ≤ 1000) : Ev (fun k => laws_lwCells.f k C C) true := by
  unfold laws_lwCells.f
  exact evIte (fun _ => lwC_l C [] hb) (fun h => absurd rfl h)
end Go.Proofs.Ytpdfpbnlablhoaa.Q
