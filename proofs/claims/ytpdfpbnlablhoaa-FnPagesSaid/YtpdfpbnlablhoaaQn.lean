/- Pages out of bytes: what both sides come to. -/
import Derived.Test.YtpdfpbnlablhoaaLb
import Derived.Test.YtpdfpbnlablhoaaQf
import Derived.Test.YtpdfpbnlablhoaaQsum
import Derived.Test.YtpdfpbnlablhoaaQg
import Derived.Test.YtpdfpbnlablhoaaQh
import Derived.Test.YtpdfpbnlablhoaaQk
import Derived.Test.YtpdfpbnlablhoaaQl
import Derived.Test.YtpdfpbnlablhoaaP0
import Derived.Test.YtpdfpbnlablhoaaPD0
namespace Go.Proofs.Ytpdfpbnlablhoaa.Q
open Go.RowKit Go.Proofs.Ytpdfpbnlablhoaa.P Go.Proofs.YtpdfpbnlablhoaaW.PrintWords Go.Proofs.YtpdfpbnlablhoaaW.PrintLast Go.Proofs.YtpdfpbnlablhoaaW.PrintMore Go.Proofs.Ytpdfpbnlablhoaa.Lb
set_option linter.unusedVariables false
set_option linter.unusedSimpArgs false
def isB (l : List Int) : Prop := ∀ x ∈ l, 0 ≤ x ∧ x ≤ 255
def takeStep (a b : Int) : Int := a * 256 + b
/-- A number out of its bytes, the highest first. -/
def takeL (l : List Int) : Int := l.foldl takeStep 0
theorem p256 {i : Nat} (h : i ≤ 4) : (256 : Int) ^ i ≤ 4294967296 := by
  rcases i with _ | _ | _ | _ | _ | i
  · decide
  · decide
  · decide
  · decide
  · decide
  · omega
theorem specTake_l (l : List Int) (o n : Nat) (hB : isB l) (ho : o + n ≤ l.length) (hl : l.length ≤ 1048576) (hn : n ≤ 4) : ∀ (s i : Nat) (a : Int), i + s = n → 0 ≤ a → a < (256 : Int) ^ i → Ev (fun k => spec_l1Take.l0 k l (o : Int) (n : Int) a (i : Int)) (((l.drop (o + i)).take s).foldl takeStep a)
  | 0, i, a, hi, h0, h1 => by
    refine evSucc ?_
    simp only [spec_l1Take.l0]
    exact evIte (fun h => absurd h (by omega)) (fun _ => evRet (by simp))
  | s + 1, i, a, hi, h0, h1 => by
    have hlt : o + i < l.length := by omega
    have e1 : wrap64 ((o : Int) + (i : Int)) = ((o + i : Nat) : Int) := by rw [w64 (by omega) (by omega)]; omega
    have hb := hB _ (List.getElem_mem hlt)
    have hp : (256 : Int) ^ (i + 1) = (256 : Int) ^ i * 256 := Int.pow_succ _ _
    have hq := p256 (show i ≤ 4 by omega)
    have e2 : wrap64 ((wrap64 (a * 256)) + (wrap64 l[o + i])) = takeStep a l[o + i] := by
      rw [w64 (x := a * 256) (by omega) (by omega), w64 (x := l[o + i]) (by omega) (by omega), w64 (by omega) (by omega)]
      rfl
    have ih := specTake_l l o n hB ho hl hn s (i + 1) (takeStep a l[o + i]) (by omega) (by unfold takeStep; omega) (by unfold takeStep; omega)
    refine evSucc ?_
    simp only [spec_l1Take.l0, e1, rdI hlt, e2, w64n (show i < 9223372036854775807 by omega)]
    refine evIte (fun _ => evIte (fun _ => evIte (fun _ => ?_) (fun h => absurd (by omega) h)) (fun h => absurd (by omega) h)) (fun h => absurd (by omega) h)
    rw [List.drop_eq_getElem_cons hlt, List.take_succ_cons, List.foldl_cons]
    exact ih
theorem specTake (l : List Int) (o n : Nat) (hB : isB l) (ho : o + n ≤ l.length) (hl : l.length ≤ 1048576) (hn : n ≤ 4) : Ev (fun k => spec_l1Take.f k l (o : Int) (n : Int)) (takeL ((l.drop o).take n)) := by
  have := specTake_l l o n hB ho hl hn n 0 0 (by omega) (by omega) (by decide)
  exact this
theorem wraps_i64 (n : Int) (h₀ : 0 ≤ n) (h₁ : n < 2 ^ 62) : IntKind.i64.wrap n = n := by rw [IntKind.wrap_i64]; omega
theorem implTake_l : ∀ (rest pre : List Int) (a : Int), isB rest → (pre ++ rest).length ≤ 4 → 0 ≤ a → a < (256 : Int) ^ pre.length → Ev (fun k => impl_take.l0 k a (pre ++ rest) ((pre ++ rest).length : Int) (pre.length : Int)) (rest.foldl takeStep a)
  | [], pre, a, hB, hn, h0, h1 => by
    refine evSucc ?_
    simp only [impl_take.l0, List.append_nil, Int.lt_irrefl, if_false]
    exact evRet rfl
  | v :: vs, pre, a, hB, hn, h0, h1 => by
    have hn1 : pre.length + vs.length + 1 ≤ 4 := by simp at hn; omega
    have hb := hB v (by simp)
    have hp : (256 : Int) ^ (pre.length + 1) = (256 : Int) ^ pre.length * 256 := Int.pow_succ _ _
    have hq := p256 (show pre.length ≤ 4 by omega)
    have e2 : Go.bits .or .i64 (wrap64 (a * 256)) (wrap64 v) = takeStep a v := by
      rw [w64 (x := a * 256) (by omega) (by omega), w64 (x := v) (by omega) (by omega)]
      exact Go.bits_join .i64 62 (by decide) wraps_i64 8 (a * 256) v (by omega) (by omega) (by omega) (by omega) (by omega) (by omega)
    have ih := implTake_l vs (pre ++ [v]) (takeStep a v) (fun x hx => hB x (by simp [hx])) (by simp; omega) (by unfold takeStep; omega) (by rw [List.length_append, List.length_singleton]; unfold takeStep; omega)
    have h1' : (pre.length : Int) < ((pre ++ v :: vs).length : Int) := by simp <;> omega
    have hnn : (((pre ++ [v]).length : Nat) : Int) = wrap64 ((pre.length : Int) + 1) := by rw [w64n (by omega)]; simp
    rw [List.append_assoc, List.singleton_append, hnn] at ih
    refine evSucc ?_
    simp only [impl_take.l0, h1', Int.natCast_nonneg, if_true, rdI_mid, e2]
    exact ih
theorem implTake (l : List Int) (hB : isB l) (hn : l.length ≤ 4) : Ev (fun k => impl_take.f k l) (takeL l) := implTake_l l [] 0 hB hn (by omega) (by decide)
theorem sEq_l : ∀ (ra rb pre : List Int), ra.length = rb.length → (pre ++ ra).length ≤ 1099511627776 → Ev (fun k => slices_Equal_byte.l0 k (pre ++ ra) (pre ++ rb) ((pre ++ ra).length : Int) (pre.length : Int)) (decide (ra = rb))
  | [], [], pre, _, hb => by
    refine evSucc ?_
    simp only [slices_Equal_byte.l0, List.append_nil, Int.lt_irrefl, if_false]
    exact evRet rfl
  | [], y :: ys, pre, h, _ => by simp at h
  | x :: xs, [], pre, h, _ => by simp at h
  | x :: xs, y :: ys, pre, h, hb => by
    have h1 : (pre.length : Int) < ((pre ++ x :: xs).length : Int) := by simp <;> omega
    have h2 : (pre.length : Int) < ((pre ++ y :: ys).length : Int) := by simp <;> omega
    have hn : (((pre ++ [x]).length : Nat) : Int) = wrap64 ((pre.length : Int) + 1) := by rw [w64n (by simp at hb; omega)]; simp
    refine evSucc ?_
    simp only [slices_Equal_byte.l0, h1, h2, Int.natCast_nonneg, if_true, rdI_mid]
    refine evIte (fun hxy => ?_) (fun hxy => evRet (by simp [hxy]))
    subst hxy
    have ih := sEq_l xs ys (pre ++ [x]) (by simpa using h) (by simpa using hb)
    rw [List.append_assoc, List.singleton_append, List.append_assoc, List.singleton_append, hn] at ih
    exact evEq ih (by simp)
theorem sEq (a b : List Int) (hb : a.length ≤ 1099511627776) : Ev (fun k => slices_Equal_byte.f k a b) (decide (a = b)) := by
  unfold slices_Equal_byte.f
  refine evIte (fun h => sEq_l a b [] (by omega) hb) (fun h => evRet ?_)
  rw [eq_comm, decide_eq_false_iff_not]
  intro h2
  exact h (by rw [h2])
theorem u8_inj : ∀ {a b : List Int}, isB a → isB b → (a.map fun n => UInt8.ofNat n.toNat) = (b.map fun n => UInt8.ofNat n.toNat) → a = b
  | [], [], _, _, _ => rfl
  | [], y :: ys, _, _, h => by simp at h
  | x :: xs, [], _, _, h => by simp at h
  | x :: xs, y :: ys, ha, hb, h => by
    rw [List.map_cons, List.map_cons, List.cons.injEq] at h
    have h1 := congrArg UInt8.toNat h.1
    simp only [UInt8.toNat_ofNat'] at h1
    have hx := ha x (by simp)
    have hy := hb y (by simp)
    have h2 := u8_inj (fun z hz => ha z (by simp [hz])) (fun z hz => hb z (by simp [hz])) h.2
    rw [h2, show x = y by omega]
theorem strOf_inj {a b : List Int} (ha : isB a) (hb : isB b) : (strOfNums a).toList = (strOfNums b).toList ↔ a = b := by
  constructor
  · intro h
    rw [ByteArray.toList_eq, ByteArray.toList_eq] at h
    exact u8_inj ha hb (by simpa [strOfNums] using h)
  · intro h
    rw [h]
theorem isB_bytesN (n : Int) : ∀ s, isB (bytesN n s)
  | 0 => fun x hx => by simp [bytesN] at hx
  | s + 1 => fun x hx => by
    rcases List.mem_cons.1 hx with rfl | h
    · unfold byteOf; omega
    · exact isB_bytesN n s x h
theorem isB_append {a b : List Int} (ha : isB a) (hb : isB b) : isB (a ++ b) := fun x hx => (List.mem_append.1 hx).elim (ha x) (hb x)
theorem isB_cells : ∀ l : List S49, isB (cellsB l)
  | [] => fun x hx => by simp [cellsB] at hx
  | v :: vs => isB_append (isB_append (isB_bytesN _ _) (isB_bytesN _ _)) (isB_cells vs)
theorem isB_pack (id lsn : Int) (l : List S49) : isB (packB id lsn l) := by
  refine isB_append (isB_append (isB_append (isB_append (isB_append (isB_bytesN _ _) (isB_bytesN _ _)) (isB_bytesN _ _)) (isB_cells l)) ?_) (isB_bytesN _ _)
  intro x hx
  have := (List.mem_replicate.1 hx).2
  omega
def cellAt (l : List Int) (j : Nat) : S49 := ⟨takeL ((l.drop (6 + 3 * j)).take 1), takeL ((l.drop (7 + 3 * j)).take 2)⟩
def cellsU (l : List Int) (n : Nat) : List S49 := (List.range n).map (cellAt l)
theorem cellsU_succ (l : List Int) (n : Nat) : cellsU l n ++ [cellAt l n] = cellsU l (n + 1) := by simp [cellsU, List.range_succ]
theorem cellsU_len (l : List Int) (n : Nat) : (cellsU l n).length = n := by simp [cellsU]
def finU (l : List Int) (id lsn : Int) (C : List S49) : Int × Int × Int × List S49 := if pf id lsn C = 0 then (if packB id lsn C = l then (0, id, lsn, C) else (5, 0, 0, [])) else (5, 0, 0, [])
def cntU (l : List Int) : Nat := min (rd l 5).toNat 13
def unpk (l : List Int) : Int × Int × Int × List S49 := if l.length = 48 then (if takeL (l.drop 46) = sumB (l.take 46) then finU l (takeL (l.take 1)) (takeL ((l.drop 1).take 4)) (cellsU l (cntU l)) else (6, 0, 0, [])) else (1, 0, 0, [])
theorem unpk_len (l : List Int) : (unpk l).2.2.2.length ≤ 13 := by
  unfold unpk finU
  repeat' split
  all_goals first | (simp only [List.length_nil]; omega) | (simp only [cellsU_len, cntU]; omega)
theorem specFin (l : List Int) (id lsn : Int) (C : List S49) (hB : isB l) (hC : C.length ≤ 13) : Ev (fun k => spec_UnpackPage.j1 k l id lsn C) (finU l id lsn C) := by
  refine evSucc ?_
  simp only [spec_UnpackPage.j1]
  unfold finU
  refine evCall (specPF id lsn C (by omega)) (evIte (fun h => ?_) (fun h => evRet (by rw [if_neg h])))
  rw [if_pos h]
  refine evCall (specPackF id lsn C (pf_len h)) ?_
  simp only [strOf_inj (isB_pack id lsn C) hB]
  exact evIte (fun h2 => evRet (by rw [if_pos h2])) (fun h2 => evRet (by rw [if_neg h2]))
theorem take1 {l : List Int} {i : Nat} (h : i < l.length) : (l.drop i).take 1 = [l[i]] := by
  rw [List.drop_eq_getElem_cons h]; rfl
theorem specUn_l (l : List Int) (id lsn : Int) (hB : isB l) (hl : l.length = 48) : ∀ (d i : Nat), i + d = cntU l → Ev (fun k => spec_UnpackPage.l0 k l (i : Int) id lsn (cellsU l i)) (finU l id lsn (cellsU l (cntU l)))
  | 0, i, hi => by
    have h5 : rd l 5 = l[5] := rdI (i := 5) (by omega)
    have hb := hB _ (List.getElem_mem (show 5 < l.length by omega))
    have ew : wrap64 (rd l 5) = rd l 5 := w64 (by omega) (by omega)
    have hm : i ≤ 13 := by have : cntU l ≤ 13 := by { unfold cntU; omega }; omega
    have e3 : wrap64 (3 * (i : Int)) = 3 * (i : Int) := w64 (by omega) (by omega)
    have e4 : wrap64 (9 + 3 * (i : Int)) = 9 + 3 * (i : Int) := w64 (by omega) (by omega)
    have hi' : i = cntU l := by omega
    rw [← hi']
    have fin := specFin l id lsn (cellsU l i) hB (by rw [cellsU_len]; omega)
    refine evSucc ?_
    simp only [spec_UnpackPage.l0, ew, e3, e4]
    refine evIte (fun _ => evIte (fun h1 => evIte (fun h2 => ?_) (fun _ => fin)) (fun _ => fin)) (fun h => absurd (by omega) h)
    exfalso
    unfold cntU at hi'
    omega
  | d + 1, i, hi => by
    have h5 : rd l 5 = l[5] := rdI (i := 5) (by omega)
    have hb := hB _ (List.getElem_mem (show 5 < l.length by omega))
    have ew : wrap64 (rd l 5) = rd l 5 := w64 (by omega) (by omega)
    have hm : i < 13 ∧ (i : Int) < rd l 5 := by unfold cntU at hi; omega
    have e3 : wrap64 (3 * (i : Int)) = 3 * (i : Int) := w64 (by omega) (by omega)
    have e4 : wrap64 (9 + 3 * (i : Int)) = 9 + 3 * (i : Int) := w64 (by omega) (by omega)
    have e6 : wrap64 (6 + 3 * (i : Int)) = ((6 + 3 * i : Nat) : Int) := by rw [w64 (by omega) (by omega)]; omega
    have e7 : wrap64 (7 + 3 * (i : Int)) = ((7 + 3 * i : Nat) : Int) := by rw [w64 (by omega) (by omega)]; omega
    have hlt : 6 + 3 * i < l.length := by omega
    have hb6 := hB _ (List.getElem_mem hlt)
    have ih := specUn_l l id lsn hB hl d (i + 1) (by omega)
    refine evSucc ?_
    simp only [spec_UnpackPage.l0, ew, e3, e4, e6, e7, rdI hlt, w64n (show i < 9223372036854775807 by omega)]
    refine evIte (fun _ => evIte (fun _ => evIte (fun _ => evIte (fun _ => evIte (fun _ => ?_) (fun h => absurd (by omega) h)) (fun h => absurd (by omega) h)) (fun h => absurd (by omega) h)) (fun h => absurd (by omega) h)) (fun h => absurd (by omega) h)
    refine evCall (specTake l (7 + 3 * i) 2 hB (by omega) (by omega) (by omega)) (evIte (fun _ => ?_) (fun h => absurd (by rw [cellsU_len]; omega) h))
    have ec : (⟨wrap64 l[6 + 3 * i], takeL ((l.drop (7 + 3 * i)).take 2)⟩ : S49) = cellAt l i := by
      unfold cellAt
      rw [take1 hlt, w64 (by omega) (by omega)]
      simp [takeL, takeStep]
    rw [ec, cellsU_succ]
    exact ih
theorem specUnpk (l : List Int) (hB : isB l) : Ev (fun k => spec_UnpackPage.f k l) (unpk l) := by
  unfold spec_UnpackPage.f unpk
  refine evIte (fun h => ?_) (fun h => evRet (by rw [if_neg (by omega)]))
  have hl : l.length = 48 := by omega
  rw [if_pos hl]
  have e1 : (l.drop 46).take 2 = l.drop 46 := List.take_of_length_le (by simp; omega)
  have t1 := specTake l 46 2 hB (by omega) (by omega) (by omega)
  rw [e1] at t1
  refine evCall t1 (evIte (fun _ => ?_) (fun h => absurd (by omega) h))
  refine evCall (specSum (l.take 46) (by simp; omega)) (evIte (fun h2 => ?_) (fun h2 => evRet (by rw [if_neg h2])))
  rw [if_pos h2]
  have hb := hB _ (List.getElem_mem (show 0 < l.length by omega))
  have e0 : wrap64 (rd l 0) = takeL (l.take 1) := by
    have h0 : rd l 0 = l[0] := rdI (i := 0) (by omega)
    rw [h0, w64 (by omega) (by omega)]
    have := take1 (l := l) (i := 0) (by omega)
    rw [List.drop_zero] at this
    rw [this]
    simp [takeL, takeStep]
  rw [e0]
  refine evIte (fun _ => ?_) (fun h => absurd (by omega) h)
  refine evCall (specTake l 1 4 hB (by omega) (by omega) (by omega)) ?_
  exact specUn_l l _ _ hB hl (cntU l) 0 (by omega)
theorem isB_sub {a b : List Int} (h : ∀ x ∈ a, x ∈ b) (hB : isB b) : isB a := fun x hx => hB x (h x hx)
theorem isB_drop {l : List Int} (n : Nat) (hB : isB l) : isB (l.drop n) := isB_sub (fun x hx => List.mem_of_mem_drop hx) hB
theorem isB_take {l : List Int} (n : Nat) (hB : isB l) : isB (l.take n) := isB_sub (fun x hx => List.mem_of_mem_take hx) hB
theorem implUn_l (l : List Int) (id lsn : Int) (hB : isB l) (hl : l.length = 48) : ∀ (d i : Nat), i + d = cntU l → Ev (fun k => impl_UnpackPage.l0 k l 46 (cntU l : Int) (i : Int) id lsn (cellsU l i)) (finU l id lsn (cellsU l (cntU l)))
  | 0, i, hi => by
    have hi' : i = cntU l := by omega
    rw [← hi']
    have hm : i ≤ 13 := by have : cntU l ≤ 13 := by { unfold cntU; omega }; omega
    refine evSucc ?_
    simp only [impl_UnpackPage.l0, Int.lt_irrefl, if_false]
    unfold finU
    refine evCall (implPF id lsn _ (by rw [cellsU_len]; omega)) (evIte (fun h => ?_) (fun h => evRet (by rw [if_neg h])))
    rw [if_pos h]
    refine evCall (implPackF id lsn _ (pf_len h)) (evCall (sEq _ l ?_) ?_)
    · unfold packB
      rw [finB_len _ (by have := pf_len h; simp only [List.length_append, headB_len, cellsB_len]; omega)]
      omega
    simp only [decide_eq_true_eq]
    exact evIte (fun h2 => evRet (by rw [if_pos h2])) (fun h2 => evRet (by rw [if_neg h2]))
  | d + 1, i, hi => by
    have hm : i < 13 ∧ i < cntU l := by unfold cntU at hi ⊢; omega
    have e3 : wrap64 (3 * (i : Int)) = 3 * (i : Int) := w64 (by omega) (by omega)
    have e6 : wrap64 (6 + 3 * (i : Int)) = ((6 + 3 * i : Nat) : Int) := by rw [w64 (by omega) (by omega)]; omega
    have e7 : wrap64 (((6 + 3 * i : Nat) : Int) + 1) = ((7 + 3 * i : Nat) : Int) := by rw [w64 (by omega) (by omega)]; omega
    have e9 : wrap64 (((6 + 3 * i : Nat) : Int) + 3) = ((9 + 3 * i : Nat) : Int) := by rw [w64 (by omega) (by omega)]; omega
    have ih := implUn_l l id lsn hB hl d (i + 1) (by omega)
    have a1 : (l.take (7 + 3 * i)).drop (6 + 3 * i) = (l.drop (6 + 3 * i)).take 1 := by rw [List.drop_take]; congr 1; omega
    have a2 : (l.take (9 + 3 * i)).drop (7 + 3 * i) = (l.drop (7 + 3 * i)).take 2 := by rw [List.drop_take]; congr 1; omega
    refine evSucc ?_
    simp only [impl_UnpackPage.l0, e3, e6, e7, e9, Int.toNat_natCast, w64n (show i < 9223372036854775807 by omega), a1, a2]
    refine evIte (fun _ => evIte (fun h => absurd h (by omega)) (fun _ => evIte (fun _ => evIte (fun _ => evIte (fun _ => ?_) (fun h => absurd (by omega) h)) (fun h => absurd (by omega) h)) (fun h => absurd (by omega) h))) (fun h => absurd (by omega) h)
    refine evCall (implTake _ (isB_take _ (isB_drop _ hB)) (by simp; omega)) (evIte (fun _ => evIte (fun _ => evIte (fun _ => ?_) (fun h => absurd (by omega) h)) (fun h => absurd (by omega) h)) (fun h => absurd (by omega) h))
    refine evCall (implTake _ (isB_take _ (isB_drop _ hB)) (by simp; omega)) (evIte (fun _ => ?_) (fun h => absurd (by rw [cellsU_len]; omega) h))
    change Ev (fun k => impl_UnpackPage.l0 k l 46 (cntU l : Int) ((i + 1 : Nat) : Int) id lsn (cellsU l i ++ [cellAt l i])) _
    rw [cellsU_succ]
    exact ih
theorem implUnpk (l : List Int) (hB : isB l) : Ev (fun k => impl_UnpackPage.f k l) (unpk l) := by
  unfold impl_UnpackPage.f unpk
  refine evIte (fun h => ?_) (fun h => evRet (by rw [if_neg (by omega)]))
  have hl : l.length = 48 := by omega
  rw [if_pos hl]
  refine evIte (fun _ => evCall (implTake _ (isB_drop _ hB) (by simp; omega)) ?_) (fun h => absurd (by omega) h)
  refine evCall (implSum (l.take 46) (by simp; omega)) (evIte (fun h2 => ?_) (fun h2 => evRet (by rw [if_neg h2])))
  rw [if_pos h2]
  have hb := hB _ (List.getElem_mem (show 5 < l.length by omega))
  have h5 : rd l 5 = l[5] := rdI (i := 5) (by omega)
  have em : mn (wrap64 (rd l 5)) 13 = (cntU l : Int) := by
    rw [w64 (by omega) (by omega)]
    unfold mn cntU
    split <;> omega
  have a1 : (l.take 5).drop 1 = (l.drop 1).take 4 := by rw [List.drop_take]
  rw [em, a1]
  refine evIte (fun _ => evCall (implTake _ (isB_take _ hB) (by simp; omega)) ?_) (fun h => absurd (by omega) h)
  refine evIte (fun _ => evCall (implTake _ (isB_take _ (isB_drop _ hB)) (by simp; omega)) ?_) (fun h => absurd (by omega) h)
  refine evIte (fun _ => ?_) (fun h => absurd (by omega) h)
  exact implUn_l l _ _ hB hl (cntU l) 0 (by omega)
end Go.Proofs.Ytpdfpbnlablhoaa.Q
