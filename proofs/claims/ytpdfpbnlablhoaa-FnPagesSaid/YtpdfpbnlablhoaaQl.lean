/- Pages in bytes: what both sides come to. -/
import Derived.Test.YtpdfpbnlablhoaaLb
import Derived.Test.YtpdfpbnlablhoaaQf
import Derived.Test.YtpdfpbnlablhoaaQsum
import Derived.Test.YtpdfpbnlablhoaaQg
import Derived.Test.YtpdfpbnlablhoaaQh
import Derived.Test.YtpdfpbnlablhoaaQk
import Derived.Test.YtpdfpbnlablhoaaP0
import Derived.Test.YtpdfpbnlablhoaaPD0
namespace Go.Proofs.Ytpdfpbnlablhoaa.Q
open Go.RowKit Go.Proofs.Ytpdfpbnlablhoaa.P Go.Proofs.YtpdfpbnlablhoaaW.PrintWords Go.Proofs.YtpdfpbnlablhoaaW.PrintLast Go.Proofs.YtpdfpbnlablhoaaW.PrintMore Go.Proofs.Ytpdfpbnlablhoaa.Lb
set_option linter.unusedVariables false
set_option linter.unusedSimpArgs false
def cellB (v : S49) : List Int := bytesN v.f0 1 ++ bytesN v.f1 2
def cellsB : List S49 → List Int
  | [] => []
  | v :: vs => cellB v ++ cellsB vs
theorem cellB_len (v : S49) : (cellB v).length = 3 := by simp [cellB, bytesN_len]
theorem cellsB_len : ∀ l : List S49, (cellsB l).length = 3 * l.length
  | [] => rfl
  | v :: vs => by simp [cellsB, cellB_len, cellsB_len vs]; omega
def headB (id lsn : Int) (n : Nat) : List Int := bytesN id 1 ++ bytesN lsn 4 ++ bytesN (n : Int) 1
theorem headB_len (id lsn : Int) (n : Nat) : (headB id lsn n).length = 6 := by simp [headB, bytesN_len]
/-- Filled up to 46, and the sum. -/
def padB (b : List Int) : List Int := b ++ List.replicate (46 - b.length) 0
def finB (b : List Int) : List Int := padB b ++ bytesN (sumB (padB b)) 2
def packB (id lsn : Int) (l : List S49) : List Int := finB (headB id lsn l.length ++ cellsB l)
theorem padB_len (b : List Int) (h : b.length ≤ 46) : (padB b).length = 46 := by simp [padB]; omega
theorem finB_len (b : List Int) (h : b.length ≤ 46) : (finB b).length = 48 := by simp [finB, padB_len b h, bytesN_len]
theorem padB_more (b : List Int) (h : b.length < 46) : padB (b ++ [0]) = padB b := by
  unfold padB
  rw [show 46 - b.length = (46 - (b ++ [0]).length) + 1 by simp; omega, List.replicate_succ]
  simp
theorem padB_full (b : List Int) (h : b.length = 46) : padB b = b := by simp [padB, h]
theorem specPad : ∀ (d : Nat) (b : List Int), b.length + d = 46 → Ev (fun k => spec_l1Pack.l1 k b) (finB b)
  | 0, b, hb => by
    refine evSucc ?_
    simp only [spec_l1Pack.l1]
    refine evIte (fun h => absurd h (by omega)) (fun _ => evCall (specSum b (by omega)) (evCall (specBytes (sumB b) 2 (by omega)) (evIte (fun _ => evRet ?_) (fun h => absurd (by simp [bytesN_len]; omega) h))))
    simp only [finB, padB_full b (by omega)]
  | d + 1, b, hb => by
    refine evSucc ?_
    simp only [spec_l1Pack.l1]
    refine evIte (fun _ => evIte (fun _ => ?_) (fun h => absurd (by omega) h)) (fun h => absurd (by omega) h)
    refine evEq (specPad d (b ++ [0]) (by simp; omega)) ?_
    simp only [finB, padB_more b (by omega)]
theorem specPack_l (id lsn : Int) : ∀ (rest pre : List S49) (b : List Int), b.length + 3 * rest.length ≤ 46 → (pre ++ rest).length ≤ 1000000 → Ev (fun k => spec_l1Pack.l0 k b (pre.length : Int) id lsn (pre ++ rest)) (finB (b ++ cellsB rest))
  | [], pre, b, hb, hp => by
    refine evSucc ?_
    simp only [spec_l1Pack.l0, List.append_nil, Int.lt_irrefl, if_false, cellsB]
    simp only [List.length_nil] at hb
    exact specPad (46 - b.length) b (by omega)
  | v :: vs, pre, b, hb, hp => by
    have hb1 : b.length + 3 * vs.length + 3 ≤ 46 := by simp only [List.length_cons] at hb; omega
    have ih := specPack_l id lsn vs (pre ++ [v]) (b ++ cellB v) (by simp [cellB_len]; omega) (by simpa using hp)
    have hn : (((pre ++ [v]).length : Nat) : Int) = wrap64 ((pre.length : Int) + 1) := by rw [w64n (by simp at hp; omega)]; simp
    rw [List.append_assoc, List.singleton_append, hn] at ih
    have h1 : (pre.length : Int) < ((pre ++ v :: vs).length : Int) := by simp <;> omega
    have rv := rdCell_mid pre v vs
    have e : b ++ [v.f0 % 256] ++ bytesN v.f1 2 = b ++ cellB v := by simp [cellB, bytes1]
    refine evSucc ?_
    simp only [spec_l1Pack.l0, h1, Int.natCast_nonneg, if_true, rv, Option.bind_some]
    refine evIte (fun _ => evCall (specBytes v.f1 2 (by omega)) (evIte (fun _ => ?_) (fun h => absurd (by simp [bytesN_len]; omega) h))) (fun h => absurd (by omega) h)
    rw [e]
    exact evEq ih (by simp [cellsB])
theorem specPackF (id lsn : Int) (l : List S49) (h : l.length ≤ 12) : Ev (fun k => spec_l1Pack.f k id lsn l) (packB id lsn l) := by
  unfold spec_l1Pack.f packB
  simp only [Option.bind_some]
  refine evCall (specBytes lsn 4 (by omega)) (evIte (fun _ => evIte (fun _ => ?_) (fun h => absurd (by simp [bytesN_len]) h)) (fun h => absurd (by simp [bytesN_len]) h))
  have e : [id % 256] ++ bytesN lsn 4 ++ [(l.length : Int) % 256] = headB id lsn l.length := by simp [headB, bytes1]
  rw [e]
  exact specPack_l id lsn l [] _ (by rw [headB_len]; omega) (by simp; omega)
theorem implPack_l : ∀ (rest pre : List S49) (b : List Int), b.length + 3 * rest.length ≤ 46 → (pre ++ rest).length ≤ 1000000 → Ev (fun k => impl_Page_pack.l0 k b (pre ++ rest) ((pre ++ rest).length : Int) (pre.length : Int)) (finB (b ++ cellsB rest))
  | [], pre, b, hb, hp => by
    simp only [List.length_nil] at hb
    have e : wrap64 (46 - (b.length : Int)) = ((46 - b.length : Nat) : Int) := by rw [w64 (by omega) (by omega)]; omega
    refine evSucc ?_
    simp only [impl_Page_pack.l0, List.append_nil, Int.lt_irrefl, if_false, cellsB, e, Int.toNat_natCast, Option.bind_some]
    refine evIte (fun _ => evIte (fun _ => ?_) (fun h => absurd (by omega) h)) (fun h => absurd (by omega) h)
    have hl := padB_len b (by omega)
    unfold finB
    change Ev _ (padB b ++ bytesN (sumB (padB b)) 2)
    exact evCall (implSum (padB b) (by omega)) (evCall (implPut (padB b) _ 2 (by omega) (by omega)) (evRet rfl))
  | v :: vs, pre, b, hb, hp => by
    have hb1 : b.length + 3 * vs.length + 3 ≤ 46 := by simp only [List.length_cons] at hb; omega
    have ih := implPack_l vs (pre ++ [v]) (b ++ cellB v) (by simp [cellB_len]; omega) (by simpa using hp)
    have hn : (((pre ++ [v]).length : Nat) : Int) = wrap64 ((pre.length : Int) + 1) := by rw [w64n (by simp at hp; omega)]; simp
    rw [List.append_assoc, List.singleton_append, hn] at ih
    have h1 : (pre.length : Int) < ((pre ++ v :: vs).length : Int) := by simp <;> omega
    have rv := rdCell_mid pre v vs
    have e : b ++ bytesN v.f0 1 ++ bytesN v.f1 2 = b ++ cellB v := by simp [cellB]
    refine evSucc ?_
    simp only [impl_Page_pack.l0, h1, Int.natCast_nonneg, if_true, rv]
    refine evCall (implPut b v.f0 1 (by omega) (by omega)) (evCall (implPut _ v.f1 2 (by omega) (by simp [bytesN_len]; omega)) ?_)
    rw [e]
    exact evEq ih (by simp [cellsB])
theorem implPackF (id lsn : Int) (l : List S49) (h : l.length ≤ 12) : Ev (fun k => impl_Page_pack.f k id lsn l) (packB id lsn l) := by
  unfold impl_Page_pack.f packB
  refine evCall (implPut [] id 1 (by omega) (by simp)) (evCall (implPut _ lsn 4 (by omega) (by simp [bytesN_len])) (evCall (implPut _ _ 1 (by omega) (by simp [bytesN_len])) ?_))
  have e : [] ++ bytesN id 1 ++ bytesN lsn 4 ++ bytesN (l.length : Int) 1 = headB id lsn l.length := by simp [headB]
  rw [e]
  exact implPack_l l [] _ (by rw [headB_len]; omega) (by simp; omega)
theorem pf_len {id lsn : Int} {l : List S49} (h : pf id lsn l = 0) : l.length ≤ 12 := by
  unfold pf at h
  split at h
  · split at h
    · omega
    · omega
  · omega
def pkP (id lsn : Int) (l : List S49) : Int × List Int := if pf id lsn l = 0 then (0, packB id lsn l) else (pf id lsn l, [])
theorem pkP_len (id lsn : Int) (l : List S49) : (pkP id lsn l).2.length ≤ 48 := by
  unfold pkP
  split
  next h =>
    have := pf_len h
    rw [show (0, packB id lsn l).2 = packB id lsn l from rfl, packB, finB_len]
    · omega
    · simp [headB_len, cellsB_len]; omega
  · simp
theorem implPk (id lsn : Int) (l : List S49) (hb : l.length ≤ 1099511627776) : Ev (fun k => impl_PackPage.f k id lsn l) (pkP id lsn l) := by
  unfold impl_PackPage.f pkP
  refine evCall (implPF id lsn l hb) (evIte (fun h => ?_) (fun h => evRet (by rw [if_neg h])))
  rw [if_pos h]
  exact evCall (implPackF id lsn l (pf_len h)) (evRet rfl)
end Go.Proofs.Ytpdfpbnlablhoaa.Q
