/- Logs: their faults, sizes, copies: what both sides come to. -/
import Derived.Test.YthagppmaofcllaaLb
import Derived.Test.YthagppmaofcllaaQf
import Derived.Test.YthagppmaofcllaaQna
import Derived.Test.YthagppmaofcllaaQrb
import Derived.Test.YthagppmaofcllaaP0
import Derived.Test.YthagppmaofcllaaPDm0
import Derived.Test.YthagppmaofcllaaPDm1
namespace Go.Proofs.Ythagppmaofcllaa.Q
open Go.RowKit Go.Proofs.Ythagppmaofcllaa.P Go.Proofs.YthagppmaofcllaaW.PrintWords Go.Proofs.YthagppmaofcllaaW.PrintLast Go.Proofs.YthagppmaofcllaaW.PrintMore Go.Proofs.Ythagppmaofcllaa.Lb
set_option linter.unusedVariables false
set_option linter.unusedSimpArgs false
theorem szLog (a b : List Int) (ha : a.length ≤ 9223372036854775807) (hb : b.length ≤ 9223372036854775807) : ∃ t, ZlszLog.f a b 1048576 = some t ∧ (¬ t < 0 → a.length + b.length ≤ 1048576) := by
  unfold ZlszLog.f
  rw [szByteS a 1048576 (by omega) (by omega) ha]
  simp only [Option.bind_some]
  by_cases h : (1048576 : Int) < a.length
  · rw [if_pos h, if_pos (by omega)]
    exact ⟨-1, rfl, fun h2 => absurd (by omega) h2⟩
  · rw [if_neg h, if_neg (by omega), szByteS b _ (by omega) (by omega) hb]
    simp only [Option.bind_some]
    by_cases h2 : (1048576 : Int) - a.length < b.length
    · rw [if_pos h2, if_pos (by omega)]
      exact ⟨-1, rfl, fun h2 => absurd (by omega) h2⟩
    · rw [if_neg h2, if_neg (by omega)]
      exact ⟨_, rfl, fun _ => by omega⟩
theorem toLog (a b : List Int) (h : a.length + b.length ≤ 1048576) : Ev (fun k => ZltoLog.f k a b) (a, b) := by
  unfold ZltoLog.f
  exact evCall (toByteS a (by omega)) (evCall (toByteS b (by omega)) (evRet rfl))
theorem eqLog (a b : List Int) (h : a.length + b.length ≤ 1048576) : Ev (fun k => ZleqLog.f k a b a b) true := by
  unfold ZleqLog.f
  exact evCall (eqByteS a (by omega)) (evIte (fun _ => evCall (eqByteS b (by omega)) (evIte (fun _ => evRet rfl) (fun h => absurd rfl h))) (fun h => absurd rfl h))
theorem markLog (a b : List Int) (h : a.length + b.length ≤ 1048576) : Ev (fun k => ZlmarkLog.f k a b 1) (1 + 1 * a.length + 1 * b.length, marked meByte 1 1 a.length, marked meByte 1 (1 + 1 * a.length) b.length) := by
  unfold ZlmarkLog.f
  exact evCall (markByteS a 1 (by omega) (by omega) (by omega)) (evCall (markByteS b _ (by simp only; omega) (by simp only; omega) (by omega)) (evRet rfl))
theorem heldLog (n m : Nat) (h : n + m ≤ 1048576) : Ev (fun k => ZlheldLog.f k (marked meByte 1 1 n) (marked meByte 1 (1 + 1 * n) m) 1) (1 + 1 * n + 1 * m) := by
  unfold ZlheldLog.f
  refine evCall (heldByteS n 1 (by omega) (by omega) (by omega)) (evIte (fun h => absurd h (by omega)) (fun _ => ?_))
  exact evCall (heldByteS m _ (by omega) (by omega) (by omega)) (evIte (fun h => absurd h (by omega)) (fun _ => evRet rfl))
theorem specAll (a b : List Int) (h : a.length + b.length ≤ 1048576) : Zsl3All.f a b = some (a ++ b) := by
  unfold Zsl3All.f
  simp only [Option.bind_some]
  rw [if_pos (by simp; omega), if_pos (by simp; omega)]
  simp
theorem implConcat (a b : List Int) (h : a.length + b.length ≤ 1048576) : Ev (fun k => ZcConcat_byte.f k [a, b]) (a ++ b) := by
  unfold ZcConcat_byte.f
  have r0 : rd_L4 [a, b] 0 = a := rfl
  have r1 : rd_L4 [a, b] 1 = b := rfl
  have hl : (([a, b] : List (List Int)).length : Int) = 2 := rfl
  have e1 : wrap64 ((0 : Int) + 1) = 1 := by rw [w64 (by omega) (by omega)]; rfl
  have e2 : wrap64 ((1 : Int) + 1) = 2 := by rw [w64 (by omega) (by omega)]; rfl
  have s1 : wrap64 ((0 : Int) + (a.length : Int)) = a.length := by rw [w64 (by omega) (by omega)]; omega
  have s2 : wrap64 ((a.length : Int) + (b.length : Int)) = ((a.length + b.length : Nat) : Int) := by rw [w64 (by omega) (by omega)]; omega
  rw [hl]
  refine evSucc ?_
  simp only [ZcConcat_byte.l0, hl, r0, e1, s1]
  refine evIte (fun _ => evIte (fun _ => evIte (fun _ => evIte (fun h => absurd h (by omega)) (fun _ => ?_)) (fun h => absurd (by omega) h)) (fun h => absurd (by omega) h)) (fun h => absurd (by omega) h)
  refine evSucc ?_
  simp only [ZcConcat_byte.l0, hl, r1, e2, s2]
  refine evIte (fun _ => evIte (fun _ => evIte (fun _ => evIte (fun h => absurd h (by omega)) (fun _ => ?_)) (fun h => absurd (by omega) h)) (fun h => absurd (by omega) h)) (fun h => absurd (by omega) h)
  refine evSucc ?_
  simp only [ZcConcat_byte.l0, hl]
  refine evIte (fun h => absurd h (by omega)) (fun _ => ?_)
  have g : ZcGrow_byte.f ([] : List Int) ((a.length + b.length : Nat) : Int) = some [] := by
    unfold ZcGrow_byte.f
    rw [if_pos (by omega), if_pos (by simp; omega)]
  refine evSeq g ?_
  refine evSucc ?_
  simp only [ZcConcat_byte.l1, hl, r0, e1]
  refine evIte (fun _ => evIte (fun _ => evIte (fun _ => evIte (fun _ => ?_) (fun h => absurd (by simp; omega) h)) (fun h => absurd (by omega) h)) (fun h => absurd (by omega) h)) (fun h => absurd (by omega) h)
  refine evSucc ?_
  simp only [ZcConcat_byte.l1, hl, r1, e2, List.nil_append]
  refine evIte (fun _ => evIte (fun _ => evIte (fun _ => evIte (fun _ => ?_) (fun h => absurd (by omega) h)) (fun h => absurd (by omega) h)) (fun h => absurd (by omega) h)) (fun h => absurd (by omega) h)
  refine evSucc ?_
  simp only [ZcConcat_byte.l1]
  exact evIte (fun h => absurd h (by omega)) (fun _ => evRet rfl)
theorem implAll (a b : List Int) (h : a.length + b.length ≤ 1048576) : Ev (fun k => ZiLog_all.f k a b) (a ++ b) := by
  unfold ZiLog_all.f
  exact evCall (implConcat a b h) (evRet rfl)
def lgf (a b : List Int) : Int := if a.length + b.length > 4000 then 2 else if 13 * (recsA (a ++ b)).length = (a ++ b).length then 0 else 5
theorem specLogF (a b : List Int) (ha : isB a) (hb : isB b) (h : a.length + b.length ≤ 1048576) : Ev (fun k => ZsLogFault.f k a b) (lgf a b) := by
  unfold ZsLogFault.f lgf
  rw [w64 (by omega) (by omega)]
  refine evIte (fun h1 => evRet (by rw [if_pos (by omega)])) (fun h1 => ?_)
  rw [if_neg (by omega)]
  have hl : (a ++ b).length = a.length + b.length := List.length_append
  refine evSeq (specAll a b h) (evCall (specRecs _ (isB_append ha hb) (by omega)) ?_)
  exact evIte (fun h2 => evRet (by rw [if_pos (by simp only at h2; omega)])) (fun h2 => evRet (by rw [if_neg (by simp only at h2; omega)]))
theorem implLogF (a b : List Int) (ha : isB a) (hb : isB b) (h : a.length + b.length ≤ 1048576) : Ev (fun k => ZiLogFault.f k a b) (lgf a b) := by
  unfold ZiLogFault.f lgf
  have hl : (a ++ b).length = a.length + b.length := List.length_append
  refine evCall (implAll a b h) ?_
  refine evIte (fun h1 => evRet (by rw [if_pos (by omega)])) (fun h1 => ?_)
  rw [if_neg (by omega)]
  refine evCall (implRecs _ (isB_append ha hb) (by omega)) ?_
  have hr := recsA_len (a ++ b)
  rw [w64 (by omega) (by omega)]
  exact evIte (fun h2 => evRet (by rw [if_pos (by omega)])) (fun h2 => evRet (by rw [if_neg (by omega)]))
theorem lgf_0 {a b : List Int} (h : lgf a b = 0) : a.length + b.length ≤ 4000 ∧ 13 * (recsA (a ++ b)).length = (a ++ b).length := by
  unfold lgf at h
  split at h
  · omega
  · split at h
    · exact ⟨by omega, by assumption⟩
    · omega
def unr (l : List Int) : Int × Int × List S48 := if l.length > 4000 then (2, 0, []) else (0, 13 * ((recsA l).length : Int), recsA l)
theorem unr_len (l : List Int) (h : l.length ≤ 1048576) : (unr l).2.2.length ≤ 1048576 := by
  have := recsA_len l
  unfold unr
  split <;> simp only [List.length_nil] <;> omega
theorem specUnr (l : List Int) (hB : isB l) (h : l.length ≤ 1048576) : Ev (fun k => ZsUnpackRecs.f k l) (unr l) := by
  unfold ZsUnpackRecs.f unr
  refine evIte (fun h1 => evRet (by rw [if_pos (by omega)])) (fun h1 => ?_)
  rw [if_neg (by omega)]
  exact evCall (specRecs l hB h) (evRet rfl)
theorem implUnr (l : List Int) (hB : isB l) (h : l.length ≤ 1048576) : Ev (fun k => ZiUnpackRecs.f k l) (unr l) := by
  unfold ZiUnpackRecs.f unr
  refine evIte (fun h1 => evRet (by rw [if_pos (by omega)])) (fun h1 => ?_)
  rw [if_neg (by omega)]
  have hr := recsA_len l
  exact evCall (implRecs l hB h) (evRet (by rw [w64 (by omega) (by omega)]))
theorem eqRecsResult (c n : Int) (l : List S48) (hb : l.length ≤ 1048576) : Ev (fun k => ZleqRecsResult.f k c n l c n l) true := by
  unfold ZleqRecsResult.f
  simp only [if_true]
  exact evCall (eqRecS l (by omega)) (evIte (fun _ => evRet rfl) (fun h => absurd rfl h))
theorem markRecsResult (c n : Int) (l : List S48) (hb : l.length ≤ 1048576) : Ev (fun k => ZlmarkRecsResult.f k c n l 1) (1 + 8 * l.length, marked meRec 8 1 l.length) := by
  unfold ZlmarkRecsResult.f
  exact evCall (markRecS l 1 (by omega) (by omega) (by omega)) (evRet rfl)
theorem heldRecsResult (c n : Int) (m : Nat) (hb : m ≤ 1048576) : Ev (fun k => ZlheldRecsResult.f k c n (marked meRec 8 1 m) 1) (1 + 8 * m) := by
  unfold ZlheldRecsResult.f
  exact evCall (heldRecS m 1 (by omega) (by omega) (by omega)) (evIte (fun h => absurd h (by omega)) (fun _ => evRet rfl))
end Go.Proofs.Ythagppmaofcllaa.Q
