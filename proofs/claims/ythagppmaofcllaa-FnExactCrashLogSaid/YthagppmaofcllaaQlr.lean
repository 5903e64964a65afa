/- Logs' results: flushed, read: what both sides come to. -/
import Derived.Test.YthagppmaofcllaaLb
import Derived.Test.YthagppmaofcllaaQf
import Derived.Test.YthagppmaofcllaaQna
import Derived.Test.YthagppmaofcllaaQrb
import Derived.Test.YthagppmaofcllaaQlg
import Derived.Test.YthagppmaofcllaaP0
import Derived.Test.YthagppmaofcllaaPDm1
namespace Go.Proofs.Ythagppmaofcllaa.Q
open Go.RowKit Go.Proofs.Ythagppmaofcllaa.P Go.Proofs.YthagppmaofcllaaW.PrintWords Go.Proofs.YthagppmaofcllaaW.PrintLast Go.Proofs.YthagppmaofcllaaW.PrintMore Go.Proofs.Ythagppmaofcllaa.Lb
set_option linter.unusedVariables false
set_option linter.unusedSimpArgs false
def flu (a b : List Int) : Int × Int × List Int × List Int := if lgf a b = 0 then (0, wrap64 (Int.tdiv (wrap64 ((a.length : Int) + (b.length : Int))) 13), a ++ b, []) else (lgf a b, 0, [], [])
theorem flu_len (a b : List Int) (h : a.length + b.length ≤ 1048576) : (flu a b).2.2.1.length + (flu a b).2.2.2.length ≤ 1048576 := by
  unfold flu
  split
  · simp; omega
  · simp
theorem specFlu (a b : List Int) (ha : isB a) (hb : isB b) (h : a.length + b.length ≤ 1048576) : Ev (fun k => ZsFlushLog.f k a b) (flu a b) := by
  unfold ZsFlushLog.f flu
  refine evCall (specLogF a b ha hb h) (evIte (fun h0 => ?_) (fun h0 => evRet (by rw [if_neg h0])))
  rw [if_pos h0]
  refine evSeq (a := wrap64 (Int.tdiv (wrap64 ((a.length : Int) + (b.length : Int))) 13)) rfl (evSeq (a := (a ++ b, [])) ?_ (evRet rfl))
  unfold Zsl3Flush.f
  rw [specAll a b h]
  rfl
theorem implFlu (a b : List Int) (ha : isB a) (hb : isB b) (h : a.length + b.length ≤ 1048576) : Ev (fun k => ZiFlushLog.f k a b) (flu a b) := by
  unfold ZiFlushLog.f flu
  refine evCall (implLogF a b ha hb h) (evIte (fun h0 => ?_) (fun h0 => evRet (by rw [if_neg h0])))
  rw [if_pos h0]
  exact evSeq (a := wrap64 (Int.tdiv (wrap64 ((a.length : Int) + (b.length : Int))) 13)) rfl (evCall (implAll a b h) (evRet rfl))
def rof (a b : List Int) : Int × Int × List S48 := if lgf a b = 0 then unr (a ++ b) else (lgf a b, 0, [])
theorem rof_len (a b : List Int) (h : a.length + b.length ≤ 1048576) : (rof a b).2.2.length ≤ 1048576 := by
  unfold rof
  split
  · exact unr_len _ (by rw [List.length_append]; exact h)
  · simp
theorem specRof (a b : List Int) (ha : isB a) (hb : isB b) (h : a.length + b.length ≤ 1048576) : Ev (fun k => ZsRecsOf.f k a b) (rof a b) := by
  unfold ZsRecsOf.f rof
  refine evCall (specLogF a b ha hb h) (evIte (fun h0 => ?_) (fun h0 => evRet (by rw [if_neg h0])))
  rw [if_pos h0]
  exact evSeq (specAll a b h) (evCall (specUnr _ (isB_append ha hb) (by rw [List.length_append]; exact h)) (evRet rfl))
theorem implRof (a b : List Int) (ha : isB a) (hb : isB b) (h : a.length + b.length ≤ 1048576) : Ev (fun k => ZiRecsOf.f k a b) (rof a b) := by
  unfold ZiRecsOf.f rof
  refine evCall (implLogF a b ha hb h) (evIte (fun h0 => ?_) (fun h0 => evRet (by rw [if_neg h0])))
  rw [if_pos h0]
  exact evCall (implAll a b h) (evCall (implUnr _ (isB_append ha hb) (by rw [List.length_append]; exact h)) (evRet rfl))
theorem eqLogResult (c n : Int) (a b : List Int) (h : a.length + b.length ≤ 1048576) : Ev (fun k => ZleqLogResult.f k c n a b c n a b) true := by
  unfold ZleqLogResult.f
  simp only [if_true]
  exact evCall (eqLog a b h) (evIte (fun _ => evRet rfl) (fun h => absurd rfl h))
theorem markLogResult (c n : Int) (a b : List Int) (h : a.length + b.length ≤ 1048576) : Ev (fun k => ZlmarkLogResult.f k c n a b 1) (1 + 1 * a.length + 1 * b.length, marked meByte 1 1 a.length, marked meByte 1 (1 + 1 * a.length) b.length) := by
  unfold ZlmarkLogResult.f
  exact evCall (markLog a b h) (evRet rfl)
theorem heldLogResult (c n : Int) (a b : Nat) (h : a + b ≤ 1048576) : Ev (fun k => ZlheldLogResult.f k c n (marked meByte 1 1 a) (marked meByte 1 (1 + 1 * a) b) 1) (1 + 1 * a + 1 * b) := by
  unfold ZlheldLogResult.f
  exact evCall (heldLog a b h) (evIte (fun h => absurd h (by omega)) (fun _ => evRet rfl))
end Go.Proofs.Ythagppmaofcllaa.Q
