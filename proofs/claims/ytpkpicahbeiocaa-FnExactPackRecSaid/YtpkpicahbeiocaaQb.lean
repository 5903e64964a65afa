/- Bytes and a code: compared, marked, held. -/
import Derived.Test.YtpkpicahbeiocaaLb
import Derived.Test.YtpkpicahbeiocaaQf
import Derived.Test.YtpkpicahbeiocaaP0
import Derived.Test.YtpkpicahbeiocaaPD0
namespace Go.Proofs.Ytpkpicahbeiocaa.Q
open Go.RowKit Go.Proofs.Ytpkpicahbeiocaa.P Go.Proofs.YtpkpicahbeiocaaW.PrintWords Go.Proofs.YtpkpicahbeiocaaW.PrintLast Go.Proofs.YtpkpicahbeiocaaW.PrintMore Go.Proofs.Ytpkpicahbeiocaa.Lb
theorem eqBytesResult (c : Int) (l : List Int) (hb : l.length ≤ 1099511627776) : Ev (fun k => laws_eqBytesResult.f k c l c l) true := by
  unfold laws_eqBytesResult.f
  exact evIte (fun _ => evCall (eqByteS l hb) (evIte (fun _ => evRet rfl) (fun h => absurd rfl h))) (fun h => absurd rfl h)
theorem markBytesResult (c : Int) (l : List Int) (hb : l.length ≤ 1099511627776) : Ev (fun k => laws_markBytesResult.f k c l 1) (1 + 1 * l.length, marked meByte 1 1 l.length) := by
  unfold laws_markBytesResult.f
  exact evCall (markByteS l 1 (by omega) (by omega) hb) (evRet rfl)
theorem heldBytesResult (c : Int) (n : Nat) (hb : n ≤ 1099511627776) : Ev (fun k => laws_heldBytesResult.f k c (marked meByte 1 1 n) 1) (1 + 1 * n) := by
  unfold laws_heldBytesResult.f
  exact evCall (heldByteS n 1 (by omega) (by omega) hb) (evIte (fun h => absurd h (by omega)) (fun _ => evRet rfl))
end Go.Proofs.Ytpkpicahbeiocaa.Q
