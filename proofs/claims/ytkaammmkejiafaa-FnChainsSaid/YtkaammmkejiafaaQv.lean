/- Versions: copying, comparing, marking them; chains' faults: what both sides come to. -/
import Derived.Test.YtkaammmkejiafaaLb
import Derived.Test.YtkaammmkejiafaaP0
namespace Go.Proofs.Ytkaammmkejiafaa.Q
open Go.RowKit Go.Proofs.Ytkaammmkejiafaa.P Go.Proofs.YtkaammmkejiafaaW.PrintWords Go.Proofs.YtkaammmkejiafaaW.PrintLast Go.Proofs.YtkaammmkejiafaaW.PrintMore Go.Proofs.Ytkaammmkejiafaa.Lb
set_option linter.unusedVariables false
set_option linter.unusedSimpArgs false

theorem rdV {xs : List S51} {i : Nat} (h : i < xs.length) : rd_T51 xs (i : Int) = xs[i] := by
  unfold rd_T51
  rw [Int.toNat_natCast]
  exact getD_at h _
end Go.Proofs.Ytkaammmkejiafaa.Q

