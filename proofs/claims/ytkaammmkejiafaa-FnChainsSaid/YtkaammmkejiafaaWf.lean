/- What the readings of this seat's arguments tell. -/
import Derived.Test.YtkaammmkejiafaaOp
import Derived.Test.YtkaammmkejiafaaP0
import Derived.KernelRfl
namespace Go.Proofs.Ytkaammmkejiafaa.P
open Go.RowKit Go.Proofs.YtkaammmkejiafaaW.PrintWords Go.Proofs.YtkaammmkejiafaaW.PrintLast Go.Proofs.Ytkaammmkejiafaa.Op
end Go.Proofs.Ytkaammmkejiafaa.P
