/- What the readings of this seat's arguments tell. -/
import Derived.Test.YtfpjheljpmincaaOp
import Derived.Test.YtfpjheljpmincaaP0
import Derived.KernelRfl
namespace Go.Proofs.Ytfpjheljpmincaa.P
open Go.RowKit Go.Proofs.YtfpjheljpmincaaW.PrintWords Go.Proofs.YtfpjheljpmincaaW.PrintLast Go.Proofs.Ytfpjheljpmincaa.Op
end Go.Proofs.Ytfpjheljpmincaa.P
