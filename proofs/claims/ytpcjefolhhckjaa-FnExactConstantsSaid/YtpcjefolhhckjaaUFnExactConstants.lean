/- The pure statement of FnExactConstants. -/
import Derived.Test.YtpcjefolhhckjaaWf
import Derived.Test.YtpcjefolhhckjaaPD0
namespace Go.Proofs.Ytpcjefolhhckjaa.P
open Go.RowKit Go.Proofs.YtpcjefolhhckjaaW.PrintWords Go.Proofs.YtpcjefolhhckjaaW.PrintLast Go.Proofs.Ytpcjefolhhckjaa.Op
def laws_FnExactConstants.Pure : Prop := laws_FnExactConstants.f  = some true
end Go.Proofs.Ytpcjefolhhckjaa.P
