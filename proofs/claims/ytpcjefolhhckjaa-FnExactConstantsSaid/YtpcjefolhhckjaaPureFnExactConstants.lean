/- The pure statement of the constants' law: it is closed. -/
import Derived.Test.YtpcjefolhhckjaaUFnExactConstants
import Derived.Test.YtpcjefolhhckjaaP0
namespace Go.Proofs.Ytpcjefolhhckjaa.Pure
open Go.RowKit Go.Proofs.Ytpcjefolhhckjaa.P
theorem FnExactConstants : laws_FnExactConstants.Pure := rfl
end Go.Proofs.Ytpcjefolhhckjaa.Pure
