-- Printed by this session's own program over the kit's print (wip/tools/mp.py). Not trusted: Lean checks it.
import Derived.Test.YtdhdgkonghefeaaP0
import Derived.Test.YtdhdgkonghefeaaPDm0
import Derived.Test.YtdhdgkonghefeaaWRepsOne
import Derived.Test.YtdhdgkonghefeaaLb
namespace Go.Proofs.Ytdhdgkonghefeaa.P
open Go.RowKit Go.Proofs.YtdhdgkonghefeaaW.PrintWords Go.Proofs.YtdhdgkonghefeaaW.PrintLast Go.Proofs.YtdhdgkonghefeaaW.PrintMore
attribute [local go_sem] max2_int min2_int max_two min_two max_three min_three max_four min_four   -- for this text's walks alone
set_option linter.unusedVariables false
set_option linter.unusedSimpArgs false

/-! ### laws_FnExactKeysIn: function 7 -/
-- NEEDS Derived.Test.YtdhdgkonghefeaaLb
/-- The law, told once for all that is computed twice. -/
def laws_FnExactKeysIn.f (k : Nat) (a0_0 : Int) (l0_1 : List S89) (a1 : Int) (a2 : Int) : Option Bool :=
  (laws_szTree.f k a0_0 l0_1 1048576).bind fun t => if t < 0 then some true else
  (laws_toTree.f k a0_0 l0_1).bind fun x =>
  (spec_KeysIn.f k x.1 x.2 a1 a2).bind fun s => (impl_KeysIn.f k x.1 x.2 a1 a2).bind fun g =>
  (laws_eqIntsResult.f k g.1 g.2 s.1 s.2).bind fun q1 => if q1 = true then
    (laws_eqTree.f k x.1 x.2 x.1 x.2).bind fun q2 => if q2 = true then
      (laws_markTree.f k x.1 x.2 1).bind fun m => if m.1 < 0 then some false else
      (laws_markIntsResult.f k g.1 g.2 1).bind fun n => (laws_heldIntsResult.f k g.1 n.2 1).bind fun q3 => if q3 < 0 then some false else if q3 = n.1 then some true else some false
    else some false
  else some false



end Go.Proofs.Ytdhdgkonghefeaa.P
