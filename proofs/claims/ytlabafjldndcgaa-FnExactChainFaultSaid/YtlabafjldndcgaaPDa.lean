-- Printed by this session's own program over the kit's print (wip/tools/mp.py). Not trusted: Lean checks it.
import Derived.Test.YtlabafjldndcgaaP0
import Derived.Test.YtlabafjldndcgaaPDabcdefgi
import Derived.Test.YtlabafjldndcgaaPDall
namespace Go.Proofs.Ytlabafjldndcgaa.P
open Go.RowKit Go.Proofs.YtlabafjldndcgaaW.PrintWords Go.Proofs.YtlabafjldndcgaaW.PrintLast Go.Proofs.YtlabafjldndcgaaW.PrintMore
attribute [local go_sem] max2_int min2_int max_two min_two max_three min_three max_four min_four   -- for this text's walks alone
set_option linter.unusedVariables false
set_option linter.unusedSimpArgs false

/-! ### laws_FnExactChainFault: function 3 -/
def laws_FnExactChainFault.f (k : Nat) (l0 : List (S61)) : Option (Bool) := (laws_szVersionS.f l0 1048576).bind fun t141 => (if t141 < 0 then (some true) else ((laws_toVersionS.f k l0).bind fun t142 => ((spec_ChainFault.f k t142).bind fun t145 => ((laws_toVersionS.f k l0).bind fun t146 => ((impl_ChainFault.f k t146).bind fun t149 => (if t149 = t145 then ((laws_toVersionS.f k l0).bind fun t150 => ((laws_eqVersionS.f k t146 t150).bind fun t153 => (if t153 = true then (some true) else (some false)))) else (some false)))))))
theorem laws_FnExactChainFault.mono : ∀ a0 k, LeO (laws_FnExactChainFault.f k a0) (laws_FnExactChainFault.f (k + 1) a0) := by
  intro a0 k
  unfold laws_FnExactChainFault.f
  repeat' first
      | (with_reducible exact impl_ChainFault.mono _ _)
      | (with_reducible exact laws_eqVersionS.mono _ _ _)
      | (with_reducible exact laws_toVersionS.mono _ _)
      | (with_reducible exact spec_ChainFault.mono _ _)
      | (with_reducible exact LeO.refl _)
      | (with_reducible exact LeO.none _)
      | (with_reducible refine LeO.ite ?_ ?_)
      | (with_reducible refine LeO.bind ?_ (fun _ => ?_))
      | exact impl_ChainFault.mono _ _
      | exact laws_eqVersionS.mono _ _ _
      | exact laws_toVersionS.mono _ _
      | exact spec_ChainFault.mono _ _
      | exact LeO.none _
      | refine LeO.ite ?_ ?_
      | refine LeO.bind ?_ (fun _ => ?_)

end Go.Proofs.Ytlabafjldndcgaa.P
