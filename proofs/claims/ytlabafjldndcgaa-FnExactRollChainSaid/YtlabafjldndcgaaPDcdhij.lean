-- Printed by this session's own program over the kit's print (wip/tools/mp.py). Not trusted: Lean checks it.
import Derived.Test.YtlabafjldndcgaaP0
import Derived.Test.YtlabafjldndcgaaPDall
namespace Go.Proofs.Ytlabafjldndcgaa.P
open Go.RowKit Go.Proofs.YtlabafjldndcgaaW.PrintWords Go.Proofs.YtlabafjldndcgaaW.PrintLast Go.Proofs.YtlabafjldndcgaaW.PrintMore
attribute [local go_sem] max2_int min2_int max_two min_two max_three min_three max_four min_four   -- for this text's walks alone
set_option linter.unusedVariables false
set_option linter.unusedSimpArgs false

/-! ### impl_viewCode: function 52 -/
def impl_viewCode.f (k : Nat) (l0 : List (S58)) (a1_0 : Int) (a1_1 : Int) : Option (Int) := (impl_ChainFault.f k l0).bind fun t200 => (if t200 = 0 then ((impl_isLsn.f a1_0).bind fun t201 => (if t201 = true then ((impl_within.f a1_1 0 999).bind fun t202 => (if t202 = true then (some t200) else (some 3))) else (some 3))) else (some t200))
theorem impl_viewCode.mono : ∀ a0 a1 a2 k, LeO (impl_viewCode.f k a0 a1 a2) (impl_viewCode.f (k + 1) a0 a1 a2) := by
  intro a0 a1 a2 k
  unfold impl_viewCode.f
  repeat' first
      | (with_reducible exact impl_ChainFault.mono _ _)
      | (with_reducible exact LeO.refl _)
      | (with_reducible exact LeO.none _)
      | (with_reducible refine LeO.ite ?_ ?_)
      | (with_reducible refine LeO.bind ?_ (fun _ => ?_))
      | exact impl_ChainFault.mono _ _
      | exact LeO.none _
      | refine LeO.ite ?_ ?_
      | refine LeO.bind ?_ (fun _ => ?_)

end Go.Proofs.Ytlabafjldndcgaa.P
