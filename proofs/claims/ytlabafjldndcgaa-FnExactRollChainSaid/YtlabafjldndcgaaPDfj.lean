-- Printed by this session's own program over the kit's print (wip/tools/mp.py). Not trusted: Lean checks it.
import Derived.Test.YtlabafjldndcgaaP0
import Derived.Test.YtlabafjldndcgaaPDall
import Derived.Test.YtlabafjldndcgaaPDfgij
import Derived.Test.YtlabafjldndcgaaPDfgj
namespace Go.Proofs.Ytlabafjldndcgaa.P
open Go.RowKit Go.Proofs.YtlabafjldndcgaaW.PrintWords Go.Proofs.YtlabafjldndcgaaW.PrintLast Go.Proofs.YtlabafjldndcgaaW.PrintMore
attribute [local go_sem] max2_int min2_int max_two min_two max_three min_three max_four min_four   -- for this text's walks alone
set_option linter.unusedVariables false
set_option linter.unusedSimpArgs false

/-! ### impl_RollChain: function 33 -/
def impl_RollChain.f (k : Nat) (l0 : List (S58)) (a1 : Int) : Option (Int × (List (S58))) := (impl_ChainFault.f k l0).bind fun t403 => (if t403 = 0 then ((impl_isTxn.f a1).bind fun t404 => (if t404 = true then ((impl_isOpenOf.f l0 a1).bind fun t405 => (if t405 = true then (if 1 ≤ (l0.length : Int) then ((slices_Clone_impl_Version.f (l0.drop 1)).bind fun t410 => (some (0, t410))) else (none)) else (some (4, ([] : List (S58)))))) else (some (3, ([] : List (S58)))))) else (some (t403, ([] : List (S58)))))
theorem impl_RollChain.mono : ∀ a0 a1 k, LeO (impl_RollChain.f k a0 a1) (impl_RollChain.f (k + 1) a0 a1) := by
  intro a0 a1 k
  unfold impl_RollChain.f
  repeat' first
      | (with_reducible exact impl_ChainFault.mono _ _)
      | (with_reducible exact LeO.refl _)
      | (with_reducible exact LeO.none _)
      | (with_reducible refine LeO.ite ?_ ?_)
      | (with_reducible refine LeO.bind ?_ (fun _ => ?_))
      | exact impl_ChainFault.mono _ _
      | exact LeO.none _
      | refine LeO.ite ?_ ?_
      | refine LeO.bind ?_ (fun _ => ?_)

end Go.Proofs.Ytlabafjldndcgaa.P
