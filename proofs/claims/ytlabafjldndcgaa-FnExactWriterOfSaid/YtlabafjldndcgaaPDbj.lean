-- Printed by this session's own program over the kit's print (wip/tools/mp.py). Not trusted: Lean checks it.
import Derived.Test.YtlabafjldndcgaaP0
import Derived.Test.YtlabafjldndcgaaPDall
namespace Go.Proofs.Ytlabafjldndcgaa.P
open Go.RowKit Go.Proofs.YtlabafjldndcgaaW.PrintWords Go.Proofs.YtlabafjldndcgaaW.PrintLast Go.Proofs.YtlabafjldndcgaaW.PrintMore
attribute [local go_sem] max2_int min2_int max_two min_two max_three min_three max_four min_four   -- for this text's walks alone
set_option linter.unusedVariables false
set_option linter.unusedSimpArgs false

/-! ### impl_WriterOf: function 19 -/
def impl_WriterOf.f (k : Nat) (l0 : List (S58)) : Option (Int × Int) := (impl_ChainFault.f k l0).bind fun t160 => (if t160 = 0 then (if (l0.length : Int) = 0 then (some (4, 0)) else (if 0 < (l0.length : Int) then (if ((rd_T58 l0 0).f1) = 0 then (some (0, (rd_T58 l0 0).f0)) else (some (4, 0))) else (none))) else (some (t160, 0)))
theorem impl_WriterOf.mono : ∀ a0 k, LeO (impl_WriterOf.f k a0) (impl_WriterOf.f (k + 1) a0) := by
  intro a0 k
  unfold impl_WriterOf.f
  repeat' first
      | (with_reducible exact impl_ChainFault.mono _ _)
      | (with_reducible exact LeO.refl _)
      | (with_reducible exact LeO.none _)
      | (with_reducible refine LeO.ite ?_ ?_)
      | (with_reducible refine LeO.bind ?_ (fun _ => ?_))
      | exact impl_ChainFault.mono _ _
      | exact LeO.none _
      | refine LeO.ite ?_ ?_
      | refine LeO.bind ?_ (fun _ => ?_)

end Go.Proofs.Ytlabafjldndcgaa.P
