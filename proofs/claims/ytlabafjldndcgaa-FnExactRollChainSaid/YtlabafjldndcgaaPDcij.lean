-- Printed by this session's own program over the kit's print (wip/tools/mp.py). Not trusted: Lean checks it.
import Derived.Test.YtlabafjldndcgaaP0
import Derived.Test.YtlabafjldndcgaaPDcdij
namespace Go.Proofs.Ytlabafjldndcgaa.P
open Go.RowKit Go.Proofs.YtlabafjldndcgaaW.PrintWords Go.Proofs.YtlabafjldndcgaaW.PrintLast Go.Proofs.YtlabafjldndcgaaW.PrintMore
attribute [local go_sem] max2_int min2_int max_two min_two max_three min_three max_four min_four   -- for this text's walks alone
set_option linter.unusedVariables false
set_option linter.unusedSimpArgs false

/-! ### spec_l5May: function 51 -/
def spec_l5May.f (l0 : List (S58)) (a1_0 : Int) (a1_1 : Int) : Option (Bool) := if (l0.length : Int) = 0 then (some true) else (if 0 < (l0.length : Int) then (if ((rd_T58 l0 0).f1) = 0 then (some (((rd_T58 l0 0).f0) == a1_1)) else (some (decide (((rd_T58 l0 0).f1) ≤ a1_0)))) else (none))

/-! ### spec_MayWrite: function 21 -/
def spec_MayWrite.f (k : Nat) (l0 : List (S58)) (a1_0 : Int) (a1_1 : Int) : Option (Int) := (spec_l5Asked.f k l0 a1_0 a1_1).bind fun t194 => (if t194 = 0 then (if a1_1 = 0 then (some 3) else ((spec_l5May.f l0 a1_0 a1_1).bind fun t195 => (if t195 = true then (some 0) else (some 9)))) else (some t194))
theorem spec_MayWrite.mono : ∀ a0 a1 a2 k, LeO (spec_MayWrite.f k a0 a1 a2) (spec_MayWrite.f (k + 1) a0 a1 a2) := by
  intro a0 a1 a2 k
  unfold spec_MayWrite.f
  repeat' first
      | (with_reducible exact spec_l5Asked.mono _ _ _ _)
      | (with_reducible exact LeO.refl _)
      | (with_reducible exact LeO.none _)
      | (with_reducible refine LeO.ite ?_ ?_)
      | (with_reducible refine LeO.bind ?_ (fun _ => ?_))
      | exact spec_l5Asked.mono _ _ _ _
      | exact LeO.none _
      | refine LeO.ite ?_ ?_
      | refine LeO.bind ?_ (fun _ => ?_)

end Go.Proofs.Ytlabafjldndcgaa.P
