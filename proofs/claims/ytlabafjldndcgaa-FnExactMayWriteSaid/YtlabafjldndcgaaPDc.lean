-- Printed by this session's own program over the kit's print (wip/tools/mp.py). Not trusted: Lean checks it.
import Derived.Test.YtlabafjldndcgaaP0
import Derived.Test.YtlabafjldndcgaaPDabcdefgi
import Derived.Test.YtlabafjldndcgaaPDcdi
import Derived.Test.YtlabafjldndcgaaPDchij
import Derived.Test.YtlabafjldndcgaaPDcij
namespace Go.Proofs.Ytlabafjldndcgaa.P
open Go.RowKit Go.Proofs.YtlabafjldndcgaaW.PrintWords Go.Proofs.YtlabafjldndcgaaW.PrintLast Go.Proofs.YtlabafjldndcgaaW.PrintMore
attribute [local go_sem] max2_int min2_int max_two min_two max_three min_three max_four min_four   -- for this text's walks alone
set_option linter.unusedVariables false
set_option linter.unusedSimpArgs false

/-! ### laws_FnExactMayWrite: function 5 -/
def laws_FnExactMayWrite.f (k : Nat) (l0 : List (S61)) (a1_0 : Int) (a1_1 : Int) : Option (Bool) := (laws_szVersionS.f l0 1048576).bind fun t212 => (if t212 < 0 then (some true) else ((laws_toVersionS.f k l0).bind fun t213 => ((laws_toView.f a1_0 a1_1).bind fun bt216 => ((spec_MayWrite.f k t213 bt216.1 bt216.2).bind fun t218 => ((laws_toVersionS.f k l0).bind fun t219 => ((laws_toView.f a1_0 a1_1).bind fun bt222 => ((impl_MayWrite.f k t219 bt222.1 bt222.2).bind fun t224 => (if t224 = t218 then ((laws_toVersionS.f k l0).bind fun t225 => ((laws_eqVersionS.f k t219 t225).bind fun t228 => (if t228 = true then (some true) else (some false)))) else (some false)))))))))
theorem laws_FnExactMayWrite.mono : ∀ a0 a1 a2 k, LeO (laws_FnExactMayWrite.f k a0 a1 a2) (laws_FnExactMayWrite.f (k + 1) a0 a1 a2) := by
  intro a0 a1 a2 k
  unfold laws_FnExactMayWrite.f
  repeat' first
      | (with_reducible exact impl_MayWrite.mono _ _ _ _)
      | (with_reducible exact laws_eqVersionS.mono _ _ _)
      | (with_reducible exact laws_toVersionS.mono _ _)
      | (with_reducible exact spec_MayWrite.mono _ _ _ _)
      | (with_reducible exact LeO.refl _)
      | (with_reducible exact LeO.none _)
      | (with_reducible refine LeO.ite ?_ ?_)
      | (with_reducible refine LeO.bind ?_ (fun _ => ?_))
      | exact impl_MayWrite.mono _ _ _ _
      | exact laws_eqVersionS.mono _ _ _
      | exact laws_toVersionS.mono _ _
      | exact spec_MayWrite.mono _ _ _ _
      | exact LeO.none _
      | refine LeO.ite ?_ ?_
      | refine LeO.bind ?_ (fun _ => ?_)

end Go.Proofs.Ytlabafjldndcgaa.P
