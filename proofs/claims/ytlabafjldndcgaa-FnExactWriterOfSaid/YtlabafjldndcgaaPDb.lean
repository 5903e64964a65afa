-- Printed by this session's own program over the kit's print (wip/tools/mp.py). Not trusted: Lean checks it.
import Derived.Test.YtlabafjldndcgaaP0
import Derived.Test.YtlabafjldndcgaaPDabcdefgi
import Derived.Test.YtlabafjldndcgaaPDall
import Derived.Test.YtlabafjldndcgaaPDbd
import Derived.Test.YtlabafjldndcgaaPDbfgij
import Derived.Test.YtlabafjldndcgaaPDbj
namespace Go.Proofs.Ytlabafjldndcgaa.P
open Go.RowKit Go.Proofs.YtlabafjldndcgaaW.PrintWords Go.Proofs.YtlabafjldndcgaaW.PrintLast Go.Proofs.YtlabafjldndcgaaW.PrintMore
attribute [local go_sem] max2_int min2_int max_two min_two max_three min_three max_four min_four   -- for this text's walks alone
set_option linter.unusedVariables false
set_option linter.unusedSimpArgs false

/-! ### spec_WriterOf: function 18 -/
def spec_WriterOf.f (k : Nat) (l0 : List (S58)) : Option (Int × Int) := (spec_ChainFault.f k l0).bind fun t157 => (if t157 = 0 then ((spec_l5Writer.f l0).bind fun t158 => (if t158 = 0 then (some (4, 0)) else (some (0, t158)))) else (some (t157, 0)))
theorem spec_WriterOf.mono : ∀ a0 k, LeO (spec_WriterOf.f k a0) (spec_WriterOf.f (k + 1) a0) := by
  intro a0 k
  unfold spec_WriterOf.f
  repeat' first
      | (with_reducible exact spec_ChainFault.mono _ _)
      | (with_reducible exact LeO.refl _)
      | (with_reducible exact LeO.none _)
      | (with_reducible refine LeO.ite ?_ ?_)
      | (with_reducible refine LeO.bind ?_ (fun _ => ?_))
      | exact spec_ChainFault.mono _ _
      | exact LeO.none _
      | refine LeO.ite ?_ ?_
      | refine LeO.bind ?_ (fun _ => ?_)

/-! ### laws_FnExactWriterOf: function 4 -/
def laws_FnExactWriterOf.f (k : Nat) (l0 : List (S61)) : Option (Bool) := (laws_szVersionS.f l0 1048576).bind fun t165 => (if t165 < 0 then (some true) else ((laws_toVersionS.f k l0).bind fun t166 => ((spec_WriterOf.f k t166).bind fun bt169 => ((laws_toVersionS.f k l0).bind fun t172 => ((impl_WriterOf.f k t172).bind fun bt175 => ((laws_eqIntResult.f bt175.1 bt175.2 bt169.1 bt169.2).bind fun t178 => (if t178 = true then ((laws_toVersionS.f k l0).bind fun t179 => ((laws_eqVersionS.f k t172 t179).bind fun t182 => (if t182 = true then (some true) else (some false)))) else (some false))))))))
theorem laws_FnExactWriterOf.mono : ∀ a0 k, LeO (laws_FnExactWriterOf.f k a0) (laws_FnExactWriterOf.f (k + 1) a0) := by
  intro a0 k
  unfold laws_FnExactWriterOf.f
  repeat' first
      | (with_reducible exact impl_WriterOf.mono _ _)
      | (with_reducible exact laws_eqVersionS.mono _ _ _)
      | (with_reducible exact laws_toVersionS.mono _ _)
      | (with_reducible exact spec_WriterOf.mono _ _)
      | (with_reducible exact LeO.refl _)
      | (with_reducible exact LeO.none _)
      | (with_reducible refine LeO.ite ?_ ?_)
      | (with_reducible refine LeO.bind ?_ (fun _ => ?_))
      | exact impl_WriterOf.mono _ _
      | exact laws_eqVersionS.mono _ _ _
      | exact laws_toVersionS.mono _ _
      | exact spec_WriterOf.mono _ _
      | exact LeO.none _
      | refine LeO.ite ?_ ?_
      | refine LeO.bind ?_ (fun _ => ?_)

end Go.Proofs.Ytlabafjldndcgaa.P
