-- Printed by this session's own program over the kit's print (wip/tools/mp.py). Not trusted: Lean checks it.
import Derived.Test.YtdhdgkonghefeaaP0
import Derived.Test.YtdhdgkonghefeaaPDm0
namespace Go.Proofs.Ytdhdgkonghefeaa.P
open Go.RowKit Go.Proofs.YtdhdgkonghefeaaW.PrintWords Go.Proofs.YtdhdgkonghefeaaW.PrintLast Go.Proofs.YtdhdgkonghefeaaW.PrintMore
attribute [local go_sem] max2_int min2_int max_two min_two max_three min_three max_four min_four   -- for this text's walks alone
set_option linter.unusedVariables false
set_option linter.unusedSimpArgs false

/-! ### laws_FnExactTreeFault: function 3 -/
def laws_FnExactTreeFault.f (k : Nat) (a0_0 : Int) (l0_1 : List (S89)) : Option (Bool) := (laws_szTree.f k a0_0 l0_1 1048576).bind fun t161 => (if t161 < 0 then (some true) else ((laws_toTree.f k a0_0 l0_1).bind fun bt162 => ((spec_TreeFault.f bt162.1 bt162.2).bind fun t166 => ((laws_toTree.f k a0_0 l0_1).bind fun bt167 => ((impl_TreeFault.f bt167.1 bt167.2).bind fun t172 => (if t172 = t166 then ((laws_toTree.f k a0_0 l0_1).bind fun bt173 => ((laws_eqTree.f k bt167.1 bt167.2 bt173.1 bt173.2).bind fun t177 => (if t177 = true then (some true) else (some false)))) else (some false)))))))

/-! ### spec_DepthOf: function 16 -/
def spec_DepthOf.f (a0_0 : Int) (l0_1 : List (S58)) : Option (Int × Int) := (spec_TreeFault.f a0_0 l0_1).bind fun t217 => (if t217 = 0 then ((spec_l4Path.f a0_0 l0_1 0).bind fun t218 => (some (0, (t218.length : Int)))) else (some (t217, 0)))

/-! ### impl_DepthOf: function 17 -/
def impl_DepthOf.f (k : Nat) (a0_0 : Int) (l0_1 : List (S58)) : Option (Int × Int) := (impl_TreeFault.f a0_0 l0_1).bind fun t223 => (if t223 = 0 then ((impl_Tree_path.f k a0_0 l0_1 0).bind fun t224 => (some (0, (t224.length : Int)))) else (some (t223, 0)))

/-! ### laws_eqIntResult: function 18 -/
def laws_eqIntResult.f (a0_0 : Int) (a0_1 : Int) (a1_0 : Int) (a1_1 : Int) : Option (Bool) := if a0_0 = a1_0 then (if a0_1 = a1_1 then (some true) else (some false)) else (some false)

/-! ### laws_FnExactDepthOf: function 5 -/
def laws_FnExactDepthOf.f (k : Nat) (a0_0 : Int) (l0_1 : List (S89)) : Option (Bool) := (laws_szTree.f k a0_0 l0_1 1048576).bind fun t230 => (if t230 < 0 then (some true) else ((laws_toTree.f k a0_0 l0_1).bind fun bt231 => ((spec_DepthOf.f bt231.1 bt231.2).bind fun bt235 => ((laws_toTree.f k a0_0 l0_1).bind fun bt238 => ((impl_DepthOf.f k bt238.1 bt238.2).bind fun bt243 => ((laws_eqIntResult.f bt243.1 bt243.2 bt235.1 bt235.2).bind fun t246 => (if t246 = true then ((laws_toTree.f k a0_0 l0_1).bind fun bt247 => ((laws_eqTree.f k bt238.1 bt238.2 bt247.1 bt247.2).bind fun t251 => (if t251 = true then (some true) else (some false)))) else (some false))))))))

/-! ### spec_PathTo: function 19 -/
def spec_PathTo.f (a0_0 : Int) (l0_1 : List (S58)) (a1 : Int) : Option (Int × List Int) := (spec_TreeFault.f a0_0 l0_1).bind fun t254 => (if t254 = 0 then ((spec_l4Key.f a1).bind fun t255 => (if t255 = true then ((spec_l4Path.f a0_0 l0_1 a1).bind fun t256 => (some (0, t256))) else (some (3, ([] : List Int))))) else (some (t254, ([] : List Int))))

/-! ### impl_PathTo: function 20 -/
def impl_PathTo.j0 : Nat → Int → Int → Bool → Int → List (S58) → Option (Int × List Int)
  | 0, _, _, _, _, _ => none
  | k + 1, x1, x5, x14, x261000, x261001 => if x14 = true then (some (3, ([] : List Int))) else (if x5 = 0 then ((impl_Tree_path.f k x261000 x261001 x1).bind fun t264 => (some (0, t264))) else (some (x5, ([] : List Int))))
def impl_PathTo.f (k : Nat) (a0_0 : Int) (l0_1 : List (S58)) (a1 : Int) : Option (Int × List Int) := (impl_TreeFault.f a0_0 l0_1).bind fun t262 => (if t262 = 0 then ((impl_isTreeKey.f a1).bind fun t263 => (impl_PathTo.j0 k a1 t262 (!t263) a0_0 l0_1)) else (impl_PathTo.j0 k a1 t262 false a0_0 l0_1))

end Go.Proofs.Ytdhdgkonghefeaa.P
