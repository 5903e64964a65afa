-- Printed by this session's own program over the kit's print (wip/tools/mp.py). Not trusted: Lean checks it.
import Derived.Test.YtdhdgkonghefeaaP0
import Derived.Test.YtdhdgkonghefeaaPDm0
import Derived.Test.YtdhdgkonghefeaaLb
namespace Go.Proofs.Ytdhdgkonghefeaa.P
open Go.RowKit Go.Proofs.YtdhdgkonghefeaaW.PrintWords Go.Proofs.YtdhdgkonghefeaaW.PrintLast Go.Proofs.YtdhdgkonghefeaaW.PrintMore
attribute [local go_sem] max2_int min2_int max_two min_two max_three min_three max_four min_four   -- for this text's walks alone
set_option linter.unusedVariables false
set_option linter.unusedSimpArgs false

/-! ### laws_FnExactTreeFault: function 3 -/
def laws_FnExactTreeFault.f (k : Nat) (a0_0 : Int) (l0_1 : List (S89)) : Option (Bool) := (laws_szTree.f k a0_0 l0_1 1048576).bind fun t161 => (if t161 < 0 then (some true) else ((laws_toTree.f k a0_0 l0_1).bind fun bt162 => ((spec_TreeFault.f bt162.1 bt162.2).bind fun t166 => ((laws_toTree.f k a0_0 l0_1).bind fun bt167 => ((impl_TreeFault.f bt167.1 bt167.2).bind fun t172 => (if t172 = t166 then ((laws_toTree.f k a0_0 l0_1).bind fun bt173 => ((laws_eqTree.f k bt167.1 bt167.2 bt173.1 bt173.2).bind fun t177 => (if t177 = true then (some true) else (some false)))) else (some false)))))))

/-! ### spec_HasKey: function 14 -/
def spec_HasKey.f (a0_0 : Int) (l0_1 : List (S58)) (a1 : Int) : Option (Bool) := (spec_TreeFault.f a0_0 l0_1).bind fun t180 => (if t180 = 0 then ((spec_l4Has.f a0_0 l0_1 a1).bind fun t181 => (some t181)) else (some false))

/-! ### laws_FnExactHasKey: function 4 -/
def laws_FnExactHasKey.f (k : Nat) (a0_0 : Int) (l0_1 : List (S89)) (a1 : Int) : Option (Bool) := (laws_szTree.f k a0_0 l0_1 1048576).bind fun t197 => (if t197 < 0 then (some true) else ((laws_toTree.f k a0_0 l0_1).bind fun bt198 => ((spec_HasKey.f bt198.1 bt198.2 a1).bind fun t202 => ((laws_toTree.f k a0_0 l0_1).bind fun bt203 => ((impl_HasKey.f k bt203.1 bt203.2 a1).bind fun t208 => (if (t208 != t202) = true then (some false) else ((laws_toTree.f k a0_0 l0_1).bind fun bt209 => ((laws_eqTree.f k bt203.1 bt203.2 bt209.1 bt209.2).bind fun t213 => (if t213 = true then (some true) else (some false))))))))))

/-! ### spec_DepthOf: function 16 -/
def spec_DepthOf.f (a0_0 : Int) (l0_1 : List (S58)) : Option (Int × Int) := (spec_TreeFault.f a0_0 l0_1).bind fun t216 => (if t216 = 0 then ((spec_l4Path.f a0_0 l0_1 0).bind fun t217 => (some (0, (t217.length : Int)))) else (some (t216, 0)))

/-! ### impl_DepthOf: function 17 -/
def impl_DepthOf.f (k : Nat) (a0_0 : Int) (l0_1 : List (S58)) : Option (Int × Int) := (impl_TreeFault.f a0_0 l0_1).bind fun t222 => (if t222 = 0 then ((impl_Tree_path.f k a0_0 l0_1 0).bind fun t223 => (some (0, (t223.length : Int)))) else (some (t222, 0)))

/-! ### laws_eqIntResult: function 18 -/
def laws_eqIntResult.f (a0_0 : Int) (a0_1 : Int) (a1_0 : Int) (a1_1 : Int) : Option (Bool) := if a0_0 = a1_0 then (if a0_1 = a1_1 then (some true) else (some false)) else (some false)

/-! ### laws_FnExactDepthOf: function 5 -/
def laws_FnExactDepthOf.f (k : Nat) (a0_0 : Int) (l0_1 : List (S89)) : Option (Bool) := (laws_szTree.f k a0_0 l0_1 1048576).bind fun t229 => (if t229 < 0 then (some true) else ((laws_toTree.f k a0_0 l0_1).bind fun bt230 => ((spec_DepthOf.f bt230.1 bt230.2).bind fun bt234 => ((laws_toTree.f k a0_0 l0_1).bind fun bt237 => ((impl_DepthOf.f k bt237.1 bt237.2).bind fun bt242 => ((laws_eqIntResult.f bt242.1 bt242.2 bt234.1 bt234.2).bind fun t245 => (if t245 = true then ((laws_toTree.f k a0_0 l0_1).bind fun bt246 => ((laws_eqTree.f k bt237.1 bt237.2 bt246.1 bt246.2).bind fun t250 => (if t250 = true then (some true) else (some false)))) else (some false))))))))

/-! ### spec_PathTo: function 19 -/
def spec_PathTo.f (a0_0 : Int) (l0_1 : List (S58)) (a1 : Int) : Option (Int × List Int) := (spec_TreeFault.f a0_0 l0_1).bind fun t253 => (if t253 = 0 then ((spec_l4Key.f a1).bind fun t254 => (if t254 = true then ((spec_l4Path.f a0_0 l0_1 a1).bind fun t255 => (some (0, t255))) else (some (3, ([] : List Int))))) else (some (t253, ([] : List Int))))

/-! ### impl_PathTo: function 20 -/
def impl_PathTo.j0 : Nat → Int → Int → Bool → Int → List (S58) → Option (Int × List Int)
  | 0, _, _, _, _, _ => none
  | k + 1, x1, x5, x14, x260000, x260001 => if x14 = true then (some (3, ([] : List Int))) else (if x5 = 0 then ((impl_Tree_path.f k x260000 x260001 x1).bind fun t263 => (some (0, t263))) else (some (x5, ([] : List Int))))
def impl_PathTo.f (k : Nat) (a0_0 : Int) (l0_1 : List (S58)) (a1 : Int) : Option (Int × List Int) := (impl_TreeFault.f a0_0 l0_1).bind fun t261 => (if t261 = 0 then ((impl_isTreeKey.f a1).bind fun t262 => (impl_PathTo.j0 k a1 t261 (!t262) a0_0 l0_1)) else (impl_PathTo.j0 k a1 t261 false a0_0 l0_1))

/-! ### laws_FnExactPathTo: function 6 -/
-- NEEDS Derived.Test.YtdhdgkonghefeaaLb
/-- The law, told once for all that is computed twice. -/
def laws_FnExactPathTo.f (k : Nat) (a0_0 : Int) (l0_1 : List S89) (a1 : Int) : Option Bool :=
  (laws_szTree.f k a0_0 l0_1 1048576).bind fun t => if t < 0 then some true else
  (laws_toTree.f k a0_0 l0_1).bind fun x =>
  (spec_PathTo.f x.1 x.2 a1).bind fun s => (impl_PathTo.f k x.1 x.2 a1).bind fun g =>
  (laws_eqIntsResult.f k g.1 g.2 s.1 s.2).bind fun q1 => if q1 = true then
    (laws_eqTree.f k x.1 x.2 x.1 x.2).bind fun q2 => if q2 = true then
      (laws_markTree.f k x.1 x.2 1).bind fun m => if m.1 < 0 then some false else
      (laws_markIntsResult.f k g.1 g.2 1).bind fun n => (laws_heldIntsResult.f k g.1 n.2 1).bind fun q3 => if q3 < 0 then some false else if q3 = n.1 then some true else some false
    else some false
  else some false


end Go.Proofs.Ytdhdgkonghefeaa.P
