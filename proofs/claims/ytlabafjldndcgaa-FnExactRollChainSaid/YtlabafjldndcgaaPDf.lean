-- Printed by this session's own program over the kit's print (wip/tools/mp.py). Not trusted: Lean checks it.
import Derived.Test.YtlabafjldndcgaaP0
import Derived.Test.YtlabafjldndcgaaPDabcdefgi
import Derived.Test.YtlabafjldndcgaaPDall
import Derived.Test.YtlabafjldndcgaaPDbfgij
import Derived.Test.YtlabafjldndcgaaPDefgi
import Derived.Test.YtlabafjldndcgaaPDfgij
import Derived.Test.YtlabafjldndcgaaPDfj
namespace Go.Proofs.Ytlabafjldndcgaa.P
open Go.RowKit Go.Proofs.YtlabafjldndcgaaW.PrintWords Go.Proofs.YtlabafjldndcgaaW.PrintLast Go.Proofs.YtlabafjldndcgaaW.PrintMore
attribute [local go_sem] max2_int min2_int max_two min_two max_three min_three max_four min_four   -- for this text's walks alone
set_option linter.unusedVariables false
set_option linter.unusedSimpArgs false

/-! ### spec_RollChain: function 32 -/
def spec_RollChain.f (k : Nat) (l0 : List (S58)) (a1 : Int) : Option (Int × (List (S58))) := (spec_ChainFault.f k l0).bind fun t384 => (if t384 = 0 then ((spec_l5Txn.f a1).bind fun t385 => (if t385 = true then ((spec_l5Writer.f l0).bind fun t386 => (if t386 = a1 then (if 1 ≤ (l0.length : Int) then ((spec_l5Copy.f (l0.drop 1)).bind fun t391 => (some (0, t391))) else (none)) else (some (4, ([] : List (S58)))))) else (some (3, ([] : List (S58)))))) else (some (t384, ([] : List (S58)))))
theorem spec_RollChain.mono : ∀ a0 a1 k, LeO (spec_RollChain.f k a0 a1) (spec_RollChain.f (k + 1) a0 a1) := by
  intro a0 a1 k
  unfold spec_RollChain.f
  repeat' first
      | (with_reducible exact spec_ChainFault.mono _ _)
      | (with_reducible exact LeO.refl _)
      | (with_reducible exact LeO.none _)
      | (with_reducible refine LeO.ite ?_ ?_)
      | (with_reducible refine LeO.bind ?_ (fun _ => ?_))
      | exact spec_ChainFault.mono _ _
      | exact LeO.none _
      | refine LeO.ite ?_ ?_
      | refine LeO.bind ?_ (fun _ => ?_)

/-! ### laws_FnExactRollChain: function 8 -/
def laws_FnExactRollChain.j0 : Nat → List (S61) → Int → Bool → Int → List (S58) → Int → List (S58) → Option (Bool)
  | 0, _, _, _, _, _, _, _ => none
  | k + 1, x0, x1, x46, x422000, x422001, x430000, x430001 => if x46 = true then (some false) else ((laws_markChainResult.f k x430000 x430001 1).bind fun bt438 => ((laws_heldChainResult.f k x430000 bt438.2 1).bind fun t440 => (if t440 < 0 then (some false) else (if t440 = bt438.1 then ((laws_toVersionS.f k x0).bind fun t441 => ((impl_RollChain.f k t441 x1).bind fun bt444 => ((laws_eqChainResult.f k bt444.1 bt444.2 x422000 x422001).bind fun t449 => (if t449 = true then ((laws_heldChainResult.f k x430000 bt438.2 1).bind fun t450 => (if t450 < 0 then (some false) else (if t450 = bt438.1 then (some true) else (some false)))) else (some false))))) else (some false)))))
def laws_FnExactRollChain.f (k : Nat) (l0 : List (S61)) (a1 : Int) : Option (Bool) := (laws_szVersionS.f l0 1048576).bind fun t413 => (if t413 < 0 then (some true) else ((laws_toVersionS.f k l0).bind fun t414 => ((spec_RollChain.f k t414 a1).bind fun bt417 => ((laws_toVersionS.f k l0).bind fun t422 => ((impl_RollChain.f k t422 a1).bind fun bt425 => ((laws_eqChainResult.f k bt425.1 bt425.2 bt417.1 bt417.2).bind fun t430 => (if t430 = true then ((laws_toVersionS.f k l0).bind fun t431 => ((laws_eqVersionS.f k t422 t431).bind fun t434 => (if t434 = true then ((laws_markVersionS.f k t422 1).bind fun bt435 => (if bt435.1 < 0 then (laws_FnExactRollChain.j0 k l0 a1 true bt417.1 bt417.2 bt425.1 bt425.2) else ((laws_eqChainResult.f k bt425.1 bt425.2 bt417.1 bt417.2).bind fun t437 => (laws_FnExactRollChain.j0 k l0 a1 (!t437) bt417.1 bt417.2 bt425.1 bt425.2)))) else (some false)))) else (some false))))))))
theorem laws_FnExactRollChain.mono_l : ∀ k, (∀ y0 y1 y2 y3 y4 y5 y6, LeO (laws_FnExactRollChain.j0 k y0 y1 y2 y3 y4 y5 y6) (laws_FnExactRollChain.j0 (k + 1) y0 y1 y2 y3 y4 y5 y6))
  | 0 => fun _ _ _ _ _ _ _ r h => by simp [laws_FnExactRollChain.j0] at h
  | k + 1 => by
    have ih0 := laws_FnExactRollChain.mono_l k
    · intro y0 y1 y2 y3 y4 y5 y6
      unfold laws_FnExactRollChain.j0
      repeat' first
      | (with_reducible exact ih0 _ _ _ _ _ _ _)
      | (with_reducible exact impl_RollChain.mono _ _ _)
      | (with_reducible exact laws_eqChainResult.mono _ _ _ _ _)
      | (with_reducible exact laws_eqVersionS.mono _ _ _)
      | (with_reducible exact laws_heldChainResult.mono _ _ _ _)
      | (with_reducible exact laws_markChainResult.mono _ _ _ _)
      | (with_reducible exact laws_markVersionS.mono _ _ _)
      | (with_reducible exact laws_toVersionS.mono _ _)
      | (with_reducible exact spec_RollChain.mono _ _ _)
      | (with_reducible exact LeO.refl _)
      | (with_reducible exact LeO.none _)
      | (with_reducible refine LeO.ite ?_ ?_)
      | (with_reducible refine LeO.bind ?_ (fun _ => ?_))
      | exact ih0 _ _ _ _ _ _ _
      | exact impl_RollChain.mono _ _ _
      | exact laws_eqChainResult.mono _ _ _ _ _
      | exact laws_eqVersionS.mono _ _ _
      | exact laws_heldChainResult.mono _ _ _ _
      | exact laws_markChainResult.mono _ _ _ _
      | exact laws_markVersionS.mono _ _ _
      | exact laws_toVersionS.mono _ _
      | exact spec_RollChain.mono _ _ _
      | exact LeO.none _
      | refine LeO.ite ?_ ?_
      | refine LeO.bind ?_ (fun _ => ?_)
theorem laws_FnExactRollChain.mono : ∀ a0 a1 k, LeO (laws_FnExactRollChain.f k a0 a1) (laws_FnExactRollChain.f (k + 1) a0 a1) := by
  intro a0 a1 k
  have ih0 := laws_FnExactRollChain.mono_l k
  unfold laws_FnExactRollChain.f
  repeat' first
      | (with_reducible exact ih0 _ _ _ _ _ _ _)
      | (with_reducible exact impl_RollChain.mono _ _ _)
      | (with_reducible exact laws_eqChainResult.mono _ _ _ _ _)
      | (with_reducible exact laws_eqVersionS.mono _ _ _)
      | (with_reducible exact laws_heldChainResult.mono _ _ _ _)
      | (with_reducible exact laws_markChainResult.mono _ _ _ _)
      | (with_reducible exact laws_markVersionS.mono _ _ _)
      | (with_reducible exact laws_toVersionS.mono _ _)
      | (with_reducible exact spec_RollChain.mono _ _ _)
      | (with_reducible exact LeO.refl _)
      | (with_reducible exact LeO.none _)
      | (with_reducible refine LeO.ite ?_ ?_)
      | (with_reducible refine LeO.bind ?_ (fun _ => ?_))
      | exact ih0 _ _ _ _ _ _ _
      | exact impl_RollChain.mono _ _ _
      | exact laws_eqChainResult.mono _ _ _ _ _
      | exact laws_eqVersionS.mono _ _ _
      | exact laws_heldChainResult.mono _ _ _ _
      | exact laws_markChainResult.mono _ _ _ _
      | exact laws_markVersionS.mono _ _ _
      | exact laws_toVersionS.mono _ _
      | exact spec_RollChain.mono _ _ _
      | exact LeO.none _
      | refine LeO.ite ?_ ?_
      | refine LeO.bind ?_ (fun _ => ?_)

end Go.Proofs.Ytlabafjldndcgaa.P
