-- Printed by this session's own program over the kit's print (wip/tools/mp.py). Not trusted: Lean checks it.
import Derived.Test.YtlabafjldndcgaaP0
import Derived.Test.YtlabafjldndcgaaPDabcdefgi
import Derived.Test.YtlabafjldndcgaaPDefgi
import Derived.Test.YtlabafjldndcgaaPDeh
namespace Go.Proofs.Ytlabafjldndcgaa.P
open Go.RowKit Go.Proofs.YtlabafjldndcgaaW.PrintWords Go.Proofs.YtlabafjldndcgaaW.PrintLast Go.Proofs.YtlabafjldndcgaaW.PrintMore
attribute [local go_sem] max2_int min2_int max_two min_two max_three min_three max_four min_four   -- for this text's walks alone
set_option linter.unusedVariables false
set_option linter.unusedSimpArgs false

/-! ### laws_FnExactPurgeChain: function 7 -/
def laws_FnExactPurgeChain.j0 : Nat → List (S61) → Int → Bool → Int → List (S58) → Int → List (S58) → Option (Bool)
  | 0, _, _, _, _, _, _, _ => none
  | k + 1, x0, x1, x46, x348000, x348001, x356000, x356001 => if x46 = true then (some false) else ((laws_markChainResult.f k x356000 x356001 1).bind fun bt364 => ((laws_heldChainResult.f k x356000 bt364.2 1).bind fun t366 => (if t366 < 0 then (some false) else (if t366 = bt364.1 then ((laws_toVersionS.f k x0).bind fun t367 => ((impl_PurgeChain.f k t367 x1).bind fun bt370 => ((laws_eqChainResult.f k bt370.1 bt370.2 x348000 x348001).bind fun t375 => (if t375 = true then ((laws_heldChainResult.f k x356000 bt364.2 1).bind fun t376 => (if t376 < 0 then (some false) else (if t376 = bt364.1 then (some true) else (some false)))) else (some false))))) else (some false)))))
def laws_FnExactPurgeChain.f (k : Nat) (l0 : List (S61)) (a1 : Int) : Option (Bool) := (laws_szVersionS.f l0 1048576).bind fun t339 => (if t339 < 0 then (some true) else ((laws_toVersionS.f k l0).bind fun t340 => ((spec_PurgeChain.f k t340 a1).bind fun bt343 => ((laws_toVersionS.f k l0).bind fun t348 => ((impl_PurgeChain.f k t348 a1).bind fun bt351 => ((laws_eqChainResult.f k bt351.1 bt351.2 bt343.1 bt343.2).bind fun t356 => (if t356 = true then ((laws_toVersionS.f k l0).bind fun t357 => ((laws_eqVersionS.f k t348 t357).bind fun t360 => (if t360 = true then ((laws_markVersionS.f k t348 1).bind fun bt361 => (if bt361.1 < 0 then (laws_FnExactPurgeChain.j0 k l0 a1 true bt343.1 bt343.2 bt351.1 bt351.2) else ((laws_eqChainResult.f k bt351.1 bt351.2 bt343.1 bt343.2).bind fun t363 => (laws_FnExactPurgeChain.j0 k l0 a1 (!t363) bt343.1 bt343.2 bt351.1 bt351.2)))) else (some false)))) else (some false))))))))
theorem laws_FnExactPurgeChain.mono_l : ∀ k, (∀ y0 y1 y2 y3 y4 y5 y6, LeO (laws_FnExactPurgeChain.j0 k y0 y1 y2 y3 y4 y5 y6) (laws_FnExactPurgeChain.j0 (k + 1) y0 y1 y2 y3 y4 y5 y6))
  | 0 => fun _ _ _ _ _ _ _ r h => by simp [laws_FnExactPurgeChain.j0] at h
  | k + 1 => by
    have ih0 := laws_FnExactPurgeChain.mono_l k
    · intro y0 y1 y2 y3 y4 y5 y6
      unfold laws_FnExactPurgeChain.j0
      repeat' first
      | (with_reducible exact ih0 _ _ _ _ _ _ _)
      | (with_reducible exact impl_PurgeChain.mono _ _ _)
      | (with_reducible exact laws_eqChainResult.mono _ _ _ _ _)
      | (with_reducible exact laws_eqVersionS.mono _ _ _)
      | (with_reducible exact laws_heldChainResult.mono _ _ _ _)
      | (with_reducible exact laws_markChainResult.mono _ _ _ _)
      | (with_reducible exact laws_markVersionS.mono _ _ _)
      | (with_reducible exact laws_toVersionS.mono _ _)
      | (with_reducible exact spec_PurgeChain.mono _ _ _)
      | (with_reducible exact LeO.refl _)
      | (with_reducible exact LeO.none _)
      | (with_reducible refine LeO.ite ?_ ?_)
      | (with_reducible refine LeO.bind ?_ (fun _ => ?_))
      | exact ih0 _ _ _ _ _ _ _
      | exact impl_PurgeChain.mono _ _ _
      | exact laws_eqChainResult.mono _ _ _ _ _
      | exact laws_eqVersionS.mono _ _ _
      | exact laws_heldChainResult.mono _ _ _ _
      | exact laws_markChainResult.mono _ _ _ _
      | exact laws_markVersionS.mono _ _ _
      | exact laws_toVersionS.mono _ _
      | exact spec_PurgeChain.mono _ _ _
      | exact LeO.none _
      | refine LeO.ite ?_ ?_
      | refine LeO.bind ?_ (fun _ => ?_)
theorem laws_FnExactPurgeChain.mono : ∀ a0 a1 k, LeO (laws_FnExactPurgeChain.f k a0 a1) (laws_FnExactPurgeChain.f (k + 1) a0 a1) := by
  intro a0 a1 k
  have ih0 := laws_FnExactPurgeChain.mono_l k
  unfold laws_FnExactPurgeChain.f
  repeat' first
      | (with_reducible exact ih0 _ _ _ _ _ _ _)
      | (with_reducible exact impl_PurgeChain.mono _ _ _)
      | (with_reducible exact laws_eqChainResult.mono _ _ _ _ _)
      | (with_reducible exact laws_eqVersionS.mono _ _ _)
      | (with_reducible exact laws_heldChainResult.mono _ _ _ _)
      | (with_reducible exact laws_markChainResult.mono _ _ _ _)
      | (with_reducible exact laws_markVersionS.mono _ _ _)
      | (with_reducible exact laws_toVersionS.mono _ _)
      | (with_reducible exact spec_PurgeChain.mono _ _ _)
      | (with_reducible exact LeO.refl _)
      | (with_reducible exact LeO.none _)
      | (with_reducible refine LeO.ite ?_ ?_)
      | (with_reducible refine LeO.bind ?_ (fun _ => ?_))
      | exact ih0 _ _ _ _ _ _ _
      | exact impl_PurgeChain.mono _ _ _
      | exact laws_eqChainResult.mono _ _ _ _ _
      | exact laws_eqVersionS.mono _ _ _
      | exact laws_heldChainResult.mono _ _ _ _
      | exact laws_markChainResult.mono _ _ _ _
      | exact laws_markVersionS.mono _ _ _
      | exact laws_toVersionS.mono _ _
      | exact spec_PurgeChain.mono _ _ _
      | exact LeO.none _
      | refine LeO.ite ?_ ?_
      | refine LeO.bind ?_ (fun _ => ?_)

end Go.Proofs.Ytlabafjldndcgaa.P
