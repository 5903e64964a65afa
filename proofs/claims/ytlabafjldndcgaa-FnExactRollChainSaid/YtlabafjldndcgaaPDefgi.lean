-- Printed by this session's own program over the kit's print (wip/tools/mp.py). Not trusted: Lean checks it.
import Derived.Test.YtlabafjldndcgaaP0
import Derived.Test.YtlabafjldndcgaaPDabcdefgi
namespace Go.Proofs.Ytlabafjldndcgaa.P
open Go.RowKit Go.Proofs.YtlabafjldndcgaaW.PrintWords Go.Proofs.YtlabafjldndcgaaW.PrintLast Go.Proofs.YtlabafjldndcgaaW.PrintMore
attribute [local go_sem] max2_int min2_int max_two min_two max_three min_three max_four min_four   -- for this text's walks alone
set_option linter.unusedVariables false
set_option linter.unusedSimpArgs false

/-! ### laws_eqChainResult: function 28 -/
def laws_eqChainResult.f (k : Nat) (a0_0 : Int) (l0_1 : List (S58)) (a1_0 : Int) (l1_1 : List (S58)) : Option (Bool) := if a0_0 = a1_0 then ((laws_eqVersionS.f k l0_1 l1_1).bind fun t325 => (if t325 = true then (some true) else (some false))) else (some false)
theorem laws_eqChainResult.mono : ∀ a0 a1 a2 a3 k, LeO (laws_eqChainResult.f k a0 a1 a2 a3) (laws_eqChainResult.f (k + 1) a0 a1 a2 a3) := by
  intro a0 a1 a2 a3 k
  unfold laws_eqChainResult.f
  repeat' first
      | (with_reducible exact laws_eqVersionS.mono _ _ _)
      | (with_reducible exact LeO.refl _)
      | (with_reducible exact LeO.none _)
      | (with_reducible refine LeO.ite ?_ ?_)
      | (with_reducible refine LeO.bind ?_ (fun _ => ?_))
      | exact laws_eqVersionS.mono _ _ _
      | exact LeO.none _
      | refine LeO.ite ?_ ?_
      | refine LeO.bind ?_ (fun _ => ?_)

/-! ### laws_markVersionS: function 29 -/
def laws_markVersionS.l0 : Nat → List (S58) → Int → Int → Option (Int × (List (S58)))
  | 0, _, _, _ => none
  | k + 1, x0, x1, x5 => if x5 < (x0.length : Int) then (if 0 ≤ x5 then ((some (x0.set (x5 : Int).toNat (⟨x1, (rd_T58 x0 x5).f1, (rd_T58 x0 x5).f2, (rd_T58 x0 x5).f3⟩ : S58) : List (S58))).bind fun y326 => ((some (y326.set (x5 : Int).toNat (⟨(rd_T58 y326 x5).f0, wrap64 (x1 + 1), (rd_T58 y326 x5).f2, (rd_T58 y326 x5).f3⟩ : S58) : List (S58))).bind fun y327 => ((some (y327.set (x5 : Int).toNat (⟨(rd_T58 y327 x5).f0, (rd_T58 y327 x5).f1, ((Int.tmod (wrap64 ((wrap64 (x1 + 1)) + 1)) 3) == 0), (rd_T58 y327 x5).f3⟩ : S58) : List (S58))).bind fun y328 => (laws_markVersionS.l0 k (y328.set (x5 : Int).toNat (⟨(rd_T58 y328 x5).f0, (rd_T58 y328 x5).f1, (rd_T58 y328 x5).f2, wrap64 ((wrap64 ((wrap64 (x1 + 1)) + 1)) + 1)⟩ : S58)) (wrap64 ((wrap64 ((wrap64 ((wrap64 (x1 + 1)) + 1)) + 1)) + 1)) (wrap64 (x5 + 1)))))) else (none)) else (some (x1, x0))
def laws_markVersionS.f (k : Nat) (l0 : List (S58)) (a1 : Int) : Option (Int × (List (S58))) := laws_markVersionS.l0 k l0 a1 0
theorem laws_markVersionS.mono_l : ∀ k, (∀ y0 y1 y2, LeO (laws_markVersionS.l0 k y0 y1 y2) (laws_markVersionS.l0 (k + 1) y0 y1 y2))
  | 0 => fun _ _ _ r h => by simp [laws_markVersionS.l0] at h
  | k + 1 => by
    have ih0 := laws_markVersionS.mono_l k
    · intro y0 y1 y2
      unfold laws_markVersionS.l0
      repeat' first
      | (with_reducible exact ih0 _ _ _)
      | (with_reducible exact LeO.refl _)
      | (with_reducible exact LeO.none _)
      | (with_reducible refine LeO.ite ?_ ?_)
      | (with_reducible refine LeO.bind ?_ (fun _ => ?_))
      | exact ih0 _ _ _
      | exact LeO.none _
      | refine LeO.ite ?_ ?_
      | refine LeO.bind ?_ (fun _ => ?_)
theorem laws_markVersionS.mono : ∀ a0 a1 k, LeO (laws_markVersionS.f k a0 a1) (laws_markVersionS.f (k + 1) a0 a1) := by
  intro a0 a1 k
  have ih0 := laws_markVersionS.mono_l k
  unfold laws_markVersionS.f
  repeat' first
      | (with_reducible exact ih0 _ _ _)
      | (with_reducible exact LeO.refl _)
      | (with_reducible exact LeO.none _)
      | (with_reducible refine LeO.ite ?_ ?_)
      | (with_reducible refine LeO.bind ?_ (fun _ => ?_))
      | exact ih0 _ _ _
      | exact LeO.none _
      | refine LeO.ite ?_ ?_
      | refine LeO.bind ?_ (fun _ => ?_)

/-! ### laws_markChainResult: function 30 -/
def laws_markChainResult.f (k : Nat) (a0_0 : Int) (l0_1 : List (S58)) (a1 : Int) : Option (Int × (List (S58))) := (laws_markVersionS.f k l0_1 a1).bind fun bt331 => (some (bt331.1, bt331.2))
theorem laws_markChainResult.mono : ∀ a0 a1 a2 k, LeO (laws_markChainResult.f k a0 a1 a2) (laws_markChainResult.f (k + 1) a0 a1 a2) := by
  intro a0 a1 a2 k
  unfold laws_markChainResult.f
  repeat' first
      | (with_reducible exact laws_markVersionS.mono _ _ _)
      | (with_reducible exact LeO.refl _)
      | (with_reducible exact LeO.none _)
      | (with_reducible refine LeO.ite ?_ ?_)
      | (with_reducible refine LeO.bind ?_ (fun _ => ?_))
      | exact laws_markVersionS.mono _ _ _
      | exact LeO.none _
      | refine LeO.ite ?_ ?_
      | refine LeO.bind ?_ (fun _ => ?_)

/-! ### laws_heldVersionS: function 59 -/
def laws_heldVersionS.l0 : Nat → List (S58) → Int → Int → Option (Int)
  | 0, _, _, _ => none
  | k + 1, x0, x1, x5 => if x5 < (x0.length : Int) then (if 0 ≤ x5 then (if ((rd_T58 x0 x5).f0) = x1 then (if ((rd_T58 x0 x5).f1) = (wrap64 (x1 + 1)) then (if (((rd_T58 x0 x5).f2) != ((Int.tmod (wrap64 ((wrap64 (x1 + 1)) + 1)) 3) == 0)) = true then (some (-1)) else (if ((rd_T58 x0 x5).f3) = (wrap64 ((wrap64 ((wrap64 (x1 + 1)) + 1)) + 1)) then (laws_heldVersionS.l0 k x0 (wrap64 ((wrap64 ((wrap64 ((wrap64 (x1 + 1)) + 1)) + 1)) + 1)) (wrap64 (x5 + 1))) else (some (-1)))) else (some (-1))) else (some (-1))) else (none)) else (some x1)
def laws_heldVersionS.f (k : Nat) (l0 : List (S58)) (a1 : Int) : Option (Int) := laws_heldVersionS.l0 k l0 a1 0
theorem laws_heldVersionS.mono_l : ∀ k, (∀ y0 y1 y2, LeO (laws_heldVersionS.l0 k y0 y1 y2) (laws_heldVersionS.l0 (k + 1) y0 y1 y2))
  | 0 => fun _ _ _ r h => by simp [laws_heldVersionS.l0] at h
  | k + 1 => by
    have ih0 := laws_heldVersionS.mono_l k
    · intro y0 y1 y2
      unfold laws_heldVersionS.l0
      repeat' first
      | (with_reducible exact ih0 _ _ _)
      | (with_reducible exact LeO.refl _)
      | (with_reducible exact LeO.none _)
      | (with_reducible refine LeO.ite ?_ ?_)
      | (with_reducible refine LeO.bind ?_ (fun _ => ?_))
      | exact ih0 _ _ _
      | exact LeO.none _
      | refine LeO.ite ?_ ?_
      | refine LeO.bind ?_ (fun _ => ?_)
theorem laws_heldVersionS.mono : ∀ a0 a1 k, LeO (laws_heldVersionS.f k a0 a1) (laws_heldVersionS.f (k + 1) a0 a1) := by
  intro a0 a1 k
  have ih0 := laws_heldVersionS.mono_l k
  unfold laws_heldVersionS.f
  repeat' first
      | (with_reducible exact ih0 _ _ _)
      | (with_reducible exact LeO.refl _)
      | (with_reducible exact LeO.none _)
      | (with_reducible refine LeO.ite ?_ ?_)
      | (with_reducible refine LeO.bind ?_ (fun _ => ?_))
      | exact ih0 _ _ _
      | exact LeO.none _
      | refine LeO.ite ?_ ?_
      | refine LeO.bind ?_ (fun _ => ?_)

/-! ### laws_heldChainResult: function 31 -/
def laws_heldChainResult.f (k : Nat) (a0_0 : Int) (l0_1 : List (S58)) (a1 : Int) : Option (Int) := (laws_heldVersionS.f k l0_1 a1).bind fun t338 => (if t338 < 0 then (some (-1)) else (some t338))
theorem laws_heldChainResult.mono : ∀ a0 a1 a2 k, LeO (laws_heldChainResult.f k a0 a1 a2) (laws_heldChainResult.f (k + 1) a0 a1 a2) := by
  intro a0 a1 a2 k
  unfold laws_heldChainResult.f
  repeat' first
      | (with_reducible exact laws_heldVersionS.mono _ _ _)
      | (with_reducible exact LeO.refl _)
      | (with_reducible exact LeO.none _)
      | (with_reducible refine LeO.ite ?_ ?_)
      | (with_reducible refine LeO.bind ?_ (fun _ => ?_))
      | exact laws_heldVersionS.mono _ _ _
      | exact LeO.none _
      | refine LeO.ite ?_ ?_
      | refine LeO.bind ?_ (fun _ => ?_)

end Go.Proofs.Ytlabafjldndcgaa.P
