-- Printed by this session's own program over the kit's print (wip/tools/mp.py). Not trusted: Lean checks it.
import Derived.Test.YtlabafjldndcgaaP0
import Derived.Test.YtlabafjldndcgaaPDcdhij
namespace Go.Proofs.Ytlabafjldndcgaa.P
open Go.RowKit Go.Proofs.YtlabafjldndcgaaW.PrintWords Go.Proofs.YtlabafjldndcgaaW.PrintLast Go.Proofs.YtlabafjldndcgaaW.PrintMore
attribute [local go_sem] max2_int min2_int max_two min_two max_three min_three max_four min_four   -- for this text's walks alone
set_option linter.unusedVariables false
set_option linter.unusedSimpArgs false

/-! ### impl_mayWrite: function 53 -/
def impl_mayWrite.f (l0 : List (S58)) (a1_0 : Int) (a1_1 : Int) : Option (Int) := if (l0.length : Int) > 0 then (if 0 < (l0.length : Int) then (if ((rd_T58 l0 0).f1) = 0 then (if ((rd_T58 l0 0).f0) = a1_1 then (if ((rd_T58 l0 0).f1) > a1_0 then (some 9) else (some 0)) else (some 9)) else (if ((rd_T58 l0 0).f1) > a1_0 then (some 9) else (some 0))) else (none)) else (some 0)

/-! ### impl_MayWrite: function 23 -/
def impl_MayWrite.j0 : Nat → List (S58) → Int → Bool → Int → Int → Option (Int)
  | 0, _, _, _, _, _ => none
  | k + 1, x0, x5, x15, x209000, x209001 => if x15 = true then (some 3) else (if x5 = 0 then ((impl_mayWrite.f x0 x209000 x209001).bind fun t210 => (some t210)) else (some x5))
def impl_MayWrite.f (k : Nat) (l0 : List (S58)) (a1_0 : Int) (a1_1 : Int) : Option (Int) := (impl_viewCode.f k l0 a1_0 a1_1).bind fun t209 => (if t209 = 0 then (impl_MayWrite.j0 k l0 t209 (a1_1 == 0) a1_0 a1_1) else (impl_MayWrite.j0 k l0 t209 false a1_0 a1_1))
theorem impl_MayWrite.mono_l : ∀ k, (∀ y0 y1 y2 y3 y4, LeO (impl_MayWrite.j0 k y0 y1 y2 y3 y4) (impl_MayWrite.j0 (k + 1) y0 y1 y2 y3 y4))
  | 0 => fun _ _ _ _ _ r h => by simp [impl_MayWrite.j0] at h
  | k + 1 => by
    have ih0 := impl_MayWrite.mono_l k
    · intro y0 y1 y2 y3 y4
      unfold impl_MayWrite.j0
      repeat' first
      | (with_reducible exact ih0 _ _ _ _ _)
      | (with_reducible exact impl_viewCode.mono _ _ _ _)
      | (with_reducible exact LeO.refl _)
      | (with_reducible exact LeO.none _)
      | (with_reducible refine LeO.ite ?_ ?_)
      | (with_reducible refine LeO.bind ?_ (fun _ => ?_))
      | exact ih0 _ _ _ _ _
      | exact impl_viewCode.mono _ _ _ _
      | exact LeO.none _
      | refine LeO.ite ?_ ?_
      | refine LeO.bind ?_ (fun _ => ?_)
theorem impl_MayWrite.mono : ∀ a0 a1 a2 k, LeO (impl_MayWrite.f k a0 a1 a2) (impl_MayWrite.f (k + 1) a0 a1 a2) := by
  intro a0 a1 a2 k
  have ih0 := impl_MayWrite.mono_l k
  unfold impl_MayWrite.f
  repeat' first
      | (with_reducible exact ih0 _ _ _ _ _)
      | (with_reducible exact impl_viewCode.mono _ _ _ _)
      | (with_reducible exact LeO.refl _)
      | (with_reducible exact LeO.none _)
      | (with_reducible refine LeO.ite ?_ ?_)
      | (with_reducible refine LeO.bind ?_ (fun _ => ?_))
      | exact ih0 _ _ _ _ _
      | exact impl_viewCode.mono _ _ _ _
      | exact LeO.none _
      | refine LeO.ite ?_ ?_
      | refine LeO.bind ?_ (fun _ => ?_)

end Go.Proofs.Ytlabafjldndcgaa.P
