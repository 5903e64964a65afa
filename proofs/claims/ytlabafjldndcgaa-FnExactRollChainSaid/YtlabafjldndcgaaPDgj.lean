-- Printed by this session's own program over the kit's print (wip/tools/mp.py). Not trusted: Lean checks it.
import Derived.Test.YtlabafjldndcgaaP0
import Derived.Test.YtlabafjldndcgaaPDall
import Derived.Test.YtlabafjldndcgaaPDbfgij
import Derived.Test.YtlabafjldndcgaaPDfgij
import Derived.Test.YtlabafjldndcgaaPDfgj
namespace Go.Proofs.Ytlabafjldndcgaa.P
open Go.RowKit Go.Proofs.YtlabafjldndcgaaW.PrintWords Go.Proofs.YtlabafjldndcgaaW.PrintLast Go.Proofs.YtlabafjldndcgaaW.PrintMore
attribute [local go_sem] max2_int min2_int max_two min_two max_three min_three max_four min_four   -- for this text's walks alone
set_option linter.unusedVariables false
set_option linter.unusedSimpArgs false

/-! ### spec_CommitChain: function 34 -/
def spec_CommitChain.j0 : Nat → List (S58) → Int → Int → Bool → Option (Int × (List (S58)))
  | 0, _, _, _, _ => none
  | k + 1, x0, x1, x2, x22 => if x22 = true then (some (3, ([] : List (S58)))) else ((spec_l5Writer.f x0).bind fun t455 => (if t455 = x1 then (if (x0.length : Int) > 1 then (if 1 < (x0.length : Int) then (if ((rd_T58 x0 1).f1) ≥ x2 then (some (1, ([] : List (S58)))) else ((spec_l5Copy.f x0).bind fun t457 => (if 0 < (t457.length : Int) then (some (0, (t457.set (0 : Int).toNat (⟨(rd_T58 t457 0).f0, x2, (rd_T58 t457 0).f2, (rd_T58 t457 0).f3⟩ : S58)))) else (none)))) else (none)) else ((spec_l5Copy.f x0).bind fun t461 => (if 0 < (t461.length : Int) then (some (0, (t461.set (0 : Int).toNat (⟨(rd_T58 t461 0).f0, x2, (rd_T58 t461 0).f2, (rd_T58 t461 0).f3⟩ : S58)))) else (none)))) else (some (4, ([] : List (S58))))))
def spec_CommitChain.f (k : Nat) (l0 : List (S58)) (a1 : Int) (a2 : Int) : Option (Int × (List (S58))) := (spec_ChainFault.f k l0).bind fun t452 => (if t452 = 0 then ((spec_l5Txn.f a1).bind fun t453 => (if t453 = true then ((spec_l5At.f a2).bind fun t454 => (spec_CommitChain.j0 k l0 a1 a2 (!t454))) else (spec_CommitChain.j0 k l0 a1 a2 true))) else (some (t452, ([] : List (S58)))))
theorem spec_CommitChain.mono_l : ∀ k, (∀ y0 y1 y2 y3, LeO (spec_CommitChain.j0 k y0 y1 y2 y3) (spec_CommitChain.j0 (k + 1) y0 y1 y2 y3))
  | 0 => fun _ _ _ _ r h => by simp [spec_CommitChain.j0] at h
  | k + 1 => by
    have ih0 := spec_CommitChain.mono_l k
    · intro y0 y1 y2 y3
      unfold spec_CommitChain.j0
      repeat' first
      | (with_reducible exact ih0 _ _ _ _)
      | (with_reducible exact spec_ChainFault.mono _ _)
      | (with_reducible exact LeO.refl _)
      | (with_reducible exact LeO.none _)
      | (with_reducible refine LeO.ite ?_ ?_)
      | (with_reducible refine LeO.bind ?_ (fun _ => ?_))
      | exact ih0 _ _ _ _
      | exact spec_ChainFault.mono _ _
      | exact LeO.none _
      | refine LeO.ite ?_ ?_
      | refine LeO.bind ?_ (fun _ => ?_)
theorem spec_CommitChain.mono : ∀ a0 a1 a2 k, LeO (spec_CommitChain.f k a0 a1 a2) (spec_CommitChain.f (k + 1) a0 a1 a2) := by
  intro a0 a1 a2 k
  have ih0 := spec_CommitChain.mono_l k
  unfold spec_CommitChain.f
  repeat' first
      | (with_reducible exact ih0 _ _ _ _)
      | (with_reducible exact spec_ChainFault.mono _ _)
      | (with_reducible exact LeO.refl _)
      | (with_reducible exact LeO.none _)
      | (with_reducible refine LeO.ite ?_ ?_)
      | (with_reducible refine LeO.bind ?_ (fun _ => ?_))
      | exact ih0 _ _ _ _
      | exact spec_ChainFault.mono _ _
      | exact LeO.none _
      | refine LeO.ite ?_ ?_
      | refine LeO.bind ?_ (fun _ => ?_)

/-! ### impl_CommitChain: function 35 -/
mutual
def impl_CommitChain.j0 : Nat → List (S58) → Int → Int → Int → Bool → Option (Int × (List (S58)))
  | 0, _, _, _, _, _ => none
  | k + 1, x0, x1, x2, x7, x14 => if x14 = true then (some (3, ([] : List (S58)))) else ((impl_isOpenOf.f x0 x1).bind fun t469 => (if t469 = true then (if (x0.length : Int) > 1 then (if 1 < (x0.length : Int) then (impl_CommitChain.j1 k x0 x2 x7 (decide (x2 ≤ ((rd_T58 x0 1).f1)))) else (none)) else (impl_CommitChain.j1 k x0 x2 x7 false)) else (some (4, ([] : List (S58))))))
def impl_CommitChain.j1 : Nat → List (S58) → Int → Int → Bool → Option (Int × (List (S58)))
  | 0, _, _, _, _ => none
  | k + 1, x0, x2, x7, x28 => if x28 = true then (some (1, ([] : List (S58)))) else (if x7 = 0 then ((slices_Clone_impl_Version.f x0).bind fun t471 => (if 0 < (t471.length : Int) then (some (0, (t471.set (0 : Int).toNat (⟨(rd_T58 t471 0).f0, x2, (rd_T58 t471 0).f2, (rd_T58 t471 0).f3⟩ : S58)))) else (none))) else (some (x7, ([] : List (S58)))))
end
def impl_CommitChain.f (k : Nat) (l0 : List (S58)) (a1 : Int) (a2 : Int) : Option (Int × (List (S58))) := (impl_ChainFault.f k l0).bind fun t466 => (if t466 = 0 then ((impl_isTxn.f a1).bind fun t467 => (if t467 = true then ((impl_within.f a2 1 1000000).bind fun t468 => (impl_CommitChain.j0 k l0 a1 a2 t466 (!t468))) else (impl_CommitChain.j0 k l0 a1 a2 t466 true))) else (some (t466, ([] : List (S58)))))
theorem impl_CommitChain.mono_l : ∀ k, (∀ y0 y1 y2 y3 y4, LeO (impl_CommitChain.j0 k y0 y1 y2 y3 y4) (impl_CommitChain.j0 (k + 1) y0 y1 y2 y3 y4)) ∧ (∀ y0 y1 y2 y3, LeO (impl_CommitChain.j1 k y0 y1 y2 y3) (impl_CommitChain.j1 (k + 1) y0 y1 y2 y3))
  | 0 => ⟨fun _ _ _ _ _ r h => by simp [impl_CommitChain.j0] at h, fun _ _ _ _ r h => by simp [impl_CommitChain.j1] at h⟩
  | k + 1 => by
    obtain ⟨ih0, ih1⟩ := impl_CommitChain.mono_l k
    refine ⟨?_, ?_⟩
    · intro y0 y1 y2 y3 y4
      unfold impl_CommitChain.j0
      repeat' first
      | (with_reducible exact ih0 _ _ _ _ _)
      | (with_reducible exact ih1 _ _ _ _)
      | (with_reducible exact impl_ChainFault.mono _ _)
      | (with_reducible exact LeO.refl _)
      | (with_reducible exact LeO.none _)
      | (with_reducible refine LeO.ite ?_ ?_)
      | (with_reducible refine LeO.bind ?_ (fun _ => ?_))
      | exact ih0 _ _ _ _ _
      | exact ih1 _ _ _ _
      | exact impl_ChainFault.mono _ _
      | exact LeO.none _
      | refine LeO.ite ?_ ?_
      | refine LeO.bind ?_ (fun _ => ?_)
    · intro y0 y1 y2 y3
      unfold impl_CommitChain.j1
      repeat' first
      | (with_reducible exact ih0 _ _ _ _ _)
      | (with_reducible exact ih1 _ _ _ _)
      | (with_reducible exact impl_ChainFault.mono _ _)
      | (with_reducible exact LeO.refl _)
      | (with_reducible exact LeO.none _)
      | (with_reducible refine LeO.ite ?_ ?_)
      | (with_reducible refine LeO.bind ?_ (fun _ => ?_))
      | exact ih0 _ _ _ _ _
      | exact ih1 _ _ _ _
      | exact impl_ChainFault.mono _ _
      | exact LeO.none _
      | refine LeO.ite ?_ ?_
      | refine LeO.bind ?_ (fun _ => ?_)
theorem impl_CommitChain.mono : ∀ a0 a1 a2 k, LeO (impl_CommitChain.f k a0 a1 a2) (impl_CommitChain.f (k + 1) a0 a1 a2) := by
  intro a0 a1 a2 k
  obtain ⟨ih0, ih1⟩ := impl_CommitChain.mono_l k
  unfold impl_CommitChain.f
  repeat' first
      | (with_reducible exact ih0 _ _ _ _ _)
      | (with_reducible exact ih1 _ _ _ _)
      | (with_reducible exact impl_ChainFault.mono _ _)
      | (with_reducible exact LeO.refl _)
      | (with_reducible exact LeO.none _)
      | (with_reducible refine LeO.ite ?_ ?_)
      | (with_reducible refine LeO.bind ?_ (fun _ => ?_))
      | exact ih0 _ _ _ _ _
      | exact ih1 _ _ _ _
      | exact impl_ChainFault.mono _ _
      | exact LeO.none _
      | refine LeO.ite ?_ ?_
      | refine LeO.bind ?_ (fun _ => ?_)

end Go.Proofs.Ytlabafjldndcgaa.P
