-- Printed by this session's own program over the kit's print (wip/tools/mp.py). Not trusted: Lean checks it.
import Derived.Test.YtlabafjldndcgaaP0
import Derived.Test.YtlabafjldndcgaaPDall
namespace Go.Proofs.Ytlabafjldndcgaa.P
open Go.RowKit Go.Proofs.YtlabafjldndcgaaW.PrintWords Go.Proofs.YtlabafjldndcgaaW.PrintLast Go.Proofs.YtlabafjldndcgaaW.PrintMore
attribute [local go_sem] max2_int min2_int max_two min_two max_three min_three max_four min_four   -- for this text's walks alone
set_option linter.unusedVariables false
set_option linter.unusedSimpArgs false

/-! ### spec_l5Purge: function 57 -/
def spec_l5Purge.l0 : Nat → List (S58) → Int → List (S58) → Int → Option ((List (S58)))
  | 0, _, _, _, _ => none
  | k + 1, x0, x1, x5, x6 => if x6 < (x0.length : Int) then (if 0 ≤ x6 then (if x5.length < 4398046511104 then ((some (x5 ++ [(⟨(rd_T58 x0 x6).f0, (rd_T58 x0 x6).f1, (rd_T58 x0 x6).f2, (rd_T58 x0 x6).f3⟩ : S58)] : List (S58))).bind fun y274 => (if ((rd_T58 x0 x6).f1) = 0 then (spec_l5Purge.l0 k x0 x1 y274 (wrap64 (x6 + 1))) else (if ((rd_T58 x0 x6).f1) ≤ x1 then (if (y274.length : Int) > 0 then (if 0 ≤ (wrap64 ((y274.length : Int) - 1)) then (if (wrap64 ((y274.length : Int) - 1)) < (y274.length : Int) then (if (rd_T58 y274 (wrap64 ((y274.length : Int) - 1))).f2 = true then (if ((rd_T58 y274 (wrap64 ((y274.length : Int) - 1))).f1) = 0 then (some y274) else (if ((rd_T58 y274 (wrap64 ((y274.length : Int) - 1))).f1) ≤ x1 then (if (wrap64 ((y274.length : Int) - 1)) ≤ (y274.length : Int) then (some (y274.take ((wrap64 ((y274.length : Int) - 1)) : Int).toNat)) else (none)) else (some y274))) else (some y274)) else (none)) else (none)) else (some y274)) else (spec_l5Purge.l0 k x0 x1 y274 (wrap64 (x6 + 1)))))) else (none)) else (none)) else (if (x5.length : Int) > 0 then (if 0 ≤ (wrap64 ((x5.length : Int) - 1)) then (if (wrap64 ((x5.length : Int) - 1)) < (x5.length : Int) then (if (rd_T58 x5 (wrap64 ((x5.length : Int) - 1))).f2 = true then (if ((rd_T58 x5 (wrap64 ((x5.length : Int) - 1))).f1) = 0 then (some x5) else (if ((rd_T58 x5 (wrap64 ((x5.length : Int) - 1))).f1) ≤ x1 then (if (wrap64 ((x5.length : Int) - 1)) ≤ (x5.length : Int) then (some (x5.take ((wrap64 ((x5.length : Int) - 1)) : Int).toNat)) else (none)) else (some x5))) else (some x5)) else (none)) else (none)) else (some x5))
def spec_l5Purge.f (k : Nat) (l0 : List (S58)) (a1 : Int) : Option ((List (S58))) := spec_l5Purge.l0 k l0 a1 (([] : List (S58))) 0
theorem spec_l5Purge.mono_l : ∀ k, (∀ y0 y1 y2 y3, LeO (spec_l5Purge.l0 k y0 y1 y2 y3) (spec_l5Purge.l0 (k + 1) y0 y1 y2 y3))
  | 0 => fun _ _ _ _ r h => by simp [spec_l5Purge.l0] at h
  | k + 1 => by
    have ih0 := spec_l5Purge.mono_l k
    · intro y0 y1 y2 y3
      unfold spec_l5Purge.l0
      repeat' first
      | (with_reducible exact ih0 _ _ _ _)
      | (with_reducible exact LeO.refl _)
      | (with_reducible exact LeO.none _)
      | (with_reducible refine LeO.ite ?_ ?_)
      | (with_reducible refine LeO.bind ?_ (fun _ => ?_))
      | exact ih0 _ _ _ _
      | exact LeO.none _
      | refine LeO.ite ?_ ?_
      | refine LeO.bind ?_ (fun _ => ?_)
theorem spec_l5Purge.mono : ∀ a0 a1 k, LeO (spec_l5Purge.f k a0 a1) (spec_l5Purge.f (k + 1) a0 a1) := by
  intro a0 a1 k
  have ih0 := spec_l5Purge.mono_l k
  unfold spec_l5Purge.f
  repeat' first
      | (with_reducible exact ih0 _ _ _ _)
      | (with_reducible exact LeO.refl _)
      | (with_reducible exact LeO.none _)
      | (with_reducible refine LeO.ite ?_ ?_)
      | (with_reducible refine LeO.bind ?_ (fun _ => ?_))
      | exact ih0 _ _ _ _
      | exact LeO.none _
      | refine LeO.ite ?_ ?_
      | refine LeO.bind ?_ (fun _ => ?_)

/-! ### spec_PurgeChain: function 26 -/
def spec_PurgeChain.f (k : Nat) (l0 : List (S58)) (a1 : Int) : Option (Int × (List (S58))) := (spec_ChainFault.f k l0).bind fun t292 => (if t292 = 0 then ((spec_l1In.f a1 0 1000000).bind fun t293 => (if t293 = true then ((spec_l5Purge.f k l0 a1).bind fun t294 => (some (0, t294))) else (some (3, ([] : List (S58)))))) else (some (t292, ([] : List (S58)))))
theorem spec_PurgeChain.mono : ∀ a0 a1 k, LeO (spec_PurgeChain.f k a0 a1) (spec_PurgeChain.f (k + 1) a0 a1) := by
  intro a0 a1 k
  unfold spec_PurgeChain.f
  repeat' first
      | (with_reducible exact spec_ChainFault.mono _ _)
      | (with_reducible exact spec_l5Purge.mono _ _ _)
      | (with_reducible exact LeO.refl _)
      | (with_reducible exact LeO.none _)
      | (with_reducible refine LeO.ite ?_ ?_)
      | (with_reducible refine LeO.bind ?_ (fun _ => ?_))
      | exact spec_ChainFault.mono _ _
      | exact spec_l5Purge.mono _ _ _
      | exact LeO.none _
      | refine LeO.ite ?_ ?_
      | refine LeO.bind ?_ (fun _ => ?_)

/-! ### impl_purged: function 58 -/
def impl_purged.l0 : Nat → Int → List (S58) → List (S58) → Int → Int → Option ((List (S58)))
  | 0, _, _, _, _, _ => none
  | k + 1, x1, x5, x10, x11, x12 => if x12 < x11 then (if 0 ≤ x12 then (if x12 < (x10.length : Int) then (if x5.length < 4398046511104 then ((some (x5 ++ [(⟨(rd_T58 x10 x12).f0, (rd_T58 x10 x12).f1, (rd_T58 x10 x12).f2, (rd_T58 x10 x12).f3⟩ : S58)] : List (S58))).bind fun y302 => (if ((rd_T58 x10 x12).f1) > 0 then (if ((rd_T58 x10 x12).f1) ≤ x1 then (if (y302.length : Int) > 0 then (if 0 ≤ (wrap64 ((y302.length : Int) - 1)) then (if (wrap64 ((y302.length : Int) - 1)) < (y302.length : Int) then (if (rd_T58 y302 (wrap64 ((y302.length : Int) - 1))).f2 = true then (if ((rd_T58 y302 (wrap64 ((y302.length : Int) - 1))).f1) > 0 then (if ((rd_T58 y302 (wrap64 ((y302.length : Int) - 1))).f1) ≤ x1 then (if (wrap64 ((y302.length : Int) - 1)) ≤ (y302.length : Int) then (some (y302.take ((wrap64 ((y302.length : Int) - 1)) : Int).toNat)) else (none)) else (some y302)) else (some y302)) else (some y302)) else (none)) else (none)) else (some y302)) else (impl_purged.l0 k x1 y302 x10 x11 (wrap64 (x12 + 1)))) else (impl_purged.l0 k x1 y302 x10 x11 (wrap64 (x12 + 1))))) else (none)) else (none)) else (none)) else (if (x5.length : Int) > 0 then (if 0 ≤ (wrap64 ((x5.length : Int) - 1)) then (if (wrap64 ((x5.length : Int) - 1)) < (x5.length : Int) then (if (rd_T58 x5 (wrap64 ((x5.length : Int) - 1))).f2 = true then (if ((rd_T58 x5 (wrap64 ((x5.length : Int) - 1))).f1) > 0 then (if ((rd_T58 x5 (wrap64 ((x5.length : Int) - 1))).f1) ≤ x1 then (if (wrap64 ((x5.length : Int) - 1)) ≤ (x5.length : Int) then (some (x5.take ((wrap64 ((x5.length : Int) - 1)) : Int).toNat)) else (none)) else (some x5)) else (some x5)) else (some x5)) else (none)) else (none)) else (some x5))
def impl_purged.f (k : Nat) (l0 : List (S58)) (a1 : Int) : Option ((List (S58))) := impl_purged.l0 k a1 (([] : List (S58))) l0 (l0.length : Int) 0
theorem impl_purged.mono_l : ∀ k, (∀ y0 y1 y2 y3 y4, LeO (impl_purged.l0 k y0 y1 y2 y3 y4) (impl_purged.l0 (k + 1) y0 y1 y2 y3 y4))
  | 0 => fun _ _ _ _ _ r h => by simp [impl_purged.l0] at h
  | k + 1 => by
    have ih0 := impl_purged.mono_l k
    · intro y0 y1 y2 y3 y4
      unfold impl_purged.l0
      repeat' first
      | (with_reducible exact ih0 _ _ _ _ _)
      | (with_reducible exact LeO.refl _)
      | (with_reducible exact LeO.none _)
      | (with_reducible refine LeO.ite ?_ ?_)
      | (with_reducible refine LeO.bind ?_ (fun _ => ?_))
      | exact ih0 _ _ _ _ _
      | exact LeO.none _
      | refine LeO.ite ?_ ?_
      | refine LeO.bind ?_ (fun _ => ?_)
theorem impl_purged.mono : ∀ a0 a1 k, LeO (impl_purged.f k a0 a1) (impl_purged.f (k + 1) a0 a1) := by
  intro a0 a1 k
  have ih0 := impl_purged.mono_l k
  unfold impl_purged.f
  repeat' first
      | (with_reducible exact ih0 _ _ _ _ _)
      | (with_reducible exact LeO.refl _)
      | (with_reducible exact LeO.none _)
      | (with_reducible refine LeO.ite ?_ ?_)
      | (with_reducible refine LeO.bind ?_ (fun _ => ?_))
      | exact ih0 _ _ _ _ _
      | exact LeO.none _
      | refine LeO.ite ?_ ?_
      | refine LeO.bind ?_ (fun _ => ?_)

/-! ### impl_PurgeChain: function 27 -/
def impl_PurgeChain.j0 : Nat → List (S58) → Int → Int → Bool → Option (Int × (List (S58)))
  | 0, _, _, _, _ => none
  | k + 1, x0, x1, x5, x14 => if x14 = true then (some (3, ([] : List (S58)))) else (if x5 = 0 then ((impl_purged.f k x0 x1).bind fun t320 => (some (0, t320))) else (some (x5, ([] : List (S58)))))
def impl_PurgeChain.f (k : Nat) (l0 : List (S58)) (a1 : Int) : Option (Int × (List (S58))) := (impl_ChainFault.f k l0).bind fun t318 => (if t318 = 0 then ((impl_isLsn.f a1).bind fun t319 => (impl_PurgeChain.j0 k l0 a1 t318 (!t319))) else (impl_PurgeChain.j0 k l0 a1 t318 false))
theorem impl_PurgeChain.mono_l : ∀ k, (∀ y0 y1 y2 y3, LeO (impl_PurgeChain.j0 k y0 y1 y2 y3) (impl_PurgeChain.j0 (k + 1) y0 y1 y2 y3))
  | 0 => fun _ _ _ _ r h => by simp [impl_PurgeChain.j0] at h
  | k + 1 => by
    have ih0 := impl_PurgeChain.mono_l k
    · intro y0 y1 y2 y3
      unfold impl_PurgeChain.j0
      repeat' first
      | (with_reducible exact ih0 _ _ _ _)
      | (with_reducible exact impl_ChainFault.mono _ _)
      | (with_reducible exact impl_purged.mono _ _ _)
      | (with_reducible exact LeO.refl _)
      | (with_reducible exact LeO.none _)
      | (with_reducible refine LeO.ite ?_ ?_)
      | (with_reducible refine LeO.bind ?_ (fun _ => ?_))
      | exact ih0 _ _ _ _
      | exact impl_ChainFault.mono _ _
      | exact impl_purged.mono _ _ _
      | exact LeO.none _
      | refine LeO.ite ?_ ?_
      | refine LeO.bind ?_ (fun _ => ?_)
theorem impl_PurgeChain.mono : ∀ a0 a1 k, LeO (impl_PurgeChain.f k a0 a1) (impl_PurgeChain.f (k + 1) a0 a1) := by
  intro a0 a1 k
  have ih0 := impl_PurgeChain.mono_l k
  unfold impl_PurgeChain.f
  repeat' first
      | (with_reducible exact ih0 _ _ _ _)
      | (with_reducible exact impl_ChainFault.mono _ _)
      | (with_reducible exact impl_purged.mono _ _ _)
      | (with_reducible exact LeO.refl _)
      | (with_reducible exact LeO.none _)
      | (with_reducible refine LeO.ite ?_ ?_)
      | (with_reducible refine LeO.bind ?_ (fun _ => ?_))
      | exact ih0 _ _ _ _
      | exact impl_ChainFault.mono _ _
      | exact impl_purged.mono _ _ _
      | exact LeO.none _
      | refine LeO.ite ?_ ?_
      | refine LeO.bind ?_ (fun _ => ?_)

end Go.Proofs.Ytlabafjldndcgaa.P
