-- Printed by this session's own program over the kit's print (wip/tools/mp.py). Not trusted: Lean checks it.
import Derived.Test.YtlabafjldndcgaaP0
namespace Go.Proofs.Ytlabafjldndcgaa.P
open Go.RowKit Go.Proofs.YtlabafjldndcgaaW.PrintWords Go.Proofs.YtlabafjldndcgaaW.PrintLast Go.Proofs.YtlabafjldndcgaaW.PrintMore
attribute [local go_sem] max2_int min2_int max_two min_two max_three min_three max_four min_four   -- for this text's walks alone
set_option linter.unusedVariables false
set_option linter.unusedSimpArgs false

/-! ### spec_l1In: function 56 -/
def spec_l1In.f (a0 : Int) (a1 : Int) (a2 : Int) : Option (Bool) := if a0 ≥ a1 then (some (decide (a0 ≤ a2))) else (some false)

/-! ### spec_l5Txn: function 41 -/
def spec_l5Txn.f (a0 : Int) : Option (Bool) := (spec_l1In.f a0 1 999).bind fun t101 => (some t101)

/-! ### spec_l5At: function 42 -/
def spec_l5At.f (a0 : Int) : Option (Bool) := (spec_l1In.f a0 1 1000000).bind fun t102 => (some t102)

/-! ### spec_l1Value: function 43 -/
def spec_l1Value.f (a0 : Int) : Option (Bool) := (spec_l1In.f a0 0 9999).bind fun t103 => (some t103)

/-! ### spec_ChainFault: function 14 -/
mutual
def spec_ChainFault.l0 : Nat → List (S58) → Int → Option (Int)
  | 0, _, _ => none
  | k + 1, x0, x3 => if x3 < (x0.length : Int) then (if 0 ≤ x3 then ((spec_l5Txn.f ((rd_T58 x0 x3).f0)).bind fun t106 => (if t106 = true then (if ((rd_T58 x0 x3).f1) = 0 then ((spec_l1Value.f ((rd_T58 x0 x3).f3)).bind fun t107 => (spec_ChainFault.j1 k x0 x3 (!t107) ((rd_T58 x0 x3).f0) ((rd_T58 x0 x3).f1) ((rd_T58 x0 x3).f2) ((rd_T58 x0 x3).f3))) else ((spec_l5At.f ((rd_T58 x0 x3).f1)).bind fun t108 => (if t108 = true then ((spec_l1Value.f ((rd_T58 x0 x3).f3)).bind fun t109 => (spec_ChainFault.j1 k x0 x3 (!t109) ((rd_T58 x0 x3).f0) ((rd_T58 x0 x3).f1) ((rd_T58 x0 x3).f2) ((rd_T58 x0 x3).f3))) else (spec_ChainFault.j1 k x0 x3 true ((rd_T58 x0 x3).f0) ((rd_T58 x0 x3).f1) ((rd_T58 x0 x3).f2) ((rd_T58 x0 x3).f3))))) else (spec_ChainFault.j1 k x0 x3 true ((rd_T58 x0 x3).f0) ((rd_T58 x0 x3).f1) ((rd_T58 x0 x3).f2) ((rd_T58 x0 x3).f3)))) else (none)) else (some 0)
def spec_ChainFault.j1 : Nat → List (S58) → Int → Bool → Int → Int → Bool → Int → Option (Int)
  | 0, _, _, _, _, _, _, _ => none
  | k + 1, x0, x3, x38, x106000, x106001, x106002, x106003 => if x38 = true then (some 3) else (if x106002 = true then (if x106003 = 0 then (if x106001 = 0 then (if x3 > 0 then (some 1) else (spec_ChainFault.l0 k x0 (wrap64 (x3 + 1)))) else (if x3 > 0 then (if 0 ≤ (wrap64 (x3 - 1)) then (if (wrap64 (x3 - 1)) < (x0.length : Int) then (if ((rd_T58 x0 (wrap64 (x3 - 1))).f1) = 0 then (spec_ChainFault.l0 k x0 (wrap64 (x3 + 1))) else (if x106001 ≥ ((rd_T58 x0 (wrap64 (x3 - 1))).f1) then (some 1) else (spec_ChainFault.l0 k x0 (wrap64 (x3 + 1))))) else (none)) else (none)) else (spec_ChainFault.l0 k x0 (wrap64 (x3 + 1))))) else (some 1)) else (if x106001 = 0 then (if x3 > 0 then (some 1) else (spec_ChainFault.l0 k x0 (wrap64 (x3 + 1)))) else (if x3 > 0 then (if 0 ≤ (wrap64 (x3 - 1)) then (if (wrap64 (x3 - 1)) < (x0.length : Int) then (if ((rd_T58 x0 (wrap64 (x3 - 1))).f1) = 0 then (spec_ChainFault.l0 k x0 (wrap64 (x3 + 1))) else (if x106001 ≥ ((rd_T58 x0 (wrap64 (x3 - 1))).f1) then (some 1) else (spec_ChainFault.l0 k x0 (wrap64 (x3 + 1))))) else (none)) else (none)) else (spec_ChainFault.l0 k x0 (wrap64 (x3 + 1))))))
end
def spec_ChainFault.f (k : Nat) (l0 : List (S58)) : Option (Int) := if (l0.length : Int) > 12 then (some 2) else (spec_ChainFault.l0 k l0 0)
theorem spec_ChainFault.mono_l : ∀ k, (∀ y0 y1, LeO (spec_ChainFault.l0 k y0 y1) (spec_ChainFault.l0 (k + 1) y0 y1)) ∧ (∀ y0 y1 y2 y3 y4 y5 y6, LeO (spec_ChainFault.j1 k y0 y1 y2 y3 y4 y5 y6) (spec_ChainFault.j1 (k + 1) y0 y1 y2 y3 y4 y5 y6))
  | 0 => ⟨fun _ _ r h => by simp [spec_ChainFault.l0] at h, fun _ _ _ _ _ _ _ r h => by simp [spec_ChainFault.j1] at h⟩
  | k + 1 => by
    obtain ⟨ih0, ih1⟩ := spec_ChainFault.mono_l k
    refine ⟨?_, ?_⟩
    · intro y0 y1
      unfold spec_ChainFault.l0
      repeat' first
      | (with_reducible exact ih0 _ _)
      | (with_reducible exact ih1 _ _ _ _ _ _ _)
      | (with_reducible exact LeO.refl _)
      | (with_reducible exact LeO.none _)
      | (with_reducible refine LeO.ite ?_ ?_)
      | (with_reducible refine LeO.bind ?_ (fun _ => ?_))
      | exact ih0 _ _
      | exact ih1 _ _ _ _ _ _ _
      | exact LeO.none _
      | refine LeO.ite ?_ ?_
      | refine LeO.bind ?_ (fun _ => ?_)
    · intro y0 y1 y2 y3 y4 y5 y6
      unfold spec_ChainFault.j1
      repeat' first
      | (with_reducible exact ih0 _ _)
      | (with_reducible exact ih1 _ _ _ _ _ _ _)
      | (with_reducible exact LeO.refl _)
      | (with_reducible exact LeO.none _)
      | (with_reducible refine LeO.ite ?_ ?_)
      | (with_reducible refine LeO.bind ?_ (fun _ => ?_))
      | exact ih0 _ _
      | exact ih1 _ _ _ _ _ _ _
      | exact LeO.none _
      | refine LeO.ite ?_ ?_
      | refine LeO.bind ?_ (fun _ => ?_)
theorem spec_ChainFault.mono : ∀ a0 k, LeO (spec_ChainFault.f k a0) (spec_ChainFault.f (k + 1) a0) := by
  intro a0 k
  obtain ⟨ih0, ih1⟩ := spec_ChainFault.mono_l k
  unfold spec_ChainFault.f
  repeat' first
      | (with_reducible exact ih0 _ _)
      | (with_reducible exact ih1 _ _ _ _ _ _ _)
      | (with_reducible exact LeO.refl _)
      | (with_reducible exact LeO.none _)
      | (with_reducible refine LeO.ite ?_ ?_)
      | (with_reducible refine LeO.bind ?_ (fun _ => ?_))
      | exact ih0 _ _
      | exact ih1 _ _ _ _ _ _ _
      | exact LeO.none _
      | refine LeO.ite ?_ ?_
      | refine LeO.bind ?_ (fun _ => ?_)

/-! ### impl_within: function 63 -/
def impl_within.f (a0 : Int) (a1 : Int) (a2 : Int) : Option (Bool) := if a1 ≤ a0 then (some (decide (a0 ≤ a2))) else (some false)

/-! ### impl_isTxn: function 45 -/
def impl_isTxn.f (a0 : Int) : Option (Bool) := (impl_within.f a0 1 999).bind fun t126 => (some t126)

/-! ### impl_isLsn: function 46 -/
def impl_isLsn.f (a0 : Int) : Option (Bool) := (impl_within.f a0 0 1000000).bind fun t127 => (some t127)

/-! ### impl_isValue: function 47 -/
def impl_isValue.f (a0 : Int) : Option (Bool) := (impl_within.f a0 0 9999).bind fun t128 => (some t128)

/-! ### impl_ChainFault: function 16 -/
mutual
def impl_ChainFault.l0 : Nat → List (S58) → List (S58) → Int → Int → Option (Int)
  | 0, _, _, _, _ => none
  | k + 1, x0, x8, x9, x10 => if x10 < x9 then (if 0 ≤ x10 then (if x10 < (x8.length : Int) then ((impl_isTxn.f ((rd_T58 x8 x10).f0)).bind fun t131 => (if t131 = true then ((impl_isLsn.f ((rd_T58 x8 x10).f1)).bind fun t132 => (if t132 = true then ((impl_isValue.f ((rd_T58 x8 x10).f3)).bind fun t133 => (impl_ChainFault.j1 k x0 x10 x8 x9 x10 (!t133) ((rd_T58 x8 x10).f0) ((rd_T58 x8 x10).f1) ((rd_T58 x8 x10).f2) ((rd_T58 x8 x10).f3))) else (impl_ChainFault.j1 k x0 x10 x8 x9 x10 true ((rd_T58 x8 x10).f0) ((rd_T58 x8 x10).f1) ((rd_T58 x8 x10).f2) ((rd_T58 x8 x10).f3)))) else (impl_ChainFault.j1 k x0 x10 x8 x9 x10 true ((rd_T58 x8 x10).f0) ((rd_T58 x8 x10).f1) ((rd_T58 x8 x10).f2) ((rd_T58 x8 x10).f3)))) else (none)) else (none)) else (some 0)
def impl_ChainFault.j1 : Nat → List (S58) → Int → List (S58) → Int → Int → Bool → Int → Int → Bool → Int → Option (Int)
  | 0, _, _, _, _, _, _, _, _, _, _ => none
  | k + 1, x0, x3, x8, x9, x10, x15, x131000, x131001, x131002, x131003 => if x15 = true then (some 3) else (if x131002 = true then (impl_ChainFault.j2 k x0 x3 x8 x9 x10 (x131003 != 0) x131000 x131001 x131002 x131003) else (impl_ChainFault.j2 k x0 x3 x8 x9 x10 false x131000 x131001 x131002 x131003))
def impl_ChainFault.j2 : Nat → List (S58) → Int → List (S58) → Int → Int → Bool → Int → Int → Bool → Int → Option (Int)
  | 0, _, _, _, _, _, _, _, _, _, _ => none
  | k + 1, x0, x3, x8, x9, x10, x32, x131000, x131001, x131002, x131003 => if x32 = true then (some 1) else (if x131001 = 0 then (impl_ChainFault.j3 k x0 x3 x8 x9 x10 (decide (x3 > 0)) x131000 x131001 x131002 x131003) else (impl_ChainFault.j3 k x0 x3 x8 x9 x10 false x131000 x131001 x131002 x131003))
def impl_ChainFault.j3 : Nat → List (S58) → Int → List (S58) → Int → Int → Bool → Int → Int → Bool → Int → Option (Int)
  | 0, _, _, _, _, _, _, _, _, _, _ => none
  | k + 1, x0, x3, x8, x9, x10, x32, x131000, x131001, x131002, x131003 => if x32 = true then (some 1) else (if x3 > 0 then (if 0 ≤ (wrap64 (x3 - 1)) then (if (wrap64 (x3 - 1)) < (x0.length : Int) then (if ((rd_T58 x0 (wrap64 (x3 - 1))).f1) = 0 then (impl_ChainFault.l0 k x0 x8 x9 (wrap64 (x10 + 1))) else (if x131001 ≥ ((rd_T58 x0 (wrap64 (x3 - 1))).f1) then (some 1) else (impl_ChainFault.l0 k x0 x8 x9 (wrap64 (x10 + 1))))) else (none)) else (none)) else (impl_ChainFault.l0 k x0 x8 x9 (wrap64 (x10 + 1))))
end
def impl_ChainFault.f (k : Nat) (l0 : List (S58)) : Option (Int) := if (l0.length : Int) > 12 then (some 2) else (impl_ChainFault.l0 k l0 l0 (l0.length : Int) 0)
theorem impl_ChainFault.mono_l : ∀ k, (∀ y0 y1 y2 y3, LeO (impl_ChainFault.l0 k y0 y1 y2 y3) (impl_ChainFault.l0 (k + 1) y0 y1 y2 y3)) ∧ (∀ y0 y1 y2 y3 y4 y5 y6 y7 y8 y9, LeO (impl_ChainFault.j1 k y0 y1 y2 y3 y4 y5 y6 y7 y8 y9) (impl_ChainFault.j1 (k + 1) y0 y1 y2 y3 y4 y5 y6 y7 y8 y9)) ∧ (∀ y0 y1 y2 y3 y4 y5 y6 y7 y8 y9, LeO (impl_ChainFault.j2 k y0 y1 y2 y3 y4 y5 y6 y7 y8 y9) (impl_ChainFault.j2 (k + 1) y0 y1 y2 y3 y4 y5 y6 y7 y8 y9)) ∧ (∀ y0 y1 y2 y3 y4 y5 y6 y7 y8 y9, LeO (impl_ChainFault.j3 k y0 y1 y2 y3 y4 y5 y6 y7 y8 y9) (impl_ChainFault.j3 (k + 1) y0 y1 y2 y3 y4 y5 y6 y7 y8 y9))
  | 0 => ⟨fun _ _ _ _ r h => by simp [impl_ChainFault.l0] at h, fun _ _ _ _ _ _ _ _ _ _ r h => by simp [impl_ChainFault.j1] at h, fun _ _ _ _ _ _ _ _ _ _ r h => by simp [impl_ChainFault.j2] at h, fun _ _ _ _ _ _ _ _ _ _ r h => by simp [impl_ChainFault.j3] at h⟩
  | k + 1 => by
    obtain ⟨ih0, ih1, ih2, ih3⟩ := impl_ChainFault.mono_l k
    refine ⟨?_, ?_, ?_, ?_⟩
    · intro y0 y1 y2 y3
      unfold impl_ChainFault.l0
      repeat' first
      | (with_reducible exact ih0 _ _ _ _)
      | (with_reducible exact ih1 _ _ _ _ _ _ _ _ _ _)
      | (with_reducible exact ih2 _ _ _ _ _ _ _ _ _ _)
      | (with_reducible exact ih3 _ _ _ _ _ _ _ _ _ _)
      | (with_reducible exact LeO.refl _)
      | (with_reducible exact LeO.none _)
      | (with_reducible refine LeO.ite ?_ ?_)
      | (with_reducible refine LeO.bind ?_ (fun _ => ?_))
      | exact ih0 _ _ _ _
      | exact ih1 _ _ _ _ _ _ _ _ _ _
      | exact ih2 _ _ _ _ _ _ _ _ _ _
      | exact ih3 _ _ _ _ _ _ _ _ _ _
      | exact LeO.none _
      | refine LeO.ite ?_ ?_
      | refine LeO.bind ?_ (fun _ => ?_)
    · intro y0 y1 y2 y3 y4 y5 y6 y7 y8 y9
      unfold impl_ChainFault.j1
      repeat' first
      | (with_reducible exact ih0 _ _ _ _)
      | (with_reducible exact ih1 _ _ _ _ _ _ _ _ _ _)
      | (with_reducible exact ih2 _ _ _ _ _ _ _ _ _ _)
      | (with_reducible exact ih3 _ _ _ _ _ _ _ _ _ _)
      | (with_reducible exact LeO.refl _)
      | (with_reducible exact LeO.none _)
      | (with_reducible refine LeO.ite ?_ ?_)
      | (with_reducible refine LeO.bind ?_ (fun _ => ?_))
      | exact ih0 _ _ _ _
      | exact ih1 _ _ _ _ _ _ _ _ _ _
      | exact ih2 _ _ _ _ _ _ _ _ _ _
      | exact ih3 _ _ _ _ _ _ _ _ _ _
      | exact LeO.none _
      | refine LeO.ite ?_ ?_
      | refine LeO.bind ?_ (fun _ => ?_)
    · intro y0 y1 y2 y3 y4 y5 y6 y7 y8 y9
      unfold impl_ChainFault.j2
      repeat' first
      | (with_reducible exact ih0 _ _ _ _)
      | (with_reducible exact ih1 _ _ _ _ _ _ _ _ _ _)
      | (with_reducible exact ih2 _ _ _ _ _ _ _ _ _ _)
      | (with_reducible exact ih3 _ _ _ _ _ _ _ _ _ _)
      | (with_reducible exact LeO.refl _)
      | (with_reducible exact LeO.none _)
      | (with_reducible refine LeO.ite ?_ ?_)
      | (with_reducible refine LeO.bind ?_ (fun _ => ?_))
      | exact ih0 _ _ _ _
      | exact ih1 _ _ _ _ _ _ _ _ _ _
      | exact ih2 _ _ _ _ _ _ _ _ _ _
      | exact ih3 _ _ _ _ _ _ _ _ _ _
      | exact LeO.none _
      | refine LeO.ite ?_ ?_
      | refine LeO.bind ?_ (fun _ => ?_)
    · intro y0 y1 y2 y3 y4 y5 y6 y7 y8 y9
      unfold impl_ChainFault.j3
      repeat' first
      | (with_reducible exact ih0 _ _ _ _)
      | (with_reducible exact ih1 _ _ _ _ _ _ _ _ _ _)
      | (with_reducible exact ih2 _ _ _ _ _ _ _ _ _ _)
      | (with_reducible exact ih3 _ _ _ _ _ _ _ _ _ _)
      | (with_reducible exact LeO.refl _)
      | (with_reducible exact LeO.none _)
      | (with_reducible refine LeO.ite ?_ ?_)
      | (with_reducible refine LeO.bind ?_ (fun _ => ?_))
      | exact ih0 _ _ _ _
      | exact ih1 _ _ _ _ _ _ _ _ _ _
      | exact ih2 _ _ _ _ _ _ _ _ _ _
      | exact ih3 _ _ _ _ _ _ _ _ _ _
      | exact LeO.none _
      | refine LeO.ite ?_ ?_
      | refine LeO.bind ?_ (fun _ => ?_)
theorem impl_ChainFault.mono : ∀ a0 k, LeO (impl_ChainFault.f k a0) (impl_ChainFault.f (k + 1) a0) := by
  intro a0 k
  obtain ⟨ih0, ih1, ih2, ih3⟩ := impl_ChainFault.mono_l k
  unfold impl_ChainFault.f
  repeat' first
      | (with_reducible exact ih0 _ _ _ _)
      | (with_reducible exact ih1 _ _ _ _ _ _ _ _ _ _)
      | (with_reducible exact ih2 _ _ _ _ _ _ _ _ _ _)
      | (with_reducible exact ih3 _ _ _ _ _ _ _ _ _ _)
      | (with_reducible exact LeO.refl _)
      | (with_reducible exact LeO.none _)
      | (with_reducible refine LeO.ite ?_ ?_)
      | (with_reducible refine LeO.bind ?_ (fun _ => ?_))
      | exact ih0 _ _ _ _
      | exact ih1 _ _ _ _ _ _ _ _ _ _
      | exact ih2 _ _ _ _ _ _ _ _ _ _
      | exact ih3 _ _ _ _ _ _ _ _ _ _
      | exact LeO.none _
      | refine LeO.ite ?_ ?_
      | refine LeO.bind ?_ (fun _ => ?_)

end Go.Proofs.Ytlabafjldndcgaa.P
