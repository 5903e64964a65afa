/- The pure statement of NewDisk's exact law: both sides tell the same of every number of pages, and the answer owns its memory. -/
import Derived.Test.YtfpjheljpmincaaUFnExactNewDisk
import Derived.Test.YtfpjheljpmincaaP0
import Derived.Test.YtfpjheljpmincaaPDall0
namespace Go.Proofs.Ytfpjheljpmincaa.Pure
open Go.RowKit Go.Proofs.Ytfpjheljpmincaa.P Go.Proofs.YtfpjheljpmincaaW.PrintWords Go.Proofs.YtfpjheljpmincaaW.PrintLast Go.Proofs.YtfpjheljpmincaaW.PrintMore Go.Proofs.Ytfpjheljpmincaa.Lb
theorem newDisk_out {a : Int} (h : ¬ (1 ≤ a ∧ a ≤ 8)) (k : Nat) : spec_NewDisk.f k a = some (3, [], []) ∧ impl_NewDisk.f k a = some (3, [], []) := by
  unfold spec_NewDisk.f impl_NewDisk.f spec_l1In.f impl_within.f
  by_cases h1 : 1 ≤ a
  · have h2 : decide (a ≤ 8) = false := decide_eq_false (by omega)
    rw [if_pos h1, h2]
    exact ⟨rfl, rfl⟩
  · rw [if_neg h1]
    exact ⟨rfl, rfl⟩
set_option maxRecDepth 100000 in
theorem FnExactNewDisk : laws_FnExactNewDisk.Pure := by
  intro a _
  by_cases h : 1 ≤ a ∧ a ≤ 8
  · obtain ⟨h1, h2⟩ := h
    have hc : a = 1 ∨ a = 2 ∨ a = 3 ∨ a = 4 ∨ a = 5 ∨ a = 6 ∨ a = 7 ∨ a = 8 := by omega
    rcases hc with rfl | rfl | rfl | rfl | rfl | rfl | rfl | rfl <;> exact ⟨200, by kernel_rfl⟩
  · refine ⟨10, ?_⟩
    obtain ⟨e1, e2⟩ := newDisk_out h 10
    unfold laws_FnExactNewDisk.f
    rw [e1, e2]
    rfl
end Go.Proofs.Ytfpjheljpmincaa.Pure
