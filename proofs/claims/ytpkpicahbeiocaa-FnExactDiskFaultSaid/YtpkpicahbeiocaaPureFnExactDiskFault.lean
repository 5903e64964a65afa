/- The pure statement of DiskFault's exact law. -/
import Derived.Test.YtpkpicahbeiocaaUFnExactDiskFault
import Derived.Test.YtpkpicahbeiocaaQu
import Derived.Test.YtpkpicahbeiocaaP0
import Derived.Test.YtpkpicahbeiocaaPD0
namespace Go.Proofs.Ytpkpicahbeiocaa.Pure
open Go.RowKit Go.Proofs.Ytpkpicahbeiocaa.P Go.Proofs.Ytpkpicahbeiocaa.Q Go.Proofs.YtpkpicahbeiocaaW.PrintWords Go.Proofs.YtpkpicahbeiocaaW.PrintLast Go.Proofs.YtpkpicahbeiocaaW.PrintMore Go.Proofs.Ytpkpicahbeiocaa.Lb
theorem FnExactDiskFault : laws_FnExactDiskFault.Pure := by
  intro P L hP hL
  refine Ev.rounds ?_
  unfold laws_FnExactDiskFault.f
  have m : ∀ n : Nat, n ≤ maxLen → n ≤ 9223372036854775807 := fun n h => by simp only [maxLen] at h; omega
  obtain ⟨r, hr, hs⟩ := szDisk P L (m _ hP.2.1) (m _ hL.2.1) (fun x hx => m _ (hP.2.2 x hx).2.1) (fun x hx => by
    have h := hL.2.2 x hx
    unfold wf137 at h
    exact m _ h.2.2.2.1)
  refine evCall hr (evIte (fun _ => evRet rfl) (fun h => ?_))
  obtain ⟨h1, h2, h3, h4⟩ := hs h
  have hL' : (L.map cvLoose).length ≤ 1048576 := by simpa using h2
  have hL2 : ∀ x ∈ L.map cvLoose, x.f2.length ≤ 1048576 := by
    intro x hx
    obtain ⟨y, hy, rfl⟩ := List.mem_map.1 hx
    exact h4 y hy
  have T := toDisk P L h1 h3 h2 h4
  refine evCall T (evCall (specDF _ _ h1 hL') (evCall T (evCall (implDF _ _ h1 hL') (evIte (fun _ => ?_) (fun h => absurd rfl h)))))
  exact evCall T (evCall (eqDisk _ _ h1 h3 hL' hL2) (evIte (fun _ => evRet rfl) (fun h => absurd rfl h)))
end Go.Proofs.Ytpkpicahbeiocaa.Pure
