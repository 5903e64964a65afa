/- The pure statement of NewPage's exact law. -/
import Derived.Test.YtpcjefolhhckjaaUFnExactNewPage
import Derived.Test.YtpcjefolhhckjaaQh
import Derived.Test.YtpcjefolhhckjaaP0
import Derived.Test.YtpcjefolhhckjaaPD0
namespace Go.Proofs.Ytpcjefolhhckjaa.Pure
open Go.RowKit Go.Proofs.Ytpcjefolhhckjaa.P Go.Proofs.Ytpcjefolhhckjaa.Q Go.Proofs.YtpcjefolhhckjaaW.PrintWords Go.Proofs.YtpcjefolhhckjaaW.PrintLast Go.Proofs.YtpcjefolhhckjaaW.PrintMore Go.Proofs.Ytpcjefolhhckjaa.Lb
def np (a : Int) : Int × Int × Int × List S58 := if 0 ≤ a ∧ a ≤ 7 then (0, a, 0, []) else (3, 0, 0, [])
theorem np_nil (a : Int) : (np a).2.2.2 = [] := by unfold np; split <;> rfl
theorem FnExactNewPage : laws_FnExactNewPage.Pure := by
  intro a0 _
  refine Ev.rounds ?_
  unfold laws_FnExactNewPage.f
  have hs : spec_NewPage.f a0 = some (np a0) := by
    unfold spec_NewPage.f np
    rw [specIn, Option.bind_some]
    simp only [decide_eq_true_eq]
    split <;> rfl
  have hi : impl_NewPage.f a0 = some (np a0) := by
    unfold impl_NewPage.f np
    rw [implIn, Option.bind_some]
    simp only [decide_eq_true_eq]
    split <;> rfl
  have hn := np_nil a0
  generalize np a0 = r at hs hi hn
  obtain ⟨c, id, lsn, out⟩ := r
  have hn' : out = [] := hn
  subst hn'
  refine evSeq hs (evSeq hi (evCall (eqPageResult c id lsn [] (by simp)) (evIte (fun _ => ?_) (fun h => absurd rfl h))))
  refine evCall (markPageResult c id lsn [] (by simp)) (evCall (heldPageResult c id lsn 0 (by simp)) (evIte (fun h => absurd h (by simp)) (fun _ => evIte (fun _ => ?_) (fun h => absurd rfl h))))
  refine evSeq hi (evCall (eqPageResult c id lsn [] (by simp)) (evIte (fun _ => ?_) (fun h => absurd rfl h)))
  exact evCall (heldPageResult c id lsn 0 (by simp)) (evIte (fun h => absurd h (by simp)) (fun _ => evIte (fun _ => evRet rfl) (fun h => absurd rfl h)))
end Go.Proofs.Ytpcjefolhhckjaa.Pure
