/- The pure statement of DropCell's exact law: both sides tell the same, the argument stays, and the answer's memory is its own. -/
import Derived.Test.YtpdfpbnlablhoaaUFnExactDropCell
import Derived.Test.YtpdfpbnlablhoaaQy
import Derived.Test.YtpdfpbnlablhoaaP0
import Derived.Test.YtpdfpbnlablhoaaPD0
namespace Go.Proofs.Ytpdfpbnlablhoaa.Pure
open Go.RowKit Go.Proofs.Ytpdfpbnlablhoaa.P Go.Proofs.Ytpdfpbnlablhoaa.Q Go.Proofs.YtpdfpbnlablhoaaW.PrintWords Go.Proofs.YtpdfpbnlablhoaaW.PrintLast Go.Proofs.YtpdfpbnlablhoaaW.PrintMore Go.Proofs.Ytpdfpbnlablhoaa.Lb
theorem FnExactDropCell : laws_FnExactDropCell.Pure := by
  intro a0_0 a0_1 l0_2 a1 a2 _ _ h0 _ _
  refine Ev.rounds ?_
  unfold laws_FnExactDropCell.f
  refine evSeq (szPage a0_0 a0_1 l0_2 (by have := h0.2.1; simp only [maxLen] at this; omega)) ?_
  refine evIte (fun _ => evRet rfl) (fun h => ?_)
  have hl : l0_2.length ≤ 1048576 := by
    by_cases h2 : (1048576 : Int) < l0_2.length
    · rw [if_pos h2] at h; omega
    · omega
  have hx : (l0_2.map cvCell).length ≤ 1048576 := by simp; omega
  have S := specDropCell a0_0 a0_1 (l0_2.map cvCell) a1 a2 (by omega)
  have I := implDropCell a0_0 a0_1 (l0_2.map cvCell) a1 a2 (by omega)
  have hR := dropCell_len a0_0 a0_1 (l0_2.map cvCell) a1 a2
  generalize dropCell a0_0 a0_1 (l0_2.map cvCell) a1 a2 = r at S I hR
  obtain ⟨c, id, lsn, out⟩ := r
  have ho : out.length ≤ 4000000 := by simp at hR hx; omega
  refine evCall (toPage _ _ l0_2 (by omega)) (evCall S (evCall (toPage _ _ l0_2 (by omega)) (evCall I ?_)))
  refine evCall (eqPageResult c id lsn out (by omega)) (evIte (fun _ => ?_) (fun h => absurd rfl h))
  refine evCall (toPage _ _ l0_2 (by omega)) (evCall (eqPage a0_0 a0_1 (l0_2.map cvCell) (by omega)) (evIte (fun _ => ?_) (fun h => absurd rfl h)))
  refine evCall (markPage a0_0 a0_1 (l0_2.map cvCell) (by omega)) (evIte (fun h => absurd h (by omega)) (fun _ => ?_))
  refine evCall (eqPageResult c id lsn out (by omega)) (evSucc ?_)
  simp only [laws_FnExactDropCell.j0]
  refine evIte (fun h => absurd h (by decide)) (fun _ => ?_)
  refine evCall (markPageResult c id lsn out (by omega)) (evCall (heldPageResult c id lsn out.length (by omega)) (evIte (fun h => absurd h (by omega)) (fun _ => evIte (fun _ => ?_) (fun h => absurd rfl h))))
  refine evCall (toPage _ _ l0_2 (by omega)) (evCall I (evCall (eqPageResult c id lsn out (by omega)) (evIte (fun _ => ?_) (fun h => absurd rfl h))))
  refine evCall (heldPageResult c id lsn out.length (by omega)) (evIte (fun h => absurd h (by omega)) (fun _ => evIte (fun _ => evRet rfl) (fun h => absurd rfl h)))
end Go.Proofs.Ytpdfpbnlablhoaa.Pure
