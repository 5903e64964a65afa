/- The pure statement of NewEngine's exact law. -/
import Derived.Test.YtonbnmaelepcbaaUFnExactNewEngine
import Derived.Test.YtonbnmaelepcbaaQne
import Derived.Test.YtonbnmaelepcbaaP0
import Derived.Test.YtonbnmaelepcbaaPDb0
namespace Go.Proofs.Ytonbnmaelepcbaa.Pure
open Go.RowKit Go.Proofs.Ytonbnmaelepcbaa.P Go.Proofs.Ytonbnmaelepcbaa.Q Go.Proofs.YtonbnmaelepcbaaW.PrintWords Go.Proofs.YtonbnmaelepcbaaW.PrintLast Go.Proofs.YtonbnmaelepcbaaW.PrintMore Go.Proofs.Ytonbnmaelepcbaa.Lb
theorem FnExactNewEngine : laws_FnExactNewEngine.Pure := by
  intro l hl
  refine Ev.rounds ?_
  unfold laws_FnExactNewEngine.f
  have hml : maxLen = 9223372036854775807 := rfl
  have hll : l.length ≤ 9223372036854775807 := by have := hl.2.1; omega
  refine evSeq (szCellS l 1048576 (by omega) (by omega) hll) (evIte (fun _ => evRet rfl) (fun h => ?_))
  have hsm : l.length ≤ 1048576 := by
    by_cases hc : (1048576 : Int) < l.length
    · rw [if_pos hc] at h; exact absurd (by decide) h
    · omega
  have hto := toCellS l (by omega)
  have hx : (l.map cvCell).length ≤ 1048576 := by simpa using hsm
  refine evCall hto (evCall (specNE _ hx) (evCall (implNE _ hx) ?_))
  obtain ⟨e1, e2, e3⟩ := newE_shape (l.map cvCell)
  generalize newE (l.map cvCell) = G at e1 e2 e3 ⊢
  obtain ⟨g1, g2, g3, g4, g5, g6⟩ := G
  simp only at e1 e2 e3
  subst e1
  have he : Ev (fun k => laws_eqEngineResult.f k g1 g2 g3 g4 [] g6 g1 g2 g3 g4 [] g6) true := by
    unfold laws_eqEngineResult.f
    exact evIte (fun _ => evIte (fun _ => evCall (eqEngine g3 g4 [] g6 (by simp) (by omega) (by simp) (fun x hx => by have := e3 x hx; omega)) (evIte (fun _ => evRet rfl) (fun h => absurd rfl h))) (fun h => absurd rfl h)) (fun h => absurd rfl h)
  obtain ⟨r, hr, r0, rh⟩ := markHeldR g1 g2 g3 g4 g6 (by omega) (fun x hx => by have := e3 x hx; omega)
  refine evCall he (evIte (fun _ => ?_) (fun h => absurd rfl h))
  refine evCall (eqCellS _ (by omega)) (evIte (fun _ => ?_) (fun h => absurd rfl h))
  refine evCall (markCellS _ 1 (by omega) (by omega) (by omega)) (evIte (fun h => absurd h (by omega)) (fun _ => ?_))
  exact evCall hr (evCall rh (evIte (fun h => absurd h (by omega)) (fun _ => evIte (fun _ => evRet rfl) (fun h => absurd rfl h))))
end Go.Proofs.Ytonbnmaelepcbaa.Pure
