/- The pure statement of WriterOf's exact law. -/
import Derived.Test.YtlabafjldndcgaaUFnExactWriterOf
import Derived.Test.YtlabafjldndcgaaQd
import Derived.Test.YtlabafjldndcgaaP0
import Derived.Test.YtlabafjldndcgaaPDb
import Derived.Test.YtlabafjldndcgaaPDbd
import Derived.Test.YtlabafjldndcgaaPDbj
namespace Go.Proofs.Ytlabafjldndcgaa.Pure
open Go.RowKit Go.Proofs.Ytlabafjldndcgaa.P Go.Proofs.Ytlabafjldndcgaa.Q Go.Proofs.YtlabafjldndcgaaW.PrintWords Go.Proofs.YtlabafjldndcgaaW.PrintLast Go.Proofs.YtlabafjldndcgaaW.PrintMore Go.Proofs.Ytlabafjldndcgaa.Lb
/-- What WriterOf tells. -/
def wo (l : List S58) : Int × Int := if cf l = 0 then (if writer l = 0 then (4, 0) else (0, writer l)) else (cf l, 0)
theorem specWO (l : List S58) (hb : l.length ≤ 8796093022208) : Ev (fun k => spec_WriterOf.f k l) (wo l) := by
  unfold spec_WriterOf.f wo
  refine evCall (specCF l hb) (evIte (fun h => ?_) (fun h => evRet (by rw [if_neg h])))
  rw [if_pos h]
  exact evSeq (specWriter l) (evIte (fun h2 => evRet (by rw [if_pos h2])) (fun h2 => evRet (by rw [if_neg h2])))
theorem implWO (l : List S58) (hb : l.length ≤ 8796093022208) : Ev (fun k => impl_WriterOf.f k l) (wo l) := by
  unfold impl_WriterOf.f wo
  refine evCall (implCF l hb) (evIte (fun h => ?_) (fun h => evRet (by rw [if_neg h])))
  rw [if_pos h]
  have ho := (cf_ok h).2
  cases l with
  | nil => exact evIte (fun _ => evRet rfl) (fun h2 => absurd rfl h2)
  | cons v vs =>
    have hl : ((v :: vs).length : Int) > 0 := by simp <;> omega
    have hv := ho v (by simp)
    refine evIte (fun h2 => by omega) (fun _ => evIte (fun _ => ?_) (fun h2 => absurd hl h2))
    rw [rd0]
    refine evIte (fun h2 => evRet ?_) (fun h2 => evRet ?_)
    · have : v.f0 ≠ 0 := by have := hv.1; omega
      simp [writer, h2, this]
    · simp [writer, h2]
theorem FnExactWriterOf : laws_FnExactWriterOf.Pure := by
  intro l0 h0
  refine Ev.rounds ?_
  unfold laws_FnExactWriterOf.f
  refine evSeq (szVersionS l0 1048576 (by omega) (by omega) (by have := h0.2.1; simp only [maxLen] at this; omega)) ?_
  refine evIte (fun _ => evRet rfl) (fun h => ?_)
  have hl : l0.length ≤ 1048576 := by
    by_cases h2 : (1048576 : Int) < l0.length
    · rw [if_pos h2] at h; omega
    · omega
  refine evCall (toVersionS l0 (by omega)) (evCall (specWO _ (by simp <;> omega)) (evCall (toVersionS l0 (by omega)) (evCall (implWO _ (by simp <;> omega)) ?_)))
  refine evSeq (a := true) (by simp [laws_eqIntResult.f]) ?_
  refine evIte (fun _ => ?_) (fun h => absurd rfl h)
  refine evCall (toVersionS l0 (by omega)) (evCall (eqVersionS _ (by simp <;> omega)) ?_)
  exact evIte (fun _ => evRet rfl) (fun h => absurd rfl h)
end Go.Proofs.Ytlabafjldndcgaa.Pure
