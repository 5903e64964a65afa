/- The pure statement of DepthOf's exact law: both sides tell the same of every tree, and the argument stays. -/
import Derived.Test.YtdhdgkonghefeaaUFnExactDepthOf
import Derived.Test.YtdhdgkonghefeaaQpa
import Derived.Test.YtdhdgkonghefeaaP0
import Derived.Test.YtdhdgkonghefeaaPDm0
import Derived.Test.YtdhdgkonghefeaaPDm1
namespace Go.Proofs.Ytdhdgkonghefeaa.Pure
open Go.RowKit Go.Proofs.Ytdhdgkonghefeaa.P Go.Proofs.Ytdhdgkonghefeaa.Q Go.Proofs.YtdhdgkonghefeaaW.PrintWords Go.Proofs.YtdhdgkonghefeaaW.PrintLast Go.Proofs.YtdhdgkonghefeaaW.PrintMore Go.Proofs.Ytdhdgkonghefeaa.Lb
theorem depthBoth (a : Int) (l : List S58) : ∃ r : Int × Int, spec_DepthOf.f a l = some r ∧ Ev (fun k => impl_DepthOf.f k a l) r := by
  unfold spec_DepthOf.f impl_DepthOf.f spec_TreeFault.f impl_TreeFault.f
  simp only [Option.bind_some]
  by_cases ht : treeF a l = 0
  · obtain ⟨p, hp, _, he⟩ := path_f (key := 0) ht
    refine ⟨(0, (p.length : Int)), ?_, ?_⟩
    · rw [if_pos ht]; unfold spec_l4Path.f; rw [if_pos ht, hp]; rfl
    · refine evIte (fun _ => evCall he (evRet rfl)) (fun h => absurd ht h)
  · exact ⟨(treeF a l, 0), by rw [if_neg ht], evIte (fun h => absurd h ht) (fun _ => evRet rfl)⟩
theorem FnExactDepthOf : laws_FnExactDepthOf.Pure := by
  intro a l _ hl
  refine Ev.rounds ?_
  unfold laws_FnExactDepthOf.f
  have hml : maxLen = 9223372036854775807 := rfl
  obtain ⟨t, ht, hs⟩ := szTree a l 1048576 (by omega) (by omega) (by have := hl.2.1; omega) (fun x hx => ⟨by have := (hl.2.2 x hx).2.1.2.1; omega, by have := (hl.2.2 x hx).2.2.2.1; omega⟩)
  refine evCall ht (evIte (fun _ => evRet rfl) (fun h => ?_))
  obtain ⟨s1, s2⟩ := hs h
  have hto := toTree a l s1 s2
  obtain ⟨r, h1, h2⟩ := depthBoth a (l.map cvNode)
  refine evCall hto (evSeq h1 (evCall hto (evCall h2 (evSeq (a := true) (by simp [laws_eqIntResult.f]) (evIte (fun _ => ?_) (fun h => absurd rfl h))))))
  exact evCall hto (evCall (eqTree a _ (by simpa using s1) (cvNodes_small s2)) (evIte (fun _ => evRet rfl) (fun h => absurd rfl h)))
end Go.Proofs.Ytdhdgkonghefeaa.Pure
