/- The pure statement of TreeFault's exact law: both sides tell the same of every tree, and the argument stays. -/
import Derived.Test.YtdhdgkonghefeaaUFnExactTreeFault
import Derived.Test.YtdhdgkonghefeaaQtr
import Derived.Test.YtdhdgkonghefeaaP0
import Derived.Test.YtdhdgkonghefeaaPDm0
import Derived.Test.YtdhdgkonghefeaaPDm1
namespace Go.Proofs.Ytdhdgkonghefeaa.Pure
open Go.RowKit Go.Proofs.Ytdhdgkonghefeaa.P Go.Proofs.Ytdhdgkonghefeaa.Q Go.Proofs.YtdhdgkonghefeaaW.PrintWords Go.Proofs.YtdhdgkonghefeaaW.PrintLast Go.Proofs.YtdhdgkonghefeaaW.PrintMore Go.Proofs.Ytdhdgkonghefeaa.Lb
theorem FnExactTreeFault : laws_FnExactTreeFault.Pure := by
  intro a l _ hl
  refine Ev.rounds ?_
  unfold laws_FnExactTreeFault.f
  have hml : maxLen = 9223372036854775807 := rfl
  obtain ⟨t, ht, hs⟩ := szTree a l 1048576 (by omega) (by omega) (by have := hl.2.1; omega) (fun x hx => ⟨by have := (hl.2.2 x hx).2.1.2.1; omega, by have := (hl.2.2 x hx).2.2.2.1; omega⟩)
  refine evCall ht (evIte (fun _ => evRet rfl) (fun h => ?_))
  obtain ⟨s1, s2⟩ := hs h
  have hto := toTree a l s1 s2
  refine evCall hto (evSeq (a := treeF a (l.map cvNode)) rfl (evCall hto (evSeq (a := treeF a (l.map cvNode)) rfl (evIte (fun _ => ?_) (fun h => absurd rfl h)))))
  exact evCall hto (evCall (eqTree a _ (by simpa using s1) (cvNodes_small s2)) (evIte (fun _ => evRet rfl) (fun h => absurd rfl h)))
end Go.Proofs.Ytdhdgkonghefeaa.Pure
