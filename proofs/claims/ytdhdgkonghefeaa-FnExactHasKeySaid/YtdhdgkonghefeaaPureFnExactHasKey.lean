/- The pure statement of HasKey's exact law: both sides tell the same of every tree and key, and the argument stays. -/
import Derived.Test.YtdhdgkonghefeaaUFnExactHasKey
import Derived.Test.YtdhdgkonghefeaaQpa
import Derived.Test.YtdhdgkonghefeaaP0
import Derived.Test.YtdhdgkonghefeaaPCall3
import Derived.Test.YtdhdgkonghefeaaPCbcdf0
import Derived.Test.YtdhdgkonghefeaaPCbf0
import Derived.Test.YtdhdgkonghefeaaPDm0
import Derived.Test.YtdhdgkonghefeaaPDm1
namespace Go.Proofs.Ytdhdgkonghefeaa.Pure
open Go.RowKit Go.Proofs.Ytdhdgkonghefeaa.P Go.Proofs.Ytdhdgkonghefeaa.Q Go.Proofs.YtdhdgkonghefeaaW.PrintWords Go.Proofs.YtdhdgkonghefeaaW.PrintLast Go.Proofs.YtdhdgkonghefeaaW.PrintMore Go.Proofs.Ytdhdgkonghefeaa.Lb
theorem hasBoth (a : Int) (l : List S58) (key : Int) : ∃ r : Bool, spec_HasKey.f a l key = some r ∧ Ev (fun k => impl_HasKey.f k a l key) r := by
  unfold spec_HasKey.f impl_HasKey.f spec_TreeFault.f
  simp only [Option.bind_some]
  by_cases ht : treeF a l = 0
  · obtain ⟨p, hp, hlp, he⟩ := path_f (key := key) ht
    obtain ⟨_, _, hlen, hkid, h3, h4, _⟩ := treeF_ok ht
    obtain ⟨hp0, _, hpm⟩ := pathW_mem (fun n hn => (hlen n hn).2.2) hkid key 61 a p h3 h4 hp
    have hq := hpm _ (last_mem hp0)
    have hk := (hlen _ (getD_mem hq.1 hq.2)).1
    refine ⟨(lastKeys l p).contains key, ?_, ?_⟩
    · rw [if_pos ht]; unfold spec_l4Has.f hasF; rw [if_pos ht, hp]; rfl
    · refine evIte (fun _ => evCall he (evIte (fun _ => evRet rfl) (fun h => absurd ⟨List.length_pos_iff.2 hp0, by omega, hq.1, hq.2, ?_⟩ h))) (fun h => absurd ht h)
      unfold lastKeys
      omega
  · exact ⟨false, by rw [if_neg ht], evIte (fun h => absurd h ht) (fun _ => evRet rfl)⟩
theorem FnExactHasKey : laws_FnExactHasKey.Pure := by
  intro a l key _ hl _
  refine Ev.rounds ?_
  unfold laws_FnExactHasKey.f
  have hml : maxLen = 9223372036854775807 := rfl
  obtain ⟨t, ht, hs⟩ := szTree a l 1048576 (by omega) (by omega) (by have := hl.2.1; omega) (fun x hx => ⟨by have := (hl.2.2 x hx).2.1.2.1; omega, by have := (hl.2.2 x hx).2.2.2.1; omega⟩)
  refine evCall ht (evIte (fun _ => evRet rfl) (fun h => ?_))
  obtain ⟨s1, s2⟩ := hs h
  have hto := toTree a l s1 s2
  obtain ⟨r, h1, h2⟩ := hasBoth a (l.map cvNode) key
  refine evCall hto (evSeq h1 (evCall hto (evCall h2 (evIte (fun h => absurd h (by simp)) (fun _ => ?_)))))
  exact evCall hto (evCall (eqTree a _ (by simpa using s1) (cvNodes_small s2)) (evIte (fun _ => evRet rfl) (fun h => absurd rfl h)))
end Go.Proofs.Ytdhdgkonghefeaa.Pure
