/- The pure statement of SameAnswers' exact law. -/
import Derived.Test.YtonbnmaelepcbaaUFnExactSameAnswers
import Derived.Test.YtonbnmaelepcbaaQall
import Derived.Test.YtonbnmaelepcbaaP0
import Derived.Test.YtonbnmaelepcbaaPDg0
namespace Go.Proofs.Ytonbnmaelepcbaa.Pure
open Go.RowKit Go.Proofs.Ytonbnmaelepcbaa.P Go.Proofs.Ytonbnmaelepcbaa.Q Go.Proofs.YtonbnmaelepcbaaW.PrintWords Go.Proofs.YtonbnmaelepcbaaW.PrintLast Go.Proofs.YtonbnmaelepcbaaW.PrintMore Go.Proofs.Ytonbnmaelepcbaa.Lb
theorem FnExactSameAnswers : laws_FnExactSameAnswers.Pure := by
  intro a b l m a' b' l' m' _ _ hl hm _ _ hl' hm'
  refine Ev.rounds ?_
  unfold laws_FnExactSameAnswers.f
  have hml : maxLen = 9223372036854775807 := rfl
  obtain ⟨t, ht, hs⟩ := szEngine a b l m 1048576 (by omega) (by omega) (by have := hl.2.1; omega) (by have := hm.2.1; omega) (fun x hx => by have := (hl.2.2 x hx).2.2.2.2.2.1; omega) (fun x hx => by have := (hm.2.2 x hx).2.2.1; omega)
  refine evCall ht (evIte (fun _ => evRet rfl) (fun h => ?_))
  obtain ⟨s0, s1, s2, s3, s4⟩ := hs h
  obtain ⟨t', ht', hs'⟩ := szEngine a' b' l' m' t (by omega) (by omega) (by have := hl'.2.1; omega) (by have := hm'.2.1; omega) (fun x hx => by have := (hl'.2.2 x hx).2.2.2.2.2.1; omega) (fun x hx => by have := (hm'.2.2 x hx).2.2.1; omega)
  refine evCall ht' (evIte (fun _ => evRet rfl) (fun h' => ?_))
  obtain ⟨_, r1, r2, r3, r4⟩ := hs' h'
  have hto := toEngine a b l m s1 s2 s3 s4
  have hto' := toEngine a' b' l' m' r1 r2 r3 r4
  have b1 : (l.map cvTxn).length ≤ 1048576 := by simpa using s1
  have b2 : (m.map cvRow).length ≤ 1048576 := by simpa using s2
  have b3 : ∀ x ∈ l.map cvTxn, x.f4.length ≤ 1048576 := fun x hx => by obtain ⟨y, hy, rfl⟩ := List.mem_map.1 hx; simpa [cvTxn] using s3 y hy
  have b4 : ∀ x ∈ m.map cvRow, x.f1.length ≤ 1048576 := fun x hx => by obtain ⟨y, hy, rfl⟩ := List.mem_map.1 hx; simpa [cvRow] using s4 y hy
  have d1 : (l'.map cvTxn).length ≤ 1048576 := by simpa using r1
  have d2 : (m'.map cvRow).length ≤ 1048576 := by simpa using r2
  have d3 : ∀ x ∈ l'.map cvTxn, x.f4.length ≤ 1048576 := fun x hx => by obtain ⟨y, hy, rfl⟩ := List.mem_map.1 hx; simpa [cvTxn] using r3 y hy
  have d4 : ∀ x ∈ m'.map cvRow, x.f1.length ≤ 1048576 := fun x hx => by obtain ⟨y, hy, rfl⟩ := List.mem_map.1 hx; simpa [cvRow] using r4 y hy
  refine evCall hto (evCall hto' (evCall (specSameOf a b _ _ a' b' _ _ b1 d1 b2 d2 b4 d4) (evCall hto (evCall hto' (evCall (implSameOf a b _ _ a' b' _ _ b1 d1 b2 d2 b3 d3 b4 d4) (evIte (fun h => absurd h (by simp)) (fun _ => ?_)))))))
  refine evCall hto (evCall (eqEngine a b _ _ b1 b2 b3 b4) (evIte (fun _ => ?_) (fun h => absurd rfl h)))
  exact evCall hto' (evCall (eqEngine a' b' _ _ d1 d2 d3 d4) (evIte (fun _ => evRet rfl) (fun h => absurd rfl h)))
end Go.Proofs.Ytonbnmaelepcbaa.Pure
