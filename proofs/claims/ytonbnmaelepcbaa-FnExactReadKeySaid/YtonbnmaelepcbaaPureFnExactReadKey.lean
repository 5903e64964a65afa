/- The pure statement of ReadKey's exact law. -/
import Derived.Test.YtonbnmaelepcbaaUFnExactReadKey
import Derived.Test.YtonbnmaelepcbaaQfl
import Derived.Test.YtonbnmaelepcbaaQsv
import Derived.Test.YtonbnmaelepcbaaP0
import Derived.Test.YtonbnmaelepcbaaPDm2
namespace Go.Proofs.Ytonbnmaelepcbaa.Pure
open Go.RowKit Go.Proofs.Ytonbnmaelepcbaa.P Go.Proofs.Ytonbnmaelepcbaa.Q Go.Proofs.YtonbnmaelepcbaaW.PrintWords Go.Proofs.YtonbnmaelepcbaaW.PrintLast Go.Proofs.YtonbnmaelepcbaaW.PrintMore Go.Proofs.Ytonbnmaelepcbaa.Lb
theorem FnExactReadKey : laws_FnExactReadKey.Pure := by
  intro a b l m id key _ _ hl hm _ _
  refine Ev.rounds ?_
  unfold laws_FnExactReadKey.f
  have hml : maxLen = 9223372036854775807 := rfl
  obtain ⟨t, ht, hs⟩ := szEngine a b l m 1048576 (by omega) (by omega) (by have := hl.2.1; omega) (by have := hm.2.1; omega) (fun x hx => by have := (hl.2.2 x hx).2.2.2.2.2.1; omega) (fun x hx => by have := (hm.2.2 x hx).2.2.1; omega)
  refine evCall ht (evIte (fun _ => evRet rfl) (fun h => ?_))
  obtain ⟨_, s1, s2, s3, s4⟩ := hs h
  have hto := toEngine a b l m s1 s2 s3 s4
  have b1 : (l.map cvTxn).length ≤ 1048576 := by simpa using s1
  have b2 : (m.map cvRow).length ≤ 1048576 := by simpa using s2
  have b3 : ∀ x ∈ l.map cvTxn, x.f4.length ≤ 1048576 := fun x hx => by obtain ⟨y, hy, rfl⟩ := List.mem_map.1 hx; simpa [cvTxn] using s3 y hy
  have b4 : ∀ x ∈ m.map cvRow, x.f1.length ≤ 1048576 := fun x hx => by obtain ⟨y, hy, rfl⟩ := List.mem_map.1 hx; simpa [cvRow] using s4 y hy
  refine evCall hto (evCall (specReadOf a b _ _ id key b4) (evCall hto (evCall (implReadOf a b _ _ id key b3 b4) (evSeq (eqIntR _ _) (evIte (fun _ => ?_) (fun h => absurd rfl h))))))
  exact evCall hto (evCall (eqEngine a b _ _ b1 b2 b3 b4) (evIte (fun _ => evRet rfl) (fun h => absurd rfl h)))
end Go.Proofs.Ytonbnmaelepcbaa.Pure
