/- The pure statement of ScanKeys' exact law. -/
import Derived.Test.YtonbnmaelepcbaaUFnExactScanKeys
import Derived.Test.YtonbnmaelepcbaaQsc
import Derived.Test.YtonbnmaelepcbaaP0
import Derived.Test.YtonbnmaelepcbaaPDm2
namespace Go.Proofs.Ytonbnmaelepcbaa.Pure
open Go.RowKit Go.Proofs.Ytonbnmaelepcbaa.P Go.Proofs.Ytonbnmaelepcbaa.Q Go.Proofs.YtonbnmaelepcbaaW.PrintWords Go.Proofs.YtonbnmaelepcbaaW.PrintLast Go.Proofs.YtonbnmaelepcbaaW.PrintMore Go.Proofs.Ytonbnmaelepcbaa.Lb
theorem FnExactScanKeys : laws_FnExactScanKeys.Pure := by
  intro a b l m id lo hi _ _ hl hm _ _ _
  refine Ev.rounds ?_
  unfold laws_FnExactScanKeys.f
  have hml : maxLen = 9223372036854775807 := rfl
  obtain ⟨t, ht, hs⟩ := szEngine a b l m 1048576 (by omega) (by omega) (by have := hl.2.1; omega) (by have := hm.2.1; omega) (fun x hx => by have := (hl.2.2 x hx).2.2.2.2.2.1; omega) (fun x hx => by have := (hm.2.2 x hx).2.2.1; omega)
  refine evCall ht (evIte (fun _ => evRet rfl) (fun h => ?_))
  obtain ⟨_, s1, s2, s3, s4⟩ := hs h
  have hto := toEngine a b l m s1 s2 s3 s4
  have b1 : (l.map cvTxn).length ≤ 1048576 := by simpa using s1
  have b2 : (m.map cvRow).length ≤ 1048576 := by simpa using s2
  have b3 : ∀ x ∈ l.map cvTxn, x.f4.length ≤ 1048576 := fun x hx => by obtain ⟨y, hy, rfl⟩ := List.mem_map.1 hx; simpa [cvTxn] using s3 y hy
  have b4 : ∀ x ∈ m.map cvRow, x.f1.length ≤ 1048576 := fun x hx => by obtain ⟨y, hy, rfl⟩ := List.mem_map.1 hx; simpa [cvRow] using s4 y hy
  have hn := scanOf_len a b (l.map cvTxn) (m.map cvRow) id lo hi b2
  obtain ⟨r, hr, r0⟩ := markEngine a b _ _ b1 b2 b3 b4
  refine evCall hto (evCall (specScanOf a b _ _ id lo hi b2 b4) (evCall (implScanOf a b _ _ id lo hi b2 b3 b4) (evCall (eqCellsR _ _ hn) (evIte (fun _ => ?_) (fun h => absurd rfl h)))))
  refine evCall (eqEngine a b _ _ b1 b2 b3 b4) (evIte (fun _ => ?_) (fun h => absurd rfl h))
  refine evCall hr (evIte (fun h => absurd h r0) (fun _ => ?_))
  exact evCall (markCellsR _ _ hn) (evCall (heldCellsR _ _ hn) (evIte (fun h => absurd h (by omega)) (fun _ => evIte (fun _ => evRet rfl) (fun h => absurd rfl h))))
end Go.Proofs.Ytonbnmaelepcbaa.Pure
