/- The pure statement of IndexFault's exact law: both sides tell the same of every engine and every index, and the arguments stay. -/
import Derived.Test.YtocdahbinombkaaGreatUFnExactIndexFault
import Derived.Test.YtocdahbinombkaaGreatQbi
import Derived.Test.YtocdahbinombkaaGreatP0
import Derived.Test.YtocdahbinombkaaGreatPDm0
namespace Go.Proofs.YtocdahbinombkaaGreat.Pure
open Go.RowKit Go.Proofs.YtocdahbinombkaaGreat.P Go.Proofs.YtocdahbinombkaaGreat.Q Go.Proofs.YtocdahbinombkaaGreatW.PrintWords Go.Proofs.YtocdahbinombkaaGreatW.PrintLast Go.Proofs.YtocdahbinombkaaGreatW.PrintMore Go.Proofs.YtocdahbinombkaaGreat.Lb
theorem FnExactIndexFault : laws_FnExactIndexFault.Pure := by
  intro a b l m p _ _ hl hm hp
  refine Ev.rounds ?_
  unfold laws_FnExactIndexFault.f
  have hml : maxLen = 9223372036854775807 := rfl
  obtain ⟨t, ht, hs⟩ := szEngine a b l m 1048576 (by omega) (by omega) (by have := hl.2.1; omega) (by have := hm.2.1; omega) (fun x hx => by have := (hl.2.2 x hx).2.2.2.2.2.1; omega) (fun x hx => by have := (hm.2.2 x hx).2.2.1; omega)
  refine evCall ht (evIte (fun _ => evRet rfl) (fun h => ?_))
  obtain ⟨h5, s1, s2, s3, s4⟩ := hs h
  refine evSeq (szPairS p t (by omega) (by omega) (by have := hp.2.1; omega)) (evIte (fun _ => evRet rfl) (fun h => ?_))
  have s5 : p.length ≤ 1048576 := by
    by_cases h2 : t < (p.length : Int)
    · rw [if_pos h2] at h; omega
    · omega
  have hto := toEngine a b l m s1 s2 s3 s4
  have b1 : (l.map cvTxn).length ≤ 1048576 := by simpa using s1
  have b2 : (m.map cvRow).length ≤ 1048576 := by simpa using s2
  have b3 : ∀ x ∈ l.map cvTxn, x.f4.length ≤ 1048576 := fun x hx => by obtain ⟨y, hy, rfl⟩ := List.mem_map.1 hx; simpa [cvTxn] using s3 y hy
  have b4 : ∀ x ∈ m.map cvRow, x.f1.length ≤ 1048576 := fun x hx => by obtain ⟨y, hy, rfl⟩ := List.mem_map.1 hx; simpa [cvRow] using s4 y hy
  have b5 : (p.map cvPair).length ≤ 1048576 := by simpa using s5
  have htp := toPairS p (by omega)
  refine evCall hto (evCall htp (evCall (specIX a b _ _ _ b4 b5) (evCall hto (evCall htp (evCall (implIX a b _ _ _ b3 b4 b5) (evIte (fun _ => ?_) (fun h => absurd rfl h)))))))
  refine evCall hto (evCall (eqEngine a b _ _ b1 b2 b3 b4) (evIte (fun _ => ?_) (fun h => absurd rfl h)))
  exact evCall htp (evCall (eqPairS _ (by omega)) (evIte (fun _ => evRet rfl) (fun h => absurd rfl h)))
end Go.Proofs.YtocdahbinombkaaGreat.Pure
