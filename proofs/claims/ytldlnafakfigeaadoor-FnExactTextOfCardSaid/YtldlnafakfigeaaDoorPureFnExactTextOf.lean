/- The pure statement of TextOf's exact law. -/
import Derived.Test.YtldlnafakfigeaaDoorUFnExactTextOf
import Derived.Test.YtldlnafakfigeaaDoorQtx
import Derived.Test.YtldlnafakfigeaaDoorP0
import Derived.Test.YtldlnafakfigeaaDoorPDall0
namespace Go.Proofs.YtldlnafakfigeaaDoor.Pure
open Go.RowKit Go.Proofs.YtldlnafakfigeaaDoor.P Go.Proofs.YtldlnafakfigeaaDoor.Q Go.Proofs.YtldlnafakfigeaaDoorW.PrintWords Go.Proofs.YtldlnafakfigeaaDoorW.PrintLast Go.Proofs.YtldlnafakfigeaaDoorW.PrintMore Go.Proofs.YtldlnafakfigeaaDoor.Lb
theorem FnExactTextOf : laws_FnExactTextOf.Pure := by
  intro a b l m _ _ hl hm
  refine Ev.rounds ?_
  unfold laws_FnExactTextOf.f
  have hml : maxLen = 9223372036854775807 := rfl
  obtain ⟨t, ht, hs⟩ := szEngine a b l m 1048576 (by omega) (by omega) (by have := hl.2.1; omega) (by have := hm.2.1; omega) (fun x hx => by have := (hl.2.2 x hx).2.2.2.2.2.1; omega) (fun x hx => by have := (hm.2.2 x hx).2.2.1; omega)
  refine evCall ht (evIte (fun _ => evRet rfl) (fun h => ?_))
  obtain ⟨_, s1, s2, s3, s4⟩ := hs h
  have hto := toEngine a b l m s1 s2 s3 s4
  have b1 : (l.map cvTxn).length ≤ 1048576 := by simpa using s1
  have b2 : (m.map cvRow).length ≤ 1048576 := by simpa using s2
  have b3 : ∀ x ∈ l.map cvTxn, x.f4.length ≤ 1048576 := fun x hx => by obtain ⟨y, hy, rfl⟩ := List.mem_map.1 hx; simpa [cvTxn] using s3 y hy
  have b4 : ∀ x ∈ m.map cvRow, x.f1.length ≤ 1048576 := fun x hx => by obtain ⟨y, hy, rfl⟩ := List.mem_map.1 hx; simpa [cvRow] using s4 y hy
  refine evCall hto (evCall (specText a b _ _ b4) (evCall hto (evCall (implText a b _ _ b3 b4) ?_)))
  refine evSeq (a := true) (by unfold laws_eqTextResult.f; rw [if_pos rfl, if_pos rfl]) (evIte (fun _ => ?_) (fun h => absurd rfl h))
  exact evCall hto (evCall (eqEngine a b _ _ b1 b2 b3 b4) (evIte (fun _ => evRet rfl) (fun h => absurd rfl h)))
end Go.Proofs.YtldlnafakfigeaaDoor.Pure
