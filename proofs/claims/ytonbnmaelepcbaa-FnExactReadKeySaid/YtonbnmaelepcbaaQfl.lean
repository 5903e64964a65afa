/- The floor of an engine. -/
import Derived.Test.YtonbnmaelepcbaaLb
import Derived.Test.YtonbnmaelepcbaaQf
import Derived.Test.YtonbnmaelepcbaaQce
import Derived.Test.YtonbnmaelepcbaaQnx
import Derived.Test.YtonbnmaelepcbaaQen
import Derived.Test.YtonbnmaelepcbaaP0
import Derived.Test.YtonbnmaelepcbaaPDacdefgh0
import Derived.Test.YtonbnmaelepcbaaPDm1
import Derived.Test.YtonbnmaelepcbaaPDm2
namespace Go.Proofs.Ytonbnmaelepcbaa.Q
open Go.RowKit Go.Proofs.Ytonbnmaelepcbaa.P Go.Proofs.YtonbnmaelepcbaaW.PrintWords Go.Proofs.YtonbnmaelepcbaaW.PrintLast Go.Proofs.YtonbnmaelepcbaaW.PrintMore Go.Proofs.Ytonbnmaelepcbaa.Lb
set_option linter.unusedVariables false
set_option linter.unusedSimpArgs false
theorem floor_step (ck : Int) (l : List S83) (i : Nat) (h : i < l.length) : floorF ck (l.take (i + 1)) = if (l[i].f2 == 1) = true then (if floorF ck (l.take i) < l[i].f1 then floorF ck (l.take i) else l[i].f1) else floorF ck (l.take i) := by
  unfold floorF
  rw [List.take_succ_eq_append_getElem h, List.foldl_append]
  rfl
theorem implFloor (a b : Int) (l : List S83) (m : List S87) (hb : l.length ≤ 1048576) : Ev (fun k => impl_Engine_floor.f k a b l m) (floorF b l) := by
  unfold impl_Engine_floor.f
  have := placesEv (L := fun k i => impl_Engine_floor.l0 k (floorF b (l.take i)) l (l.length : Int) (i : Int)) (r := floorF b l) l.length ?_ ?_ l.length 0 (by omega) (by omega)
  · simpa [floorF] using this
  · intro i h
    refine ⟨0, fun k _ => ?_⟩
    have h1 : (i : Int) < (l.length : Int) := by omega
    have hs := floor_step b l i h
    show impl_Engine_floor.l0 (k + 1) _ _ _ _ = impl_Engine_floor.l0 k _ _ _ _
    simp only [impl_Engine_floor.l0, h1, Int.natCast_nonneg, if_true, rdTxn h, w64n (show i < 9223372036854775807 by omega)]
    rw [hs]
    by_cases h2 : l[i].f2 = 1
    · rw [if_pos h2, if_pos (by simpa using h2)]
      congr 1
      unfold mn
      split <;> split <;> omega
    · rw [if_neg h2, if_neg (by simpa using h2)]
  · refine evSucc ?_
    simp only [impl_Engine_floor.l0, Int.lt_irrefl, if_false, List.take_length]
    exact evRet rfl
def floorOf (nx ck : Int) (l : List S83) (m : List S87) : Int × Int := if faultF cf nx ck l m = 0 then (0, floorF ck l) else (faultF cf nx ck l m, 0)
theorem specFloorOf (nx ck : Int) (l : List S83) (m : List S87) (hr : ∀ r ∈ m, r.f1.length ≤ 1048576) : Ev (fun k => spec_FloorOf.f k nx ck l m) (floorOf nx ck l m) := by
  unfold spec_FloorOf.f floorOf
  refine evCall (specFault nx ck l m (fun r h => by have := hr r h; omega)) (evIte (fun h => ?_) (fun h => ?_))
  · rw [if_pos h]; exact evRet rfl
  · rw [if_neg h]; exact evRet rfl
theorem implFloorOf (nx ck : Int) (l : List S83) (m : List S87) (hl : l.length ≤ 1048576) (ht : ∀ t ∈ l, t.f4.length ≤ 1048576) (hr : ∀ r ∈ m, r.f1.length ≤ 1048576) : Ev (fun k => impl_FloorOf.f k nx ck l m) (floorOf nx ck l m) := by
  unfold impl_FloorOf.f floorOf
  refine evCall (implEF nx ck l m ht hr) (evIte (fun h => ?_) (fun h => ?_))
  · rw [if_pos h]; exact evCall (implFloor nx ck l m hl) (evRet rfl)
  · rw [if_neg h]; exact evRet rfl
theorem eqIntR (a b : Int) : laws_eqIntResult.f a b a b = some true := by
  unfold laws_eqIntResult.f
  rw [if_pos rfl, if_pos rfl]
end Go.Proofs.Ytonbnmaelepcbaa.Q
