/- What is open. -/
import Derived.Test.YtonbnmaelepcbaaLb
import Derived.Test.YtonbnmaelepcbaaQf
import Derived.Test.YtonbnmaelepcbaaQce
import Derived.Test.YtonbnmaelepcbaaQnx
import Derived.Test.YtonbnmaelepcbaaQen
import Derived.Test.YtonbnmaelepcbaaQmk
import Derived.Test.YtonbnmaelepcbaaP0
import Derived.Test.YtonbnmaelepcbaaPDacdefgh0
import Derived.Test.YtonbnmaelepcbaaPDm1
import Derived.Test.YtonbnmaelepcbaaPDm2
namespace Go.Proofs.Ytonbnmaelepcbaa.Q
open Go.RowKit Go.Proofs.Ytonbnmaelepcbaa.P Go.Proofs.YtonbnmaelepcbaaW.PrintWords Go.Proofs.YtonbnmaelepcbaaW.PrintLast Go.Proofs.YtonbnmaelepcbaaW.PrintMore Go.Proofs.Ytonbnmaelepcbaa.Lb
set_option linter.unusedVariables false
set_option linter.unusedSimpArgs false
def openF (l : List S83) : List Int := l.flatMap fun t => if t.f2 = 1 then [t.f0] else []
theorem open_step (l : List S83) (i : Nat) (h : i < l.length) : openF (l.take (i + 1)) = openF (l.take i) ++ (if l[i].f2 = 1 then [l[i].f0] else []) := by
  unfold openF
  rw [List.take_succ_eq_append_getElem h, List.flatMap_append]
  simp
theorem open_len (l : List S83) : (openF l).length ≤ l.length := by
  unfold openF
  induction l with
  | nil => simp
  | cons x xs ih =>
    rw [List.flatMap_cons, List.length_append, List.length_cons]
    by_cases h : x.f2 = 1
    · rw [if_pos h]; simp only [List.length_singleton]; omega
    · rw [if_neg h]; simp only [List.length_nil]; omega
theorem specOpen (a b : Int) (l : List S83) (m : List S87) (hb : l.length ≤ 1048576) : Ev (fun k => spec_OpenTxns.l0 k 0 a b l m 0 []) (0, openF l) := by
  have := placesEv (L := fun k i => spec_OpenTxns.l0 k (i : Int) a b l m 0 (openF (l.take i))) (r := ((0 : Int), openF l)) l.length ?_ ?_ l.length 0 (by omega) (by omega)
  · simpa [openF] using this
  · intro i h
    refine ⟨0, fun k _ => ?_⟩
    have h1 : (i : Int) < (l.length : Int) := by omega
    have hs := open_step l i h
    have hk : (openF (l.take i)).length < 17592186044416 := by have := open_len (l.take i); simp at this; omega
    show spec_OpenTxns.l0 (k + 1) _ _ _ _ _ _ _ = spec_OpenTxns.l0 k _ _ _ _ _ _ _
    simp only [spec_OpenTxns.l0, h1, Int.natCast_nonneg, if_true, rdTxn h, w64n (show i < 9223372036854775807 by omega), hk]
    rw [hs]
    by_cases h2 : l[i].f2 = 1
    · rw [if_pos h2, if_pos h2]
    · rw [if_neg h2, if_neg h2, List.append_nil]
  · refine evSucc ?_
    simp only [spec_OpenTxns.l0, Int.lt_irrefl, if_false, List.take_length]
    exact evRet rfl
theorem implOpen (a b : Int) (l : List S83) (m : List S87) (hb : l.length ≤ 1048576) : Ev (fun k => impl_Engine_open.f k a b l m) (openF l) := by
  unfold impl_Engine_open.f
  have := placesEv (L := fun k i => impl_Engine_open.l0 k (openF (l.take i)) l (l.length : Int) (i : Int)) (r := openF l) l.length ?_ ?_ l.length 0 (by omega) (by omega)
  · simpa [openF] using this
  · intro i h
    refine ⟨0, fun k _ => ?_⟩
    have h1 : (i : Int) < (l.length : Int) := by omega
    have hs := open_step l i h
    have hk : (openF (l.take i)).length < 17592186044416 := by have := open_len (l.take i); simp at this; omega
    show impl_Engine_open.l0 (k + 1) _ _ _ _ = impl_Engine_open.l0 k _ _ _ _
    simp only [impl_Engine_open.l0, h1, Int.natCast_nonneg, if_true, rdTxn h, w64n (show i < 9223372036854775807 by omega), hk]
    rw [hs]
    by_cases h2 : l[i].f2 = 1
    · rw [if_pos h2, if_pos h2]
    · rw [if_neg h2, if_neg h2, List.append_nil]
  · refine evSucc ?_
    simp only [impl_Engine_open.l0, Int.lt_irrefl, if_false, List.take_length]
    exact evRet rfl
def openOf (nx ck : Int) (l : List S83) (m : List S87) : Int × List Int := if faultF cf nx ck l m = 0 then (0, openF l) else (faultF cf nx ck l m, [])
theorem openOf_len (nx ck : Int) (l : List S83) (m : List S87) (hl : l.length ≤ 1048576) : (openOf nx ck l m).2.length ≤ 1048576 := by
  unfold openOf
  split
  · have := open_len l; show (openF l).length ≤ _; omega
  · simp
theorem specOpenOf (nx ck : Int) (l : List S83) (m : List S87) (hl : l.length ≤ 1048576) (hr : ∀ r ∈ m, r.f1.length ≤ 1048576) : Ev (fun k => spec_OpenTxns.f k nx ck l m) (openOf nx ck l m) := by
  unfold spec_OpenTxns.f openOf
  refine evCall (specFault nx ck l m (fun r h => by have := hr r h; omega)) (evIte (fun h => ?_) (fun h => ?_))
  · rw [if_pos h]; exact specOpen nx ck l m hl
  · rw [if_neg h]; exact evRet rfl
theorem implOpenOf (nx ck : Int) (l : List S83) (m : List S87) (hl : l.length ≤ 1048576) (ht : ∀ t ∈ l, t.f4.length ≤ 1048576) (hr : ∀ r ∈ m, r.f1.length ≤ 1048576) : Ev (fun k => impl_OpenTxns.f k nx ck l m) (openOf nx ck l m) := by
  unfold impl_OpenTxns.f openOf
  refine evCall (implEF nx ck l m ht hr) (evIte (fun h => ?_) (fun h => ?_))
  · rw [if_pos h]; exact evCall (implOpen nx ck l m hl) (evRet rfl)
  · rw [if_neg h]; exact evRet rfl
end Go.Proofs.Ytonbnmaelepcbaa.Q
