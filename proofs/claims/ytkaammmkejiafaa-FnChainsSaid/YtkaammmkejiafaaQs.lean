/- What a view sees: what both sides come to. -/
import Derived.Test.YtkaammmkejiafaaLb
import Derived.Test.YtkaammmkejiafaaQv
import Derived.Test.YtkaammmkejiafaaQc
import Derived.Test.YtkaammmkejiafaaQd
import Derived.Test.YtkaammmkejiafaaP0
import Derived.Test.YtkaammmkejiafaaPDall0
namespace Go.Proofs.Ytkaammmkejiafaa.Q
open Go.RowKit Go.Proofs.Ytkaammmkejiafaa.P Go.Proofs.YtkaammmkejiafaaW.PrintWords Go.Proofs.YtkaammmkejiafaaW.PrintLast Go.Proofs.YtkaammmkejiafaaW.PrintMore Go.Proofs.Ytkaammmkejiafaa.Lb
set_option linter.unusedVariables false
set_option linter.unusedSimpArgs false
/-- What is told of the version that is seen. -/
def sv : Option S51 → Int × Int
  | some x => if x.f2 = true then (4, 0) else (0, x.f3)
  | none => (4, 0)
def seenIn (l : List S51) (at_ own : Int) : Int × Int := if asked l at_ own = 0 then sv (l.find? (impl_seen.p at_ own)) else (asked l at_ own, 0)

theorem idxFrom_find (p : S51 → Bool) : ∀ (rest pre : List S51), (idxFrom p (pre.length : Int) rest = -1 ∧ rest.find? p = none) ∨ ∃ i : Nat, idxFrom p (pre.length : Int) rest = i ∧ ∃ h : i < (pre ++ rest).length, rest.find? p = some (pre ++ rest)[i]
  | [], pre => .inl ⟨rfl, rfl⟩
  | v :: vs, pre => by
    cases hv : p v with
    | true => exact .inr ⟨pre.length, by simp [idxFrom, hv], by simp, by simp [hv]⟩
    | false =>
      have ih := idxFrom_find p vs (pre ++ [v])
      simp only [List.append_assoc, List.singleton_append] at ih
      have e : (((pre ++ [v]).length : Nat) : Int) = (pre.length : Int) + 1 := by simp
      rw [e] at ih
      simpa [idxFrom, hv] using ih
theorem implSV (l : List S51) (at_ own : Int) : impl_seenValue.f l at_ own = some (sv (l.find? (impl_seen.p at_ own))) := by
  unfold impl_seenValue.f impl_seen.f
  rw [Option.bind_some]
  rcases idxFrom_find (impl_seen.p at_ own) l [] with ⟨h1, h2⟩ | ⟨i, h1, h2, h3⟩
  · have h1' : idx (impl_seen.p at_ own) l = -1 := h1
    rw [h1', h2]
    rfl
  · have h1' : idx (impl_seen.p at_ own) l = (i : Int) := h1
    simp only [List.nil_append] at h2 h3
    have hlt : (i : Int) < (l.length : Int) := by omega
    rw [h1', h3]
    simp only [show ¬ ((i : Int) < 0) by omega, if_false, Int.natCast_nonneg, if_true, hlt, rdV h2, sv]
    by_cases hg : l[i].f2 = true <;> simp [hg]
theorem implSeenIn (l : List S51) (at_ own : Int) (hb : l.length ≤ 8796093022208) : Ev (fun k => impl_SeenIn.f k l at_ own) (seenIn l at_ own) := by
  unfold impl_SeenIn.f seenIn
  refine evCall (implView l at_ own hb) (evIte (fun h => ?_) (fun h => evRet (by rw [if_neg h])))
  rw [if_pos h]
  exact evSeq (implSV l at_ own) (evRet rfl)

end Go.Proofs.Ytkaammmkejiafaa.Q

