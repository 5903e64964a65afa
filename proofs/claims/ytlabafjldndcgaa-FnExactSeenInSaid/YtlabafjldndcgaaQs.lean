/- What a view sees: what both sides come to. -/
import Derived.Test.YtlabafjldndcgaaLb
import Derived.Test.YtlabafjldndcgaaQv
import Derived.Test.YtlabafjldndcgaaQc
import Derived.Test.YtlabafjldndcgaaQd
import Derived.Test.YtlabafjldndcgaaP0
import Derived.Test.YtlabafjldndcgaaPD0
namespace Go.Proofs.Ytlabafjldndcgaa.Q
open Go.RowKit Go.Proofs.Ytlabafjldndcgaa.P Go.Proofs.YtlabafjldndcgaaW.PrintWords Go.Proofs.YtlabafjldndcgaaW.PrintLast Go.Proofs.YtlabafjldndcgaaW.PrintMore Go.Proofs.Ytlabafjldndcgaa.Lb
set_option linter.unusedVariables false
set_option linter.unusedSimpArgs false
/-- What is told of the version that is seen. -/
def sv : Option S58 → Int × Int
  | some x => if x.f2 = true then (4, 0) else (0, x.f3)
  | none => (4, 0)
def seenIn (l : List S58) (at_ own : Int) : Int × Int := if asked l at_ own = 0 then sv (l.find? (impl_seen.p at_ own)) else (asked l at_ own, 0)

theorem idxFrom_find (p : S58 → Bool) : ∀ (rest pre : List S58), (idxFrom p (pre.length : Int) rest = -1 ∧ rest.find? p = none) ∨ ∃ i : Nat, idxFrom p (pre.length : Int) rest = i ∧ ∃ h : i < (pre ++ rest).length, rest.find? p = some (pre ++ rest)[i]
  | [], pre => .inl ⟨rfl, rfl⟩
  | v :: vs, pre => by
    cases hv : p v with
    | true => exact .inr ⟨pre.length, by simp [idxFrom, hv], by simp, by simp [hv]⟩
    | false =>
      have ih := idxFrom_find p vs (pre ++ [v])
      simp only [List.append_assoc, List.singleton_append] at ih
      have e : (((pre ++ [v]).length : Nat) : Int) = (pre.length : Int) + 1 := by simp
      rw [e] at ih
      simpa [idxFrom, hv] using ih
theorem implSV (l : List S58) (at_ own : Int) : impl_seenValue.f l at_ own = some (sv (l.find? (impl_seen.p at_ own))) := by
  unfold impl_seenValue.f impl_seen.f
  rw [Option.bind_some]
  rcases idxFrom_find (impl_seen.p at_ own) l [] with ⟨h1, h2⟩ | ⟨i, h1, h2, h3⟩
  · have h1' : idx (impl_seen.p at_ own) l = -1 := h1
    rw [h1', h2]
    rfl
  · have h1' : idx (impl_seen.p at_ own) l = (i : Int) := h1
    simp only [List.nil_append] at h2 h3
    have hlt : (i : Int) < (l.length : Int) := by omega
    rw [h1', h3]
    simp only [show ¬ ((i : Int) < 0) by omega, if_false, Int.natCast_nonneg, if_true, hlt, rdV h2, sv]
    by_cases hg : l[i].f2 = true <;> simp [hg]
theorem implSeenIn (l : List S58) (at_ own : Int) (hb : l.length ≤ 8796093022208) : Ev (fun k => impl_SeenIn.f k l at_ own) (seenIn l at_ own) := by
  unfold impl_SeenIn.f seenIn
  refine evCall (implView l at_ own hb) (evIte (fun h => ?_) (fun h => evRet (by rw [if_neg h])))
  rw [if_pos h]
  exact evSeq (implSV l at_ own) (evRet rfl)

/-- The place that the other side tells. -/
def sidx (p : S58 → Bool) : Int → List S58 → Int
  | _, [] => -1
  | i, v :: vs => if p v = true then (if v.f2 = true then -1 else i) else sidx p (i + 1) vs
theorem sidx_find (p : S58 → Bool) : ∀ (rest pre : List S58), (sidx p (pre.length : Int) rest = -1 ∧ sv (rest.find? p) = (4, 0)) ∨ ∃ i : Nat, sidx p (pre.length : Int) rest = i ∧ ∃ h : i < (pre ++ rest).length, sv (rest.find? p) = (0, (pre ++ rest)[i].f3)
  | [], pre => .inl ⟨rfl, rfl⟩
  | v :: vs, pre => by
    by_cases hv : p v = true
    · by_cases hg : v.f2 = true
      · exact .inl ⟨by simp [sidx, hv, hg], by simp [hv, sv, hg]⟩
      · exact .inr ⟨pre.length, by simp [sidx, hv, hg], by simp, by simp [hv, sv, hg]⟩
    · have ih := sidx_find p vs (pre ++ [v])
      simp only [List.append_assoc, List.singleton_append] at ih
      have e : (((pre ++ [v]).length : Nat) : Int) = (pre.length : Int) + 1 := by simp
      rw [e] at ih
      simpa [sidx, hv] using ih
set_option maxHeartbeats 1000000 in
theorem specSeen_l (at_ own : Int) : ∀ (rest pre : List S58), (∀ x ∈ rest, 0 ≤ x.f1) → (pre ++ rest).length ≤ 8796093022208 → Ev (fun k => spec_l5Seen.l0 k (pre ++ rest) (pre.length : Int) at_ own) (sidx (impl_seen.p at_ own) (pre.length : Int) rest)
  | [], pre, h0, hb => by
    refine evSucc ?_
    simp only [spec_l5Seen.l0, List.append_nil, Int.lt_irrefl, if_false]
    exact evRet (by simp [sidx])
  | v :: vs, pre, h0, hb => by
    have hb' : pre.length + 1 ≤ 8796093022208 := by simp at hb; omega
    have ih := specSeen_l at_ own vs (pre ++ [v]) (fun x hx => h0 x (by simp [hx])) (by simpa using hb)
    have hn : (((pre ++ [v]).length : Nat) : Int) = wrap64 ((pre.length : Int) + 1) := by rw [w64n (by omega)]; simp
    have hn2 : wrap64 ((pre.length : Int) + 1) = (pre.length : Int) + 1 := by rw [w64n (by omega)]; simp
    rw [hn, List.append_assoc, List.singleton_append] at ih
    have h1 : (pre.length : Int) < ((pre ++ v :: vs).length : Int) := by simp <;> omega
    have rv := rd_mid pre v vs
    have hv0 := h0 v (by simp)
    have key : ∀ b : Bool, b = impl_seen.p at_ own v → Ev (fun k => spec_l5Seen.j1 k (pre ++ v :: vs) (pre.length : Int) b at_ own v.f0 v.f1 v.f2 v.f3) (sidx (impl_seen.p at_ own) (pre.length : Int) (v :: vs)) := by
      intro b hb2
      subst hb2
      refine evSucc ?_
      simp only [spec_l5Seen.j1]
      refine evIte (fun h => evIte (fun h2 => evRet (by simp [sidx, h, h2])) (fun h2 => evRet (by simp [sidx, h, h2]))) (fun h => evEq ih ?_)
      rw [hn2]
      simp [sidx, h]
    refine evSucc ?_
    simp only [spec_l5Seen.l0, h1, Int.natCast_nonneg, if_true, rv]
    repeat' (refine evIte (fun _ => ?_) (fun _ => ?_))
    all_goals (refine key _ ?_; simp only [impl_seen.p]; grind)
theorem specSeenIn (l : List S58) (at_ own : Int) (hb : l.length ≤ 8796093022208) : Ev (fun k => spec_SeenIn.f k l at_ own) (seenIn l at_ own) := by
  unfold spec_SeenIn.f seenIn
  refine evCall (specAsked l at_ own hb) (evIte (fun h => ?_) (fun h => evRet (by rw [if_neg h])))
  rw [if_pos h]
  have ho := (cf_ok (asked_ok h).1).2
  have hs : Ev (fun k => spec_l5Seen.f k l at_ own) (sidx (impl_seen.p at_ own) 0 l) := specSeen_l at_ own l [] (fun x hx => (ho x hx).2.2.1) hb
  refine evCall hs ?_
  rcases sidx_find (impl_seen.p at_ own) l [] with ⟨h1, h2⟩ | ⟨i, h1, h2, h3⟩
  · have h1' : sidx (impl_seen.p at_ own) 0 l = -1 := h1
    rw [h1', h2]
    exact evIte (fun _ => evRet rfl) (fun h3 => absurd (by decide) h3)
  · have h1' : sidx (impl_seen.p at_ own) 0 l = (i : Int) := h1
    simp only [List.nil_append] at h2 h3
    have hlt : (i : Int) < (l.length : Int) := by omega
    rw [h1', h3]
    simp only [show ¬ ((i : Int) < 0) by omega, if_false, Int.natCast_nonneg, if_true, hlt, rdV h2]
    exact evRet rfl
end Go.Proofs.Ytlabafjldndcgaa.Q
