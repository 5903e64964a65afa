/- The pure statement of the law FnPurges: what is purged tells the same to all views that are not behind the floor. -/
import Derived.Test.YtkaammmkejiafaaUFnPurges
import Derived.Test.YtkaammmkejiafaaQe
import Derived.Test.YtkaammmkejiafaaQs
import Derived.Test.YtkaammmkejiafaaQd
import Derived.Test.YtkaammmkejiafaaQp
import Derived.Test.YtkaammmkejiafaaQz5
import Derived.Test.YtkaammmkejiafaaP0
import Derived.Test.YtkaammmkejiafaaPD0
namespace Go.Proofs.Ytkaammmkejiafaa.Pure
open Go.RowKit Go.Proofs.Ytkaammmkejiafaa.P Go.Proofs.Ytkaammmkejiafaa.Q Go.Proofs.YtkaammmkejiafaaW.PrintWords Go.Proofs.YtkaammmkejiafaaW.PrintLast Go.Proofs.YtkaammmkejiafaaW.PrintMore Go.Proofs.Ytkaammmkejiafaa.Lb
set_option linter.unusedVariables false
set_option linter.unusedSimpArgs false
/-- Purged once, a chain stays. -/
theorem purge_parts (fl : Int) : ∀ l : List S51, (∃ A, (∀ x ∈ A, ¬ under fl x) ∧ ((l = A ∧ purge fl l = A) ∨ ∃ v B, l = A ++ v :: B ∧ under fl v ∧ purge fl l = if v.f2 = true then A else A ++ [v]))
  | [] => ⟨[], by simp, .inl ⟨rfl, rfl⟩⟩
  | v :: vs => by
    by_cases hv : under fl v
    · refine ⟨[], by simp, .inr ⟨v, vs, rfl, hv, ?_⟩⟩
      rw [purge, if_pos hv]
      rfl
    · obtain ⟨A, hA, h⟩ := purge_parts fl vs
      refine ⟨v :: A, by intro x hx; rcases List.mem_cons.1 hx with rfl | hx; exact hv; exact hA x hx, ?_⟩
      rcases h with ⟨e, h⟩ | ⟨u, B, e, hu, h⟩
      · exact .inl ⟨by rw [e], by rw [purge, if_neg hv, h]⟩
      · refine .inr ⟨u, B, by rw [e]; rfl, hu, ?_⟩
        rw [purge, if_neg hv, h]
        split <;> rfl
theorem purge_again (fl : Int) (l : List S51) : purge fl (purge fl l) = purge fl l := by
  have stay : ∀ A : List S51, (∀ x ∈ A, ¬ under fl x) → purge fl A = A := by
    intro A
    induction A with
    | nil => intro _; rfl
    | cons x A ih => intro h; rw [purge, if_neg (h x (by simp)), ih (fun y hy => h y (by simp [hy]))]
  have stay2 : ∀ (A : List S51) (v : S51), (∀ x ∈ A, ¬ under fl x) → under fl v → v.f2 ≠ true → purge fl (A ++ [v]) = A ++ [v] := by
    intro A v
    induction A with
    | nil => intro _ hv hg; simp [purge, hv, hg]
    | cons x A ih => intro h hv hg; rw [List.cons_append, purge, if_neg (h x (by simp)), ih (fun y hy => h y (by simp [hy])) hv hg]
  obtain ⟨A, hA, ⟨_, h⟩ | ⟨v, B, _, hv, h⟩⟩ := purge_parts fl l
  · rw [h]; exact stay A hA
  · rw [h]
    split
    · exact stay A hA
    · rename_i hg; exact stay2 A v hA hv hg
theorem cfL_take : ∀ (A B : List S51) (p : Option S51), cfL p (A ++ B) = 0 → cfL p A = 0
  | [], B, p, _ => by cases p <;> rfl
  | v :: A, B, p, h => by
    rw [List.cons_append] at h
    unfold cfL at h ⊢
    split at h
    · split at h
      · omega
      · rename_i h1 h2
        rw [if_pos h1, if_neg h2]
        exact cfL_take A B _ h
    · omega
theorem cf_purge {l : List S51} (h : cf l = 0) (fl : Int) : cf (purge fl l) = 0 := by
  have hl := (cf_ok h).1
  have h2 : cfL none l = 0 := by unfold cf at h; rw [if_neg (by omega)] at h; exact h
  have hp := purge_len fl l
  have key : cfL none (purge fl l) = 0 := by
    obtain ⟨A, hA, ⟨e, hh⟩ | ⟨v, B, e, hv, hh⟩⟩ := purge_parts fl l
    · rw [hh, ← e]; exact h2
    · rw [hh]
      rw [e] at h2
      split
      · exact cfL_take A (v :: B) none h2
      · exact cfL_take (A ++ [v]) B none (by simpa using h2)
  unfold cf
  rw [if_neg (by omega), key]
theorem seen_purge {l : List S51} (h : cf l = 0) {fl at_ own : Int} (h0 : 0 ≤ fl) (h1 : fl ≤ at_) : sv ((purge fl l).find? (impl_seen.p at_ own)) = sv (l.find? (impl_seen.p at_ own)) := by
  have hok := (cf_ok h).2
  have sees : ∀ v, under fl v → 0 ≤ v.f1 → impl_seen.p at_ own v = true := by
    intro v hv h2
    unfold under at hv
    unfold impl_seen.p
    simp only [Bool.or_eq_true, Bool.and_eq_true, decide_eq_true_eq, beq_iff_eq]
    right
    constructor <;> omega
  obtain ⟨A, hA, ⟨e, hh⟩ | ⟨v, B, e, hv, hh⟩⟩ := purge_parts fl l
  · rw [hh, ← e]
  · have hv0 : 0 ≤ v.f1 := by have := hok v (by rw [e]; simp); unfold okV at this; omega
    have hs := sees v hv hv0
    rw [hh, e, List.find?_append]
    split
    · rename_i hg
      cases hf : A.find? (impl_seen.p at_ own) with
      | some x => simp
      | none => simp [hs, sv, hg]
    · rw [List.find?_append]
      simp [hs]
theorem may_purge {l : List S51} (h : cf l = 0) {fl at_ own : Int} (h0 : 0 ≤ fl) (h1 : fl ≤ at_) : may (purge fl l) at_ own = may l at_ own := by
  have hok := (cf_ok h).2
  obtain ⟨A, hA, ⟨e, hh⟩ | ⟨v, B, e, hv, hh⟩⟩ := purge_parts fl l
  · rw [hh, ← e]
  · rw [hh, e]
    cases A with
    | cons a A => split <;> rfl
    | nil =>
      split
      · unfold under at hv
        have hv0 := hok v (by rw [e]; simp)
        unfold okV at hv0
        have q1 : v.f1 ≠ 0 := hv.1
        have q2 : v.f1 ≤ at_ := by omega
        simp [may, q1, q2]
      · rfl
theorem FnPurges : laws_FnPurges.Pure := by
  intro l0 h0
  refine Ev.rounds ?_
  unfold laws_FnPurges.f laws_lwBig.f
  refine evSeq rfl (evIte (fun _ => evRet rfl) (fun hb => ?_))
  have hl : l0.length ≤ 1048576 := by simp at hb; omega
  have hB : isB l0 := fun x hx => wf8 (h0.2.2 x hx)
  obtain ⟨C, fl, hD, lC⟩ := purgeD hB hl
  refine evCall hD ?_
  have I := implPGC C fl (by omega)
  have S := specPGC C fl (by omega)
  refine evCall I ?_
  by_cases hok : cf C = 0 ∧ (0 ≤ fl ∧ fl ≤ 1000000)
  · obtain ⟨hc, hf⟩ := hok
    have e : pgc C fl = (0, purge fl C) := by unfold pgc; rw [if_pos hc, if_pos hf]
    rw [e] at S ⊢
    refine evIte (fun _ => ?_) (fun h => absurd rfl h)
    have hcp := cf_purge hc fl
    have hlen := purge_len fl C
    have F := implCF (purge fl C) (by omega)
    rw [hcp] at F
    refine evCall F (evIte (fun _ => evIte (fun h => absurd h (by simp only []; omega)) (fun _ => evCall S ?_)) (fun h => absurd rfl h))
    refine evSucc ?_
    simp only [laws_FnPurges.j0]
    refine evIte (fun h => absurd h (by simp)) (fun _ => ?_)
    -- the end
    have last : ∀ k6 : Int, ¬ k6 < 40 → Ev (fun k => laws_FnPurges.l0 k C fl k6 0 (purge fl C)) true := by
      intro k6 h6
      refine evSucc ?_
      simp only [laws_FnPurges.l0]
      refine evIte (fun h => absurd h h6) (fun _ => ?_)
      have J := implPGC (purge fl C) fl (by omega)
      have e2 : pgc (purge fl C) fl = (0, purge fl C) := by unfold pgc; rw [if_pos hcp, if_pos hf, purge_again]
      rw [e2] at J
      exact evCall J (evIte (fun _ => evRet (by simp)) (fun h => absurd rfl h))
    -- one view
    have views : ∀ (k6 at_ : Int), fl ≤ at_ → at_ ≤ 1000000 → Ev (fun k => laws_FnPurges.l0 k C fl (wrap64 (k6 + 1)) 0 (purge fl C)) true → ∀ (d : Nat) (o : Int), 0 ≤ o → o + d = 4 → Ev (fun k => laws_FnPurges.l1 k C fl k6 at_ o 0 (purge fl C)) true := by
      intro k6 at_ ha1 ha2 next d
      induction d with
      | zero =>
        intro o ho hd
        refine evSucc ?_
        simp only [laws_FnPurges.l1]
        exact evIte (fun h => absurd h (by omega)) (fun _ => next)
      | succ d ih =>
        intro o ho hd
        refine evSucc ?_
        simp only [laws_FnPurges.l1]
        refine evIte (fun _ => ?_) (fun h => absurd (by omega) h)
        have A1 := implSeenIn (purge fl C) at_ o (by omega)
        have A2 := implSeenIn C at_ o (by omega)
        have es : seenIn (purge fl C) at_ o = seenIn C at_ o := by
          unfold seenIn asked
          rw [hcp, hc, seen_purge hc hf.1 ha1]
        rw [es] at A1
        have M1 := implMW (purge fl C) at_ o (by omega)
        have M2 := implMW C at_ o (by omega)
        have em : mw (purge fl C) at_ o = mw C at_ o := by
          unfold mw asked
          rw [hcp, hc, may_purge hc hf.1 ha1]
        rw [em] at M1
        refine evCall A1 (evCall A2 (evIte (fun h => absurd h (by simp)) (fun _ => evCall M1 (evCall M2 (evIte (fun _ => ?_) (fun h => absurd rfl h))))))
        have e1 : wrap64 (o + 1) = o + 1 := w64 (by omega) (by omega)
        rw [e1]
        exact ih (o + 1) (by omega) (by omega)
    have loop : ∀ (d : Nat) (k6 : Int), 0 ≤ k6 → k6 + d = 40 → Ev (fun k => laws_FnPurges.l0 k C fl k6 0 (purge fl C)) true := by
      intro d
      induction d with
      | zero => intro k6 h6 hd; exact last k6 (by omega)
      | succ d ih =>
        intro k6 h6 hd
        have e1 : wrap64 (k6 + 1) = k6 + 1 := w64 (by omega) (by omega)
        have next : Ev (fun k => laws_FnPurges.l0 k C fl (wrap64 (k6 + 1)) 0 (purge fl C)) true := by rw [e1]; exact ih (k6 + 1) (by omega) (by omega)
        have three : ∀ at_ : Int, Ev (fun k => laws_FnPurges.j3 k C fl k6 at_ 0 (purge fl C)) true := by
          intro at_
          have four : ∀ b : Bool, (b = false → fl ≤ at_ ∧ at_ ≤ 1000000) → Ev (fun k => laws_FnPurges.j4 k C fl k6 at_ b 0 (purge fl C)) true := by
            intro b hb
            refine evSucc ?_
            simp only [laws_FnPurges.j4]
            refine evIte (fun _ => next) (fun h => ?_)
            have := hb (by simpa using h)
            exact views k6 at_ this.1 this.2 next 4 0 (by omega) (by omega)
          refine evSucc ?_
          simp only [laws_FnPurges.j3]
          refine evIte (fun _ => four true (by simp)) (fun h => four _ ?_)
          intro h2
          simp at h2
          omega
        have two : ∀ (at_ : Int) (b : Bool), Ev (fun k => laws_FnPurges.j2 k C fl k6 at_ b 0 (purge fl C)) true := by
          intro at_ b
          refine evSucc ?_
          simp only [laws_FnPurges.j2]
          exact evIte (fun _ => three _) (fun _ => three _)
        refine evSucc ?_
        simp only [laws_FnPurges.l0]
        exact evIte (fun _ => evIte (fun _ => two _ _) (fun _ => two _ _)) (fun h => absurd (by omega) h)
    exact loop 40 0 (by omega) (by omega)
  · have e : (pgc C fl).1 ≠ 0 := by
      unfold pgc
      by_cases hc : cf C = 0
      · rw [if_pos hc, if_neg (fun h => hok ⟨hc, h⟩)]; simp
      · rw [if_neg hc]; exact hc
    refine evIte (fun h => absurd h e) (fun _ => evCall S (evRet (by simp)))
end Go.Proofs.Ytkaammmkejiafaa.Pure
