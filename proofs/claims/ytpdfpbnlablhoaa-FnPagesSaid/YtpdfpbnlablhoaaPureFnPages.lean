/- The pure statement of the law FnPages: a page is read back from its bytes, and bytes that are read are just those of their page. -/
import Derived.Test.YtpdfpbnlablhoaaUFnPages
import Derived.Test.YtpdfpbnlablhoaaQx
import Derived.Test.YtpdfpbnlablhoaaQz
import Derived.Test.YtpdfpbnlablhoaaP0
import Derived.Test.YtpdfpbnlablhoaaPD0
namespace Go.Proofs.Ytpdfpbnlablhoaa.Pure
open Go.RowKit Go.Proofs.Ytpdfpbnlablhoaa.P Go.Proofs.Ytpdfpbnlablhoaa.Q Go.Proofs.YtpdfpbnlablhoaaW.PrintWords Go.Proofs.YtpdfpbnlablhoaaW.PrintLast Go.Proofs.YtpdfpbnlablhoaaW.PrintMore Go.Proofs.Ytpdfpbnlablhoaa.Lb
set_option linter.unusedVariables false
set_option linter.unusedSimpArgs false
theorem isB_set {l : List Int} (h : isB l) (i : Nat) (x : Int) (hx : 0 ≤ x ∧ x ≤ 255) : isB (l.set i x) := by
  intro y hy
  rcases List.mem_or_eq_of_mem_set hy with h1 | rfl
  · exact h y h1
  · exact hx
theorem wireD {s : List Int} {a : Int} (hs : src s a) (ha : a ≤ 900) : ∃ t b, Ev (fun k => spec_l1Wire.f k s a) (t, b) ∧ isB t ∧ t.length ≤ 48 := by
  obtain ⟨id, lsn, R, b, hR, sR, lR, b0, b1⟩ := pageD hs (by omega)
  have K := specPackF id lsn R lR
  have hB := isB_pack id lsn R
  have hlen : (packB id lsn R).length = 48 := by
    unfold packB
    refine finB_len _ ?_
    rw [List.length_append, headB_len, cellsB_len]; omega
  generalize packB id lsn R = t at K hB hlen
  have s0 := src_up hs b0 (by omega)
  obtain ⟨x, ex, _, _⟩ := nx (n := 8) s0 (by omega)
  have s1 := src_up hs (b := b + 1) (by omega) (by omega)
  have s2 := src_up hs (b := b + 1 + 1) (by omega) (by omega)
  unfold spec_l1Wire.f
  by_cases c0 : x = 0
  · obtain ⟨i, ei, i0, i1⟩ := nx (n := (t.length : Int)) s1 (by omega)
    obtain ⟨v, ev, _, _⟩ := nx (n := 256) s2 (by omega)
    have i1' := i1 (by omega)
    exact ⟨_, _, evCall hR (evCall K (evSeq ex (evIte (fun _ => evSeq ei (evSeq ev (evIte (fun _ => evIte (fun _ => evRet rfl) (fun h => absurd i1' h)) (fun h => absurd i0 h)))) (fun h => absurd c0 h)))), isB_set hB _ _ (by omega), by simp; omega⟩
  by_cases c1 : x = 1
  · obtain ⟨i, ei, i0, i1⟩ := nx (n := (t.length : Int)) s1 (by omega)
    have i1' := i1 (by omega)
    exact ⟨_, _, evCall hR (evCall K (evSeq ex (evIte (fun h => absurd h c0) (fun _ => evIte (fun _ => evSeq ei (evIte (fun _ => evIte (fun _ => evRet rfl) (fun h => absurd (by omega) h)) (fun h => absurd i0 h))) (fun h => absurd c1 h))))), isB_take _ hB, by simp; omega⟩
  by_cases c2 : x = 2
  · obtain ⟨i, ei, i0, i1⟩ := nx (n := 46) s1 (by omega)
    obtain ⟨v, ev, _, _⟩ := nx (n := 40) s2 (by omega)
    have i1' := i1 (by omega)
    have M := specSum ((t.set i.toNat (v % 256)).take 46) (by simp; omega)
    exact ⟨_, _, evCall hR (evCall K (evSeq ex (evIte (fun h => absurd h c0) (fun _ => evIte (fun h => absurd h c1) (fun _ => evIte (fun _ => evSeq ei (evSeq ev (evIte (fun _ => evIte (fun _ => evSeq rfl (evIte (fun _ => evCall M (evIte (fun _ => evIte (fun _ => evRet rfl) (fun h => absurd (by omega) h)) (fun h => absurd (by omega) h))) (fun h => absurd (by omega) h))) (fun h => absurd (by omega) h)) (fun h => absurd i0 h)))) (fun h => absurd c2 h)))))),
      isB_set (isB_set (isB_set hB _ _ (by omega)) _ _ (by omega)) _ _ (by omega), by simp; omega⟩
  · exact ⟨t, _, evCall hR (evCall K (evSeq ex (evIte (fun h => absurd h c0) (fun _ => evIte (fun h => absurd h c1) (fun _ => evIte (fun h => absurd h c2) (fun _ => evRet rfl)))))), hB, by omega⟩
theorem FnPages : laws_FnPages.Pure := by
  intro l0 h0
  refine Ev.rounds ?_
  unfold laws_FnPages.f laws_lwBig.f
  refine evSeq rfl (evIte (fun _ => evRet rfl) (fun hb => ?_))
  have hl : l0.length ≤ 1048576 := by simp at hb; omega
  have hB : isB l0 := fun x hx => wf8 (h0.2.2 x hx)
  have hs : src l0 0 := ⟨hB, hl, by omega, by omega⟩
  obtain ⟨t, b, hT, tB, tl⟩ := wireD hs (by omega)
  have D : Ev (fun k => spec_DrawUnpackPage.f k l0) t := by
    unfold spec_DrawUnpackPage.f
    exact evSeq (a := (l0, 0)) rfl (evCall hT (evRet rfl))
  -- the second half
  have half : Ev (fun k => laws_FnPages.j0 k l0 false) true := by
    refine evSucc ?_
    simp only [laws_FnPages.j0]
    refine evIte (fun h => absurd h (by decide)) (fun _ => ?_)
    obtain ⟨id, lsn, C, b, hC, lC, b0, b1⟩ := bentD hs (by omega)
    have D2 : Ev (fun k => spec_DrawPackPage.f k l0) (id, lsn, C) := by
      unfold spec_DrawPackPage.f
      exact evSeq (a := (l0, 0)) rfl (evCall hC (evRet rfl))
    refine evCall D2 (evCall (implPk id lsn C (by omega)) ?_)
    unfold pkP
    by_cases hp : pf id lsn C = 0
    · rw [if_pos hp]
      refine evIte (fun _ => ?_) (fun h => absurd rfl h)
      have U := implUnpk (packB id lsn C) (isB_pack id lsn C)
      rw [unpk_pack hp] at U
      have hlen : (packB id lsn C).length = 48 := by
        have := pf_len hp
        unfold packB
        refine finB_len _ ?_
        rw [List.length_append, headB_len, cellsB_len]; omega
      refine evCall U (evIte (fun _ => evIte (fun _ => evIte (fun _ => evIte (fun _ => ?_) (fun h => absurd rfl h)) (fun h => absurd rfl h)) (fun h => absurd rfl h)) (fun h => absurd (by simp only [hlen]; rfl) h))
      exact evCall (lwC C (by omega)) (evRet rfl)
    · rw [if_neg hp]
      refine evIte (fun h => absurd h hp) (fun _ => evCall (specPF id lsn C (by omega)) (evRet (by simp)))
  refine evCall D (evCall (implUnpk t tB) ?_)
  have S := specUnpk t tB
  generalize hr : unpk t = r at S
  obtain ⟨c, id, lsn, C⟩ := r
  refine evIte (fun hc => ?_) (fun _ => evCall S ?_)
  · simp only at hc
    subst hc
    have hfin : pf id lsn C = 0 ∧ packB id lsn C = t := by
      unfold unpk at hr
      split at hr
      · split at hr
        · unfold finU at hr
          split at hr
          · rename_i q1
            split at hr
            · rename_i q2
              simp only [Prod.mk.injEq, true_and] at hr
              obtain ⟨e1, e2, e3⟩ := hr
              rw [e1, e2, e3] at q1 q2
              exact ⟨q1, q2⟩
            · simp at hr
          · simp at hr
        · simp at hr
      · simp at hr
    have hC := pf_len hfin.1
    have K := implPk id lsn C (by omega)
    unfold pkP at K
    rw [if_pos hfin.1, hfin.2] at K
    exact evCall K (evIte (fun _ => half) (fun h => absurd rfl h))
  · simpa using half
end Go.Proofs.Ytpdfpbnlablhoaa.Pure
