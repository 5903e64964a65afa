/- The pure statement of the law FnCells: a cell that is set is there, one that is dropped is not, and all others stay. -/
import Derived.Test.YtpdfpbnlablhoaaUFnCells
import Derived.Test.YtpdfpbnlablhoaaQx
import Derived.Test.YtpdfpbnlablhoaaQy
import Derived.Test.YtpdfpbnlablhoaaQob
import Derived.Test.YtpdfpbnlablhoaaP0
import Derived.Test.YtpdfpbnlablhoaaPD0
namespace Go.Proofs.Ytpdfpbnlablhoaa.Pure
open Go.RowKit Go.Proofs.Ytpdfpbnlablhoaa.P Go.Proofs.Ytpdfpbnlablhoaa.Q Go.Proofs.YtpdfpbnlablhoaaW.PrintWords Go.Proofs.YtpdfpbnlablhoaaW.PrintLast Go.Proofs.YtpdfpbnlablhoaaW.PrintMore Go.Proofs.Ytpdfpbnlablhoaa.Lb
set_option linter.unusedVariables false
set_option linter.unusedSimpArgs false
theorem cL_sound : ∀ (l : List S49) (p : Option S49), (∀ v ∈ l, okC v) → l.Pairwise (fun a b => a.f0 < b.f0) → (∀ q, p = some q → ∀ v ∈ l, q.f0 < v.f0) → cL p l = 0
  | [], p, _, _, _ => by cases p <;> rfl
  | v :: vs, p, h1, h2, h3 => by
    have hv := h1 v (by simp)
    obtain ⟨q1, q2⟩ := List.pairwise_cons.1 h2
    have ih := cL_sound vs (some v) (fun x hx => h1 x (by simp [hx])) q2 (fun q hq x hx => by cases hq; exact q1 x hx)
    cases p with
    | none => simp [cL, hv, ih]
    | some q =>
      have := h3 q rfl v (by simp)
      rw [cL, if_pos hv, if_neg (by omega), ih]
theorem pf_sound {id lsn : Int} {l : List S49} (hid : 0 ≤ id ∧ id ≤ 7) (hl : 0 ≤ lsn ∧ lsn ≤ 1000000) (hn : l.length ≤ 12) (h1 : ∀ v ∈ l, okC v) (h2 : l.Pairwise (fun a b => a.f0 < b.f0)) : pf id lsn l = 0 := by
  unfold pf
  rw [if_pos ⟨hid, hl⟩, if_neg (by omega)]
  exact cL_sound l none h1 h2 (by simp)
theorem cellOf_mem {id lsn : Int} {l : List S49} (h : pf id lsn l = 0) {c : S49} (hc : c ∈ l) : cellOf id lsn l c.f0 = (0, c.f1) := by
  unfold cellOf
  rw [if_pos h]
  obtain ⟨g1, g2⟩ := pf_good h
  rcases split_good h c.f0 with ⟨A, b, B, rfl, hA, hb, hB, e1, e2, e3, e4, e5⟩ | ⟨A, B, rfl, hA, hB, e1, e2, e3, e4, e5⟩
  · rw [e5, if_neg (by omega), rdCell_mid]
    rcases List.mem_append.1 hc with h1 | h1
    · have := hA c h1; omega
    · rcases List.mem_cons.1 h1 with rfl | h1
      · rfl
      · have := hB c h1; omega
  · exfalso
    rcases List.mem_append.1 hc with h1 | h1
    · have := hA c h1; omega
    · have := hB c h1; omega
theorem FnCells : laws_FnCells.Pure := by
  intro l0 h0
  refine Ev.rounds ?_
  unfold laws_FnCells.f laws_lwBig.f
  refine evSeq rfl (evIte (fun _ => evRet rfl) (fun hb => ?_))
  have hl : l0.length ≤ 1048576 := by simp at hb; omega
  have hB : isB l0 := fun x hx => wf8 (h0.2.2 x hx)
  obtain ⟨id, lsn, C, key, value, lsn2, hD, lC⟩ := setD hB hl
  refine evCall hD ?_
  have hC : C.length ≤ 1000000000000 := by omega
  have I := implSetCell id lsn C key value lsn2 hC
  have S := specSetCell id lsn C key value lsn2 hC
  have hlen := setCell_len id lsn C key value lsn2
  generalize hr : setCell id lsn C key value lsn2 = r at S I hlen
  obtain ⟨c, id', lsn', R⟩ := r
  refine evCall I ?_
  refine evIte (fun hc0 => ?_) (fun _ => evCall S (evRet (by simp)))
  simp only at hc0 hlen ⊢
  subst hc0
  -- what was set
  have hpf : pf id lsn C = 0 := by
    by_cases h : pf id lsn C = 0
    · exact h
    · unfold setCell at hr; rw [if_neg h] at hr; simp only [Prod.mk.injEq] at hr; exact absurd hr.1 h
  have hok : key31 key ∧ valOk value ∧ lsnOk lsn2 := by
    by_cases h : key31 key ∧ valOk value ∧ lsnOk lsn2
    · exact h
    · unfold setCell at hr; rw [if_pos hpf, if_neg h] at hr; simp at hr
  have hfit : ¬ (hasK key C = false ∧ C.length = 12) := by
    intro h
    unfold setCell at hr; rw [if_pos hpf, if_pos hok, if_pos h] at hr; simp at hr
  have hR : id' = id ∧ lsn' = lsn2 ∧ R = lts key C ++ ⟨key, value⟩ :: gts key C := by
    unfold setCell at hr; rw [if_pos hpf, if_pos hok, if_neg hfit] at hr; simp only [Prod.mk.injEq, true_and] at hr
    exact ⟨hr.1.symm, hr.2.1.symm, hr.2.2.symm⟩
  obtain ⟨rfl, rfl, rfl⟩ := hR
  have h12 : C.length ≤ 12 := by
    unfold pf at hpf
    split at hpf
    · split at hpf
      · omega
      · omega
    · omega
  have hid : 0 ≤ id' ∧ id' ≤ 7 := by
    unfold pf at hpf
    split at hpf
    · rename_i h; exact h.1
    · omega
  obtain ⟨g1, g2⟩ := pf_good hpf
  -- the parts
  obtain ⟨A, B, hA, hB', eA, eB, oA, pAB, lAB, mem⟩ : ∃ A B, (∀ a ∈ A, a.f0 < key) ∧ (∀ x ∈ B, key < x.f0) ∧ lts key C = A ∧ gts key C = B ∧ (∀ v ∈ A ++ B, okC v) ∧ (A ++ B).Pairwise (fun a b => a.f0 < b.f0) ∧ (A ++ B).length + 1 ≤ 12 ∧ (∀ v ∈ C, v.f0 ≠ key → v ∈ A ++ B) := by
    rcases split_good hpf key with ⟨A, b, B, rfl, hA, hb, hB, e1, e2, e3, e4, e5⟩ | ⟨A, B, rfl, hA, hB, e1, e2, e3, e4, e5⟩
    · refine ⟨A, B, hA, hB, e2, e3, fun v hv => g1 v (by rcases List.mem_append.1 hv with h | h <;> simp [h]), ?_, by simp at h12 ⊢; omega, ?_⟩
      · obtain ⟨p1, p2, p3⟩ := List.pairwise_append.1 g2
        exact List.pairwise_append.2 ⟨p1, (List.pairwise_cons.1 p2).2, fun a ha b hb => p3 a ha b (by simp [hb])⟩
      · intro v hv hne
        rcases List.mem_append.1 hv with h | h
        · simp [h]
        · rcases List.mem_cons.1 h with rfl | h
          · exact absurd hb hne
          · simp [h]
    · exact ⟨A, B, hA, hB, e2, e3, g1, g2, by have : ¬ (A ++ B).length = 12 := fun h => hfit ⟨e1, h⟩; omega, fun v hv _ => hv⟩
  simp only [eA, eB] at I S hr hlen ⊢
  have hpR : pf id' lsn' (A ++ ⟨key, value⟩ :: B) = 0 := by
    refine pf_sound hid hok.2.2 (by simp at lAB ⊢; omega) ?_ ?_
    · intro v hv
      rcases List.mem_append.1 hv with h | h
      · exact oA v (by simp [h])
      · rcases List.mem_cons.1 h with rfl | h
        · exact ⟨hok.1, hok.2.1⟩
        · exact oA v (by simp [h])
    · obtain ⟨p1, p2, p3⟩ := List.pairwise_append.1 pAB
      refine List.pairwise_append.2 ⟨p1, List.pairwise_cons.2 ⟨fun x hx => hB' x hx, p2⟩, ?_⟩
      intro a ha b hb
      rcases List.mem_cons.1 hb with rfl | hb
      · exact hA a ha
      · exact p3 a ha b hb
  have hpD : pf id' lsn' (A ++ B) = 0 := pf_sound hid hok.2.2 (by omega) oA pAB
  have eD : dropCell id' lsn' (A ++ ⟨key, value⟩ :: B) key lsn' = (0, id', lsn', A ++ B) := by
    unfold dropCell
    have q1 : lts key (A ++ ⟨key, value⟩ :: B) = A := lts_parts hA (by intro x hx; rcases List.mem_cons.1 hx with rfl | hx; exact Int.le_refl _; have := hB' x hx; omega)
    have q2 : gts key (A ++ ⟨key, value⟩ :: B) = B := by
      rw [show A ++ (⟨key, value⟩ : S49) :: B = (A ++ [⟨key, value⟩]) ++ B by simp]
      exact gts_parts (by intro x hx; rcases List.mem_append.1 hx with hx | hx; have := hA x hx; omega; simp at hx; subst hx; exact Int.le_refl _) hB'
    rw [if_pos hpR, if_pos ⟨hok.1, hok.2.2⟩, if_pos (by simp [hasK]), q1, q2]
  have Dd := implDropCell id' lsn' (A ++ ⟨key, value⟩ :: B) key lsn' (by simp at lAB ⊢; omega)
  rw [eD] at Dd
  have lR : (A ++ (⟨key, value⟩ : S49) :: B).length ≤ 1099511627776 := by simp at lAB ⊢; omega
  have lD : (A ++ B).length ≤ 1099511627776 := by omega
  have hk64 : -9223372036854775808 ≤ key ∧ key ≤ 9223372036854775807 := by have := hok.1; unfold key31 at this; omega
  have P := implPF id' lsn' (A ++ ⟨key, value⟩ :: B) lR
  rw [hpR] at P
  have C1 := implCellOf id' lsn' (A ++ ⟨key, value⟩ :: B) key hk64 lR
  rw [show cellOf id' lsn' (A ++ ⟨key, value⟩ :: B) key = (0, value) from cellOf_mem (c := ⟨key, value⟩) hpR (by simp)] at C1
  have C2 := implCellOf id' lsn' (A ++ B) key hk64 lD
  have e4 : cellOf id' lsn' (A ++ B) key = (4, 0) := by
    unfold cellOf
    rw [if_pos hpD]
    rcases fnd_spec key (A ++ B) 0 with ⟨h1, _⟩ | ⟨i, hi, h1, h2⟩
    · rw [h1, if_pos (by omega)]
    · exfalso
      rcases List.mem_append.1 (List.getElem_mem hi) with hm | hm
      · have := hA _ hm; omega
      · have := hB' _ hm; omega
  rw [e4] at C2
  refine evCall Dd (evCall P (evIte (fun _ => ?_) (fun h => (h (by first | rfl | trivial)).elim)))
  refine evCall C1 (evIte (fun _ => evIte (fun _ => evIte (fun _ => ?_) (fun h => (h (by first | rfl | trivial)).elim)) (fun h => (h (by first | rfl | trivial)).elim)) (fun h => (h (by first | rfl | trivial)).elim))
  refine evCall C2 (evSucc ?_)
  simp only [laws_FnCells.j0]
  refine evIte (fun h => absurd h (by decide)) (fun _ => ?_)
  -- the others
  have loop : ∀ (rest pre : List S49), pre ++ rest = C → Ev (fun k => laws_FnCells.l0 k key (pre.length : Int) id' lsn (pre ++ rest) 0 id' lsn' (A ++ ⟨key, value⟩ :: B) 0 id' lsn' (A ++ B)) true := by
    intro rest
    induction rest with
    | nil =>
      intro pre hp
      refine evSucc ?_
      simp only [laws_FnCells.l0, List.append_nil, Int.lt_irrefl, if_false]
      refine evRet ?_
      rw [w64n (by omega)]
      simp; omega
    | cons v vs ih =>
      intro pre hp
      have ih' := ih (pre ++ [v]) (by rw [List.append_assoc]; exact hp)
      have hn : (((pre ++ [v]).length : Nat) : Int) = wrap64 ((pre.length : Int) + 1) := by
        have : pre.length + 1 ≤ C.length := by rw [← hp]; simp <;> omega
        rw [w64n (by omega)]; simp
      rw [List.append_assoc, List.singleton_append, hn] at ih'
      have h1 : (pre.length : Int) < ((pre ++ v :: vs).length : Int) := by simp <;> omega
      refine evSucc ?_
      simp only [laws_FnCells.l0, h1, Int.natCast_nonneg, if_true, rdCell_mid]
      refine evIte (fun _ => ih') (fun hne => ?_)
      have hv : v ∈ C := by rw [← hp]; simp
      have hm := mem v hv hne
      have hvok := g1 v hv
      have hv64 : -9223372036854775808 ≤ v.f0 ∧ v.f0 ≤ 9223372036854775807 := by unfold okC at hvok; omega
      have K1 := implCellOf id' lsn' (A ++ ⟨key, value⟩ :: B) v.f0 hv64 lR
      rw [cellOf_mem hpR (by rcases List.mem_append.1 hm with h | h <;> simp [h])] at K1
      have K2 := implCellOf id' lsn' (A ++ B) v.f0 hv64 lD
      rw [cellOf_mem hpD hm] at K2
      exact evCall K1 (evIte (fun _ => evCall K2 (evIte (fun _ => ih') (fun h => (h (by first | rfl | trivial)).elim))) (fun h => (h (by first | rfl | trivial)).elim))
  exact loop C [] rfl
end Go.Proofs.Ytpdfpbnlablhoaa.Pure
