/- What is drawn: numbers, picks, cells, pages. -/
import Derived.Test.YtpdfpbnlablhoaaLb
import Derived.Test.YtpdfpbnlablhoaaQf
import Derived.Test.YtpdfpbnlablhoaaQg
import Derived.Test.YtpdfpbnlablhoaaQh
import Derived.Test.YtpdfpbnlablhoaaQn
import Derived.Test.YtpdfpbnlablhoaaQoa
import Derived.Test.YtpdfpbnlablhoaaQy
import Derived.Test.YtpdfpbnlablhoaaP0
import Derived.Test.YtpdfpbnlablhoaaPD0
namespace Go.Proofs.Ytpdfpbnlablhoaa.Q
open Go.RowKit Go.Proofs.Ytpdfpbnlablhoaa.P Go.Proofs.YtpdfpbnlablhoaaW.PrintWords Go.Proofs.YtpdfpbnlablhoaaW.PrintLast Go.Proofs.YtpdfpbnlablhoaaW.PrintMore Go.Proofs.Ytpdfpbnlablhoaa.Lb
set_option linter.unusedVariables false
set_option linter.unusedSimpArgs false
theorem rd_isB {s : List Int} (hs : isB s) {i : Int} (h0 : 0 ≤ i) (h1 : i < (s.length : Int)) : 0 ≤ rd s i ∧ rd s i ≤ 255 := by
  unfold rd
  have hlt : i.toNat < s.length := by omega
  rw [getD_at hlt]
  exact hs _ (List.getElem_mem hlt)
/-- A source of draws. -/
def src (s : List Int) (a : Int) : Prop := isB s ∧ s.length ≤ 1048576 ∧ 0 ≤ a ∧ a ≤ 1000000
theorem src_up {s : List Int} {a b : Int} (h : src s a) (h1 : a ≤ b) (h2 : b ≤ 1000000) : src s b := ⟨h.1, h.2.1, by have := h.2.2.1; omega, h2⟩
theorem nx {s : List Int} {a n : Int} (h : src s a) (hn : n ≤ 1000000) : ∃ r, spec_l1Next.f s a n = some (r, a + 1) ∧ 0 ≤ r ∧ (1 ≤ n → r < n) := by
  obtain ⟨hs, hl, h0, h1⟩ := h
  unfold spec_l1Next.f
  have e1 : wrap64 (a + 1) = a + 1 := w64 (by omega) (by omega)
  have e2 : wrap64 (a + 1 - 1) = a := by rw [w64 (by omega) (by omega)]; omega
  simp only [e1, e2]
  by_cases c1 : n < 1
  · rw [if_pos c1]
    exact ⟨0, rfl, by omega, by omega⟩
  rw [if_neg c1]
  have fin : ∀ v : Int, 0 ≤ v → ∃ r, some (Int.tmod v n, a + 1) = some (r, a + 1) ∧ 0 ≤ r ∧ (1 ≤ n → r < n) := by
    intro v hv
    rw [Int.tmod_eq_emod_of_nonneg hv]
    exact ⟨_, rfl, Int.emod_nonneg _ (by omega), fun _ => Int.emod_lt_of_pos _ (by omega)⟩
  by_cases c2 : (s.length : Int) = 0
  · rw [if_pos c2, if_neg (by omega)]
    refine fin _ ?_
    rw [w64 (by omega) (by omega)]
    omega
  rw [if_neg c2]
  have k0 : 0 < (s.length : Int) := by omega
  have i1 : ∀ x : Int, 0 ≤ x → 0 ≤ Int.tmod x (s.length : Int) ∧ Int.tmod x (s.length : Int) < (s.length : Int) := by
    intro x hx
    rw [Int.tmod_eq_emod_of_nonneg hx]
    exact ⟨Int.emod_nonneg _ (by omega), Int.emod_lt_of_pos _ k0⟩
  obtain ⟨m0, m1⟩ := i1 a h0
  rw [if_pos m0, if_pos m1]
  obtain ⟨x0, x1⟩ := rd_isB hs m0 m1
  have q0 : 0 ≤ Int.tdiv a (s.length : Int) ∧ Int.tdiv a (s.length : Int) ≤ a := by
    rw [Int.tdiv_eq_ediv_of_nonneg h0]
    exact ⟨Int.ediv_nonneg h0 (by omega), Int.ediv_le_self _ h0⟩
  generalize Int.tdiv a (s.length : Int) = q at q0 ⊢
  generalize rd s (Int.tmod a (s.length : Int)) = x at x0 x1 ⊢
  have W : wrap64 (wrap64 x + wrap64 (wrap64 q * 37)) = x + q * 37 := by
    rw [w64 (x := x) (by omega) (by omega), w64 (x := q) (by omega) (by omega), w64 (x := q * 37) (by omega) (by omega), w64 (by omega) (by omega)]
  by_cases c3 : n > 200
  · rw [if_pos c3]
    obtain ⟨m2, m3⟩ := i1 (a + 1) (by omega)
    rw [if_pos m2, if_pos m3, if_neg (by omega)]
    obtain ⟨y0, y1⟩ := rd_isB hs m2 m3
    generalize rd s (Int.tmod (a + 1) (s.length : Int)) = y at y0 y1 ⊢
    refine fin _ ?_
    rw [W, w64 (x := y) (by omega) (by omega), w64 (x := y * 13) (by omega) (by omega), w64 (x := (x + q * 37) * 251) (by omega) (by omega), w64 (x := (x + q * 37) * 251 + y * 13) (by omega) (by omega), w64 (by omega) (by omega)]
    omega
  · rw [if_neg c3, if_neg (by omega)]
    refine fin _ ?_
    rw [W]
    omega
theorem pk {s : List Int} {a : Int} (h : src s a) (l : List Int) (h0 : 0 < l.length) (h1 : l.length ≤ 1000) : ∃ r, spec_l1Pick.f s a l = some (r, a + 1) ∧ r ∈ l := by
  obtain ⟨i, e, i0, i1⟩ := nx (n := (l.length : Int)) h (by omega)
  have i1' := i1 (by omega)
  unfold spec_l1Pick.f
  rw [e]
  simp only [Option.bind_some, i0, i1', if_true]
  refine ⟨_, rfl, ?_⟩
  unfold rd
  have hlt : i.toNat < l.length := by omega
  rw [getD_at hlt]
  exact List.getElem_mem hlt
def soundC (C : List S49) : Prop := (∀ v ∈ C, okC v) ∧ C.Pairwise (fun a b => a.f0 < b.f0)
theorem withD {C : List S49} (hC : soundC C) (hl : C.length ≤ 1000) (key value : Int) (hk : 0 ≤ key ∧ key ≤ 31) (hv : 0 ≤ value ∧ value ≤ 9999) :
    ∃ R, Ev (fun k => spec_l1With.f k C key value) R ∧ soundC R ∧ R.length ≤ C.length + 1 := by
  obtain ⟨A, B, rfl, hA, hB⟩ := parts key C hC.2
  have done : ∀ B', (A ++ B).filter (ne key) = A ++ B' → (∀ x ∈ B', key < x.f0) → (A ++ B').Pairwise (fun a b => a.f0 < b.f0) → (∀ v ∈ A ++ B', okC v) → (A ++ B').length ≤ (A ++ B).length → ∃ R, Ev (fun k => spec_l1With.f k (A ++ B) key value) R ∧ soundC R ∧ R.length ≤ (A ++ B).length + 1 := by
    intro B' h1 h2 h3 h4 h5
    refine ⟨A ++ ⟨key, value⟩ :: B', specWith A B' key value (A ++ B) h1 hA h2 (by omega), ⟨?_, ?_⟩, by simp at h5 ⊢; omega⟩
    · intro v hv'
      rcases List.mem_append.1 hv' with h | h
      · exact h4 v (by simp [h])
      · rcases List.mem_cons.1 h with rfl | h
        · exact ⟨hk, hv⟩
        · exact h4 v (by simp [h])
    · obtain ⟨p1, p2, p3⟩ := List.pairwise_append.1 h3
      refine List.pairwise_append.2 ⟨p1, List.pairwise_cons.2 ⟨fun x hx => h2 x hx, p2⟩, ?_⟩
      intro a ha b hb
      rcases List.mem_cons.1 hb with rfl | hb
      · exact hA a ha
      · exact p3 a ha b hb
  rcases hB with ⟨b, B', rfl, hb, hB'⟩ | hB
  · refine done B' (by rw [List.filter_append, ne_lt hA, List.filter_cons_of_neg (by simp [ne, hb]), ne_gt hB']) hB' ?_ (fun v hv => hC.1 v (by rcases List.mem_append.1 hv with h | h <;> simp [h])) (by simp)
    obtain ⟨p1, p2, p3⟩ := List.pairwise_append.1 hC.2
    exact List.pairwise_append.2 ⟨p1, (List.pairwise_cons.1 p2).2, fun a ha b hb => p3 a ha b (by simp [hb])⟩
  · exact done B (by rw [List.filter_append, ne_lt hA, ne_gt hB]) hB hC.2 hC.1 (Nat.le_refl _)
theorem cellsD_l {s : List Int} : ∀ (d : Nat) (C : List S49) (a : Int), src s a → a + 2 * d ≤ 1000000 → soundC C → C.length ≤ 12 → d ≤ 100 →
    ∃ R b, Ev (fun k => spec_l1Cells.l0 k C (d : Int) s a) (R, b) ∧ soundC R ∧ R.length ≤ 12 ∧ a ≤ b ∧ b ≤ a + 2 * d
  | 0, C, a, hs, ha, hC, hl, hd => ⟨C, a, evSucc (by simp only [spec_l1Cells.l0]; exact evIte (fun h => absurd h (by omega)) (fun _ => evRet rfl)), hC, hl, by omega, by omega⟩
  | d + 1, C, a, hs, ha, hC, hl, hd => by
    have e : wrap64 (((d + 1 : Nat) : Int) - 1) = (d : Int) := by rw [w64 (by omega) (by omega)]; omega
    by_cases h12 : (C.length : Int) < 12
    · obtain ⟨x, ex, x0, x1⟩ := nx (n := 32) hs (by omega)
      have hs1 := src_up hs (b := a + 1) (by omega) (by omega)
      obtain ⟨y, ey, y0, y1⟩ := nx (n := 90) hs1 (by omega)
      have hs2 := src_up hs (b := a + 1 + 1) (by omega) (by omega)
      have x1' := x1 (by omega)
      have y1' := y1 (by omega)
      obtain ⟨W, hW, sW, lW⟩ := withD hC (by omega) x y ⟨x0, by omega⟩ ⟨y0, by omega⟩
      obtain ⟨R, b, hR, sR, lR, b0, b1⟩ := cellsD_l d W (a + 1 + 1) hs2 (by omega) sW (by omega) (by omega)
      refine ⟨R, b, evSucc ?_, sR, lR, by omega, by omega⟩
      simp only [spec_l1Cells.l0, e]
      exact evIte (fun _ => evIte (fun _ => evSeq ex (evSeq ey (evCall hW hR))) (fun h => absurd h12 h)) (fun h => absurd (by omega) h)
    · obtain ⟨R, b, hR, sR, lR, b0, b1⟩ := cellsD_l d C a hs (by omega) hC hl (by omega)
      refine ⟨R, b, evSucc ?_, sR, lR, by omega, by omega⟩
      simp only [spec_l1Cells.l0, e]
      exact evIte (fun _ => evIte (fun h => absurd h h12) (fun _ => hR)) (fun h => absurd (by omega) h)
theorem cellsD {s : List Int} {a : Int} (hs : src s a) (ha : a ≤ 2000) : ∃ R b, Ev (fun k => spec_l1Cells.f k s a) (R, b) ∧ soundC R ∧ R.length ≤ 12 ∧ a ≤ b ∧ b ≤ a + 30 := by
  obtain ⟨x, ex, x0, x1⟩ := nx (n := 6) hs (by omega)
  have hs1 := src_up hs (b := a + 1) (by omega) (by omega)
  obtain ⟨y, ey, y0, y1⟩ := nx (n := 6) hs1 (by omega)
  have hs2 := src_up hs (b := a + 1 + 1) (by omega) (by omega)
  obtain ⟨z, ez, hz⟩ := pk hs2 [x, y, 12] (by simp) (by simp)
  have hs3 := src_up hs (b := a + 1 + 1 + 1) (by omega) (by omega)
  have x1' := x1 (by omega)
  have y1' := y1 (by omega)
  have hz' : 0 ≤ z ∧ z ≤ 12 := by simp at hz; omega
  obtain ⟨d, rfl⟩ : ∃ d : Nat, z = (d : Int) := ⟨z.toNat, by omega⟩
  obtain ⟨R, b, hR, sR, lR, b0, b1⟩ := cellsD_l d [] (a + 1 + 1 + 1) hs3 (by omega) ⟨by simp, List.Pairwise.nil⟩ (by simp) (by omega)
  refine ⟨R, b, ?_, sR, lR, by omega, by omega⟩
  unfold spec_l1Cells.f
  exact evSeq ex (evSeq ey (evSeq ez hR))
theorem pageD {s : List Int} {a : Int} (hs : src s a) (ha : a ≤ 1000) : ∃ id lsn R b, Ev (fun k => spec_l1Page.f k s a) (id, lsn, R, b) ∧ soundC R ∧ R.length ≤ 12 ∧ a ≤ b ∧ b ≤ a + 40 := by
  obtain ⟨x, ex, x0, x1⟩ := nx (n := 8) hs (by omega)
  have hs1 := src_up hs (b := a + 1) (by omega) (by omega)
  obtain ⟨y, ey, y0, y1⟩ := nx (n := 90) hs1 (by omega)
  have hs2 := src_up hs (b := a + 1 + 1) (by omega) (by omega)
  obtain ⟨R, b, hR, sR, lR, b0, b1⟩ := cellsD hs2 (by omega)
  refine ⟨x, y, R, b, ?_, sR, lR, by omega, by omega⟩
  unfold spec_l1Page.f
  exact evSeq ex (evSeq ey (evCall hR (evRet rfl)))
theorem bentD {s : List Int} {a : Int} (hs : src s a) (ha : a ≤ 900) : ∃ id lsn R b, Ev (fun k => spec_l1Bent.f k s a) (id, lsn, R, b) ∧ R.length ≤ 13 ∧ a ≤ b ∧ b ≤ a + 60 := by
  obtain ⟨id, lsn, R, b, hR, sR, lR, b0, b1⟩ := pageD hs (by omega)
  have hs1 := src_up hs b0 (by omega)
  obtain ⟨x, ex, x0, x1⟩ := nx (n := 20) hs1 (by omega)
  have hs2 := src_up hs (b := b + 1) (by omega) (by omega)
  unfold spec_l1Bent.f
  by_cases c0 : x = 0
  · obtain ⟨y, ey, _⟩ := pk hs2 [(-1), 8, 7] (by simp) (by simp)
    exact ⟨y, lsn, R, b + 1 + 1, evCall hR (evSeq ex (evIte (fun _ => evSeq ey (evRet rfl)) (fun h => absurd c0 h))), by omega, by omega, by omega⟩
  by_cases c1 : x = 1
  · obtain ⟨y, ey, _⟩ := pk hs2 [(-1), 1000000, 1000001] (by simp) (by simp)
    exact ⟨id, y, R, b + 1 + 1, evCall hR (evSeq ex (evIte (fun h => absurd h c0) (fun _ => evIte (fun _ => evSeq ey (evRet rfl)) (fun h => absurd c1 h)))), by omega, by omega, by omega⟩
  by_cases c2 : x = 2
  · obtain ⟨y, ey, _⟩ := pk hs2 [(-1), 32, 3, 31] (by simp) (by simp)
    have hs3 := src_up hs (b := b + 1 + 1) (by omega) (by omega)
    obtain ⟨z, ez, _⟩ := pk hs3 [(-1), 9999, 10000] (by simp) (by simp)
    exact ⟨id, lsn, R ++ [⟨y, z⟩], b + 1 + 1 + 1, evCall hR (evSeq ex (evIte (fun h => absurd h c0) (fun _ => evIte (fun h => absurd h c1) (fun _ => evIte (fun _ => evSeq ey (evSeq ez (evIte (fun _ => evRet rfl) (fun h => absurd (by simp only []; omega) h)))) (fun h => absurd c2 h))))), by simp; omega, by omega, by omega⟩
  by_cases c3 : x = 3
  · exact ⟨id, lsn, List.replicate 13 z49, b + 1, evCall hR (evSeq ex (evIte (fun h => absurd h c0) (fun _ => evIte (fun h => absurd h c1) (fun _ => evIte (fun h => absurd h c2) (fun _ => evIte (fun _ => evRet rfl) (fun h => absurd c3 h)))))), by simp, by omega, by omega⟩
  · exact ⟨id, lsn, R, b + 1, evCall hR (evSeq ex (evIte (fun h => absurd h c0) (fun _ => evIte (fun h => absurd h c1) (fun _ => evIte (fun h => absurd h c2) (fun _ => evIte (fun h => absurd h c3) (fun _ => evRet rfl)))))), by omega, by omega, by omega⟩
theorem setD {l : List Int} (hB : isB l) (hl : l.length ≤ 1048576) : ∃ id lsn R key value lsn2, Ev (fun k => spec_DrawSetCell.f k l) (id, lsn, R, key, value, lsn2) ∧ R.length ≤ 13 := by
  have hs : src l 0 := ⟨hB, hl, by omega, by omega⟩
  obtain ⟨id, lsn, R, b, hR, lR, b0, b1⟩ := bentD hs (by omega)
  have s0 := src_up hs b0 (by omega)
  obtain ⟨x1, e1, _⟩ := nx (n := 32) s0 (by omega)
  obtain ⟨x2, e2, _⟩ := nx (n := 32) (src_up hs (b := b + 1) (by omega) (by omega)) (by omega)
  obtain ⟨x3, e3, _⟩ := pk (src_up hs (b := b + 1 + 1) (by omega) (by omega)) [x1, x2, 32, (-1)] (by simp) (by simp)
  obtain ⟨x4, e4, _⟩ := nx (n := 99) (src_up hs (b := b + 1 + 1 + 1) (by omega) (by omega)) (by omega)
  obtain ⟨x5, e5, _⟩ := pk (src_up hs (b := b + 1 + 1 + 1 + 1) (by omega) (by omega)) [x4, 9999, 10000, (-1)] (by simp) (by simp)
  obtain ⟨x6, e6, _⟩ := nx (n := 99) (src_up hs (b := b + 1 + 1 + 1 + 1 + 1) (by omega) (by omega)) (by omega)
  obtain ⟨x7, e7, _⟩ := pk (src_up hs (b := b + 1 + 1 + 1 + 1 + 1 + 1) (by omega) (by omega)) [x6, 1000001, (-1), 7] (by simp) (by simp)
  refine ⟨id, lsn, R, x3, x5, x7, ?_, lR⟩
  unfold spec_DrawSetCell.f
  exact evSeq (a := (l, 0)) rfl (evCall hR (evSeq e1 (evSeq e2 (evSeq e3 (evSeq e4 (evSeq e5 (evSeq e6 (evSeq e7 (evRet rfl)))))))))
end Go.Proofs.Ytpdfpbnlablhoaa.Q
