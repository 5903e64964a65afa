/- The pure statement of FnBacks: what is left to undo is of puts of the transaction, the last one first, and an undo takes its put away. -/
import Derived.Test.YthagppmaofcllaaUFnBacks
import Derived.Test.YthagppmaofcllaaQcb
import Derived.Test.YthagppmaofcllaaQrd
import Derived.Test.YthagppmaofcllaaP0
import Derived.Test.YthagppmaofcllaaPDcg0
import Derived.Test.YthagppmaofcllaaPDm0
import Derived.Test.YthagppmaofcllaaPDm1
namespace Go.Proofs.Ythagppmaofcllaa.Pure
open Go.RowKit Go.Proofs.Ythagppmaofcllaa.P Go.Proofs.Ythagppmaofcllaa.Q Go.Proofs.YthagppmaofcllaaW.PrintWords Go.Proofs.YthagppmaofcllaaW.PrintLast Go.Proofs.YthagppmaofcllaaW.PrintMore Go.Proofs.Ythagppmaofcllaa.Lb
set_option linter.unusedVariables false
set_option linter.unusedSimpArgs false
theorem recD_bind {s : List Int} {a m1 m2 : Int} (hs : src s a) (hb : a + m1 ≤ 1000000) {g : Nat → Option (Int × Int × Int × Bool × Int × Bool × Int × Int × Int)} {f : Nat → (Int × Int × Int × Bool × Int × Bool × Int × Int × Int) → Option (Int × Int × Int × Bool × Int × Bool × Int × Int × Int)} (h : recD s a m1 g) (k : ∀ r0 r1 r2 r3 r4 r5 r6 r7 b, src s b → a ≤ b → b ≤ a + m1 → recD s b m2 (fun n => f n (r0, r1, r2, r3, r4, r5, r6, r7, b))) : recD s a (m1 + m2) (fun n => (g n).bind (f n)) := by
  obtain ⟨r0, r1, r2, r3, r4, r5, r6, r7, b, e, h0, h1⟩ := h
  obtain ⟨q0, q1, q2, q3, q4, q5, q6, q7, c, e2, h2, h3⟩ := k r0 r1 r2 r3 r4 r5 r6 r7 b (src_up hs h0 (by omega)) h0 h1
  exact ⟨q0, q1, q2, q3, q4, q5, q6, q7, c, evCall e e2, by omega, by omega⟩
theorem bentD {s : List Int} {a : Int} (h : src s a) (ha : a ≤ 990000) : recD s a (14 + 3) (fun k => spec_l3Bent.f k s a) := by
  unfold spec_l3Bent.f
  refine recD_bind h (by omega) (recF h (by omega)) (fun r0 r1 r2 r3 r4 r5 r6 r7 b hb h0 h1 => ?_)
  refine recD_nx (m := 2) hb (by omega) (by omega) (fun x h2 => ?_)
  refine recD_ite (fun _ => ?_) (fun _ => ?_)
  · refine recD_nx (m := 1) h2 (by omega) (by omega) (fun y h3 => ?_)
    exact recD_pk (m := 0) h3 (by omega) (by simp) (by simp) (fun z h4 => recD_ret (by omega))
  repeat' (refine recD_ite (fun _ => ?_) (fun _ => ?_))
  all_goals first
    | exact recD_pk (m := 1) h2 (by omega) (by simp) (by simp) (fun z h4 => recD_ret (by omega))
    | exact recD_ret (by omega)
theorem drawJ {s : List Int} {a : Int} (h : src s a) (ha : a ≤ 990000) (l : List S48) (hl : l.length ≤ 401) : ∃ R t, Ev (fun k => spec_DrawChainBack.j1 k l s a) (R, t) ∧ R.length ≤ 401 := by
  obtain ⟨b, e1⟩ := ch (n := 40) h (by omega)
  obtain ⟨t, e2, _⟩ := pk (src_up h (b := a + 1) (by omega) (by omega)) [1, 2, 1, 2, 1, 3, 0, 1000] (by simp) (by simp)
  cases b with
  | true =>
    refine ⟨List.replicate 401 z48, t, evSucc ?_, by rw [List.length_replicate]; omega⟩
    simp only [spec_DrawChainBack.j1]
    exact evSeq e1 (evIte (fun _ => evSeq e2 (evRet rfl)) (fun h => absurd rfl h))
  | false =>
    refine ⟨l, t, evSucc ?_, hl⟩
    simp only [spec_DrawChainBack.j1]
    exact evSeq e1 (evIte (fun h => absurd h (by simp)) (fun _ => evSeq e2 (evRet rfl)))
theorem drawL {s : List Int} : ∀ (d : Nat) (a : Int) (l : List S48), src s a → a + 14 * (d : Int) ≤ 900000 → 0 < l.length + d → l.length + d ≤ 400 → ∃ R t, Ev (fun k => spec_DrawChainBack.l0 k l (d : Int) s a) (R, t) ∧ R.length ≤ 401
  | 0, a, l, h, ha, hp, hl => by
    obtain ⟨b, e1⟩ := ch (n := 10) h (by omega)
    have h1 := src_up h (b := a + 1) (by omega) (by omega)
    cases b with
    | true =>
      obtain ⟨r0, r1, r2, r3, r4, r5, r6, r7, c, e2, c0, c1⟩ := bentD h1 (by omega)
      have hz : 0 < (l.length : Int) := by omega
      obtain ⟨R, t, e3, hR⟩ := drawJ (src_up h1 c0 (by omega)) (by omega) (l.set (0 : Int).toNat ⟨r0, r1, r2, r3, r4, r5, r6, r7⟩) (by rw [List.length_set]; omega)
      refine ⟨R, t, evSucc ?_, hR⟩
      simp only [spec_DrawChainBack.l0]
      exact evIte (fun h => absurd h (by omega)) (fun _ => evSeq e1 (evIte (fun _ => evCall e2 (evIte (fun _ => e3) (fun h => absurd hz h))) (fun h => absurd rfl h)))
    | false =>
      obtain ⟨R, t, e3, hR⟩ := drawJ h1 (by omega) l (by omega)
      refine ⟨R, t, evSucc ?_, hR⟩
      simp only [spec_DrawChainBack.l0]
      exact evIte (fun h => absurd h (by omega)) (fun _ => evSeq e1 (evIte (fun h => absurd h (by simp)) (fun _ => e3)))
  | d + 1, a, l, h, ha, hp, hl => by
    obtain ⟨r0, r1, r2, r3, r4, r5, r6, r7, c, e, c0, c1⟩ := recF h (by omega)
    have ew : wrap64 (((d + 1 : Nat) : Int) - 1) = (d : Int) := by rw [w64 (by omega) (by omega)]; omega
    by_cases h2 : r1 > 2
    · obtain ⟨R, t, e3, hR⟩ := drawL d c (l ++ [⟨r0, wrap64 (r1 - 2), r2, r3, r4, r5, r6, r7⟩]) (src_up h c0 (by omega)) (by omega) (by simp; omega) (by simp; omega)
      refine ⟨R, t, evSucc ?_, hR⟩
      simp only [spec_DrawChainBack.l0, ew]
      exact evIte (fun _ => evCall e (evIte (fun _ => evIte (fun _ => e3) (fun h => absurd (by omega) h)) (fun h => absurd h2 h))) (fun h => absurd (by omega) h)
    · obtain ⟨R, t, e3, hR⟩ := drawL d c (l ++ [⟨r0, r1, r2, r3, r4, r5, r6, r7⟩]) (src_up h c0 (by omega)) (by omega) (by simp; omega) (by simp; omega)
      refine ⟨R, t, evSucc ?_, hR⟩
      simp only [spec_DrawChainBack.l0, ew]
      exact evIte (fun _ => evCall e (evIte (fun h => absurd h h2) (fun _ => evIte (fun _ => e3) (fun h => absurd (by omega) h)))) (fun h => absurd (by omega) h)
/-- The puts that are hit, the last one first. -/
def hits (l : List S48) (a : Int) : Nat → List Int
  | 0 => []
  | m + 1 => (if impl_chain.hit l a m = true then [(m : Int) + 1] else []) ++ hits l a m
theorem go_hits (l : List S48) (a : Int) : ∀ (m : Nat) (out : List Int), impl_chain.go l a m out = out ++ hits l a m
  | 0, out => by simp [impl_chain.go, hits]
  | m + 1, out => by
    unfold impl_chain.go hits
    rw [go_hits l a m]
    split <;> simp
theorem hits_mem (l : List S48) (a : Int) : ∀ (m : Nat) (x : Int), x ∈ hits l a m → ∃ i, i < m ∧ x = (i : Int) + 1 ∧ impl_chain.hit l a i = true
  | 0, x, h => by simp [hits] at h
  | m + 1, x, h => by
    unfold hits at h
    rcases List.mem_append.1 h with h | h
    · split at h
      · rename_i hh
        exact ⟨m, by omega, by simpa using h, hh⟩
      · simp at h
    · obtain ⟨i, h1, h2, h3⟩ := hits_mem l a m x h
      exact ⟨i, by omega, h2, h3⟩
theorem hits_fall (l : List S48) (a : Int) : ∀ m, (hits l a m).Pairwise (fun x y => y < x)
  | 0 => by simp [hits]
  | m + 1 => by
    unfold hits
    split
    · rw [List.singleton_append, List.pairwise_cons]
      refine ⟨fun y hy => ?_, hits_fall l a m⟩
      obtain ⟨i, h1, h2, _⟩ := hits_mem l a m y hy
      omega
    · rw [List.nil_append]
      exact hits_fall l a m
theorem hit_more (l : List S48) (a x : Int) (u : S48) (u0 : u.f0 = 5) (u1 : u.f1 = a) (u7 : u.f7 = x) (m : Nat) (hm : m < l.length) : impl_chain.hit (l ++ [u]) a m = (impl_chain.hit l a m && !(x == (m : Int) + 1)) := by
  unfold impl_chain.hit
  rw [getD_at (by simp; omega), getD_at hm, List.getElem_append_left hm, List.drop_append_of_le_length (by omega), List.any_append]
  simp [impl_chain.p, u0, u1, u7]
  cases (l[m].f0 == 2 && l[m].f1 == a) <;> simp [Bool.and_assoc]
theorem hits_more (l : List S48) (a x : Int) (u : S48) (u0 : u.f0 = 5) (u1 : u.f1 = a) (u7 : u.f7 = x) : ∀ m, m ≤ l.length → hits (l ++ [u]) a m = (hits l a m).filter (fun y => !(x == y))
  | 0, h => by simp [hits]
  | m + 1, h => by
    unfold hits
    rw [hits_more l a x u u0 u1 u7 m (by omega), hit_more l a x u u0 u1 u7 m (by omega), List.filter_append]
    congr 1
    by_cases h1 : impl_chain.hit l a m = true
    · by_cases h2 : x = (m : Int) + 1
      · simp [h1, h2]
      · have : (x == (m : Int) + 1) = false := by simpa using h2
        simp [h1, this]
    · simp [h1]
theorem rfs_mem : ∀ {l : List S48}, rfs l = 0 → ∀ x ∈ l, rf x.f0 x.f1 x.f2 x.f3 x.f4 x.f5 x.f6 x.f7 = 0
  | y :: ys, h, x, hx => by
    unfold rfs at h
    split at h
    · rename_i h1
      rcases List.mem_cons.1 hx with rfl | hx
      · exact h1
      · exact rfs_mem h x hx
    · rename_i h1
      exact absurd h h1
theorem rfs_app : ∀ {l : List S48} {u : S48}, rfs l = 0 → rf u.f0 u.f1 u.f2 u.f3 u.f4 u.f5 u.f6 u.f7 = 0 → rfs (l ++ [u]) = 0
  | [], u, h, hu => by simp [rfs, hu]
  | y :: ys, u, h, hu => by
    unfold rfs at h
    rw [List.cons_append]
    unfold rfs
    split at h
    · rename_i h1
      rw [if_pos h1]
      exact rfs_app h hu
    · rename_i h1
      exact absurd h h1
theorem rf_undo {a x : Int} {y : S48} (h : rf y.f0 y.f1 y.f2 y.f3 y.f4 y.f5 y.f6 y.f7 = 0) (h0 : 1 ≤ a) (h1 : a ≤ 999) (x0 : 1 ≤ x) (x1 : x ≤ 400) : rf 5 a y.f2 y.f5 y.f6 y.f3 y.f4 x = 0 := by
  obtain ⟨y0, y1, y2, y3, y4, y5, y6, y7⟩ := y
  simp only at h ⊢
  unfold rf at h ⊢
  by_cases c1 : okR y0 y1 y2 y4 y6 y7
  · rw [if_pos c1] at h
    by_cases c2 : badR y0 y2 y3 y4 y5 y6 y7
    · rw [if_pos c2] at h; omega
    · have g1 : okR 5 a y2 y6 y4 x := by
        unfold okR at c1 ⊢
        omega
      have g2 : ¬ badR 5 y2 y5 y6 y3 y4 x := by
        unfold badR bad1 bad2 at c2 ⊢
        rintro (g | g | g | g)
        · exact g.1 (.inr rfl)
        · exact c2 (.inr (.inr (.inl g)))
        · exact c2 (.inr (.inl g))
        · exact g ⟨fun _ => by omega, fun _ => rfl⟩
      rw [if_pos g1, if_neg g2]
  · rw [if_neg c1] at h; omega
theorem lwNums (xs : List Int) (hb : xs.length ≤ 1099511627776) : Ev (fun k => laws_lwNums.f k xs xs) true := by
  unfold laws_lwNums.f
  simp only [if_true]
  refine allLoop (L := fun k i => laws_lwNums.l0 k xs xs i) xs.length ?_ ?_
  · intro k i h
    have h1 : (i : Int) < (xs.length : Int) := by omega
    simp only [laws_lwNums.l0, h1, Int.natCast_nonneg, if_true, w64n (show i < 9223372036854775807 by omega)]
  · intro k
    simp only [laws_lwNums.l0, Int.lt_irrefl, if_false]
theorem cb0 {l : List S48} {a : Int} (h : (cb l a).1 = 0) : l.length ≤ 400 ∧ rfs l = 0 ∧ (1 ≤ a ∧ a ≤ 999) ∧ cb l a = (0, hits l a l.length) := by
  unfold cb at h ⊢
  split at h
  · simp at h
  · rename_i h1
    split at h
    · rename_i h2
      split at h
      · rename_i h3
        refine ⟨by omega, h2, h3, ?_⟩
        rw [if_neg h1, if_pos h2, if_pos h3, go_hits, List.nil_append]
      · simp at h
    · rename_i h2
      exact absurd h h2
theorem wdown {x : Int} {m : Nat} (h : x = (m : Int) + 1) (hm : m ≤ 1000000) : wrap64 (x - 1) = (m : Int) := by
  subst h
  rw [w64 (by omega) (by omega)]
  omega
/-- The end of the law's loop. -/
theorem lastJ {l : List S48} {a : Int} (hc : (cb l a).1 = 0) (L : List Int) (hL : L = hits l a l.length) (b : Bool) (hb : b = false → L ≠ [] ∧ l.length < 400) : Ev (fun k => laws_FnBacks.j1 k l a b 0 L) true := by
  obtain ⟨hl, hr, ha, e⟩ := cb0 hc
  refine evSucc ?_
  simp only [laws_FnBacks.j1]
  refine evIte (fun _ => ?_) (fun h => ?_)
  · have S := specCB l a
    rw [e] at S
    exact evCall S (evRet (by simp [hL]))
  · obtain ⟨hn, h4⟩ := hb (by simpa using h)
    cases L with
    | nil => exact absurd rfl hn
    | cons x L' =>
      have hf := hits_fall l a l.length
      obtain ⟨i, i1, i2, i3⟩ := hits_mem l a l.length x (by rw [← hL]; simp)
      have r0 : rd (x :: L') 0 = x := by simp [rd]
      have hm : ∀ y ∈ hits l a l.length, y ≤ 400 := by
        intro y hy
        obtain ⟨j, j1, j2, _⟩ := hits_mem l a l.length y hy
        omega
      have ew : wrap64 (x - 1) = (i : Int) := by rw [w64 (by omega) (by omega)]; omega
      rw [r0, ew, rdRec i1]
      have hy := rfs_mem hr l[i] (List.getElem_mem i1)
      have hu := rf_undo (a := a) (x := x) hy ha.1 ha.2 (by omega) (by omega)
      refine evIte (fun _ => evIte (fun _ => evIte (fun _ => ?_) (fun h => absurd (by omega) h)) (fun h => absurd (by omega) h)) (fun h => absurd (by simp) h)
      refine evSeq rfl (evIte (fun _ => evSeq rfl (evSeq rfl (evIte (fun _ => ?_) (fun h => absurd (by first | (simp; done) | (simp; omega)) h)))) (fun h => absurd (by first | (rw [List.length_nil]; omega) | simp) h))
      have hlen : L'.length ≤ 400 := by
        have h1 := go_len l a l.length []
        rw [go_hits, List.nil_append, ← hL] at h1
        simp at h1
        omega
      have I := implCB (l ++ [(⟨5, a, l[i].f2, l[i].f5, l[i].f6, l[i].f3, l[i].f4, x⟩ : S48)]) a
      have ec : cb (l ++ [(⟨5, a, l[i].f2, l[i].f5, l[i].f6, l[i].f3, l[i].f4, x⟩ : S48)]) a = (0, L') := by
        unfold cb
        rw [if_neg (by simp; omega), if_pos (rfs_app hr hu), if_pos ha, go_hits, List.nil_append, List.length_append, List.length_singleton]
        congr 1
        have hlast : impl_chain.hit (l ++ [(⟨5, a, l[i].f2, l[i].f5, l[i].f6, l[i].f3, l[i].f4, x⟩ : S48)]) a l.length = false := by
          unfold impl_chain.hit
          rw [getD_at (by simp)]
          simp
        rw [hits, if_neg (by rw [hlast]; simp), List.nil_append, hits_more l a x _ rfl rfl rfl l.length (Nat.le_refl _), ← hL]
        rw [← hL, List.pairwise_cons] at hf
        rw [List.filter_cons_of_neg (by simp), List.filter_eq_self]
        intro y hy
        have := hf.1 y hy
        simp
        omega
      rw [ec] at I
      rw [List.nil_append]
      refine evCall I (evIte (fun _ => evIte (fun _ => ?_) (fun h => absurd (by rw [List.length_cons]; omega) h)) (fun h => absurd rfl h))
      exact evCall (lwNums L' (by omega)) (evRet rfl)
theorem loopL {l : List S48} {a : Int} (hc : (cb l a).1 = 0) (L : List Int) (hL : L = hits l a l.length) : ∀ (d i : Nat), i + d = L.length → Ev (fun k => laws_FnBacks.l0 k l a (i : Int) 0 L) true
  | 0, i, hd => by
    refine evSucc ?_
    simp only [laws_FnBacks.l0]
    refine evIte (fun h => absurd h (by omega)) (fun _ => evIte (fun _ => lastJ hc L hL true (by simp)) (fun h => lastJ hc L hL _ (fun h2 => ⟨fun h3 => h (by simp [h3]), ?_⟩)))
    simp at h2
    omega
  | d + 1, i, hd => by
    have hi : i < L.length := by omega
    have hl := (cb0 hc).1
    have hlen : L.length ≤ 400 := by
      have h1 := go_len l a l.length []
      rw [go_hits, List.nil_append, ← hL] at h1
      simp at h1
      omega
    have ih := loopL hc L hL d (i + 1) (by omega)
    rw [← w64n (show i < 9223372036854775807 by omega)] at ih
    obtain ⟨m, m1, m2, m3⟩ := hits_mem l a l.length L[i] (by rw [← hL]; exact List.getElem_mem hi)
    have ew : wrap64 (L[i] - 1) = (m : Int) := wdown m2 (by omega)
    unfold impl_chain.hit at m3
    rw [getD_at m1] at m3
    simp only [Bool.and_eq_true, beq_iff_eq] at m3
    have p0 : (i : Int) < (L.length : Int) := Int.ofNat_lt.2 hi
    have p1 : (m : Int) < (l.length : Int) := Int.ofNat_lt.2 m1
    have step : ∀ j : Nat, i = j + 1 → ¬ rd L (i : Int) ≥ rd L (wrap64 ((i : Int) - 1)) ∧ (0 ≤ wrap64 ((i : Int) - 1) ∧ wrap64 ((i : Int) - 1) < (L.length : Int)) := by
      intro j hj
      have hj2 : j < L.length := by omega
      have ej : wrap64 ((i : Int) - 1) = (j : Int) := wdown (by rw [hj]; rfl) (by omega)
      have hf := hits_fall l a l.length
      rw [← hL] at hf
      have hlt := List.pairwise_iff_getElem.1 hf j i hj2 hi (by omega)
      rw [ej, rdI hj2, rdI hi]
      exact ⟨Int.not_le.2 hlt, Int.natCast_nonneg j, Int.ofNat_lt.2 hj2⟩
    refine evSucc ?_
    simp only [laws_FnBacks.l0]
    refine evIte (fun _ => evIte (fun _ => ?_) (fun h => absurd (Int.natCast_nonneg i) h)) (fun h => absurd p0 h)
    have er : wrap64 (rd L (i : Int) - 1) = (m : Int) := by rw [rdI hi]; exact ew
    rw [er, rdRec m1]
    clear er ew m2 hl hlen
    refine evIte (fun _ => evIte (fun _ => evIte (fun _ => evIte (fun _ => evIte (fun h => ?_) (fun _ => ih)) (fun h => absurd m3.1.2 h)) (fun h => absurd m3.1.1 h)) (fun h => absurd p1 h)) (fun h => absurd (Int.natCast_nonneg m) h)
    obtain ⟨s1, s2, s3⟩ := step (i - 1) (by clear m3 ih; omega)
    exact evIte (fun _ => evIte (fun _ => evIte (fun h => absurd h s1) (fun _ => ih)) (fun h => absurd s3 h)) (fun h => absurd s2 h)
theorem FnBacks : laws_FnBacks.Pure := by
  intro l0 h0
  refine Ev.rounds ?_
  unfold laws_FnBacks.f laws_lwBig.f
  refine evSeq rfl (evIte (fun _ => evRet rfl) (fun hb => ?_))
  have hl : l0.length ≤ 1048576 := by simp at hb; omega
  have hB : isB l0 := fun x hx => wf8 (h0.2.2 x hx)
  have hs : src l0 0 := ⟨hB, hl, by omega, by omega⟩
  obtain ⟨r, er, r0, r1⟩ := nx (n := 12) hs (by omega)
  have r1' := r1 (by omega)
  obtain ⟨q, rfl⟩ : ∃ q : Nat, r = (q : Int) := ⟨r.toNat, by omega⟩
  have hd : wrap64 (3 + (q : Int)) = ((3 + q : Nat) : Int) := by
    rw [w64 (by omega) (by omega)]
    omega
  obtain ⟨R, t, hD, hR⟩ := drawL (3 + q) (0 + 1) [] (src_up hs (by omega) (by omega)) (by omega) (by simp; omega) (by simp; omega)
  have D : Ev (fun k => spec_DrawChainBack.f k l0) (R, t) := by
    unfold spec_DrawChainBack.f
    refine evSeq (a := (l0, 0)) rfl (evSeq er ?_)
    simp only [hd]
    exact hD
  refine evCall D (evCall (implCB R t) (evIte (fun h => ?_) (fun h => ?_)))
  · obtain ⟨hl, hr, ha, e⟩ := cb0 h
    rw [e]
    exact loopL h _ rfl (hits R t R.length).length 0 (by omega)
  · exact evCall (specCB R t) (evRet (by simp))
end Go.Proofs.Ythagppmaofcllaa.Pure
