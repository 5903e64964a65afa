/- What is drawn: records, logs. -/
import Derived.Test.YthagppmaofcllaaLb
import Derived.Test.YthagppmaofcllaaQib
import Derived.Test.YthagppmaofcllaaQdr
import Derived.Test.YthagppmaofcllaaP0
import Derived.Test.YthagppmaofcllaaPDcg0
namespace Go.Proofs.Ythagppmaofcllaa.Q
open Go.RowKit Go.Proofs.Ythagppmaofcllaa.P Go.Proofs.YthagppmaofcllaaW.PrintWords Go.Proofs.YthagppmaofcllaaW.PrintLast Go.Proofs.YthagppmaofcllaaW.PrintMore Go.Proofs.Ythagppmaofcllaa.Lb
set_option linter.unusedVariables false
set_option linter.unusedSimpArgs false
/-- A draw of a record: some record, a little further on. -/
def recD (s : List Int) (a m : Int) (g : Nat → Option (Int × Int × Int × Bool × Int × Bool × Int × Int × Int)) : Prop :=
  ∃ r0 r1 r2 r3 r4 r5 r6 r7 b, Ev g (r0, r1, r2, r3, r4, r5, r6, r7, b) ∧ a ≤ b ∧ b ≤ a + m
theorem recD_ret {s : List Int} {a m : Int} (hm : 0 ≤ m) {r0 r1 r2 : Int} {r3 : Bool} {r4 : Int} {r5 : Bool} {r6 r7 : Int} : recD s a m (fun _ => some (r0, r1, r2, r3, r4, r5, r6, r7, a)) := ⟨_, _, _, _, _, _, _, _, _, evRet rfl, by omega, by omega⟩
theorem recD_up {s : List Int} {a m : Int} {g} (h : recD s (a + 1) m g) : recD s a (m + 1) g := by
  obtain ⟨r0, r1, r2, r3, r4, r5, r6, r7, b, hb, h0, h1⟩ := h
  exact ⟨r0, r1, r2, r3, r4, r5, r6, r7, b, hb, by omega, by omega⟩
theorem recD_more {s : List Int} {a m m' : Int} {g} (h : recD s a m g) (hm : m ≤ m') : recD s a m' g := by
  obtain ⟨r0, r1, r2, r3, r4, r5, r6, r7, b, hb, h0, h1⟩ := h
  exact ⟨r0, r1, r2, r3, r4, r5, r6, r7, b, hb, by omega, by omega⟩
theorem recD_seq {α : Type} {s : List Int} {a m : Int} {x : Option α} {v : α} {f : Nat → α → Option (Int × Int × Int × Bool × Int × Bool × Int × Int × Int)} (h : x = some v) (k : recD s a m (fun n => f n v)) : recD s a m (fun n => x.bind (f n)) := by subst h; exact k
theorem recD_ite {s : List Int} {a m : Int} {c : Prop} [Decidable c] {f g} (h1 : c → recD s a m f) (h2 : ¬ c → recD s a m g) : recD s a m (fun k => if c then f k else g k) := by
  by_cases hc : c
  · simp only [hc, if_true]; exact h1 hc
  · simp only [hc, if_false]; exact h2 hc
theorem recD_succ {s : List Int} {a m : Int} {g} (h : recD s a m (fun k => g (k + 1))) : recD s a m g := by
  obtain ⟨r0, r1, r2, r3, r4, r5, r6, r7, b, hb, h0, h1⟩ := h
  exact ⟨r0, r1, r2, r3, r4, r5, r6, r7, b, evSucc hb, h0, h1⟩
theorem recD_nx {s : List Int} {a n m : Int} (h : src s a) (ha : a ≤ 999000) (hn : n ≤ 1000000) {f : Nat → Int × Int → Option (Int × Int × Int × Bool × Int × Bool × Int × Int × Int)} (k : ∀ r, src s (a + 1) → recD s (a + 1) m (fun n' => f n' (r, a + 1))) : recD s a (m + 1) (fun n' => (spec_l1Next.f s a n).bind (f n')) := by
  obtain ⟨r, e, _⟩ := nx (n := n) h hn
  exact recD_seq e (recD_up (k r (src_up h (by omega) (by omega))))
theorem recD_ch {s : List Int} {a n m : Int} (h : src s a) (ha : a ≤ 999000) (hn : n ≤ 1000000) {f : Nat → Bool × Int → Option (Int × Int × Int × Bool × Int × Bool × Int × Int × Int)} (k : ∀ r, src s (a + 1) → recD s (a + 1) m (fun n' => f n' (r, a + 1))) : recD s a (m + 1) (fun n' => (spec_l1Chance.f s a n).bind (f n')) := by
  obtain ⟨r, e⟩ := ch (n := n) h hn
  exact recD_seq e (recD_up (k r (src_up h (by omega) (by omega))))
theorem recD_pk {s : List Int} {a m : Int} (h : src s a) (ha : a ≤ 999000) {l : List Int} (h0 : 0 < l.length) (h1 : l.length ≤ 1000) {f : Nat → Int × Int → Option (Int × Int × Int × Bool × Int × Bool × Int × Int × Int)} (k : ∀ r, src s (a + 1) → recD s (a + 1) m (fun n' => f n' (r, a + 1))) : recD s a (m + 1) (fun n' => (spec_l1Pick.f s a l).bind (f n')) := by
  obtain ⟨r, e, _⟩ := pk h l h0 h1
  exact recD_seq e (recD_up (k r (src_up h (by omega) (by omega))))
theorem dkey {s : List Int} {a : Int} (h : src s a) (ha : a ≤ 999000) : ∃ r, spec_l1DrawKey.f s a = some (r, a + 4) := by
  obtain ⟨r1, e1, _⟩ := nx (n := 8) h (by omega)
  obtain ⟨r2, e2, _⟩ := nx (n := 8) (src_up h (b := a + 1) (by omega) (by omega)) (by omega)
  obtain ⟨r3, e3, _⟩ := nx (n := 32) (src_up h (b := a + 1 + 1) (by omega) (by omega)) (by omega)
  obtain ⟨r4, e4, _⟩ := pk (src_up h (b := a + 1 + 1 + 1) (by omega) (by omega)) [r1, r2, r3] (by simp) (by simp)
  refine ⟨r4, ?_⟩
  unfold spec_l1DrawKey.f
  simp only [e1, e2, e3, e4, Option.bind_some]
  rw [show a + 1 + 1 + 1 + 1 = a + 4 by omega]
theorem recJ1 {s : List Int} {a : Int} (h : src s a) (ha : a ≤ 998000) (v0 v1 v2 : Int) (v3 : Bool) (v4 : Int) (v5 : Bool) (v6 v7 : Int) : recD s a 2 (fun k => spec_l3Rec.j1 k s a v0 v1 v2 v3 v4 v5 v6 v7) := by
  refine recD_succ ?_
  simp only [spec_l3Rec.j1]
  refine recD_ite (fun _ => ?_) (fun _ => ?_)
  · refine recD_nx (m := 1) h (by omega) (by omega) (fun r1 h1 => ?_)
    refine recD_ite (fun _ => ?_) (fun _ => recD_ret (by omega))
    exact recD_nx (m := 0) h1 (by omega) (by omega) (fun r2 h2 => recD_ret (by omega))
  · refine recD_ite (fun _ => ?_) (fun _ => recD_ret (by omega))
    exact recD_more (recD_nx (m := 0) h (by omega) (by omega) (fun r2 h2 => recD_ret (by omega))) (by omega)
theorem recJ0 {s : List Int} {a : Int} (h : src s a) (ha : a ≤ 997000) (t : Bool) (v0 v1 v2 : Int) (v3 : Bool) (v4 : Int) (v5 : Bool) (v6 v7 : Int) : recD s a 10 (fun k => spec_l3Rec.j0 k t s a v0 v1 v2 v3 v4 v5 v6 v7) := by
  refine recD_succ ?_
  simp only [spec_l3Rec.j0]
  refine recD_ite (fun _ => ?_) (fun _ => recD_ret (by omega))
  refine recD_pk (m := 9) h (by omega) (by simp) (by simp) (fun r1 h1 => ?_)
  obtain ⟨r2, e2⟩ := dkey h1 (by omega)
  refine recD_seq e2 ?_
  have h2 : src s (a + 1 + 4) := src_up h1 (by omega) (by omega)
  have up4 : ∀ {g}, recD s (a + 1 + 4) 5 g → recD s (a + 1) 9 g := by
    rintro g ⟨r0, r1, r2, r3, r4, r5, r6, r7, b, hb, h0, h1⟩
    exact ⟨r0, r1, r2, r3, r4, r5, r6, r7, b, hb, by omega, by omega⟩
  refine up4 ?_
  refine recD_ch (m := 4) h2 (by omega) (by omega) (fun b3 h3 => ?_)
  refine recD_ch (m := 3) h3 (by omega) (by omega) (fun b4 h4 => ?_)
  refine recD_ite (fun _ => ?_) (fun _ => ?_)
  · exact recD_nx (m := 2) h4 (by omega) (by omega) (fun r5 h5 => recJ1 h5 (by omega) _ _ _ _ _ _ _ _)
  · exact recD_more (recJ1 h4 (by omega) _ _ _ _ _ _ _ _) (by omega)
theorem recF {s : List Int} {a : Int} (h : src s a) (ha : a ≤ 996000) : recD s a 14 (fun k => spec_l3Rec.f k s a) := by
  unfold spec_l3Rec.f
  refine recD_nx (m := 13) h (by omega) (by omega) (fun r1 h1 => ?_)
  refine recD_nx (m := 12) h1 (by omega) (by omega) (fun r2 h2 => ?_)
  refine recD_ch (m := 11) h2 (by omega) (by omega) (fun b3 h3 => ?_)
  refine recD_ite (fun _ => recD_ret (by omega)) (fun _ => ?_)
  refine recD_ite (fun _ => recD_more (recJ0 h3 (by omega) _ _ _ _ _ _ _ _ _) (by omega)) (fun _ => ?_)
  refine recD_ite (fun _ => recD_more (recJ0 h3 (by omega) _ _ _ _ _ _ _ _ _) (by omega)) (fun _ => ?_)
  exact recD_ch (m := 10) h3 (by omega) (by omega) (fun b4 h4 => recJ0 h4 (by omega) _ _ _ _ _ _ _ _ _)
end Go.Proofs.Ythagppmaofcllaa.Q
