-- Printed by this session's own program over the kit's print (wip/tools/mp.py). Not trusted: Lean checks it.
import Derived.Test.YtdhdgkonghefeaaP0
import Derived.Test.YtdhdgkonghefeaaPCall0
import Derived.Test.YtdhdgkonghefeaaPCall1
import Derived.Test.YtdhdgkonghefeaaPCall2
import Derived.Test.YtdhdgkonghefeaaPDm0
import Derived.Test.YtdhdgkonghefeaaWRepsOne
import Derived.Test.YtdhdgkonghefeaaLb
import Derived.Test.YtdhdgkonghefeaaLv
import Derived.IntWalk
import Derived.Shelf.Abstract
import Derived.Test.YtdhdgkonghefeaaZz
import Derived.Test.YtdhdgkonghefeaaLb
import Derived.Test.YtdhdgkonghefeaaLb
import Derived.Test.YtdhdgkonghefeaaLv
namespace Go.Proofs.Ytdhdgkonghefeaa.P
open Go.RowKit Go.Proofs.YtdhdgkonghefeaaW.PrintWords Go.Proofs.YtdhdgkonghefeaaW.PrintLast Go.Proofs.YtdhdgkonghefeaaW.PrintMore
attribute [local go_sem] max2_int min2_int max_two min_two max_three min_three max_four min_four   -- for this text's walks alone
set_option linter.unusedVariables false
set_option linter.unusedSimpArgs false

/-! ### spec_l4Walk: function 33 -/
-- PROOF --
-- NEEDS Derived.Test.YtdhdgkonghefeaaLb
-- NEEDS Derived.Test.YtdhdgkonghefeaaLv
-- NEEDS Derived.IntWalk
-- NEEDS Derived.Shelf.Abstract
-- NEEDS Derived.Test.YtdhdgkonghefeaaZz
theorem len_le_of_sub {α : Type} [DecidableEq α] : ∀ (l m : List α), l.Nodup → (∀ x ∈ l, x ∈ m) → l.length ≤ m.length
 | [], _, _, _ => Nat.zero_le _
 | a :: l, m, hn, hs => by
  have ha : a ∈ m := hs a (List.mem_cons_self ..)
  rw [List.nodup_cons] at hn
  have := len_le_of_sub l (m.erase a) hn.2 (fun x hx => (List.mem_erase_of_ne (fun (e : x = a) => hn.1 (by rw [← e]; exact hx))).2 (hs x (List.mem_cons_of_mem _ hx)))
  rw [List.length_erase_of_mem ha] at this
  have hp := List.length_pos_of_mem ha
  simp only [List.length_cons]; omega
theorem mem_ups {nn : Nat} {x : Int} : x ∈ ups nn ↔ 0 ≤ x ∧ x < nn := by
 unfold ups
 rw [List.mem_map]
 constructor
 ·rintro ⟨i, hi, rfl⟩; rw [List.mem_range] at hi; omega
 ·intro ⟨h0, h1⟩; exact ⟨x.toNat, by rw [List.mem_range]; omega, by omega⟩
theorem nodup_ups (nn : Nat) : (ups nn).Nodup := by
 unfold ups
 rw [List.Nodup, List.pairwise_map]
 exact List.nodup_range.imp (fun h e => h (by omega))
theorem len_ups (nn : Nat) : (ups nn).length = nn := by simp [ups]
theorem inR_len {nn : Nat} {l : List Int} (h : inR nn l) : l.length ≤ nn := by
 have := len_le_of_sub l (ups nn) h.1 (fun x hx => mem_ups.2 (h.2 x hx))
 rwa [len_ups] at this
theorem inR_snoc {nn : Nat} {l : List Int} (h : inR nn l) {a : Int} (ha : l.contains a = false) (h0 : 0 ≤ a) (h1 : a < nn) : inR nn (l ++ [a]) := by
 have hm : a ∉ l := fun hh => by rw [List.contains_iff_mem.2 hh] at ha; cases ha
 constructor
 ·rw [List.nodup_append]
  exact ⟨h.1, by simp, fun x hx y hy e => by simp at hy; subst hy; exact hm (e ▸ hx)⟩
 ·intro x hx
  rcases List.mem_append.1 hx with hx | hx
  ·exact h.2 x hx
  ·simp at hx; subst hx; exact ⟨h0, h1⟩
theorem all_seen {nn : Nat} {l : List Int} (h : inR nn l) : (∀ i : Nat, i < nn → (i : Int) ∈ l) ↔ l.length = nn := by
 constructor
 ·intro ha
  have h1 := len_le_of_sub (ups nn) l (nodup_ups nn) (fun x hx => by
   have := mem_ups.1 hx
   have hh := ha x.toNat (by omega)
   rwa [show ((x.toNat : Nat) : Int) = x by omega] at hh)
  rw [len_ups] at h1
  have := inR_len h; omega
 ·intro he i hi
  by_cases hm : (i : Int) ∈ l
  ·exact hm
  ·exfalso
   have hc : l.contains (i : Int) = false := by
    cases hq : l.contains (i : Int) with
    | false => rfl
    | true => exact absurd (List.contains_iff_mem.1 hq) hm
   have := inR_len (inR_snoc h hc (by omega) (by omega))
   simp at this; omega
theorem getD_mem {nodes : List S58} {a : Int} (h0 : 0 ≤ a) (h1 : a < nodes.length) : nodes.getD a.toNat z58 ∈ nodes := by
 have : a.toNat < nodes.length := by omega
 rw [List.getD_eq_getElem?_getD, List.getElem?_eq_getElem this]
 exact List.getElem_mem this
theorem kid_mem {n : S58} {i : Nat} (h : i < n.f2.length) : n.f2.getD i 0 ∈ n.f2 := by
 rw [List.getD_eq_getElem?_getD, List.getElem?_eq_getElem h]
 exact List.getElem_mem h
theorem kidsW_some {nn : Nat} {v : G4 → Int → Int → Int → Nat → Option G4} {n : S58} (lo hi : Int) (d : Nat) (hk : ∀ x ∈ n.f2, 0 ≤ x ∧ x < (nn : Int)) (L : Nat)
  (hv : ∀ g (a lo hi : Int) d, inR nn g.seen → L ≤ g.seen.length → 0 ≤ a → a < nn → ∃ g', v g a lo hi d = some g' ∧ inR nn g'.seen ∧ g.seen.length ≤ g'.seen.length) :
  ∀ m i g, m + i = n.f2.length → inR nn g.seen → L ≤ g.seen.length → ∃ g', kidsW v n lo hi d m i g = some g' ∧ inR nn g'.seen ∧ g.seen.length ≤ g'.seen.length
 | 0, i, g, _, hg, _ => ⟨g, rfl, hg, Nat.le_refl _⟩
 | m + 1, i, g, hm, hg, hL => by
  unfold kidsW
  by_cases hb : g.bad = true
  ·rw [if_pos hb]; exact ⟨g, rfl, hg, Nat.le_refl _⟩
  ·rw [if_neg hb]
   have hq := hk _ (kid_mem (n := n) (i := i) (by omega))
   obtain ⟨g1, e1, r1, l1⟩ := hv g (n.f2.getD i 0) (loK n lo i) (hiK n hi i) (d + 1) hg hL hq.1 hq.2
   rw [e1, Option.bind_some]
   obtain ⟨g2, e2, r2, l2⟩ := kidsW_some lo hi d hk L hv m (i + 1) g1 (by omega) r1 (by omega)
   exact ⟨g2, e2, r2, by omega⟩
theorem walkW_some {nodes : List S58} (hk : kidsOk nodes) : ∀ k g (a lo hi : Int) d, inR nodes.length g.seen → 0 ≤ a → a < (nodes.length : Int) → nodes.length < k + g.seen.length →
  ∃ g', walkW nodes k g a lo hi d = some g' ∧ inR nodes.length g'.seen ∧ g.seen.length ≤ g'.seen.length
 | 0, g, a, lo, hi, d, hg, _, _, hl => by have := inR_len hg; omega
 | k + 1, g, a, lo, hi, d, hg, h0, h1, hl => by
  unfold walkW
  by_cases hc : g.seen.contains a = true
  ·rw [if_pos hc]; exact ⟨_, rfl, hg, Nat.le_refl _⟩
  ·rw [if_neg hc]
   have hs := inR_snoc hg (by simpa using hc) h0 h1
   split
   ·exact ⟨_, rfl, hs, by simp⟩
   ·obtain ⟨g', e, r, l⟩ := kidsW_some (nn := nodes.length) (v := walkW nodes k) lo hi d (hk _ (getD_mem h0 h1)) (g.seen.length + 1)
     (fun g a lo hi d hg hL h0 h1 => walkW_some hk k g a lo hi d hg h0 h1 (by omega)) (nodes.getD a.toNat z58).f2.length 0 ⟨g.seen ++ [a], g.dep, g.bad || keysBad lo hi (nodes.getD a.toNat z58).f1⟩ (by omega) hs (by simp)
    exact ⟨g', e, r, by simp at l; omega⟩
theorem kidsW_path {v : G4 → Int → Int → Int → Nat → Option G4} {n : S58} (lo hi : Int) (d : Nat) (q : Int → Prop)
  (hv : ∀ g a lo hi d g', v g a lo hi d = some g' → g'.bad = false → q a) :
  ∀ m i g g', m + i = n.f2.length → kidsW v n lo hi d m i g = some g' → g'.bad = false → ∀ j, i ≤ j → j < n.f2.length → q (n.f2.getD j 0)
 | 0, i, g, g', hm, _, _, j, h1, h2 => by omega
 | m + 1, i, g, g', hm, he, hb, j, h1, h2 => by
  unfold kidsW at he
  by_cases hg : g.bad = true
  ·rw [if_pos hg] at he; cases he; rw [hg] at hb; cases hb
  ·rw [if_neg hg] at he
   obtain ⟨g1, e1, e2⟩ := Option.bind_eq_some_iff.1 he
   have hb1 : g1.bad = false := by
    cases h : g1.bad with
    | false => rfl
    | true =>
     cases m with
     | zero => unfold kidsW at e2; cases e2; rw [h] at hb; cases hb
     | succ m => unfold kidsW at e2; rw [if_pos h] at e2; cases e2; rw [h] at hb; cases hb
   by_cases hj : j = i
   ·subst hj; exact hv _ _ _ _ _ _ e1 hb1
   ·exact kidsW_path lo hi d q hv m (i + 1) g1 g' (by omega) e2 hb j (by omega) h2
theorem kidAt_le (ks : List Int) (key : Int) : kidAt ks key ≤ ks.length := by
 unfold kidAt
 exact (List.takeWhile_sublist _).length_le
/-- A walk that finds nothing wrong: from its node every key's way ends. -/
theorem walkW_path {nodes : List S58} (hc : ∀ n ∈ nodes, n.f0 = false → n.f2.length = n.f1.length + 1) (hk : kidsOk nodes) (key : Int) : ∀ k g a lo hi d g', 0 ≤ a → a < (nodes.length : Int) → walkW nodes k g a lo hi d = some g' → g'.bad = false → ∃ p, pathW nodes key k a = some p
 | 0, g, a, lo, hi, d, g', _, _, he, _ => by cases he
 | k + 1, g, a, lo, hi, d, g', h0, h1, he, hb => by
  unfold walkW at he
  unfold pathW
  by_cases hs : g.seen.contains a = true
  ·rw [if_pos hs] at he; cases he; cases hb
  ·rw [if_neg hs] at he
   by_cases hl : (nodes.getD a.toNat z58).f0 = true
   ·rw [if_pos hl]; exact ⟨_, rfl⟩
   ·rw [if_neg hl] at he
    rw [if_neg hl]
    have hm := getD_mem h0 h1
    have hlen := hc _ hm (by simpa using hl)
    have hle := kidAt_le (nodes.getD a.toNat z58).f1 key
    have hq := kidsW_path lo hi d (fun a => 0 ≤ a ∧ a < (nodes.length : Int) → ∃ p, pathW nodes key k a = some p) (fun g a lo hi d g' e b h => walkW_path hc hk key k g a lo hi d g' h.1 h.2 e b) _ 0 _ g' (by omega) he hb (kidAt (nodes.getD a.toNat z58).f1 key) (by omega) (by omega)
    obtain ⟨p, hp⟩ := hq (hk _ hm _ (kid_mem (by omega)))
    exact ⟨_, by rw [hp]; rfl⟩
theorem pathW_mem {nodes : List S58} (hc : ∀ n ∈ nodes, n.f0 = false → n.f2.length = n.f1.length + 1) (hk : kidsOk nodes) (key : Int) : ∀ k a p, 0 ≤ a → a < (nodes.length : Int) → pathW nodes key k a = some p → p ≠ [] ∧ p.length ≤ k ∧ ∀ x ∈ p, 0 ≤ x ∧ x < (nodes.length : Int)
 | 0, a, p, _, _, he => by cases he
 | k + 1, a, p, h0, h1, he => by
  unfold pathW at he
  by_cases hl : (nodes.getD a.toNat z58).f0 = true
  ·rw [if_pos hl] at he; cases he; exact ⟨by simp, by simp, fun x hx => by simp at hx; subst hx; exact ⟨h0, h1⟩⟩
  ·rw [if_neg hl] at he
   obtain ⟨q, hq, rfl⟩ := Option.map_eq_some_iff.1 he
   have hm := getD_mem h0 h1
   have hlen := hc _ hm (by simpa using hl)
   have hle := kidAt_le (nodes.getD a.toNat z58).f1 key
   have hkid := hk _ hm _ (kid_mem (n := nodes.getD a.toNat z58) (i := kidAt (nodes.getD a.toNat z58).f1 key) (by omega))
   obtain ⟨_, hlen2, hmem⟩ := pathW_mem hc hk key k _ q hkid.1 hkid.2 hq
   refine ⟨by simp, by simp; omega, fun x hx => ?_⟩
   rcases List.mem_cons.1 hx with rfl | hx
   ·exact ⟨h0, h1⟩
   ·exact hmem x hx
theorem row_far {W : World} {gb : Nat} {v : Value} {s : List Int} {base : Nat} {cs : Array Value} (h : Kd.R (Kd.int .i64) 2 W base (fun _ => True) v s) (hb : W.heap[gb]? = some (.cells cs 61 (0, 0))) (i : Nat) (u : Value) : Kd.R (Kd.int .i64) 2 (W.setCell ⟨gb, i, none⟩ u) base (fun _ => True) v s :=
 Kd.R_mono (Kd.R_far (p := ⟨gb, i, none⟩) (Kd.R_types h hb (fun q hq => by simp [Kd.int, Kd.scalar] at hq; omega)) (fun k hk => hk.2) u) (fun _ _ => trivial)
theorem stBad {w0 W : World} {gb dep : Nat} {v : Value} {s : List Int} {bad : Bool} (h : StG w0 W gb v s dep bad) (hg : w0.heap.size ≤ gb) (b : Bool) : StG w0 (W.setCell ⟨gb, 2, none⟩ (.bool b)) gb v s dep b := ⟨blk_put h.1 2 _ rfl, row_far h.2.1 h.1 _ _, below_set h.2.2 hg⟩
theorem stDep {w0 W : World} {gb dep : Nat} {v : Value} {s : List Int} {bad : Bool} (h : StG w0 W gb v s dep bad) (hg : w0.heap.size ≤ gb) (n : Nat) : StG w0 (W.setCell ⟨gb, 1, none⟩ (.int .i64 (n : Int))) gb v s n bad := ⟨blk_put h.1 1 _ rfl, row_far h.2.1 h.1 _ _, below_set h.2.2 hg⟩
theorem stBelow {w0 W W1 : World} {gb dep : Nat} {v : Value} {s : List Int} {bad : Bool} (h : StG w0 W gb v s dep bad) (hb : Below W.heap.size W W1) : StG w0 W1 gb v s dep bad := ⟨blk_below h.1 hb, Kd.R_below h.2.1 hb, below_step h.2.2 hb⟩
theorem stRow {w0 W W1 : World} {gb dep : Nat} {v v1 : Value} {s s1 : List Int} {bad : Bool} (h : StG w0 W gb v s dep bad) (hg : w0.heap.size ≤ gb) (hr : Kd.R (Kd.int .i64) 2 W1 w0.heap.size (fun _ => True) v1 s1) (hB : Below w0.heap.size w0 W1) (hw : W.grownBy W1 v.ownBlock) : StG w0 (W1.setCell ⟨gb, 0, none⟩ v1) gb v1 s1 dep bad := by
 have hx := blk_grown h.1 hw (Kd.R_ne h.2.1 h.1 (by decide))
 exact ⟨blk_put hx 0 _ rfl, row_far hr hx _ _, below_set hB hg⟩
theorem stCells {w0 W : World} {gb dep : Nat} {v : Value} {s : List Int} {bad : Bool} (h : StG w0 W gb v s dep bad) : W.cell? ⟨gb, 0, none⟩ = some v ∧ W.cell? ⟨gb, 1, none⟩ = some (.int .i64 (dep : Int)) ∧ W.cell? ⟨gb, 2, none⟩ = some (.bool bad) ∧ W.frozen? ⟨gb, 0, none⟩ = false ∧ W.frozen? ⟨gb, 1, none⟩ = false ∧ W.frozen? ⟨gb, 2, none⟩ = false := Lv.blks3 h.1
theorem stSlice {w0 W : World} {gb dep : Nat} {v : Value} {s : List Int} {bad : Bool} (h : StG w0 W gb v s dep bad) : ∃ A c, v = .slice A s.length c ∧ s.length ≤ c ∧ Kd.C (Kd.int .i64) W A s.length s := Kd.R_reads h.2.1
theorem walkW_inR {nodes : List S58} : ∀ (k : Nat) (g : G4) (a lo hi : Int) (d : Nat) (g' : G4), kidsOk nodes → inR nodes.length g.seen → 0 ≤ a → a < (nodes.length : Int) → walkW nodes k g a lo hi d = some g' → inR nodes.length g'.seen
 | 0, g, a, lo, hi, d, g', _, _, _, _, he => by cases he
 | k + 1, g, a, lo, hi, d, g', hk, hg, h0, h1, he => by
  unfold walkW at he
  by_cases hc : g.seen.contains a = true
  ·rw [if_pos hc] at he; cases he; exact hg
  ·rw [if_neg hc] at he
   have hs := inR_snoc hg (by simpa using hc) h0 h1
   split at he
   ·cases he; exact hs
   ·have : ∀ m i g g', m + i = (nodes.getD a.toNat z58).f2.length → inR nodes.length g.seen → kidsW (walkW nodes k) (nodes.getD a.toNat z58) lo hi d m i g = some g' → inR nodes.length g'.seen := by
     intro m
     induction m with
     | zero => intro i g g' _ hg he; unfold kidsW at he; cases he; exact hg
     | succ m ih =>
      intro i g g' hm hg he
      unfold kidsW at he
      by_cases hb : g.bad = true
      ·rw [if_pos hb] at he; cases he; exact hg
      ·rw [if_neg hb] at he
       obtain ⟨g1, e1, e2⟩ := Option.bind_eq_some_iff.1 he
       have hq := hk _ (getD_mem h0 h1) _ (kid_mem (n := nodes.getD a.toNat z58) (i := i) (by omega))
       exact ih (i + 1) g1 g' (by omega) (walkW_inR k g _ _ _ _ g1 hk hg hq.1 hq.2 e1) e2
    exact this _ 0 _ g' (by omega) hs he
theorem l1Has_some (l : List Int) (a : Int) (hl : l.length < 1000000) : ∃ K, spec_l1Has.f K l a = some (l.contains a) := by
 have hev : Ev (fun k => spec_l1Has.l0 k l a ((0 : Nat) : Int)) (l.contains a) := by
  have : ∀ m i : Nat, m + i = l.length → Ev (fun k => spec_l1Has.l0 k l a (i : Int)) ((l.drop i).contains a) := by
   intro m
   induction m with
   | zero =>
    intro i hi
    apply Lb.evSucc
    simp only [spec_l1Has.l0]
    rw [List.drop_eq_nil_of_le (by omega)]
    exact Lb.evIte (fun h => absurd h (by omega)) (fun _ => Lb.evRet rfl)
   | succ m ih =>
    intro i hi
    apply Lb.evSucc
    simp only [spec_l1Has.l0]
    have hlt : i < l.length := by omega
    rw [List.drop_eq_getElem_cons hlt, List.contains_cons]
    refine Lb.evIte (fun _ => ?_) (fun h => absurd (by omega) h)
    refine Lb.evIte (fun _ => ?_) (fun h => absurd (by omega) h)
    have hrd : rd l (i : Int) = l[i] := by unfold rd; rw [Int.toNat_natCast, Lb.getD_at hlt]
    rw [hrd]
    refine Lb.evIte (fun h => Lb.evRet (by simp [h])) (fun h => ?_)
    rw [Lb.w64n (by omega)]
    exact Lb.evEq (ih (i + 1) (by omega)) (by simp [show (a == l[i]) = false from by simpa using fun e => h e.symm])
  have h := this l.length 0 (by omega)
  simpa using h
 obtain ⟨K, hK⟩ := hev
 exact ⟨K, hK K (Nat.le_refl _)⟩
theorem keepSet {w W : World} {gb i : Nat} {row : Option Nat} {u : Value} (h : KeepBut w W gb row) : KeepBut w (W.setCell ⟨gb, i, none⟩ u) gb row :=
 ⟨by simpa [World.setCell] using h.1, fun j hj hg hr => (Below.heap_setCell W ⟨gb, i, none⟩ u j hg).trans (h.2 j hj hg hr)⟩
theorem keepBelow {w W W1 : World} {gb : Nat} {row : Option Nat} (h : KeepBut w W gb row) (hb : Below W.heap.size W W1) : KeepBut w W1 gb row :=
 ⟨Nat.le_trans h.1 hb.size, fun j hj hg hr => (hb.block j (Nat.lt_of_lt_of_le hj h.1)).trans (h.2 j hj hg hr)⟩
theorem keepGrown {w W W1 : World} {gb : Nat} {row r1 : Option Nat} (h : KeepBut w W gb row) (hb : W.grownBy W1 r1) (hr1 : r1 = row ∨ ∃ b, r1 = some b ∧ w.heap.size ≤ b) : KeepBut w W1 gb row :=
 h.trans (KeepBut.of_grown hb gb) hr1
theorem keysBad_snoc {lo hi : Int} {ks : List Int} {i : Nat} (h : i < ks.length) : keysBad lo hi (ks.take (i + 1)) = (keysBad lo hi (ks.take i) || (decide (ks.getD i 0 < lo) || decide (hi ≤ ks.getD i 0))) := by
 unfold keysBad
 rw [List.take_succ_eq_append_getElem h, List.any_append, Lb.getD_at h]
 simp
theorem ownMove {w W : World} {r0 r1 r2 : Option Nat} (h : r1 = r0 ∨ ∃ b, r1 = some b ∧ w.heap.size ≤ b) (hs : w.heap.size ≤ W.heap.size) (k : r2 = r1 ∨ ∃ b, r2 = some b ∧ W.heap.size ≤ b) : r2 = r0 ∨ ∃ b, r2 = some b ∧ w.heap.size ≤ b := by
 rcases k with k | ⟨b, k, hb⟩
 ·rw [k]; exact h
 ·exact Or.inr ⟨b, k, Nat.le_trans hs hb⟩
set_option maxHeartbeats 8000000 in
set_option maxRecDepth 100000 in
theorem spec_l4Walk.at {w0 : World} {tp : Addr} {gb cN : Nat} {AN : Option Addr} {nodes : List S58} (hqt : w0.cell? ⟨tp.block, tp.off + 1, none⟩ = some (.slice AN nodes.length cN)) (hrN : Kd.C k58 w0 AN nodes.length nodes) (hgb : w0.heap.size ≤ gb) (hnn : nodes.length ≤ 60) (hlen : ∀ n ∈ nodes, n.f1.length ≤ 3 ∧ n.f2.length ≤ 4 ∧ (n.f0 = false → n.f2.length = n.f1.length + 1)) (hkid : kidsOk nodes) :
  ∀ (k : Nat) (s : List Int) (dep : Nat) (at_ lo hi : Int) (d : Nat) (g' : G4) (v : Value) (w : World), walkW nodes k ⟨s, dep, false⟩ at_ lo hi d = some g' → inR nodes.length s → 0 ≤ at_ → at_ < (nodes.length : Int) → d + k ≤ 1000 → StG w0 w gb v s dep false →
  Calls Try.prog 33 #[.pointer (some tp), .pointer (some ⟨gb, 0, none⟩), .int .i64 at_, .int .i64 lo, .int .i64 hi, .int .i64 (d : Int)] w fun e w' => e = .returned (.tuple #[]) ∧ ∃ v', StG w0 w' gb v' g'.seen g'.dep g'.bad ∧ KeepBut w w' gb v.ownBlock ∧ (v'.ownBlock = v.ownBlock ∨ ∃ b, v'.ownBlock = some b ∧ w.heap.size ≤ b) := by
 intro k
 induction k with
 | zero => intro s dep at_ lo hi d g' v w h; cases h
 | succ k ih =>
  intro s dep at_ lo hi d g' v w h hs h0 h1 hd hS
  have hu58 := Try.underlying58
  have hu29 := Try.underlying29
  have hu61 := Try.underlying61
  have hu39 := Try.underlying39
  have IH := Aside0.mk ih
  clear ih
  have hdk : d + 1 + k ≤ 1000 := by omega
  have hw9 : wrap64 ((d : Int) + 1) = ((d + 1 : Nat) : Int) := Lb.w64n (by omega)
  obtain ⟨A, c, rfl, hAc, hCs⟩ := stSlice hS
  have hsl := inR_len hs
  obtain ⟨K, hK⟩ := l1Has_some s at_ (by omega)
  have HGB := Aside0.mk hgb
  have HQT := Aside0.mk hqt
  have HKD := Aside0.mk hkid
  have HLE := Aside0.mk hlen
  clear hgb hqt hkid hlen
  have hne := blk_lt hS.1
  cases hc : s.contains at_ with
  | true =>
   have hE : (⟨s, dep, true⟩ : G4) = g' := by unfold walkW at h; rw [if_pos hc] at h; exact Option.some.inj h
   subst hE
   rw [hc] at hK
   have HK := Aside0.mk hK
   have HC := Aside0.mk hCs
   have HS := Aside0.mk hS
   clear h hK hCs hc hs IH
   obtain ⟨q0_, q1_, q2_, z0_, z1_, z2_⟩ := stCells hS
   clear hS
   go_enter Try.func33, Try.ntmps33
   go_wp2_with (go_at_call 63; refine (spec_l1Has.calls K A c s at_ true _ HC.out hAc HK.out).mono ?_; rintro e w' ⟨rfl, hd_⟩; obtain ⟨m, rfl⟩ := hd_.out; clear hd_)
   ((try simp only [Exit.inBlock, Exit.then]); first | refine bodyPost_ret (results_none rfl _ _ _) rfl ?_ | refine bodyPost_end (results_none rfl _ _ _) rfl ?_)
   exact ⟨rfl, _, stBad (stBelow HS.out (pw_below_drewN (Below.refl _ _) m)) HGB.out true, keepSet (keepBelow (KeepBut.refl _ _ _) (pw_below_drewN (Below.refl _ _) m)), Or.inl rfl⟩
  | false =>
   unfold walkW at h
   rw [if_neg (by rw [hc]; decide)] at h
   have hs' := inR_snoc hs hc h0 h1
   have hmem := getD_mem h0 h1
   rw [hc] at hK
   obtain ⟨ad, A1, c1, A2, c2, ea, hx0, hx1, hx2, hl1, hi1, hl2, hi2⟩ := at_T58 hrN at_ h0 h1
   cases ea
   have hrd : rd_T58 nodes at_ = nodes.getD at_.toNat z58 := rfl
   rw [hrd] at hx0 hx1 hx2 hl1 hi1 hl2 hi2
   obtain ⟨n, hn⟩ : ∃ n, n = nodes.getD at_.toNat z58 := ⟨_, rfl⟩
   rw [← hn] at h hmem hx0 hx1 hx2 hl1 hi1 hl2 hi2
   clear hn hrd
   rcases n with ⟨lf, ks, ds⟩
   simp only at h hx0 hx1 hx2 hl1 hi1 hl2 hi2
   obtain ⟨b1, b2, b3⟩ := HLE.out _ hmem
   have b4 := HKD.out _ hmem
   simp only at b1 b2 b3 b4
   have HM := Aside0.mk hmem
   have HK := Aside0.mk hK
   have HC := Aside0.mk hCs
   have HS := Aside0.mk hS
   have HSE := Aside0.mk hs'
   have HX0 := Aside0.mk hx0
   have HX1 := Aside0.mk hx1
   have HX2 := Aside0.mk hx2
   have HI1 := Aside0.mk hi1
   have HI2 := Aside0.mk hi2
   have HH := Aside0.mk h
   have HB3 := Aside0.mk b3
   have HB4 := Aside0.mk b4
   clear h hK hCs hc hs hs' hmem hx0 hx1 hx2 hi1 hi2 b3 b4
   obtain ⟨q0_, q1_, q2_, z0_, z1_, z2_⟩ := stCells hS
   clear hS
   go_enter Try.func33, Try.ntmps33
   go_upto_region 3 with (first | (go_at_call 63; refine (spec_l1Has.calls K A c s at_ false _ HC.out hAc HK.out).mono ?_; rintro e w' ⟨rfl, hd_⟩; obtain ⟨m, rfl⟩ := hd_.out; clear hd_; have HS2 := Aside0.mk (stBelow HS.out (pw_below_drewN (Below.refl _ _) m))) | ((with_reducible refine gate_builtin (b := .append) (xs := #[.tmp 30, .tmp 32]) rfl ?_); at_builtin; refine Kd.R_append (Kd.int .i64) (w0 := w0) w0.heap.size rfl (.tmp 30) (.tmp 32) 39 2 (.int .i64 0) 8 rfl Try.underlying39 info2 rfl (by decide) (by omega) (.slice A s.length c) s at_ [.int .i64 at_] (fun _ => True) (fun _ => False) rfl rfl ?aP (fun _ hk => hk.elim) ?aF ?aO ?aB ?aS ?aL ?_; (case aP => exact rfl); (case aB => exact HS2.out.2.2); (case aF => exact (fun _ _ => trivial)); (case aO => exact HS2.out.2.1); (case aS => exact HS2.out.2.2.size); (case aL => omega); intro v5 w5 ho5 hb5 hg5 ha5; obtain ⟨A5, c5, e5_, _, _⟩ := Kd.R_reads ho5; rw [List.length_append, List.length_singleton] at e5_; subst e5_; have HS5 := Aside0.mk (stRow HS2.out HGB.out ho5 hb5 hg5); have HKB := Aside0.mk (keepSet (i := 0) (u := .slice A5 (s.length + 1) c5) (keepGrown (KeepBut.of_below (pw_below_drewN (Below.refl w.heap.size w) m) gb (Value.slice A s.length c).ownBlock) hg5 (Or.inl rfl))); have HO5 := Aside0.mk ha5; have X5 := Aside0.mk (blk_grown HS2.out.1 hg5 (Kd.R_ne HS2.out.2.1 HS2.out.1 (by decide))); obtain ⟨q0_, q1_, q2_, z0_, z1_, z2_⟩ := Lv.blks3 X5.out; clear ho5 hb5 hg5 ha5))
   generalize w5.setCell ⟨gb, 0, none⟩ (.slice A5 (s.length + 1) c5) = w6 at HS5 HKB ⊢
   clear HS HS2 X5 HC HK
   clear q0_ q1_ q2_ z0_ z1_ z2_
   have dt_ := pw_cell_below HS5.out.2.2 HQT.out
   have d0_ := pw_cell_below HS5.out.2.2 HX0.out
   have d1_ := pw_cell_below HS5.out.2.2 HX1.out
   have d2_ := pw_cell_below HS5.out.2.2 HX2.out
   go_upto_region 4 with fail
   clear dt_ d0_ d1_ d2_
   have NB := Aside0.mk (blk_new w6 (.cells #[.bool lf, .slice A1 ks.length c1, .slice A2 ds.length c2] 58))
   have HS7 := Aside0.mk (stBelow HS5.out (below_alloc (Below.refl _ _) (.cells #[.bool lf, .slice A1 ks.length c1, .slice A2 ds.length c2] 58)))
   have HK7 := Aside0.mk (keepBelow HKB.out (below_alloc (Below.refl _ _) (.cells #[.bool lf, .slice A1 ks.length c1, .slice A2 ds.length c2] 58)))
   have hnb : w6.heap.size ≠ gb := by have := blk_lt HS5.out.1; omega
   have hnw : w.heap.size ≤ w6.heap.size := HKB.out.1
   generalize w6.alloc (.cells #[.bool lf, .slice A1 ks.length c1, .slice A2 ds.length c2] 58) = w7 at NB HS7 HK7 ⊢
   generalize w6.heap.size = nb at NB hnb hnw ⊢
   have HNB := Aside0.mk hnb
   have HNW := Aside0.mk hnw
   clear HS5 HKB hnb hnw
   have hv7 : some nb ≠ (Value.slice A5 (s.length + 1) c5).ownBlock := Kd.R_ne HS7.out.2.1 NB.out (by decide)
   go_wp2
   go_loopg [13] (ks.length + 1) (fun gg v13 wr => ∃ i : Nat, v13 = .int .i64 (i : Int) ∧ Aside0 (i ≤ ks.length) ∧ Aside0 (ks.length - i < gg) ∧ Aside0 (StG w0 wr gb (.slice A5 (s.length + 1) c5) (s ++ [at_]) dep (keysBad lo hi (ks.take i))) ∧ Aside0 (wr.heap[nb]? = some (.cells #[.bool lf, .slice A1 ks.length c1, .slice A2 ds.length c2] 58)) ∧ Aside0 (KeepBut w wr gb (Value.slice A s.length c).ownBlock))
   case atStart => exact ⟨0, rfl, ⟨by omega⟩, ⟨by omega⟩, ⟨by simpa [keysBad] using HS7.out⟩, NB, HK7⟩
   case round =>
    clear HS7 NB HK7
    obtain ⟨i, rfl, HI, HG, HS, NB, HKB⟩ := hrel
    obtain ⟨q0_, q1_, q2_, z0_, z1_, z2_⟩ := stCells HS.out
    obtain ⟨n0_, n1_, n2_, y0_, y1_, y2_⟩ := Lv.blks3 NB.out
    by_cases hlt : i < ks.length
    ·have g0 : (0 : Int) ≤ (i : Int) := by omega
     have g1 : (i : Int) < (ks.length : Int) := by omega
     obtain ⟨ak, ea, hk_⟩ := Kd.at_int HI1.out (i : Int) g0 g1
     cases ea
     have hsn := keysBad_snoc (lo := lo) (hi := hi) hlt
     obtain ⟨X, hX⟩ : ∃ x, x = ks.getD i 0 := ⟨_, rfl⟩
     rw [show rd ks (i : Int) = X from hX.symm, show (i : Int).toNat = i from Int.toNat_natCast i] at hk_
     rw [← hX] at hsn
     clear hX
     replace hk_ := pw_cell_below HS.out.2.2 hk_
     by_cases p1 : X < lo
     ·have e1 : decide (X < lo) = true := decide_eq_true p1
      rw [e1] at hsn
      clear p1
      go_wp2
      go_roundg (ks.length - i)
      case measure => have := HG.out; omega
      case rel => exact ⟨i + 1, by first | rfl | rw [Lb.w64n (by omega)] | go_num, ⟨by omega⟩, ⟨by omega⟩, ⟨by rw [hsn]; exact (show StG _ _ _ _ _ _ _ from by have := stBad HS.out HGB.out true; simpa using this)⟩, ⟨blk_far NB.out HNB.out _⟩, ⟨keepSet HKB.out⟩⟩
     ·have e1 : decide (X < lo) = false := decide_eq_false p1
      rw [e1] at hsn
      clear p1
      by_cases p2 : hi ≤ X
      ·have e2 : decide (hi ≤ X) = true := decide_eq_true p2
       rw [e2] at hsn
       clear p2
       go_wp2
       go_roundg (ks.length - i)
       case measure => have := HG.out; omega
       case rel => exact ⟨i + 1, by first | rfl | rw [Lb.w64n (by omega)] | go_num, ⟨by omega⟩, ⟨by omega⟩, ⟨by rw [hsn]; exact (show StG _ _ _ _ _ _ _ from by have := stBad HS.out HGB.out true; simpa using this)⟩, ⟨blk_far NB.out HNB.out _⟩, ⟨keepSet HKB.out⟩⟩
      ·have e2 : decide (hi ≤ X) = false := decide_eq_false p2
       rw [e2] at hsn
       clear p2
       go_wp2
       go_roundg (ks.length - i)
       case measure => have := HG.out; omega
       case rel => exact ⟨i + 1, by first | rfl | rw [Lb.w64n (by omega)] | go_num, ⟨by omega⟩, ⟨by omega⟩, ⟨by rw [hsn]; exact (show StG _ _ _ _ _ _ _ from by have := HS.out; simpa using this)⟩, ⟨NB.out⟩, ⟨HKB.out⟩⟩
    ·have hik : i = ks.length := by have := HI.out; omega
     subst hik
     have c3 : decide ((ks.length : Int) < (ks.length : Int)) = false := decide_eq_false (by omega)
     rw [List.take_length] at HS
     clear HI HG hlt
     obtain ⟨B, hB⟩ : ∃ b, keysBad lo hi ks = b := ⟨_, rfl⟩
     rw [hB] at HS
     have HH1 := HH.out
     simp only [Bool.false_or] at HH1
     rw [hB] at HH1
     clear hB
     cases lf with
     | true =>
      rw [if_pos rfl] at HH1
      obtain rfl := Option.some.inj HH1
      clear HH HH1
      by_cases t1 : dep = 0
      ·subst t1
       have e1 : (((0 : Nat) : Int) != 0) = false := by decide
       have hbb : (B || (decide ((0 : Nat) ≠ 0) && decide ((0 : Nat) ≠ d))) = B := by simp
       go_wp2
       ((try simp only [Exit.inBlock, Exit.then]); first | refine bodyPost_ret (results_none rfl _ _ _) rfl ?_ | refine bodyPost_end (results_none rfl _ _ _) rfl ?_)
       exact ⟨rfl, _, (by have q := stDep HS.out HGB.out d; exact q), keepSet HKB.out, HO5.out⟩
      ·have e1 : ((dep : Int) != 0) = true := by simpa using t1
       by_cases t2 : dep = d
       ·subst t2
        have e2 : ((dep : Int) != (dep : Int)) = false := by simp
        have hbb : (B || (decide (dep ≠ 0) && decide (dep ≠ dep))) = B := by simp
        go_wp2
        ((try simp only [Exit.inBlock, Exit.then]); first | refine bodyPost_ret (results_none rfl _ _ _) rfl ?_ | refine bodyPost_end (results_none rfl _ _ _) rfl ?_)
        exact ⟨rfl, _, (by have q := stDep HS.out HGB.out dep; exact q), keepSet HKB.out, HO5.out⟩
       ·have e2 : ((dep : Int) != (d : Int)) = true := by simpa using fun e => t2 (by omega)
        have hbb : (B || (decide (dep ≠ 0) && decide (dep ≠ d))) = true := by simp [t1, t2]
        go_wp2
        ((try simp only [Exit.inBlock, Exit.then]); first | refine bodyPost_ret (results_none rfl _ _ _) rfl ?_ | refine bodyPost_end (results_none rfl _ _ _) rfl ?_)
        exact ⟨rfl, _, (by have q := stDep (stBad HS.out HGB.out true) HGB.out d; exact q), keepSet (keepSet HKB.out), HO5.out⟩
     | false =>
      rw [if_neg (by decide)] at HH1
      have b3 := HB3.out rfl
      have HH2 := Aside0.mk HH1
      clear HH HH1
      go_wp2
      go_loopg [14] (ds.length + 1) (fun gg v14 wr => ∃ (i : Nat) (v : Value) (s1 : List Int) (dep1 : Nat) (bad1 : Bool), v14 = .int .i64 (i : Int) ∧ Aside0 (i ≤ ds.length) ∧ Aside0 (ds.length - i < gg) ∧ Aside0 (kidsW (walkW nodes k) ⟨false, ks, ds⟩ lo hi d (ds.length - i) i ⟨s1, dep1, bad1⟩ = some g') ∧ Aside0 (inR nodes.length s1) ∧ Aside0 (StG w0 wr gb v s1 dep1 bad1) ∧ Aside0 (wr.heap[nb]? = some (.cells #[.bool false, .slice A1 ks.length c1, .slice A2 ds.length c2] 58)) ∧ Aside0 (KeepBut w wr gb (Value.slice A s.length c).ownBlock) ∧ Aside0 (v.ownBlock = (Value.slice A s.length c).ownBlock ∨ ∃ b, v.ownBlock = some b ∧ w.heap.size ≤ b))
      case atStart => exact ⟨0, _, _, _, _, rfl, ⟨by omega⟩, ⟨by omega⟩, HH2, HSE, HS, NB, HKB, HO5⟩
      case round =>
       clear HH2 HSE HS NB HKB HO5 hv7
       clear q0_ q1_ q2_ z0_ z1_ z2_ n0_ n1_ n2_ y0_ y1_ y2_
       obtain ⟨i, v, s1, dep1, bad1, rfl, HI, HG, HH, HSE, HS, NB, HKB, HO⟩ := hrel
       obtain ⟨q0_, q1_, q2_, z0_, z1_, z2_⟩ := stCells HS.out
       obtain ⟨n0_, n1_, n2_, y0_, y1_, y2_⟩ := Lv.blks3 NB.out
       obtain ⟨dd, hdd⟩ : ∃ m, m = ds.length - i := ⟨_, rfl⟩
       by_cases hlt : i < ds.length
       ·have c3 : decide ((i : Int) < (ds.length : Int)) = true := decide_eq_true (by omega)
        cases bad1 with
        | true =>
         have hE : (⟨s1, dep1, true⟩ : G4) = g' := by
          have := HH.out
          rw [show ds.length - i = (ds.length - (i + 1)) + 1 by omega] at this
          unfold kidsW at this
          exact Option.some.inj this
         subst hE
         go_wp2
         ((try simp only [Exit.inBlock, Exit.then]); first | refine bodyPost_ret (results_none rfl _ _ _) rfl ?_ | refine bodyPost_end (results_none rfl _ _ _) rfl ?_)
         exact ⟨rfl, _, HS.out, HKB.out, HO.out⟩
        | false =>
         have hh := HH.out
         rw [show ds.length - i = (ds.length - (i + 1)) + 1 by omega] at hh
         unfold kidsW at hh
         rw [if_neg (by simp)] at hh
         obtain ⟨g1, hw1, hh⟩ := Option.bind_eq_some_iff.1 hh
         simp only at hw1
         have g0 : (0 : Int) ≤ (i : Int) := by omega
         have g1' : (i : Int) < (ds.length : Int) := by omega
         obtain ⟨ak, ea, hk_⟩ := Kd.at_int HI2.out (i : Int) g0 g1'
         cases ea
         have hkm := HB4.out _ (kid_mem (n := ⟨false, ks, ds⟩) (i := i) hlt)
         simp only at hkm
         obtain ⟨X, hX⟩ : ∃ x, x = ds.getD i 0 := ⟨_, rfl⟩
         rw [show rd ds (i : Int) = X from hX.symm, show (i : Int).toNat = i from Int.toNat_natCast i] at hk_
         rw [← hX] at hw1 hkm
         clear hX
         replace hk_ := pw_cell_below HS.out.2.2 hk_
         have hin1 := walkW_inR k _ _ _ _ _ g1 HKD.out HSE.out hkm.1 hkm.2 hw1
         rcases g1 with ⟨s2, dep2, bad2⟩
         have HH2 := Aside0.mk hh
         have HIN := Aside0.mk hin1
         have HW1 := Aside0.mk hw1
         clear hh hin1 hw1 HH
         obtain ⟨km0, km1⟩ := hkm
         by_cases r0 : 0 < i
         ·have c4 : decide ((0 : Int) < (i : Int)) = true := decide_eq_true (by omega)
          by_cases r1 : i < ks.length
          ·have c5 : decide ((i : Int) < (ks.length : Int)) = true := decide_eq_true (by omega)
           obtain ⟨ah, ea, hh_⟩ := Kd.at_int HI1.out (i : Int) g0 (by omega)
           obtain ⟨al, eb, hl_⟩ := Kd.at_int HI1.out ((i - 1 : Nat) : Int) (by omega) (by omega)
           have e1 : wrap64 ((i : Int) - 1) = ((i - 1 : Nat) : Int) := by rw [Lb.w64 (by omega) (by omega)]; omega
           obtain rfl : ah = al := by rw [ea] at eb; exact Option.some.inj eb
           cases ea
           obtain ⟨Z, hZ⟩ : ∃ x, x = ks.getD (i - 1) 0 := ⟨_, rfl⟩
           rw [show rd ks ((i - 1 : Nat) : Int) = Z from hZ.symm, show ((i - 1 : Nat) : Int).toNat = i - 1 from Int.toNat_natCast _] at hl_
           replace hl_ := pw_cell_below HS.out.2.2 hl_
           obtain ⟨Y, hY⟩ : ∃ x, x = ks.getD i 0 := ⟨_, rfl⟩
           rw [show rd ks (i : Int) = Y from hY.symm, show (i : Int).toNat = i from Int.toNat_natCast i] at hh_
           replace hh_ := pw_cell_below HS.out.2.2 hh_
           have hlo : loK ⟨false, ks, ds⟩ lo i = Z := by unfold loK; rw [if_pos r0]; exact hZ.symm
           have hhi : hiK ⟨false, ks, ds⟩ hi i = Y := by unfold hiK; rw [if_pos r1]; exact hY.symm
           rw [hlo, hhi] at HW1
           clear hlo hhi hZ hY
           go_wp2_with (go_at_call 33; refine (IH.out s1 dep1 X _ _ (d + 1) ⟨s2, dep2, bad2⟩ v wr HW1.out HSE.out km0 km1 hdk HS.out).mono ?_; rintro e w2 ⟨rfl, v2, hS2, hK2, hO2⟩)
           have NB2 := hK2.blk NB.out HNB.out (Kd.R_ne HS.out.2.1 NB.out (by decide))
           go_roundg (ds.length - i)
           case measure => have := HG.out; omega
           case rel => exact ⟨i + 1, v2, s2, dep2, bad2, by first | rfl | rw [Lb.w64n (by omega)] | go_num, ⟨by omega⟩, ⟨by omega⟩, HH2, HIN, ⟨hS2⟩, ⟨NB2⟩, ⟨HKB.out.trans hK2 HO.out⟩, ⟨ownMove HO.out HKB.out.1 hO2⟩⟩
          ·have c5 : decide ((i : Int) < (ks.length : Int)) = false := decide_eq_false (by omega)
           obtain ⟨al, eb, hl_⟩ := Kd.at_int HI1.out ((i - 1 : Nat) : Int) (by omega) (by omega)
           have e1 : wrap64 ((i : Int) - 1) = ((i - 1 : Nat) : Int) := by rw [Lb.w64 (by omega) (by omega)]; omega
           cases eb
           obtain ⟨Z, hZ⟩ : ∃ x, x = ks.getD (i - 1) 0 := ⟨_, rfl⟩
           rw [show rd ks ((i - 1 : Nat) : Int) = Z from hZ.symm, show ((i - 1 : Nat) : Int).toNat = i - 1 from Int.toNat_natCast _] at hl_
           replace hl_ := pw_cell_below HS.out.2.2 hl_
           have hlo : loK ⟨false, ks, ds⟩ lo i = Z := by unfold loK; rw [if_pos r0]; exact hZ.symm
           have hhi : hiK ⟨false, ks, ds⟩ hi i = hi := by unfold hiK; rw [if_neg r1]
           rw [hlo, hhi] at HW1
           clear hlo hhi hZ
           go_wp2_with (go_at_call 33; refine (IH.out s1 dep1 X _ _ (d + 1) ⟨s2, dep2, bad2⟩ v wr HW1.out HSE.out km0 km1 hdk HS.out).mono ?_; rintro e w2 ⟨rfl, v2, hS2, hK2, hO2⟩)
           have NB2 := hK2.blk NB.out HNB.out (Kd.R_ne HS.out.2.1 NB.out (by decide))
           go_roundg (ds.length - i)
           case measure => have := HG.out; omega
           case rel => exact ⟨i + 1, v2, s2, dep2, bad2, by first | rfl | rw [Lb.w64n (by omega)] | go_num, ⟨by omega⟩, ⟨by omega⟩, HH2, HIN, ⟨hS2⟩, ⟨NB2⟩, ⟨HKB.out.trans hK2 HO.out⟩, ⟨ownMove HO.out HKB.out.1 hO2⟩⟩
         ·have c4 : decide ((0 : Int) < (i : Int)) = false := decide_eq_false (by omega)
          by_cases r1 : i < ks.length
          ·have c5 : decide ((i : Int) < (ks.length : Int)) = true := decide_eq_true (by omega)
           obtain ⟨ah, ea, hh_⟩ := Kd.at_int HI1.out (i : Int) g0 (by omega)
           cases ea
           obtain ⟨Y, hY⟩ : ∃ x, x = ks.getD i 0 := ⟨_, rfl⟩
           rw [show rd ks (i : Int) = Y from hY.symm, show (i : Int).toNat = i from Int.toNat_natCast i] at hh_
           replace hh_ := pw_cell_below HS.out.2.2 hh_
           have hlo : loK ⟨false, ks, ds⟩ lo i = lo := by unfold loK; rw [if_neg r0]
           have hhi : hiK ⟨false, ks, ds⟩ hi i = Y := by unfold hiK; rw [if_pos r1]; exact hY.symm
           rw [hlo, hhi] at HW1
           clear hlo hhi hY
           go_wp2_with (go_at_call 33; refine (IH.out s1 dep1 X _ _ (d + 1) ⟨s2, dep2, bad2⟩ v wr HW1.out HSE.out km0 km1 hdk HS.out).mono ?_; rintro e w2 ⟨rfl, v2, hS2, hK2, hO2⟩)
           have NB2 := hK2.blk NB.out HNB.out (Kd.R_ne HS.out.2.1 NB.out (by decide))
           go_roundg (ds.length - i)
           case measure => have := HG.out; omega
           case rel => exact ⟨i + 1, v2, s2, dep2, bad2, by first | rfl | rw [Lb.w64n (by omega)] | go_num, ⟨by omega⟩, ⟨by omega⟩, HH2, HIN, ⟨hS2⟩, ⟨NB2⟩, ⟨HKB.out.trans hK2 HO.out⟩, ⟨ownMove HO.out HKB.out.1 hO2⟩⟩
          ·have c5 : decide ((i : Int) < (ks.length : Int)) = false := decide_eq_false (by omega)
           have hlo : loK ⟨false, ks, ds⟩ lo i = lo := by unfold loK; rw [if_neg r0]
           have hhi : hiK ⟨false, ks, ds⟩ hi i = hi := by unfold hiK; rw [if_neg r1]
           rw [hlo, hhi] at HW1
           clear hlo hhi
           go_wp2_with (go_at_call 33; refine (IH.out s1 dep1 X _ _ (d + 1) ⟨s2, dep2, bad2⟩ v wr HW1.out HSE.out km0 km1 hdk HS.out).mono ?_; rintro e w2 ⟨rfl, v2, hS2, hK2, hO2⟩)
           have NB2 := hK2.blk NB.out HNB.out (Kd.R_ne HS.out.2.1 NB.out (by decide))
           go_roundg (ds.length - i)
           case measure => have := HG.out; omega
           case rel => exact ⟨i + 1, v2, s2, dep2, bad2, by first | rfl | rw [Lb.w64n (by omega)] | go_num, ⟨by omega⟩, ⟨by omega⟩, HH2, HIN, ⟨hS2⟩, ⟨NB2⟩, ⟨HKB.out.trans hK2 HO.out⟩, ⟨ownMove HO.out HKB.out.1 hO2⟩⟩
       ·have c3 : decide ((i : Int) < (ds.length : Int)) = false := decide_eq_false (by omega)
        have hE : (⟨s1, dep1, bad1⟩ : G4) = g' := by
         have := HH.out
         rw [show ds.length - i = 0 by omega] at this
         unfold kidsW at this
         exact Option.some.inj this
        subst hE
        go_wp2
        ((try simp only [Exit.inBlock, Exit.then]); first | refine bodyPost_ret (results_none rfl _ _ _) rfl ?_ | refine bodyPost_end (results_none rfl _ _ _) rfl ?_)
        exact ⟨rfl, _, HS.out, HKB.out, HO.out⟩


/-! ### spec_TreeFault: function 10 -/
-- PROOF --
-- NEEDS Derived.Test.YtdhdgkonghefeaaLb
-- NEEDS Derived.Test.YtdhdgkonghefeaaLv
-- NEEDS Derived.IntWalk
-- NEEDS Derived.Shelf.Abstract
-- NEEDS Derived.Test.YtdhdgkonghefeaaZz
theorem scanI_all {f : Nat → Int} : ∀ m i, scanI f m i = 0 → ∀ j, i ≤ j → j < i + m → f j = 0
 | 0, i, _, j, h1, h2 => by omega
 | m + 1, i, h, j, h1, h2 => by
  unfold scanI at h
  by_cases hf : f i = 0
  ·rw [if_pos hf] at h
   by_cases hj : j = i
   ·subst hj; exact hf
   ·exact scanI_all m (i + 1) h j (by omega) (by omega)
  ·rw [if_neg hf] at h; exact absurd h hf
theorem inB_iff {a lo hi : Int} : inB a lo hi = true ↔ lo ≤ a ∧ a ≤ hi := by simp [inB]
theorem countsB_ok {n : S58} (h : countsB n = true) : n.f1.length ≤ 3 ∧ n.f2.length ≤ 4 ∧ (n.f0 = false → n.f2.length = n.f1.length + 1) := by
 unfold countsB at h
 cases hb : n.f0 with
 | true => rw [hb, if_pos rfl] at h; simp only [Bool.and_eq_true, decide_eq_true_eq] at h; exact ⟨by omega, by omega, fun e => by cases e⟩
 | false => rw [hb, if_neg (by decide)] at h; simp only [Bool.and_eq_true, decide_eq_true_eq] at h; exact ⟨by omega, by omega, fun _ => by omega⟩
theorem nodeF_ok {nn : Nat} {n : S58} (h1 : 1 ≤ nn) (h2 : nn ≤ 60) (h : nodeF nn n = 0) : countsB n = true ∧ scanI (keyF n.f1) n.f1.length 0 = 0 ∧ scanI (riseF n.f1) (n.f1.length - 1) 1 = 0 ∧ ∀ d ∈ n.f2, 0 ≤ d ∧ d < (nn : Int) := by
 unfold nodeF at h
 by_cases hc : countsB n = true
 ·rw [if_pos hc] at h
  by_cases hk : scanI (keyF n.f1) n.f1.length 0 = 0
  ·rw [if_pos hk] at h
   by_cases hd : scanI (kidF nn n.f2) n.f2.length 0 = 0
   ·rw [if_pos hd] at h
    refine ⟨hc, hk, h, fun d hm => ?_⟩
    obtain ⟨i, hi, rfl⟩ := List.mem_iff_getElem.1 hm
    have := scanI_all _ _ hd i (by omega) (by omega)
    unfold kidF at this
    rw [Lb.getD_at hi, Lb.w64 (by omega) (by omega)] at this
    by_cases hb : inB n.f2[i] 0 ((nn : Int) - 1) = true
    ·have := inB_iff.1 hb; omega
    ·rw [if_neg hb] at this; cases this
   ·rw [if_neg hd] at h; exact absurd h hd
  ·rw [if_neg hk] at h; exact absurd h hk
 ·rw [if_neg hc] at h; cases h
theorem nodes_ok {nodes : List S58} (h1 : 1 ≤ nodes.length) (h2 : nodes.length ≤ 60) (h : scanI (fun i => nodeF nodes.length (nodes.getD i z58)) nodes.length 0 = 0) : (∀ n ∈ nodes, n.f1.length ≤ 3 ∧ n.f2.length ≤ 4 ∧ (n.f0 = false → n.f2.length = n.f1.length + 1)) ∧ kidsOk nodes := by
 have ha : ∀ n ∈ nodes, nodeF nodes.length n = 0 := fun n hn => by
  obtain ⟨i, hi, rfl⟩ := List.mem_iff_getElem.1 hn
  have := scanI_all _ _ h i (by omega) (by omega)
  rwa [Lb.getD_at hi] at this
 exact ⟨fun n hn => countsB_ok (nodeF_ok h1 h2 (ha n hn)).1, fun n hn => (nodeF_ok h1 h2 (ha n hn)).2.2.2⟩
set_option maxHeartbeats 8000000 in
set_option maxRecDepth 100000 in
theorem spec_TreeFault.calls (a0_0 : Int) (A0_1 : Option Addr) (c0_1 : Nat) (l0_1 : List (S58)) (r : Int) (w : World) (hr0_1 : Kd.C k58 w A0_1 l0_1.length l0_1) (hc0_1 : l0_1.length ≤ c0_1) (h : spec_TreeFault.f a0_0 l0_1 = some r) :
  Calls Try.prog 10 #[.agg #[.int .i64 a0_0, .slice A0_1 l0_1.length c0_1]] w fun e w' => e = .returned (.int .i64 r) ∧ Below w.heap.size w w' := by
 have h := Option.some.inj h
 have hu29 := Try.underlying29
 have hu58 := Try.underlying58
 have hu61 := Try.underlying61
 obtain ⟨nodes, hnodes⟩ : ∃ n, n = l0_1 := ⟨_, rfl⟩
 subst hnodes
 unfold treeF at h
 have HR := Aside0.mk hr0_1
 clear hr0_1
 have BW := Aside0.mk (below_alloc (Below.refl w.heap.size w) (.cells #[.int .i64 a0_0, .slice A0_1 nodes.length c0_1] 29))
 have BX := Aside0.mk (blk_new w (.cells #[.int .i64 a0_0, .slice A0_1 nodes.length c0_1] 29))
 by_cases h1 : (nodes.length : Int) < 1
 ·rw [if_pos h1] at h
  subst h
  have e1 : decide ((nodes.length : Int) < 1) = true := decide_eq_true h1
  clear h1
  go_enter Try.func10, Try.ntmps10
  go_wp2
  go_ret
  exact ⟨rfl, BW.out⟩
 rw [if_neg h1] at h
 have e1 : decide ((nodes.length : Int) < 1) = false := decide_eq_false h1
 by_cases h2 : (60 : Int) < (nodes.length : Int)
 ·rw [if_pos h2] at h
  subst h
  have e2 : decide ((60 : Int) < (nodes.length : Int)) = true := decide_eq_true h2
  clear h1 h2
  go_enter Try.func10, Try.ntmps10
  go_wp2
  go_ret
  exact ⟨rfl, BW.out⟩
 rw [if_neg h2] at h
 have e2 : decide ((60 : Int) < (nodes.length : Int)) = false := decide_eq_false h2
 have hn1 : 1 ≤ nodes.length := by omega
 have hn2 : nodes.length ≤ 60 := by omega
 have hnk := nodes_ok hn1 hn2
 have hw9 : wrap64 ((nodes.length : Int) - 1) = (nodes.length : Int) - 1 := Lb.w64 (by omega) (by omega)
 rw [hw9] at h
 clear h1 h2
 obtain ⟨q, hq⟩ : ∃ q, scanI (fun i => nodeF nodes.length (nodes.getD i z58)) nodes.length 0 = q := ⟨_, rfl⟩
 rw [hq] at h hnk
 have HH := Aside0.mk h
 have HQ := Aside0.mk hq
 have HNK := Aside0.mk hnk
 clear h hq hnk
 go_enter Try.func10, Try.ntmps10
 go_wp2
 generalize w.alloc (.cells #[.int .i64 a0_0, .slice A0_1 nodes.length c0_1] 29) = W0 at BW BX ⊢
 have hgb := blk_lt BX.out
 have HGB := Aside0.mk hgb
 have HB0 := Aside0.mk (Below.refl W0.heap.size W0)
 go_loopg [3] (nodes.length + 1) (fun gg v3 wr => ∃ i : Nat, v3 = .int .i64 (i : Int) ∧ Aside0 (i ≤ nodes.length) ∧ Aside0 (nodes.length - i < gg) ∧ Aside0 (scanI (fun i => nodeF nodes.length (nodes.getD i z58)) (nodes.length - i) i = q) ∧ Aside0 (Below W0.heap.size W0 wr))
 case atStart => exact ⟨0, rfl, ⟨by omega⟩, ⟨by omega⟩, ⟨by rw [Nat.sub_zero]; exact HQ.out⟩, HB0⟩
 case round =>
  clear HQ HB0 hgb
  obtain ⟨i, rfl, HI, HG, HQ, HB⟩ := hrel
  have X0 := Aside0.mk (blk_below BX.out HB.out)
  obtain ⟨t0_, t1_, y0_, y1_⟩ := Lv.blks2 X0.out
  have HRr := Aside0.mk (Kd.C_below HR.out (below_step BW.out HB.out))
  by_cases hlt : i < nodes.length
  ·have g0 : (0 : Int) ≤ (i : Int) := by omega
   have g1 : (i : Int) < (nodes.length : Int) := by omega
   obtain ⟨ad, A1, c1, A2, c2, ea, hx0, hx1, hx2, hl1, hi1, hl2, hi2⟩ := at_T58 HRr.out (i : Int) g0 g1
   cases ea
   have hrd : rd_T58 nodes (i : Int) = nodes.getD i z58 := by unfold rd_T58; rw [Int.toNat_natCast]
   rw [hrd, Int.toNat_natCast] at hx0 hx1 hx2
   rw [hrd] at hl1 hi1 hl2 hi2
   obtain ⟨n, hn⟩ : ∃ n, n = nodes.getD i z58 := ⟨_, rfl⟩
   rw [← hn] at hx0 hx1 hx2 hl1 hi1 hl2 hi2
   have hF : (fun i => nodeF nodes.length (nodes.getD i z58)) i = nodeF nodes.length n := by rw [hn]
   obtain ⟨cc, hcc⟩ : ∃ x, x = nodeF nodes.length n := ⟨_, rfl⟩
   rw [← hcc] at hF
   have HCC := Aside0.mk hcc
   have HX0 := Aside0.mk hx0
   have HX1 := Aside0.mk hx1
   have HX2 := Aside0.mk hx2
   have HI1 := Aside0.mk hi1
   have HI2 := Aside0.mk hi2
   clear hn hrd hcc hx0 hx1 hx2 hi1 hi2
   by_cases hz : cc = 0
   ·have HS := Aside0.mk (scan_next HQ.out hlt (hF.trans hz))
    have e3 : (cc != 0) = false := by simp [hz]
    clear hF
    go_wp2_with (go_at_call 31; refine (spec_l4Node.at ⟨w.heap.size, 0, none⟩ (ad.add (i * 3)) n nodes.length c0_1 c1 c2 (some ad) A1 A2 wr t1_ HX0.out HX1.out HX2.out HI1.out HI2.out).mono ?_; rintro e w2 ⟨rfl, hb2⟩; rw [← HCC.out]; have HB2 := Aside0.mk (below_step HB.out hb2); clear hb2)
    go_roundg (nodes.length - i)
    case measure => have := HG.out; omega
    case rel => exact ⟨i + 1, by first | rfl | rw [Lb.w64n (by omega)] | go_num, ⟨by omega⟩, ⟨by omega⟩, HS, HB2⟩
   ·have HS := scan_ret HQ.out hlt hF hz
    have e3 : (cc != 0) = true := by simpa using hz
    have hr : cc = r := by have := HH.out; rw [HS, if_neg hz] at this; exact this
    clear hF hz HS
    go_wp2_with (go_at_call 31; refine (spec_l4Node.at ⟨w.heap.size, 0, none⟩ (ad.add (i * 3)) n nodes.length c0_1 c1 c2 (some ad) A1 A2 wr t1_ HX0.out HX1.out HX2.out HI1.out HI2.out).mono ?_; rintro e w2 ⟨rfl, hb2⟩; rw [← HCC.out]; have HB2 := Aside0.mk (below_step HB.out hb2); clear hb2)
    go_ret
    exact ⟨by first | rfl | (rw [hr]; rfl), below_step BW.out HB2.out⟩
  ·have hq0 := scan_end HQ.out (by omega)
   have c3 : decide ((i : Int) < (nodes.length : Int)) = false := decide_eq_false (by omega)
   have c4 : decide (i < nodes.length) = false := decide_eq_false hlt
   subst hq0
   have hh := HH.out
   rw [if_pos rfl] at hh
   obtain ⟨hlen, hkid⟩ := HNK.out rfl
   have HLN := Aside0.mk hlen
   have HKD := Aside0.mk hkid
   clear HH HQ HNK HG HI hlt hlen hkid
   cases hib : inB a0_0 0 ((nodes.length : Int) - 1) with
   | false =>
    rw [if_neg (by rw [hib]; decide)] at hh
    have HIB := Aside0.mk hib
    clear hib
    subst hh
    go_wp2_with (go_at_call 32; refine (spec_l1In.calls _ _ _ _ _ (l1In_f _ _ _)).mono ?_; rintro e w2 ⟨rfl, hd_⟩; obtain ⟨m, rfl⟩ := hd_.out; clear hd_; rw [HIB.out])
    go_ret
    exact ⟨rfl, below_step BW.out (pw_below_drewN HB.out m)⟩
   | true =>
    rw [if_pos hib] at hh
    have hin := inB_iff.1 hib
    obtain ⟨hr0, hr1⟩ := hin
    obtain ⟨g', hw, hin2, -⟩ := walkW_some HKD.out 61 ⟨[], 0, false⟩ a0_0 0 10001 1 ⟨List.nodup_nil, fun x hx => absurd hx (by simp)⟩ hr0 (by omega) (by simp only [List.length_nil]; omega)
    have HIB := Aside0.mk hib
    have HW := Aside0.mk hw
    rw [hw] at hh
    clear hib hw
    have hr2 : a0_0 < (nodes.length : Int) := by omega
    rcases g' with ⟨s2, dep2, bad2⟩
    simp only [treeEnd] at hh
    have hsl := inR_len hin2
    simp only at hsl
    clear hin2
    go_upto_region 11 with (go_at_call 32; refine (spec_l1In.calls _ _ _ _ _ (l1In_f _ _ _)).mono ?_; rintro e w2 ⟨rfl, hd_⟩; obtain ⟨m, rfl⟩ := hd_.out; clear hd_; rw [HIB.out])
    have HBm := Aside0.mk (pw_below_drewN HB.out m)
    have XM := Aside0.mk (blk_drewN X0.out m)
    have HRM := Aside0.mk (Kd.C_drewN HRr.out m)
    clear HB X0 HRr t0_ t1_ y0_ y1_
    try rw [show wr.heap.size = (wr.drewN m).heap.size from rfl]
    generalize wr.drewN m = W1 at HBm XM HRM ⊢
    obtain ⟨t0_, t1_, y0_, y1_⟩ := Lv.blks2 XM.out
    have T1 := Aside0.mk t1_
    go_upto_region 12 with fail
    clear t0_ t1_ y0_ y1_
    have HS := Aside0.mk (show StG W1 (W1.alloc (.cells #[.slice none 0 0, .int .i64 0, .bool false] 61)) W1.heap.size (.slice none 0 0) [] 0 false from ⟨blk_new W1 _, Kd.R_nil _ _ _ _ _, below_alloc (Below.refl _ _) _⟩)
    generalize W1.alloc (.cells #[.slice none 0 0, .int .i64 0, .bool false] 61) = W2 at HS ⊢
    generalize hgb : W1.heap.size = gb at HS ⊢
    have X2 := Aside0.mk (blk_below XM.out HS.out.2.2)
    obtain ⟨t0_, t1_, y0_, y1_⟩ := Lv.blks2 X2.out
    have HGB2 := Aside0.mk (Nat.le_of_eq hgb)
    cases bad2 with
    | true =>
     rw [if_pos rfl] at hh
     subst hh
     go_wp2_with (go_at_call 33; refine (spec_l4Walk.at (w0 := W1) (tp := ⟨w.heap.size, 0, none⟩) (gb := gb) T1.out HRM.out HGB2.out hn2 HLN.out HKD.out 61 [] 0 a0_0 0 10001 1 ⟨s2, dep2, _⟩ _ W2 HW.out ⟨List.nodup_nil, fun x hx => absurd hx (by simp)⟩ hr0 hr2 (by omega) HS.out).mono ?_; rintro e w3 ⟨rfl, v3, hS3, -, -⟩; have HS3 := Aside0.mk hS3; obtain ⟨q0_, q1_, q2_, z0_, z1_, z2_⟩ := stCells hS3; obtain ⟨A3, c3, e3_, _, _⟩ := stSlice hS3; subst e3_; have d1_ := pw_cell_below HS3.out.2.2 T1.out; clear hS3)
     go_ret
     exact ⟨rfl, below_step BW.out (below_step HBm.out HS3.out.2.2)⟩
    | false =>
     rw [if_neg (by decide)] at hh
     by_cases hs : (s2.length : Int) = (nodes.length : Int)
     ·rw [if_pos hs] at hh
      subst hh
      have e5 : ((s2.length : Int) != (nodes.length : Int)) = false := by simpa using hs
      have e6 : (s2.length != nodes.length) = false := by simpa using (by omega : s2.length = nodes.length)
      clear hs
      go_wp2_with (go_at_call 33; refine (spec_l4Walk.at (w0 := W1) (tp := ⟨w.heap.size, 0, none⟩) (gb := gb) T1.out HRM.out HGB2.out hn2 HLN.out HKD.out 61 [] 0 a0_0 0 10001 1 ⟨s2, dep2, _⟩ _ W2 HW.out ⟨List.nodup_nil, fun x hx => absurd hx (by simp)⟩ hr0 hr2 (by omega) HS.out).mono ?_; rintro e w3 ⟨rfl, v3, hS3, -, -⟩; have HS3 := Aside0.mk hS3; obtain ⟨q0_, q1_, q2_, z0_, z1_, z2_⟩ := stCells hS3; obtain ⟨A3, c3, e3_, _, _⟩ := stSlice hS3; subst e3_; have d1_ := pw_cell_below HS3.out.2.2 T1.out; clear hS3)
      go_ret
      exact ⟨rfl, below_step BW.out (below_step HBm.out HS3.out.2.2)⟩
     ·rw [if_neg hs] at hh
      subst hh
      have e5 : ((s2.length : Int) != (nodes.length : Int)) = true := by simpa using hs
      have e6 : (s2.length != nodes.length) = true := by simpa using fun e => hs (by omega)
      clear hs
      go_wp2_with (go_at_call 33; refine (spec_l4Walk.at (w0 := W1) (tp := ⟨w.heap.size, 0, none⟩) (gb := gb) T1.out HRM.out HGB2.out hn2 HLN.out HKD.out 61 [] 0 a0_0 0 10001 1 ⟨s2, dep2, _⟩ _ W2 HW.out ⟨List.nodup_nil, fun x hx => absurd hx (by simp)⟩ hr0 hr2 (by omega) HS.out).mono ?_; rintro e w3 ⟨rfl, v3, hS3, -, -⟩; have HS3 := Aside0.mk hS3; obtain ⟨q0_, q1_, q2_, z0_, z1_, z2_⟩ := stCells hS3; obtain ⟨A3, c3, e3_, _, _⟩ := stSlice hS3; subst e3_; have d1_ := pw_cell_below HS3.out.2.2 T1.out; clear hS3)
      go_ret
      exact ⟨rfl, below_step BW.out (below_step HBm.out HS3.out.2.2)⟩


/-! ### slices_IndexFunc_int64: function 65 -/
-- PROOF --
-- NEEDS Derived.Test.@N@Lb
-- NEEDS Derived.Shelf.Abstract
set_option maxHeartbeats 8000000 in
set_option maxRecDepth 100000 in
theorem slices_IndexFunc_int64.calls (g : Nat) (lb : Array Value) (p : Int → Bool) (A0 : Option Addr) (c0 : Nat) (l0 : List Int) (w : World) (hr0 : Kd.C (Kd.int .i64) w A0 l0.length l0)
  (hp : ∀ (W : World) (x : Int), x ∈ l0 → Below w.heap.size w W → Calls Try.prog g (#[.int .i64 x] ++ lb) W fun e w' => e = .returned (.bool (p x)) ∧ Below W.heap.size W w')
  (eg : ∀ args w, (callFunc g args).run Try.prog w = .ok (.enter g args) w) :
  Calls Try.prog 65 #[.slice A0 l0.length c0, .func (.func g) #[] lb] w fun e w' => e = .returned (.int .i64 (Go.Proofs.Ytdhdgkonghefeaa.Lb.idx p l0)) ∧ Below w.heap.size w w' := by
 have hn := hr0.2.1
 have HR0 := Aside0.mk hr0
 clear hr0
 go_enter Try.func65, Try.ntmps65
 go_wp2
 go_loopg [5, 8] (l0.length + 1) (fun gg _ s8 wr => ∃ x : Int, 0 ≤ x ∧ x ≤ (l0.length : Int) ∧ Aside0 (l0.length + 1 - x.toNat ≤ gg) ∧ s8 = .int .i64 x ∧ Aside0 (Below w.heap.size w wr) ∧ Aside0 (∀ j : Nat, j < x.toNat → p (l0.getD j 0) = false))
 case atStart => exact ⟨0, by omega, by omega, ⟨by simp⟩, rfl, ⟨Below.refl _ _⟩, ⟨fun j hj => by simp at hj⟩⟩
 case round =>
  obtain ⟨x, hx0, hx1, HG, rfl, HB, HA⟩ := hrel
  by_cases c3 : x < (l0.length : Int)
  ·have c3b0 : decide (x < (l0.length : Int)) = true := decide_eq_true c3
   have c4b0 : decide (0 ≤ x) = true := decide_eq_true hx0
   obtain ⟨ad, e1, q0⟩ := Kd.at_int HR0.out x hx0 c3
   cases e1
   replace q0 := (HB.out.cell (World.block_lt_of_cell? w _ q0)).trans q0
   have hx : x.toNat < l0.length := by omega
   have hrd : rd l0 x = l0.getD x.toNat 0 := rfl
   have hcall := hp wr (rd l0 x) (by rw [hrd, List.getD_eq_getElem?_getD, List.getElem?_eq_getElem hx]; exact List.getElem_mem hx) HB.out
   clear hp hrd
   cases hq : p (rd l0 x) with
   | true =>
    rw [hq] at hcall
    have HQ := Aside0.mk hq
    clear hq
    go_wp2_with (go_at_fn g; refine hcall.mono ?_; rintro e w' ⟨rfl, hb'⟩)
    go_ret
    refine ⟨?_, HB.out.trans (hb'.mono HB.out.size)⟩
    unfold Go.Proofs.Ytdhdgkonghefeaa.Lb.idx
    rw [Go.Proofs.Ytdhdgkonghefeaa.Lb.idx_hit p 0 l0 x.toNat 0 hx HA.out HQ.out]
    rw [show (0 : Int) + (x.toNat : Int) = x by omega]
    rfl
   | false =>
    rw [hq] at hcall
    have HQ := Aside0.mk hq
    clear hq
    go_wp2_with (go_at_fn g; refine hcall.mono ?_; rintro e w' ⟨rfl, hb'⟩)
    go_roundg (l0.length + 1 - (x + 1).toNat)
    case measure => have := HG.out; omega
    case rel => exact ⟨x + 1, by omega, by omega, ⟨by omega⟩, by first | rfl | go_num, ⟨HB.out.trans (hb'.mono HB.out.size)⟩, ⟨fun j hj => by
     by_cases e : j = x.toNat
     ·subst e; exact HQ.out
     ·exact HA.out j (by omega)⟩⟩
  ·have hxx : x = (l0.length : Int) := by omega
   have c3b0 : decide (x < (l0.length : Int)) = false := decide_eq_false c3
   have hm : Go.Proofs.Ytdhdgkonghefeaa.Lb.idx p l0 = -1 := by
    unfold Go.Proofs.Ytdhdgkonghefeaa.Lb.idx
    exact Go.Proofs.Ytdhdgkonghefeaa.Lb.idx_miss p 0 l0 0 (fun j hj => HA.out j (by omega))
   have HM := Aside0.mk hm
   clear hm
   have HX := Aside0.mk hxx
   clear hxx
   go_wp2
   go_ret
   exact ⟨by rw [HM.out]; rfl, HB.out⟩

/-! ### slices_ContainsFunc_int64: function 35 -/
-- PROOF --
-- NEEDS Derived.Test.@N@Lb
-- NEEDS Derived.Shelf.Abstract
set_option maxHeartbeats 8000000 in
set_option maxRecDepth 100000 in
theorem slices_ContainsFunc_int64.calls (g : Nat) (lb : Array Value) (p : Int → Bool) (A0 : Option Addr) (c0 : Nat) (l0 : List Int) (w : World) (hr0 : Kd.C (Kd.int .i64) w A0 l0.length l0)
  (hp : ∀ (W : World) (x : Int), x ∈ l0 → Below w.heap.size w W → Calls Try.prog g (#[.int .i64 x] ++ lb) W fun e w' => e = .returned (.bool (p x)) ∧ Below W.heap.size W w')
  (eg : ∀ args w, (callFunc g args).run Try.prog w = .ok (.enter g args) w) :
  Calls Try.prog 35 #[.slice A0 l0.length c0, .func (.func g) #[] lb] w fun e w' => e = .returned (.bool (l0.any p)) ∧ Below w.heap.size w w' := by
 have hcon := slices_IndexFunc_int64.calls g lb p A0 c0 l0 w hr0 hp eg
 rw [← Go.Proofs.Ytdhdgkonghefeaa.Lb.idx_any p l0]
 clear hr0 hp
 generalize Go.Proofs.Ytdhdgkonghefeaa.Lb.idx p l0 = r at hcon ⊢
 have HC := Aside0.mk hcon
 clear hcon
 go_enter Try.func35, Try.ntmps35
 go_wp2_with (go_at_call 65; refine HC.out.mono ?_; rintro e w' ⟨rfl, hb'⟩)
 go_ret
 exact ⟨rfl, hb'⟩

/-! ### impl_within: function 55 -/
set_option maxHeartbeats 8000000 in
set_option maxRecDepth 100000 in
theorem impl_within.calls (a0 : Int) (a1 : Int) (a2 : Int) (r : Bool) (w : World) (h : impl_within.f a0 a1 a2 = some r) :
  Calls Try.prog 55 #[.int .i64 a0, .int .i64 a1, .int .i64 a2] w fun e w' => e = .returned (.bool r) ∧ Drawn0 w w' := by
 have H : (if a1 ≤ a0 then (some (decide (a0 ≤ a2))) else (some false)) = some r := h
 clear h
 by_cases c4 : a1 ≤ a0
 ·rw [if_pos c4] at H
  have c4b0 : decide (a1 ≤ a0) = true := decide_eq_true c4
  clear c4
  obtain rfl := Option.some.inj H
  go_enter Try.func55, Try.ntmps55
  go_wp2
  go_ret
  exact ⟨by first | rfl | (simp; done) | (simp [*]; done), by repeat (first | exact Drawn0.refl _ | apply Drawn0.step)⟩
 ·rw [if_neg c4] at H
  have c4b0 : decide (a1 ≤ a0) = false := decide_eq_false c4
  clear c4
  obtain rfl := Option.some.inj H
  go_enter Try.func55, Try.ntmps55
  go_wp2
  go_ret
  exact ⟨by first | rfl | (simp; done) | (simp [*]; done), by repeat (first | exact Drawn0.refl _ | apply Drawn0.step)⟩

-- NEEDS Derived.Test.@N@Lv
/-! ### impl_Tree_hasNode: function 39 -/
set_option maxHeartbeats 8000000 in
set_option maxRecDepth 100000 in
theorem impl_Tree_hasNode.calls (a0_0 : Int) (A0_1 : Option Addr) (c0_1 : Nat) (l0_1 : List (S58)) (a1 : Int) (r : Bool) (w : World) (hr0_1 : Kd.C k58 w A0_1 l0_1.length l0_1) (hc0_1 : l0_1.length ≤ c0_1) (h : impl_Tree_hasNode.f a0_0 l0_1 a1 = some r) :
  Calls Try.prog 39 #[.agg #[.int .i64 a0_0, .slice A0_1 l0_1.length c0_1], .int .i64 a1] w fun e w' => e = .returned (.bool r) ∧ Below w.heap.size w w' := by
 have hu29 := Try.underlying29
 have HR0_1 := Aside0.mk hr0_1
 have HC0_1 := Aside0.mk hc0_1
 clear hr0_1 hc0_1
 have HB := Aside0.mk (Below.refl w.heap.size w)
 have H : ((impl_within.f a1 0 (wrap64 ((l0_1.length : Int) - 1))).bind fun t143 => (some t143)) = some r := h
 clear h
 replace H := Option.bind_eq_some_iff.mp H
 obtain ⟨t143, A30, H⟩ := H
 replace H : (some t143) = some r := H
 have A3 := Aside0.mk A30
 clear A30
 obtain rfl := Option.some.inj H
 go_enter Try.func39, Try.ntmps39
 go_wp2_with (first | ((with_reducible refine gate_dst (N := 2) rfl ?_); refine box_event ?hg (N := 2) ?hd (cs := #[.int .i64 a0_0, .slice A0_1 l0_1.length c0_1]) (t := 29) ?hr ?_; (case hd => rfl); (case hg => rfl); (case hr => first | (go_simp; done) | (go_simp; rfl)); intro gb142 hg w4 hbox hb; have n0_ := Aside0.mk (below_step (by repeat (first | (with_reducible first | exact HB.out | apply below_alloc | apply pw_below_drewN | apply below_drew1) | exact HB.out)) hb); have n1_ := Aside0.mk (hbox); have n2_ := Aside0.mk ((by rw [hg]; exact (below_size (by repeat (first | (with_reducible first | exact HB.out | apply below_alloc | apply pw_below_drewN | apply below_drew1) | exact HB.out))) : w.heap.size ≤ gb142)); have n3_ := Aside0.mk ((by rw [hg]; exact (below_size (by repeat (first | (with_reducible first | exact HB.out | apply below_alloc | apply pw_below_drewN | apply below_drew1) | exact HB.out))) : w.heap.size ≤ gb142)); clear HB; have HB := n0_; have BK142 := n1_; have GW142 := n2_; have GE142 := n3_; clear n0_ n1_ n2_ n3_; clear hb hbox hg; obtain ⟨hcz5_0, hcz5_1, hfz5_0, hfz5_1⟩ := Go.Proofs.Ytdhdgkonghefeaa.Lv.blks2 BK142.out) | ((with_reducible refine gate_callee (f := 55) rfl ?_); refine goesL_ (some 10) rfl rfl Try.func55 (by kernel_rfl) rfl #[.int .i64 a1, .int .i64 0, .int .i64 (wrap64 ((l0_1.length : Int) - 1))] rfl (by (try simp only [List.map_toArray, List.map_cons, List.map_nil]); first | done | rfl | (simp only [List.length_drop, List.length_take]; rfl)) ?_; (with_reducible refine (impl_within.calls a1 0 (wrap64 ((l0_1.length : Int) - 1)) t143 _ A3.out).mono ?_); rintro e w' ⟨rfl, ⟨nd, rfl⟩⟩; refine ⟨_, rfl, ?_⟩))
 go_ret
 exact ⟨by first | rfl | (simp [errW_none, errW_some] <;> rfl) | (simp [*, errW_none, errW_some] <;> rfl), by repeat (first | (with_reducible first | exact HB.out | apply below_alloc | apply pw_below_drewN | apply below_drew1 | refine below_set ?_ GE142.out) | exact HB.out)⟩

end Go.Proofs.Ytdhdgkonghefeaa.P
