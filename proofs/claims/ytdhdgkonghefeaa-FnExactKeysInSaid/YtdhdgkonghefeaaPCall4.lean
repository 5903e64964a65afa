-- Printed by this session's own program over the kit's print (wip/tools/mp.py). Not trusted: Lean checks it.
import Derived.Test.YtdhdgkonghefeaaP0
import Derived.Test.YtdhdgkonghefeaaPCall3
import Derived.Test.YtdhdgkonghefeaaPDm0
import Derived.Test.YtdhdgkonghefeaaWRepsOne
import Derived.Test.YtdhdgkonghefeaaLb
import Derived.Test.YtdhdgkonghefeaaLv
import Derived.IntWalk
import Derived.Shelf.Abstract
import Derived.Test.YtdhdgkonghefeaaZz
namespace Go.Proofs.Ytdhdgkonghefeaa.P
open Go.RowKit Go.Proofs.YtdhdgkonghefeaaW.PrintWords Go.Proofs.YtdhdgkonghefeaaW.PrintLast Go.Proofs.YtdhdgkonghefeaaW.PrintMore
attribute [local go_sem] max2_int min2_int max_two min_two max_three min_three max_four min_four   -- for this text's walks alone
set_option linter.unusedVariables false
set_option linter.unusedSimpArgs false

/-! ### impl_rise: function 40 -/
set_option maxHeartbeats 8000000 in
set_option maxRecDepth 100000 in
theorem impl_rise.calls (k : Nat) (A0 : Option Addr) (c0 : Nat) (l0 : List Int) (r : Bool) (w : World) (hr0 : Kd.C (Kd.int .i64) w A0 l0.length l0) (hc0 : l0.length ≤ c0) (h : impl_rise.f k l0 = some r) :
  Calls Try.prog 40 #[.slice A0 l0.length c0] w fun e w' => e = .returned (.bool r) ∧ Drawn0 w w' := by
 have HR0 := Aside0.mk hr0
 have HC0 := Aside0.mk hc0
 clear hr0 hc0
 have H : (impl_rise.l0 k l0 1) = some r := h
 clear h
 have H' := Aside0.mk H
 clear H
 go_enter Try.func40, Try.ntmps40
 go_wp2
 repeat (go_quiet (fail); try go_wp2)
 go_loopg [3] k (fun kq v3 w' => ∃ (x3_1 : Int), v3 = .int .i64 x3_1 ∧ Aside0 (impl_rise.l0 kq l0 x3_1 = some r) ∧ Aside0 (kq ≤ k) ∧ Drawn0 w w')
 case atStart => exact ⟨(1), (by first | rfl | (simp; done) | (simp [*]; done)), H', ⟨Nat.le_refl _⟩, by repeat (first | exact Drawn0.refl _ | apply Drawn0.step)⟩
 case round =>
  clear H'
  obtain ⟨x3_1, rfl, HA, HK1, ⟨m1, rfl⟩⟩ := hrel
  cases gk with
  | zero => exact absurd HA.out (by simp [impl_rise.l0])
  | succ k1 =>
   have H := HA.out
   clear HA
   simp only [impl_rise.l0] at H
   by_cases c2 : x3_1 < (l0.length : Int)
   ·rw [if_pos c2] at H
    have c2b0 : decide (x3_1 < (l0.length : Int)) = true := decide_eq_true c2
    clear c2
    by_cases c3 : 0 ≤ x3_1
    ·rw [if_pos c3] at H
     have c3b0 : decide (0 ≤ x3_1) = true := decide_eq_true c3
     clear c3
     obtain ⟨ji4, hji4⟩ : ∃ j_ : Int, (wrap64 (x3_1 - 1)) = j_ := ⟨_, rfl⟩
     replace H : (if 0 ≤ (ji4) then (if (ji4) < (l0.length : Int) then (if (rd l0 x3_1) ≤ (rd l0 (ji4)) then (some false) else (impl_rise.l0 k1 l0 (wrap64 (x3_1 + 1)))) else (none)) else (none)) = some r := by first | (rw [hji4] at H; exact H) | (simp only [hji4] at H ⊢; exact H)
     have hji4w : (IntKind.i64.wrap (x3_1 - 1)) = ji4 := (i64_w _).trans hji4
     by_cases c5 : 0 ≤ (ji4)
     ·rw [if_pos c5] at H
      have c5b0 : decide (0 ≤ (ji4)) = true := decide_eq_true c5
      clear c5
      by_cases c6 : (ji4) < (l0.length : Int)
      ·rw [if_pos c6] at H
       have c6b0 : decide ((ji4) < (l0.length : Int)) = true := decide_eq_true c6
       clear c6
       by_cases c7 : (rd l0 x3_1) ≤ (rd l0 (ji4))
       ·rw [if_pos c7] at H
        have c7b0 : decide ((rd l0 x3_1) ≤ (rd l0 (ji4))) = true := decide_eq_true c7
        clear c7
        obtain rfl := Option.some.inj H
        have p144 : 0 ≤ (x3_1 : Int) := of_decide_eq_true (by first | (with_reducible assumption) | assumption)
        have q144 : x3_1 < (l0.length : Int) := of_decide_eq_true (by first | (with_reducible assumption) | assumption)
        obtain ⟨ad144, e144, hx144_0⟩ := Kd.at_int HR0.out x3_1 p144 q144
        cases e144
        replace p144 := eq_true p144
        replace q144 := eq_true q144
        have p145 : 0 ≤ ((ji4) : Int) := of_decide_eq_true (by first | (with_reducible assumption) | assumption)
        have q145 : (ji4) < (l0.length : Int) := of_decide_eq_true (by first | (with_reducible assumption) | assumption)
        obtain ⟨ad145, e145, hx145_0⟩ := Kd.at_int HR0.out (ji4) p145 q145
        obtain rfl : ad144 = ad145 := (by injection e145)
        replace p145 := eq_true p145
        replace q145 := eq_true q145
        go_wp2
        repeat (go_quiet (fail); try go_wp2)
        go_ret
        exact ⟨by first | rfl | (simp; done) | (simp only [← hji4] <;> (first | rfl | simp)) | (simp [*]; done), by repeat (first | exact Drawn0.refl _ | apply Drawn0.step)⟩
       ·rw [if_neg c7] at H
        have c7b0 : decide ((rd l0 x3_1) ≤ (rd l0 (ji4))) = false := decide_eq_false c7
        clear c7
        have H' := Aside0.mk H
        clear H
        have p144 : 0 ≤ (x3_1 : Int) := of_decide_eq_true (by first | (with_reducible assumption) | assumption)
        have q144 : x3_1 < (l0.length : Int) := of_decide_eq_true (by first | (with_reducible assumption) | assumption)
        obtain ⟨ad144, e144, hx144_0⟩ := Kd.at_int HR0.out x3_1 p144 q144
        cases e144
        replace p144 := eq_true p144
        replace q144 := eq_true q144
        have p145 : 0 ≤ ((ji4) : Int) := of_decide_eq_true (by first | (with_reducible assumption) | assumption)
        have q145 : (ji4) < (l0.length : Int) := of_decide_eq_true (by first | (with_reducible assumption) | assumption)
        obtain ⟨ad145, e145, hx145_0⟩ := Kd.at_int HR0.out (ji4) p145 q145
        obtain rfl : ad144 = ad145 := (by injection e145)
        replace p145 := eq_true p145
        replace q145 := eq_true q145
        go_wp2
        repeat (go_quiet (fail); try go_wp2)
        go_roundg k1
        case measure => have := HK1.out; omega
        case rel => exact ⟨(wrap64 (x3_1 + 1)), (by first | rfl | (simp; done) | (simp [*]; done)), H', ⟨by have := HK1.out; omega⟩, by repeat (first | exact Drawn0.refl _ | apply Drawn0.step)⟩
      ·rw [if_neg c6] at H
       exact absurd H (by simp)
     ·rw [if_neg c5] at H
      exact absurd H (by simp)
    ·rw [if_neg c3] at H
     exact absurd H (by simp)
   ·rw [if_neg c2] at H
    have c2b0 : decide (x3_1 < (l0.length : Int)) = false := decide_eq_false c2
    clear c2
    obtain rfl := Option.some.inj H
    go_wp2
    repeat (go_quiet (fail); try go_wp2)
    go_ret
    exact ⟨by first | rfl | (simp; done) | (simp [*]; done), by repeat (first | exact Drawn0.refl _ | apply Drawn0.step)⟩

/-! ### impl_treeWalk_visit: function 41 -/
-- PROOF --
-- NEEDS Derived.Test.YtdhdgkonghefeaaLb
-- NEEDS Derived.Test.YtdhdgkonghefeaaLv
-- NEEDS Derived.IntWalk
-- NEEDS Derived.Shelf.Abstract
-- NEEDS Derived.Test.YtdhdgkonghefeaaZz
theorem seenB_len (nn : Nat) (s : List Int) : (seenB nn s).length = nn := by simp [seenB]
theorem seenB_at {nn : Nat} {s : List Int} {a : Int} (h0 : 0 ≤ a) (h1 : a < (nn : Int)) : rdOf false (seenB nn s) a = s.contains a := by
 unfold rdOf seenB
 have h : a.toNat < nn := by omega
 rw [List.getD_eq_getElem?_getD, List.getElem?_map, List.getElem?_range h]
 simp only [Option.map_some, Option.getD_some]
 rw [show ((a.toNat : Nat) : Int) = a by omega]
theorem seenB_snoc {nn : Nat} {s : List Int} {a : Int} (h0 : 0 ≤ a) (h1 : a < (nn : Int)) : (seenB nn s).set a.toNat true = seenB nn (s ++ [a]) := by
 apply List.ext_getElem
 ·simp [seenB]
 ·intro i hi hj
  simp only [List.length_set, seenB_len] at hi
  simp only [seenB, List.getElem_set, List.getElem_map, List.getElem_range]
  by_cases e : a.toNat = i
  ·rw [if_pos e]; symm; rw [List.contains_iff_mem]; exact List.mem_append.2 (Or.inr (by simp; omega))
  ·rw [if_neg e]
   have hq : ((i : Int) == a) = false := by simp; omega
   rw [Bool.eq_iff_iff, List.contains_iff_mem, List.contains_iff_mem, List.mem_append]
   constructor
   ·exact Or.inl
   ·rintro (h | h)
    ·exact h
    ·simp at h; omega
theorem vrow_far {W : World} {wb : Nat} {v : Value} {xs : List Bool} {base : Nat} {cs : Array Value} (h : Kd.R Kd.bool 4 W base (fun _ => True) v xs) (hb : W.heap[wb]? = some (.cells cs 71 (0, 0))) (i : Nat) (u : Value) : Kd.R Kd.bool 4 (W.setCell ⟨wb, i, none⟩ u) base (fun _ => True) v xs :=
 Kd.R_mono (Kd.R_far (p := ⟨wb, i, none⟩) (Kd.R_types h hb (fun q hq => by simp [Kd.bool, Kd.scalar] at hq; omega)) (fun k hk => hk.2) u) (fun _ _ => trivial)
theorem svBad {w0 W : World} {wb rb cap cN nn dep : Nat} {root : Int} {AN : Option Addr} {xs : List Bool} {bad : Bool} (h : StV w0 W wb rb cap cN nn root AN xs dep bad) (hg : w0.heap.size ≤ wb) (b : Bool) : StV w0 (W.setCell ⟨wb, 4, none⟩ (.bool b)) wb rb cap cN nn root AN xs dep b := ⟨blk_put h.1 4 _ rfl, vrow_far h.2.1 h.1 _ _, below_set h.2.2 hg⟩
theorem svDep {w0 W : World} {wb rb cap cN nn dep : Nat} {root : Int} {AN : Option Addr} {xs : List Bool} {bad : Bool} (h : StV w0 W wb rb cap cN nn root AN xs dep bad) (hg : w0.heap.size ≤ wb) (n : Nat) : StV w0 (W.setCell ⟨wb, 3, none⟩ (.int .i64 (n : Int))) wb rb cap cN nn root AN xs n bad := ⟨blk_put h.1 3 _ rfl, vrow_far h.2.1 h.1 _ _, below_set h.2.2 hg⟩
theorem svBelow {w0 W : World} {wb rb cap cN nn dep : Nat} {root : Int} {AN : Option Addr} {xs : List Bool} {bad : Bool} {W1 : World} (h : StV w0 W wb rb cap cN nn root AN xs dep bad) (hb : Below W.heap.size W W1) : StV w0 W1 wb rb cap cN nn root AN xs dep bad := ⟨blk_below h.1 hb, Kd.R_below h.2.1 hb, below_step h.2.2 hb⟩
theorem svNe {w0 W : World} {wb rb cap cN nn dep : Nat} {root : Int} {AN : Option Addr} {xs : List Bool} {bad : Bool} (h : StV w0 W wb rb cap cN nn root AN xs dep bad) : wb ≠ rb := fun e => Kd.R_ne h.2.1 h.1 (by decide) (by rw [e]; rfl)
theorem svRow {w0 W : World} {wb rb cap cN nn dep : Nat} {root : Int} {AN : Option Addr} {xs : List Bool} {bad : Bool} (h : StV w0 W wb rb cap cN nn root AN xs dep bad) (i : Int) : StV w0 (W.setCell ⟨rb, i.toNat, none⟩ (.bool true)) wb rb cap cN nn root AN (xs.set i.toNat true) dep bad :=
 ⟨blk_far h.1 (svNe h) _, (Kd.R_putg h.2.1 i true).1, below_set h.2.2 (Kd.R_base h.2.1 rb rfl)⟩
theorem svCells {w0 W : World} {wb rb cap cN nn dep : Nat} {root : Int} {AN : Option Addr} {xs : List Bool} {bad : Bool} (h : StV w0 W wb rb cap cN nn root AN xs dep bad) : W.cell? ⟨wb, 0, none⟩ = some (.int .i64 root) ∧ W.cell? ⟨wb, 1, none⟩ = some (.slice AN nn cN) ∧ W.cell? ⟨wb, 2, none⟩ = some (.slice (some ⟨rb, 0, none⟩) nn cap) ∧ W.cell? ⟨wb, 3, none⟩ = some (.int .i64 (dep : Int)) ∧ W.cell? ⟨wb, 4, none⟩ = some (.bool bad) ∧ W.frozen? ⟨wb, 3, none⟩ = false ∧ W.frozen? ⟨wb, 4, none⟩ = false :=
 ⟨(blk_cell h.1 0).trans rfl, (blk_cell h.1 1).trans rfl, (blk_cell h.1 2).trans rfl, (blk_cell h.1 3).trans rfl, (blk_cell h.1 4).trans rfl, blk_frozen h.1 3, blk_frozen h.1 4⟩
theorem keepSetV {w W : World} {gb i : Nat} {row : Option Nat} {u : Value} {r : Nat} (h : KeepBut w W gb row) (hr : row = some r) : KeepBut w (W.setCell ⟨r, i, none⟩ u) gb row :=
 ⟨by simpa [World.setCell] using h.1, fun j hj hg hq => (Below.heap_setCell W ⟨r, i, none⟩ u j (fun e => hq (by rw [hr]; exact congrArg some e))).trans (h.2 j hj hg hq)⟩
set_option maxHeartbeats 8000000 in
set_option maxRecDepth 100000 in
theorem impl_visit.bad {w0 w : World} {wb rb cap cN nn dep : Nat} {root : Int} {AN : Option Addr} {xs : List Bool} (at_ d lo hi : Int) (hgb : w0.heap.size ≤ wb) (hS : StV w0 w wb rb cap cN nn root AN xs dep true) :
  Calls Try.prog 41 #[.pointer (some ⟨wb, 0, none⟩), .int .i64 at_, .int .i64 d, .int .i64 lo, .int .i64 hi] w fun e w' => e = .returned (.tuple #[]) ∧ StV w0 w' wb rb cap cN nn root AN xs dep true ∧ KeepBut w w' wb (some rb) := by
 have hu71 := Try.underlying71
 have hu29 := Try.underlying29
 have HS := Aside0.mk hS
 clear hS
 obtain ⟨q0_, q1_, q2_, q3_, q4_, z3_, z4_⟩ := svCells HS.out
 go_enter Try.func41, Try.ntmps41
 go_wp2
 ((try simp only [Exit.inBlock, Exit.then]); first | refine bodyPost_ret (results_none rfl _ _ _) rfl ?_ | refine bodyPost_end (results_none rfl _ _ _) rfl ?_)
 exact ⟨rfl, svBad HS.out hgb true, keepSet (KeepBut.refl _ _ _)⟩
set_option maxHeartbeats 8000000 in
set_option maxRecDepth 100000 in
theorem impl_visit.at {w0 : World} {wb rb cap cN : Nat} {root : Int} {AN : Option Addr} {nodes : List S58} (hrN : Kd.C k58 w0 AN nodes.length nodes) (hgb : w0.heap.size ≤ wb) (hnn : nodes.length ≤ 60) (hlen : ∀ n ∈ nodes, n.f1.length ≤ 3 ∧ n.f2.length ≤ 4 ∧ (n.f0 = false → n.f2.length = n.f1.length + 1)) (hkid : kidsOk nodes) :
  ∀ (k : Nat) (s : List Int) (dep : Nat) (at_ lo hi : Int) (d : Nat) (g' : G4) (w : World), walkW nodes k ⟨s, dep, false⟩ at_ lo hi d = some g' → inR nodes.length s → 0 ≤ at_ → at_ < (nodes.length : Int) → d + k ≤ 1000 → StV w0 w wb rb cap cN nodes.length root AN (seenB nodes.length s) dep false →
  Calls Try.prog 41 #[.pointer (some ⟨wb, 0, none⟩), .int .i64 at_, .int .i64 (d : Int), .int .i64 lo, .int .i64 hi] w fun e w' => e = .returned (.tuple #[]) ∧ ∃ xs' dep', StV w0 w' wb rb cap cN nodes.length root AN xs' dep' g'.bad ∧ (g'.bad = false → xs' = seenB nodes.length g'.seen ∧ dep' = g'.dep) ∧ KeepBut w w' wb (some rb) := by
 intro k
 induction k with
 | zero => intro s dep at_ lo hi d g' w h; cases h
 | succ k ih =>
  intro s dep at_ lo hi d g' w h hs h0 h1 hd hS
  have hu58 := Try.underlying58
  have hu29 := Try.underlying29
  have hu71 := Try.underlying71
  have hu39 := Try.underlying39
  have hu69 := Try.underlying69
  have hdk : d + 1 + k ≤ 1000 := by omega
  have hw9 : wrap64 ((d : Int) + 1) = ((d + 1 : Nat) : Int) := Lb.w64n (by omega)
  have IH := Aside0.mk ih
  clear ih
  have HGB := Aside0.mk hgb
  have HKD := Aside0.mk hkid
  have HLE := Aside0.mk hlen
  have hsl := inR_len hs
  clear hgb hkid hlen
  have HS := Aside0.mk hS
  have hrow := Kd.R_celln false hS.2.1 at_ h0 h1
  rw [seenB_at h0 h1] at hrow
  have HNE := Aside0.mk (svNe hS)
  obtain ⟨b0_, yb_⟩ := hrow
  obtain ⟨q0_, q1_, q2_, q3_, q4_, z3_, z4_⟩ := svCells hS
  clear hS
  cases hc : s.contains at_ with
  | true =>
   have hE : (⟨s, dep, true⟩ : G4) = g' := by unfold walkW at h; rw [if_pos hc] at h; exact Option.some.inj h
   subst hE
   rw [hc] at b0_
   clear h hc hs IH
   go_enter Try.func41, Try.ntmps41
   go_wp2
   ((try simp only [Exit.inBlock, Exit.then]); first | refine bodyPost_ret (results_none rfl _ _ _) rfl ?_ | refine bodyPost_end (results_none rfl _ _ _) rfl ?_)
   exact ⟨rfl, _, _, svBad HS.out HGB.out true, (fun h => by cases h), keepSet (KeepBut.refl _ _ _)⟩
  | false =>
   unfold walkW at h
   rw [if_neg (by rw [hc]; decide)] at h
   have hs' := inR_snoc hs hc h0 h1
   have hmem := getD_mem h0 h1
   rw [hc] at b0_
   obtain ⟨ad, A1, c1, A2, c2, ea, hx0, hx1, hx2, hl1, hi1, hl2, hi2⟩ := at_T58 hrN at_ h0 h1
   cases ea
   have hrd : rd_T58 nodes at_ = nodes.getD at_.toNat z58 := rfl
   rw [hrd] at hx0 hx1 hx2 hl1 hi1 hl2 hi2
   obtain ⟨n, hn⟩ : ∃ n, n = nodes.getD at_.toNat z58 := ⟨_, rfl⟩
   rw [← hn] at h hmem hx0 hx1 hx2 hl1 hi1 hl2 hi2
   clear hn hrd
   rcases n with ⟨lf, ks, ds⟩
   simp only at h hx0 hx1 hx2 hl1 hi1 hl2 hi2
   obtain ⟨b1, b2, b3⟩ := HLE.out _ hmem
   have b4 := HKD.out _ hmem
   simp only at b1 b2 b3 b4
   have HM := Aside0.mk hmem
   have HSE := Aside0.mk hs'
   have HX0 := Aside0.mk hx0
   have HX1 := Aside0.mk hx1
   have HX2 := Aside0.mk hx2
   have HI1 := Aside0.mk hi1
   have HI2 := Aside0.mk hi2
   have HH := Aside0.mk h
   have HB3 := Aside0.mk b3
   have HB4 := Aside0.mk b4
   clear h hc hs hs' hmem hx0 hx1 hx2 hi1 hi2 b3 b4
   go_enter Try.func41, Try.ntmps41
   go_upto_region 3 with fail
   have HS6 := Aside0.mk (svRow HS.out at_)
   rw [seenB_snoc h0 h1] at HS6
   have HKB := Aside0.mk (keepSetV (i := at_.toNat) (u := .bool true) (KeepBut.refl w wb (some rb)) rfl)
   generalize w.setCell ⟨rb, at_.toNat, none⟩ (.bool true) = w6 at HS6 HKB ⊢
   clear q0_ q1_ q2_ q3_ q4_ z3_ z4_ b0_ yb_
   obtain ⟨q0_, q1_, q2_, q3_, q4_, z3_, z4_⟩ := svCells HS6.out
   have d0_ := pw_cell_below HS6.out.2.2 HX0.out
   have d1_ := pw_cell_below HS6.out.2.2 HX1.out
   have d2_ := pw_cell_below HS6.out.2.2 HX2.out
   go_upto_region 4 with fail
   clear d0_ d1_ d2_ q0_ q1_ q2_ q3_ q4_ z3_ z4_ HS
   have NB := Aside0.mk (blk_new w6 (.cells #[.bool lf, .slice A1 ks.length c1, .slice A2 ds.length c2] 58))
   have HS7 := Aside0.mk (svBelow HS6.out (below_alloc (Below.refl _ _) (.cells #[.bool lf, .slice A1 ks.length c1, .slice A2 ds.length c2] 58)))
   have HK7 := Aside0.mk (keepBelow HKB.out (below_alloc (Below.refl _ _) (.cells #[.bool lf, .slice A1 ks.length c1, .slice A2 ds.length c2] 58)))
   have hnb : w6.heap.size ≠ wb := by have := blk_lt HS6.out.1; omega
   have hnr : w6.heap.size ≠ rb := by have := Kd.R_lt HS6.out.2.1 rb rfl; omega
   have hnw : w.heap.size ≤ w6.heap.size := HKB.out.1
   generalize w6.alloc (.cells #[.bool lf, .slice A1 ks.length c1, .slice A2 ds.length c2] 58) = w7 at NB HS7 HK7 ⊢
   generalize w6.heap.size = nb at NB hnb hnr hnw ⊢
   have HNB := Aside0.mk hnb
   have HNR := Aside0.mk hnr
   have HNW := Aside0.mk hnw
   clear HS6 HKB hnb hnw hnr
   have HS := HS7
   obtain ⟨q0_, q1_, q2_, q3_, q4_, z3_, z4_⟩ := svCells HS7.out
   obtain ⟨n0_, n1_, n2_, y0_, y1_, y2_⟩ := Lv.blks3 NB.out
   go_wp2
   clear HS q0_ q1_ q2_ q3_ q4_ z3_ z4_ n0_ n1_ n2_ y0_ y1_ y2_
   go_loopg [50] (ks.length + 1) (fun gg v50 wr => ∃ i : Nat, v50 = .int .i64 (i : Int) ∧ Aside0 (i ≤ ks.length) ∧ Aside0 (ks.length - i < gg) ∧ Aside0 (StV w0 wr wb rb cap cN nodes.length root (some ad) (seenB nodes.length (s ++ [at_])) dep (keysBad lo hi (ks.take i))) ∧ Aside0 (wr.heap[nb]? = some (.cells #[.bool lf, .slice A1 ks.length c1, .slice A2 ds.length c2] 58)) ∧ Aside0 (KeepBut w wr wb (some rb)))
   case atStart => exact ⟨0, rfl, ⟨by omega⟩, ⟨by omega⟩, ⟨by simpa [keysBad] using HS7.out⟩, NB, HK7⟩
   case round =>
    clear HS7 NB HK7
    obtain ⟨i, rfl, HI, HG, HS, NB, HKB⟩ := hrel
    by_cases hlt : i < ks.length
    ·have g0 : (0 : Int) ≤ (i : Int) := by omega
     have g1 : (i : Int) < (ks.length : Int) := by omega
     have g2 : decide (i < ks.length) = true := decide_eq_true hlt
     obtain ⟨ak, ea, hk_⟩ := Kd.at_int HI1.out (i : Int) g0 g1
     cases ea
     have hsn := keysBad_snoc (lo := lo) (hi := hi) hlt
     obtain ⟨X, hX⟩ : ∃ x, x = ks.getD i 0 := ⟨_, rfl⟩
     rw [show rd ks (i : Int) = X from hX.symm, show (i : Int).toNat = i from Int.toNat_natCast i] at hk_
     rw [← hX] at hsn
     clear hX
     replace hk_ := pw_cell_below HS.out.2.2 hk_
     obtain ⟨Bi, hBi⟩ : ∃ b, keysBad lo hi (ks.take i) = b := ⟨_, rfl⟩
     rw [hBi] at HS hsn
     clear hBi
     obtain ⟨q0_, q1_, q2_, q3_, q4_, z3_, z4_⟩ := svCells HS.out
     obtain ⟨n0_, n1_, n2_, y0_, y1_, y2_⟩ := Lv.blks3 NB.out
     cases Bi with
     | true =>
      go_wp2
      go_roundg (ks.length - i)
      case measure => have := HG.out; omega
      case rel => exact ⟨i + 1, by first | rfl | rw [Lb.w64n (by omega)] | go_num, ⟨by omega⟩, ⟨by omega⟩, ⟨by rw [hsn]; exact (show StV _ _ _ _ _ _ _ _ _ _ _ _ from by have := svBad HS.out HGB.out true; simpa using this)⟩, ⟨blk_far NB.out HNB.out _⟩, ⟨keepSet HKB.out⟩⟩
     | false =>
      by_cases p1 : X < lo
      ·have e1 : decide (X < lo) = true := decide_eq_true p1
       rw [e1] at hsn
       clear p1
       go_wp2
       go_roundg (ks.length - i)
       case measure => have := HG.out; omega
       case rel => exact ⟨i + 1, by first | rfl | rw [Lb.w64n (by omega)] | go_num, ⟨by omega⟩, ⟨by omega⟩, ⟨by rw [hsn]; exact (show StV _ _ _ _ _ _ _ _ _ _ _ _ from by have := svBad HS.out HGB.out true; simpa using this)⟩, ⟨blk_far NB.out HNB.out _⟩, ⟨keepSet HKB.out⟩⟩
      ·have e1 : decide (X < lo) = false := decide_eq_false p1
       rw [e1] at hsn
       clear p1
       by_cases p2 : hi ≤ X
       ·have e2 : decide (hi ≤ X) = true := decide_eq_true p2
        rw [e2] at hsn
        clear p2
        go_wp2
        go_roundg (ks.length - i)
        case measure => have := HG.out; omega
        case rel => exact ⟨i + 1, by first | rfl | rw [Lb.w64n (by omega)] | go_num, ⟨by omega⟩, ⟨by omega⟩, ⟨by rw [hsn]; exact (show StV _ _ _ _ _ _ _ _ _ _ _ _ from by have := svBad HS.out HGB.out true; simpa using this)⟩, ⟨blk_far NB.out HNB.out _⟩, ⟨keepSet HKB.out⟩⟩
       ·have e2 : decide (hi ≤ X) = false := decide_eq_false p2
        rw [e2] at hsn
        clear p2
        go_wp2
        go_roundg (ks.length - i)
        case measure => have := HG.out; omega
        case rel => exact ⟨i + 1, by first | rfl | rw [Lb.w64n (by omega)] | go_num, ⟨by omega⟩, ⟨by omega⟩, ⟨by rw [hsn]; exact (show StV _ _ _ _ _ _ _ _ _ _ _ _ from by have := svBad HS.out HGB.out false; simpa using this)⟩, ⟨blk_far NB.out HNB.out _⟩, ⟨keepSet HKB.out⟩⟩
    ·have hik : i = ks.length := by have := HI.out; omega
     subst hik
     have c3 : decide ((ks.length : Int) < (ks.length : Int)) = false := decide_eq_false (by omega)
     rw [List.take_length] at HS
     clear HI HG hlt
     obtain ⟨B, hB⟩ : ∃ b, keysBad lo hi ks = b := ⟨_, rfl⟩
     rw [hB] at HS
     have HH1 := HH.out
     simp only [Bool.false_or] at HH1
     rw [hB] at HH1
     clear hB
     obtain ⟨q0_, q1_, q2_, q3_, q4_, z3_, z4_⟩ := svCells HS.out
     obtain ⟨n0_, n1_, n2_, y0_, y1_, y2_⟩ := Lv.blks3 NB.out
     cases lf with
     | true =>
      rw [if_pos rfl] at HH1
      obtain rfl := Option.some.inj HH1
      clear HH HH1
      cases B with
      | true =>
       go_wp2
       ((try simp only [Exit.inBlock, Exit.then]); first | refine bodyPost_ret (results_none rfl _ _ _) rfl ?_ | refine bodyPost_end (results_none rfl _ _ _) rfl ?_)
       have q := svDep (svBad HS.out HGB.out true) HGB.out d
       have kk := keepSet (i := 3) (u := .int .i64 (d : Int)) (keepSet (i := 4) (u := .bool true) HKB.out)
       first | exact ⟨rfl, ⟨_, _, q⟩, kk⟩ | exact ⟨rfl, _, _, q, kk⟩ | exact ⟨rfl, _, _, q, (fun h => by simp at h), kk⟩
      | false =>
       by_cases t1 : dep = 0
       ·subst t1
        have e1 : decide ((0 : Int) < ((0 : Nat) : Int)) = false := by decide
        have e1' : decide ((0 : Nat) < (0 : Nat)) = false := by decide
        go_wp2
        ((try simp only [Exit.inBlock, Exit.then]); first | refine bodyPost_ret (results_none rfl _ _ _) rfl ?_ | refine bodyPost_end (results_none rfl _ _ _) rfl ?_)
        have q := svDep (svBad HS.out HGB.out false) HGB.out d
        have kk := keepSet (i := 3) (u := .int .i64 (d : Int)) (keepSet (i := 4) (u := .bool false) HKB.out)
        first | exact ⟨rfl, _, _, by simpa using q, fun _ => ⟨rfl, rfl⟩, kk⟩ | exact ⟨rfl, _, _, by simpa using q, ⟨rfl, rfl⟩, kk⟩
       ·have e1 : decide ((0 : Int) < (dep : Int)) = true := decide_eq_true (by omega)
        have e1' : decide (0 < dep) = true := decide_eq_true (by omega)
        by_cases t2 : dep = d
        ·subst t2
         have e2 : ((dep : Int) != (dep : Int)) = false := by simp
         go_wp2
         ((try simp only [Exit.inBlock, Exit.then]); first | refine bodyPost_ret (results_none rfl _ _ _) rfl ?_ | refine bodyPost_end (results_none rfl _ _ _) rfl ?_)
         have q := svDep (svBad HS.out HGB.out false) HGB.out dep
         have kk := keepSet (i := 3) (u := .int .i64 (dep : Int)) (keepSet (i := 4) (u := .bool false) HKB.out)
         first | exact ⟨rfl, _, _, by simpa using q, fun _ => ⟨rfl, rfl⟩, kk⟩ | exact ⟨rfl, _, _, by simpa using q, ⟨rfl, rfl⟩, kk⟩
        ·have e2 : ((dep : Int) != (d : Int)) = true := by simpa using fun e => t2 (by omega)
         go_wp2
         ((try simp only [Exit.inBlock, Exit.then]); first | refine bodyPost_ret (results_none rfl _ _ _) rfl ?_ | refine bodyPost_end (results_none rfl _ _ _) rfl ?_)
         have q := svDep (svBad HS.out HGB.out true) HGB.out d
         have kk := keepSet (i := 3) (u := .int .i64 (d : Int)) (keepSet (i := 4) (u := .bool true) HKB.out)
         first | exact ⟨rfl, ⟨_, _, q⟩, kk⟩ | exact ⟨rfl, _, _, q, kk⟩ | exact ⟨rfl, _, _, q, (fun h => by simp at h), kk⟩
     | false =>
      rw [if_neg (by decide)] at HH1
      have b3 := HB3.out rfl
      have HH2 := Aside0.mk (show ∃ s1, (seenB nodes.length (s ++ [at_])) = seenB nodes.length s1 ∧ inR nodes.length s1 ∧ kidsW (walkW nodes k) ⟨false, ks, ds⟩ lo hi d ds.length 0 ⟨s1, dep, B⟩ = some g' from ⟨_, rfl, HSE.out, HH1⟩)
      clear HH HH1
      go_wp2
      clear q0_ q1_ q2_ q3_ q4_ z3_ z4_ n0_ n1_ n2_ y0_ y1_ y2_
      go_loopg [103] (ds.length + 1) (fun gg v103 wr => ∃ (i : Nat) (xs : List Bool) (dep1 : Nat) (bad1 : Bool), v103 = .int .i64 (i : Int) ∧ Aside0 (i ≤ ds.length) ∧ Aside0 (ds.length - i < gg) ∧ Aside0 ((bad1 = true ∧ g'.bad = true) ∨ ∃ s1, xs = seenB nodes.length s1 ∧ inR nodes.length s1 ∧ kidsW (walkW nodes k) ⟨false, ks, ds⟩ lo hi d (ds.length - i) i ⟨s1, dep1, bad1⟩ = some g') ∧ Aside0 (StV w0 wr wb rb cap cN nodes.length root (some ad) xs dep1 bad1) ∧ Aside0 (wr.heap[nb]? = some (.cells #[.bool false, .slice A1 ks.length c1, .slice A2 ds.length c2] 58)) ∧ Aside0 (KeepBut w wr wb (some rb)))
      case atStart => exact ⟨0, _, _, _, rfl, ⟨by omega⟩, ⟨by omega⟩, ⟨Or.inr HH2.out⟩, HS, NB, HKB⟩
      case round =>
       clear HH2 HS NB HKB
       obtain ⟨i, xs, dep1, bad1, rfl, HI, HG, HH, HS, NB, HKB⟩ := hrel
       obtain ⟨q0_, q1_, q2_, q3_, q4_, z3_, z4_⟩ := svCells HS.out
       obtain ⟨n0_, n1_, n2_, y0_, y1_, y2_⟩ := Lv.blks3 NB.out
       by_cases hlt : i < ds.length
       ·have c3 : decide ((i : Int) < (ds.length : Int)) = true := decide_eq_true (by omega)
        have c3' : decide (i < ds.length) = true := decide_eq_true hlt
        have g0 : (0 : Int) ≤ (i : Int) := by omega
        have g1' : (i : Int) < (ds.length : Int) := by omega
        obtain ⟨ak, ea, hk_⟩ := Kd.at_int HI2.out (i : Int) g0 g1'
        cases ea
        have hkm := HB4.out _ (kid_mem (n := ⟨false, ks, ds⟩) (i := i) hlt)
        simp only at hkm
        obtain ⟨X, hX⟩ : ∃ x, x = ds.getD i 0 := ⟨_, rfl⟩
        rw [show rd ds (i : Int) = X from hX.symm, show (i : Int).toNat = i from Int.toNat_natCast i] at hk_
        rw [← hX] at hkm
        replace hk_ := pw_cell_below HS.out.2.2 hk_
        obtain ⟨km0, km1⟩ := hkm
        have hcon : ∀ lo1 hi1, lo1 = loK ⟨false, ks, ds⟩ lo i → hi1 = hiK ⟨false, ks, ds⟩ hi i → Calls Try.prog 41 #[.pointer (some ⟨wb, 0, none⟩), .int .i64 X, .int .i64 ((d + 1 : Nat) : Int), .int .i64 lo1, .int .i64 hi1] wr fun e w' => e = .returned (.tuple #[]) ∧ ∃ xs2 dep2 bad2, StV w0 w' wb rb cap cN nodes.length root (some ad) xs2 dep2 bad2 ∧ KeepBut wr w' wb (some rb) ∧ ((bad2 = true ∧ g'.bad = true) ∨ ∃ s1, xs2 = seenB nodes.length s1 ∧ inR nodes.length s1 ∧ kidsW (walkW nodes k) ⟨false, ks, ds⟩ lo hi d (ds.length - (i + 1)) (i + 1) ⟨s1, dep2, bad2⟩ = some g') := by
         rintro lo1 hi1 rfl rfl
         by_cases hb1 : bad1 = true ∧ g'.bad = true
         ·obtain ⟨hb1, hb2⟩ := hb1
          have hS1 := HS.out
          rw [hb1] at hS1
          refine (impl_visit.bad X _ _ _ HGB.out hS1).mono ?_
          rintro e w2 ⟨rfl, hS2, hK2⟩
          exact ⟨rfl, _, _, _, hS2, hK2, Or.inl ⟨rfl, hb2⟩⟩
         ·rcases HH.out with h | ⟨s1, rfl, hin, hk⟩
          ·exact absurd h hb1
          rw [show ds.length - i = (ds.length - (i + 1)) + 1 by omega] at hk
          unfold kidsW at hk
          cases bad1 with
          | true => rw [if_pos rfl] at hk; cases hk; exact absurd ⟨rfl, rfl⟩ hb1
          | false =>
           rw [if_neg (by simp)] at hk
           obtain ⟨g1, hw1, hh⟩ := Option.bind_eq_some_iff.1 hk
           simp only at hw1
           rw [← hX] at hw1
           have hin1 := walkW_inR k _ _ _ _ _ g1 HKD.out hin km0 km1 hw1
           rcases g1 with ⟨s2, dep2, bad2⟩
           refine (IH.out s1 dep1 X _ _ (d + 1) ⟨s2, dep2, bad2⟩ wr hw1 hin km0 km1 hdk HS.out).mono ?_
           rintro e w2 ⟨rfl, xs2, dep3, hS2, hx2, hK2⟩
           refine ⟨rfl, _, _, _, hS2, hK2, ?_⟩
           cases bad2 with
           | false => obtain ⟨rfl, rfl⟩ := hx2 rfl; exact Or.inr ⟨s2, rfl, hin1, hh⟩
           | true =>
            refine Or.inl ⟨rfl, ?_⟩
            cases hm : ds.length - (i + 1) with
            | zero => rw [hm] at hh; unfold kidsW at hh; cases hh; rfl
            | succ m => rw [hm] at hh; unfold kidsW at hh; rw [if_pos rfl] at hh; cases hh; rfl
        have HC := Aside0.mk hcon
        clear hcon hX
        by_cases r0 : 0 < i
        ·have c4 : decide ((0 : Int) < (i : Int)) = true := decide_eq_true (by omega)
         have c4' : decide (0 < i) = true := decide_eq_true r0
         by_cases r1 : i < ks.length
         ·have c5 : decide ((i : Int) < (ks.length : Int)) = true := decide_eq_true (by omega)
          have c5' : decide (i < ks.length) = true := decide_eq_true r1
          obtain ⟨ah, ea, hh_⟩ := Kd.at_int HI1.out (i : Int) g0 (by omega)
          obtain ⟨al, eb, hl_⟩ := Kd.at_int HI1.out ((i - 1 : Nat) : Int) (by omega) (by omega)
          have e1 : wrap64 ((i : Int) - 1) = ((i - 1 : Nat) : Int) := by rw [Lb.w64 (by omega) (by omega)]; omega
          obtain rfl : ah = al := by rw [ea] at eb; exact Option.some.inj eb
          cases ea
          obtain ⟨Z, hZ⟩ : ∃ x, x = ks.getD (i - 1) 0 := ⟨_, rfl⟩
          rw [show rd ks ((i - 1 : Nat) : Int) = Z from hZ.symm, show ((i - 1 : Nat) : Int).toNat = i - 1 from Int.toNat_natCast _] at hl_
          replace hl_ := pw_cell_below HS.out.2.2 hl_
          obtain ⟨Y, hY⟩ : ∃ x, x = ks.getD i 0 := ⟨_, rfl⟩
          rw [show rd ks (i : Int) = Y from hY.symm, show (i : Int).toNat = i from Int.toNat_natCast i] at hh_
          replace hh_ := pw_cell_below HS.out.2.2 hh_
          have HLO := Aside0.mk (show Z = loK ⟨false, ks, ds⟩ lo i by unfold loK; rw [if_pos r0]; exact hZ)
          have HHI := Aside0.mk (show Y = hiK ⟨false, ks, ds⟩ hi i by unfold hiK; rw [if_pos r1]; exact hY)
          clear hZ hY
          go_wp2_with (go_at_call 41; refine (HC.out _ _ HLO.out HHI.out).mono ?_; rintro e w2 ⟨rfl, xs2, dep2, bad2, hS2, hK2, hI2⟩)
          have NB2 := hK2.blk NB.out HNB.out (fun e => HNR.out (Option.some.inj e))
          go_roundg (ds.length - i)
          case measure => have := HG.out; omega
          case rel => exact ⟨i + 1, xs2, dep2, bad2, by first | rfl | rw [Lb.w64n (by omega)] | go_num, ⟨by omega⟩, ⟨by omega⟩, ⟨hI2⟩, ⟨hS2⟩, ⟨NB2⟩, ⟨HKB.out.trans hK2 (Or.inl rfl)⟩⟩
         ·have c5 : decide ((i : Int) < (ks.length : Int)) = false := decide_eq_false (by omega)
          have c5' : decide (i < ks.length) = false := decide_eq_false r1
          obtain ⟨al, eb, hl_⟩ := Kd.at_int HI1.out ((i - 1 : Nat) : Int) (by omega) (by omega)
          have e1 : wrap64 ((i : Int) - 1) = ((i - 1 : Nat) : Int) := by rw [Lb.w64 (by omega) (by omega)]; omega
          cases eb
          obtain ⟨Z, hZ⟩ : ∃ x, x = ks.getD (i - 1) 0 := ⟨_, rfl⟩
          rw [show rd ks ((i - 1 : Nat) : Int) = Z from hZ.symm, show ((i - 1 : Nat) : Int).toNat = i - 1 from Int.toNat_natCast _] at hl_
          replace hl_ := pw_cell_below HS.out.2.2 hl_
          have HLO := Aside0.mk (show Z = loK ⟨false, ks, ds⟩ lo i by unfold loK; rw [if_pos r0]; exact hZ)
          have HHI := Aside0.mk (show hi = hiK ⟨false, ks, ds⟩ hi i by unfold hiK; rw [if_neg r1])
          clear hZ
          go_wp2_with (go_at_call 41; refine (HC.out _ _ HLO.out HHI.out).mono ?_; rintro e w2 ⟨rfl, xs2, dep2, bad2, hS2, hK2, hI2⟩)
          have NB2 := hK2.blk NB.out HNB.out (fun e => HNR.out (Option.some.inj e))
          go_roundg (ds.length - i)
          case measure => have := HG.out; omega
          case rel => exact ⟨i + 1, xs2, dep2, bad2, by first | rfl | rw [Lb.w64n (by omega)] | go_num, ⟨by omega⟩, ⟨by omega⟩, ⟨hI2⟩, ⟨hS2⟩, ⟨NB2⟩, ⟨HKB.out.trans hK2 (Or.inl rfl)⟩⟩
        ·have c4 : decide ((0 : Int) < (i : Int)) = false := decide_eq_false (by omega)
         have c4' : decide (0 < i) = false := decide_eq_false r0
         by_cases r1 : i < ks.length
         ·have c5 : decide ((i : Int) < (ks.length : Int)) = true := decide_eq_true (by omega)
          have c5' : decide (i < ks.length) = true := decide_eq_true r1
          obtain ⟨ah, ea, hh_⟩ := Kd.at_int HI1.out (i : Int) g0 (by omega)
          cases ea
          obtain ⟨Y, hY⟩ : ∃ x, x = ks.getD i 0 := ⟨_, rfl⟩
          rw [show rd ks (i : Int) = Y from hY.symm, show (i : Int).toNat = i from Int.toNat_natCast i] at hh_
          replace hh_ := pw_cell_below HS.out.2.2 hh_
          have HLO := Aside0.mk (show lo = loK ⟨false, ks, ds⟩ lo i by unfold loK; rw [if_neg r0])
          have HHI := Aside0.mk (show Y = hiK ⟨false, ks, ds⟩ hi i by unfold hiK; rw [if_pos r1]; exact hY)
          clear hY
          go_wp2_with (go_at_call 41; refine (HC.out _ _ HLO.out HHI.out).mono ?_; rintro e w2 ⟨rfl, xs2, dep2, bad2, hS2, hK2, hI2⟩)
          have NB2 := hK2.blk NB.out HNB.out (fun e => HNR.out (Option.some.inj e))
          go_roundg (ds.length - i)
          case measure => have := HG.out; omega
          case rel => exact ⟨i + 1, xs2, dep2, bad2, by first | rfl | rw [Lb.w64n (by omega)] | go_num, ⟨by omega⟩, ⟨by omega⟩, ⟨hI2⟩, ⟨hS2⟩, ⟨NB2⟩, ⟨HKB.out.trans hK2 (Or.inl rfl)⟩⟩
         ·have c5 : decide ((i : Int) < (ks.length : Int)) = false := decide_eq_false (by omega)
          have c5' : decide (i < ks.length) = false := decide_eq_false r1
          have HLO := Aside0.mk (show lo = loK ⟨false, ks, ds⟩ lo i by unfold loK; rw [if_neg r0])
          have HHI := Aside0.mk (show hi = hiK ⟨false, ks, ds⟩ hi i by unfold hiK; rw [if_neg r1])
          go_wp2_with (go_at_call 41; refine (HC.out _ _ HLO.out HHI.out).mono ?_; rintro e w2 ⟨rfl, xs2, dep2, bad2, hS2, hK2, hI2⟩)
          have NB2 := hK2.blk NB.out HNB.out (fun e => HNR.out (Option.some.inj e))
          go_roundg (ds.length - i)
          case measure => have := HG.out; omega
          case rel => exact ⟨i + 1, xs2, dep2, bad2, by first | rfl | rw [Lb.w64n (by omega)] | go_num, ⟨by omega⟩, ⟨by omega⟩, ⟨hI2⟩, ⟨hS2⟩, ⟨NB2⟩, ⟨HKB.out.trans hK2 (Or.inl rfl)⟩⟩
       ·have c3 : decide ((i : Int) < (ds.length : Int)) = false := decide_eq_false (by omega)
        have c3' : decide (i < ds.length) = false := decide_eq_false hlt
        have hE : bad1 = g'.bad ∧ (g'.bad = false → xs = seenB nodes.length g'.seen ∧ dep1 = g'.dep) := by
         rcases HH.out with ⟨h1, h2⟩ | ⟨s1, rfl, hin, hk⟩
         ·rw [h1, h2]; exact ⟨rfl, fun h => by cases h⟩
         ·rw [show ds.length - i = 0 by omega] at hk
          unfold kidsW at hk
          cases hk
          exact ⟨rfl, fun _ => ⟨rfl, rfl⟩⟩
        obtain ⟨hE, hE2⟩ := hE
        have HE2 := Aside0.mk hE2
        clear hE2
        rw [hE] at HS q4_
        go_wp2
        ((try simp only [Exit.inBlock, Exit.then]); first | refine bodyPost_ret (results_none rfl _ _ _) rfl ?_ | refine bodyPost_end (results_none rfl _ _ _) rfl ?_)
        exact ⟨rfl, _, _, HS.out, HE2.out, HKB.out⟩


/-! ### slices_Index_bool: function 66 -/
set_option maxHeartbeats 8000000 in
set_option maxRecDepth 100000 in
theorem slices_Index_bool.calls (k : Nat) (A0 : Option Addr) (c0 : Nat) (l0 : List Bool) (a1 : Bool) (r : Int) (w : World) (hr0 : Kd.C Kd.bool w A0 l0.length l0) (hc0 : l0.length ≤ c0) (h : slices_Index_bool.f k l0 a1 = some r) :
  Calls Try.prog 66 #[.slice A0 l0.length c0, .bool a1] w fun e w' => e = .returned (.int .i64 r) ∧ Drawn0 w w' := by
 have HR0 := Aside0.mk hr0
 have HC0 := Aside0.mk hc0
 clear hr0 hc0
 have H : (slices_Index_bool.l0 k l0 a1 (l0.length : Int) 0) = some r := h
 clear h
 have H' := Aside0.mk H
 clear H
 go_enter Try.func66, Try.ntmps66
 go_wp2
 go_loopg [8] k (fun kq v8 w' => ∃ (x8_1 : Int), v8 = .int .i64 x8_1 ∧ Aside0 (slices_Index_bool.l0 kq l0 a1 (l0.length : Int) x8_1 = some r) ∧ Aside0 (kq ≤ k) ∧ Drawn0 w w')
 case atStart => exact ⟨(0), (by first | rfl | (simp; done) | (simp [*]; done)), H', ⟨Nat.le_refl _⟩, by repeat (first | exact Drawn0.refl _ | apply Drawn0.step)⟩
 case round =>
  clear H'
  try clear p2
  obtain ⟨x8_1, rfl, HA, HK1, ⟨m1, rfl⟩⟩ := hrel
  cases gk with
  | zero => exact absurd HA.out (by simp [slices_Index_bool.l0])
  | succ k1 =>
   have H := HA.out
   clear HA
   simp only [slices_Index_bool.l0] at H
   by_cases c3 : x8_1 < (l0.length : Int)
   ·rw [if_pos c3] at H
    have c3b0 : decide (x8_1 < (l0.length : Int)) = true := decide_eq_true c3
    clear c3
    by_cases c4 : 0 ≤ x8_1
    ·rw [if_pos c4] at H
     have c4b0 : decide (0 ≤ x8_1) = true := decide_eq_true c4
     clear c4
     by_cases c5 : x8_1 < (l0.length : Int)
     ·rw [if_pos c5] at H
      have c5b0 : decide (x8_1 < (l0.length : Int)) = true := decide_eq_true c5
      clear c5
      by_cases c6 : (a1 == (rdOf false l0 x8_1)) = true
      ·rw [if_pos c6] at H
       have c6b0 : (a1 == (rdOf false l0 x8_1)) = true := c6
       (try (have c6b1 : decide (a1 = (rdOf false l0 x8_1)) = true := by simpa using c6))
       (try (have c6b2 : (a1 == (rdOf false l0 x8_1)) = true := by simpa using c6))
       clear c6
       obtain rfl := Option.some.inj H
       have p146 : 0 ≤ (x8_1 : Int) := of_decide_eq_true (by first | (with_reducible assumption) | assumption)
       have q146 : x8_1 < (l0.length : Int) := of_decide_eq_true (by first | (with_reducible assumption) | assumption)
       obtain ⟨ad146, e146, hx146_0⟩ := Kd.at_bool HR0.out x8_1 p146 q146
       cases e146
       replace p146 := eq_true p146
       replace q146 := eq_true q146
       go_wp2
       go_ret
       exact ⟨by first | rfl | (simp; done) | (simp [*]; done), by repeat (first | exact Drawn0.refl _ | apply Drawn0.step)⟩
      ·rw [if_neg c6] at H
       have c6b0 : (a1 == (rdOf false l0 x8_1)) = false := by simpa using c6
       (try (have c6b1 : decide (a1 = (rdOf false l0 x8_1)) = false := by simpa using c6))
       (try (have c6b2 : (a1 == (rdOf false l0 x8_1)) = false := by simpa using c6))
       (try (have c6b3 : ¬ (a1 = (rdOf false l0 x8_1)) := by simpa using c6))
       clear c6
       have H' := Aside0.mk H
       clear H
       have p146 : 0 ≤ (x8_1 : Int) := of_decide_eq_true (by first | (with_reducible assumption) | assumption)
       have q146 : x8_1 < (l0.length : Int) := of_decide_eq_true (by first | (with_reducible assumption) | assumption)
       obtain ⟨ad146, e146, hx146_0⟩ := Kd.at_bool HR0.out x8_1 p146 q146
       cases e146
       replace p146 := eq_true p146
       replace q146 := eq_true q146
       go_wp2
       go_roundg k1
       case measure => have := HK1.out; omega
       case rel => exact ⟨(wrap64 (x8_1 + 1)), (by first | rfl | (simp; done) | (simp [*]; done)), H', ⟨by have := HK1.out; omega⟩, by repeat (first | exact Drawn0.refl _ | apply Drawn0.step)⟩
     ·rw [if_neg c5] at H
      exact absurd H (by simp)
    ·rw [if_neg c4] at H
     exact absurd H (by simp)
   ·rw [if_neg c3] at H
    have c3b0 : decide (x8_1 < (l0.length : Int)) = false := decide_eq_false c3
    clear c3
    obtain rfl := Option.some.inj H
    go_wp2
    go_ret
    exact ⟨by first | rfl | (simp; done) | (simp [*]; done), by repeat (first | exact Drawn0.refl _ | apply Drawn0.step)⟩

/-! ### slices_Contains_bool: function 42 -/
set_option maxHeartbeats 8000000 in
set_option maxRecDepth 100000 in
theorem slices_Contains_bool.calls (k : Nat) (A0 : Option Addr) (c0 : Nat) (l0 : List Bool) (a1 : Bool) (r : Bool) (w : World) (hr0 : Kd.C Kd.bool w A0 l0.length l0) (hc0 : l0.length ≤ c0) (h : slices_Contains_bool.f k l0 a1 = some r) :
  Calls Try.prog 42 #[.slice A0 l0.length c0, .bool a1] w fun e w' => e = .returned (.bool r) ∧ Drawn0 w w' := by
 have HR0 := Aside0.mk hr0
 have HC0 := Aside0.mk hc0
 clear hr0 hc0
 have H : ((slices_Index_bool.f k l0 a1).bind fun t147 => (some (decide (t147 ≥ 0)))) = some r := h
 clear h
 replace H := Option.bind_eq_some_iff.mp H
 obtain ⟨t147, A30, H⟩ := H
 replace H : (some (decide (t147 ≥ 0))) = some r := H
 have A3 := Aside0.mk A30
 clear A30
 obtain rfl := Option.some.inj H
 go_enter Try.func42, Try.ntmps42
 go_wp2_with (first | ((with_reducible refine gate_callee (f := 66) rfl ?_); refine goesL_ (some 7) rfl rfl Try.func66 (by kernel_rfl) rfl #[.slice A0 l0.length c0, .bool a1] rfl (by (try simp only [List.map_toArray, List.map_cons, List.map_nil]); first | done | rfl | (simp only [List.length_drop, List.length_take]; rfl)) ?_; (with_reducible refine (slices_Index_bool.calls k _ _ l0 a1 t147 _ ?side1 ?side2 A3.out).mono ?_); (case side1 => repeat (first | exact HR0.out | (with_reducible refine Kd.C_alloc ?_ _) | (with_reducible refine Kd.C_drewN ?_ _) | (with_reducible refine Kd.C_drew ?_))); (case side2 => exact HC0.out); rintro e w' ⟨rfl, ⟨nd, rfl⟩⟩; refine ⟨_, rfl, ?_⟩))
 go_ret
 exact ⟨by first | rfl | (simp; done) | (simp [*]; done), by repeat (first | exact Drawn0.refl _ | apply Drawn0.step)⟩

/-! ### impl_isTreeKey: function 37 -/
set_option maxHeartbeats 8000000 in
set_option maxRecDepth 100000 in
theorem impl_isTreeKey.calls (a0 : Int) (r : Bool) (w : World) (h : impl_isTreeKey.f a0 = some r) :
  Calls Try.prog 37 #[.int .i64 a0] w fun e w' => e = .returned (.bool r) ∧ Drawn0 w w' := by
 have H : ((impl_within.f a0 0 10000).bind fun t258 => (some t258)) = some r := h
 clear h
 replace H := Option.bind_eq_some_iff.mp H
 obtain ⟨t258, A20, H⟩ := H
 replace H : (some t258) = some r := H
 have A2 := Aside0.mk A20
 clear A20
 obtain rfl := Option.some.inj H
 go_enter Try.func37, Try.ntmps37
 go_wp2_with (first | ((with_reducible refine gate_callee (f := 55) rfl ?_); refine goesL_ (some 4) rfl rfl Try.func55 (by kernel_rfl) rfl #[.int .i64 a0, .int .i64 0, .int .i64 10000] rfl (by (try simp only [List.map_toArray, List.map_cons, List.map_nil]); first | done | rfl | (simp only [List.length_drop, List.length_take]; rfl)) ?_; (with_reducible refine (impl_within.calls a0 0 10000 t258 _ A2.out).mono ?_); rintro e w' ⟨rfl, ⟨nd, rfl⟩⟩; refine ⟨_, rfl, ?_⟩))
 go_ret
 exact ⟨by first | rfl | (simp; done) | (simp [*]; done), by repeat (first | exact Drawn0.refl _ | apply Drawn0.step)⟩

end Go.Proofs.Ytdhdgkonghefeaa.P
