-- Printed by this session's own program over the kit's print (wip/tools/mp.py). Not trusted: Lean checks it.
import Derived.Test.YtdhdgkonghefeaaP0
import Derived.Test.YtdhdgkonghefeaaPCall1
import Derived.Test.YtdhdgkonghefeaaPCall2
import Derived.Test.YtdhdgkonghefeaaPCall3
import Derived.Test.YtdhdgkonghefeaaPCall4
import Derived.Test.YtdhdgkonghefeaaPDm0
import Derived.Test.YtdhdgkonghefeaaWRepsOne
import Derived.Test.YtdhdgkonghefeaaLb
import Derived.Test.YtdhdgkonghefeaaLv
import Derived.IntWalk
import Derived.Shelf.Abstract
import Derived.Test.YtdhdgkonghefeaaZz
namespace Go.Proofs.Ytdhdgkonghefeaa.P
open Go.RowKit Go.Proofs.YtdhdgkonghefeaaW.PrintWords Go.Proofs.YtdhdgkonghefeaaW.PrintLast Go.Proofs.YtdhdgkonghefeaaW.PrintMore
attribute [local go_sem] max2_int min2_int max_two min_two max_three min_three max_four min_four   -- for this text's walks alone
set_option linter.unusedVariables false
set_option linter.unusedSimpArgs false

/-! ### impl_TreeFault: function 12 -/
-- PROOF --
-- NEEDS Derived.Test.YtdhdgkonghefeaaLb
-- NEEDS Derived.Test.YtdhdgkonghefeaaLv
-- NEEDS Derived.IntWalk
-- NEEDS Derived.Shelf.Abstract
-- NEEDS Derived.Test.YtdhdgkonghefeaaZz
theorem within_f (x lo hi : Int) : impl_within.f x lo hi = some (inB x lo hi) := by
 unfold impl_within.f inB
 by_cases h : lo ≤ x
 ·rw [if_pos h]; simp [h]
 ·rw [if_neg h]; simp [h]
theorem isTreeKey_f (x : Int) : impl_isTreeKey.f x = some (inB x 0 10000) := by unfold impl_isTreeKey.f; rw [within_f]; rfl
theorem hasNode_f (a : Int) (l : List S58) (x : Int) : impl_Tree_hasNode.f a l x = some (inB x 0 (wrap64 ((l.length : Int) - 1))) := by unfold impl_Tree_hasNode.f; rw [within_f]; rfl
theorem scan_any {p : Int → Bool} {l : List Int} : ∀ m i, m + i = l.length → scanI (fun j => if p (l.getD j 0) = true then 0 else 3) m i = if (l.drop i).any (fun x => !p x) = true then 3 else 0
 | 0, i, h => by rw [List.drop_eq_nil_of_le (by omega)]; rfl
 | m + 1, i, h => by
  have hlt : i < l.length := by omega
  unfold scanI
  rw [List.drop_eq_getElem_cons hlt, List.any_cons, Lb.getD_at hlt]
  cases hp : p l[i] with
  | true => simp only [if_true, Bool.not_true, Bool.false_or]; exact scan_any m (i + 1) (by omega)
  | false => simp
theorem key_any (ks : List Int) : scanI (keyF ks) ks.length 0 = if ks.any (fun x => !inB x 0 10000) = true then 3 else 0 := by
 have := scan_any (p := fun x => inB x 0 10000) (l := ks) ks.length 0 (by omega)
 rwa [List.drop_zero] at this
theorem kid_any (nn : Nat) (ds : List Int) : scanI (kidF nn ds) ds.length 0 = if ds.any (fun x => !inB x 0 (wrap64 ((nn : Int) - 1))) = true then 3 else 0 := by
 have := scan_any (p := fun x => inB x 0 (wrap64 ((nn : Int) - 1))) (l := ds) ds.length 0 (by omega)
 rwa [List.drop_zero] at this
theorem rise_one (ks : List Int) : ∀ m i, scanI (riseF ks) m i = 0 ∨ scanI (riseF ks) m i = 1
 | 0, i => Or.inl rfl
 | m + 1, i => by
  unfold scanI
  by_cases h : riseF ks i = 0
  ·rw [if_pos h]; exact rise_one ks m (i + 1)
  ·rw [if_neg h]; right; unfold riseF at h ⊢; split at h <;> simp_all
theorem rise_some (ks : List Int) (hl : ks.length ≤ 3) : ∃ K, impl_rise.f K ks = some (risesB ks) := by
 have hev : ∀ m i, m + i = ks.length → 1 ≤ i → Ev (fun k => impl_rise.l0 k ks (i : Int)) (decide (scanI (riseF ks) m i = 0)) := by
  intro m
  induction m with
  | zero =>
   intro i hi h1
   apply Lb.evSucc
   simp only [impl_rise.l0]
   exact Lb.evIte (fun h => absurd h (by omega)) (fun _ => Lb.evRet (by simp [scanI]))
  | succ m ih =>
   intro i hi h1
   apply Lb.evSucc
   simp only [impl_rise.l0]
   have hw : wrap64 ((i : Int) - 1) = ((i - 1 : Nat) : Int) := by rw [Lb.w64 (by omega) (by omega)]; omega
   rw [hw, Lb.w64n (by omega)]
   refine Lb.evIte (fun _ => ?_) (fun h => absurd (by omega) h)
   refine Lb.evIte (fun _ => ?_) (fun h => absurd (by omega) h)
   refine Lb.evIte (fun _ => ?_) (fun h => absurd (by omega) h)
   refine Lb.evIte (fun _ => ?_) (fun h => absurd (by omega) h)
   have e1 : rd ks (i : Int) = ks.getD i 0 := by unfold rd; rw [Int.toNat_natCast]
   have e2 : rd ks ((i - 1 : Nat) : Int) = ks.getD (i - 1) 0 := by unfold rd; rw [Int.toNat_natCast]
   rw [e1, e2]
   refine Lb.evIte (fun h => Lb.evRet ?_) (fun h => ?_)
   ·symm; rw [decide_eq_false_iff_not]; unfold scanI riseF; rw [if_pos h]; simp
   ·refine Lb.evEq (ih (i + 1) (by omega) (by omega)) ?_
    rw [scanI_step (by unfold riseF; rw [if_neg h])]
 unfold risesB
 by_cases h0 : ks.length = 0
 ·have : Ev (fun k => impl_rise.l0 k ks ((1 : Nat) : Int)) true := by
   apply Lb.evSucc
   simp only [impl_rise.l0]
   exact Lb.evIte (fun h => absurd h (by omega)) (fun _ => Lb.evRet rfl)
  obtain ⟨K, hK⟩ := this
  exact ⟨K, by rw [show ks.length - 1 = 0 by omega]; exact hK K (Nat.le_refl _)⟩
 ·obtain ⟨K, hK⟩ := hev (ks.length - 1) 1 (by omega) (by omega)
  exact ⟨K, hK K (Nat.le_refl _)⟩
theorem nodeF_eq (nn : Nat) (n : S58) : nodeF nn n = if countsB n = true then (if n.f1.any (fun x => !inB x 0 10000) = true then 3 else if n.f2.any (fun x => !inB x 0 (wrap64 ((nn : Int) - 1))) = true then 3 else if risesB n.f1 = true then 0 else 1) else 1 := by
 unfold nodeF
 rw [key_any, kid_any]
 by_cases hc : countsB n = true
 ·rw [if_pos hc, if_pos hc]
  by_cases h1 : n.f1.any (fun x => !inB x 0 10000) = true
  ·rw [if_pos h1, if_pos h1, if_neg (by decide)]
  ·rw [if_neg h1, if_neg h1, if_pos rfl]
   by_cases h2 : n.f2.any (fun x => !inB x 0 (wrap64 ((nn : Int) - 1))) = true
   ·rw [if_pos h2, if_pos h2, if_neg (by decide)]
   ·rw [if_neg h2, if_neg h2, if_pos rfl]
    unfold risesB
    rcases rise_one n.f1 (n.f1.length - 1) 1 with h | h <;> rw [h] <;> simp
 ·rw [if_neg hc, if_neg hc]
theorem countsB_yes {b : Bool} {ks ds : List Int} {kl dl : Nat} (h1 : kl = ks.length) (h2 : dl = ds.length) (h : (b = true ∧ kl ≤ 3 ∧ dl = 0) ∨ (b = false ∧ 1 ≤ kl ∧ kl ≤ 3 ∧ dl = kl + 1)) : countsB ⟨b, ks, ds⟩ = true := by
 unfold countsB
 rcases h with ⟨rfl, h3, h4⟩ | ⟨rfl, h3, h4, h5⟩
 ·rw [if_pos rfl]; simp only [Bool.and_eq_true, decide_eq_true_eq]; omega
 ·rw [if_neg (by simp)]; simp only [Bool.and_eq_true, decide_eq_true_eq]; omega
theorem countsB_no {b : Bool} {ks ds : List Int} {kl dl : Nat} (h1 : kl = ks.length) (h2 : dl = ds.length) (h : (b = true ∧ (3 < kl ∨ dl ≠ 0)) ∨ (b = false ∧ (kl < 1 ∨ 3 < kl ∨ dl ≠ kl + 1))) : ¬ countsB ⟨b, ks, ds⟩ = true := by
 unfold countsB
 rcases h with ⟨rfl, h3⟩ | ⟨rfl, h3⟩
 ·rw [if_pos rfl]; simp only [Bool.and_eq_true, decide_eq_true_eq]; omega
 ·rw [if_neg (by simp)]; simp only [Bool.and_eq_true, decide_eq_true_eq]; omega
theorem contains_some (l : List Bool) (a : Bool) (hl : l.length < 1000000) : ∃ K, slices_Contains_bool.f K l a = some (l.contains a) := by
 have hidx : ∀ m i : Nat, m + i = l.length → ∃ r : Int, Ev (fun k => slices_Index_bool.l0 k l a (l.length : Int) (i : Int)) r ∧ decide (r ≥ 0) = (l.drop i).contains a := by
  intro m
  induction m with
  | zero =>
   intro i hi
   refine ⟨-1, ?_, by rw [List.drop_eq_nil_of_le (by omega)]; rfl⟩
   apply Lb.evSucc
   simp only [slices_Index_bool.l0]
   exact Lb.evIte (fun h => absurd h (by omega)) (fun _ => Lb.evRet rfl)
  | succ m ih =>
   intro i hi
   have hlt : i < l.length := by omega
   rw [List.drop_eq_getElem_cons hlt, List.contains_cons]
   have hrd : rdOf false l (i : Int) = l[i] := by unfold rdOf; rw [Int.toNat_natCast, Lb.getD_at hlt]
   by_cases he : (a == l[i]) = true
   ·refine ⟨(i : Int), ?_, by rw [he]; simp⟩
    apply Lb.evSucc
    simp only [slices_Index_bool.l0]
    refine Lb.evIte (fun _ => ?_) (fun h => absurd (by omega) h)
    refine Lb.evIte (fun _ => ?_) (fun h => absurd (by omega) h)
    refine Lb.evIte (fun _ => ?_) (fun h => absurd (by omega) h)
    rw [hrd]
    exact Lb.evIte (fun _ => Lb.evRet rfl) (fun h => absurd he h)
   ·obtain ⟨r, hr, hd⟩ := ih (i + 1) (by omega)
    refine ⟨r, ?_, by rw [hd, show (a == l[i]) = false by simpa using he, Bool.false_or]⟩
    apply Lb.evSucc
    simp only [slices_Index_bool.l0]
    refine Lb.evIte (fun _ => ?_) (fun h => absurd (by omega) h)
    refine Lb.evIte (fun _ => ?_) (fun h => absurd (by omega) h)
    refine Lb.evIte (fun _ => ?_) (fun h => absurd (by omega) h)
    rw [hrd, Lb.w64n (by omega)]
    exact Lb.evIte (fun h => absurd h he) (fun _ => hr)
 obtain ⟨r, ⟨K, hK⟩, hd⟩ := hidx l.length 0 (by omega)
 refine ⟨K, ?_⟩
 unfold slices_Contains_bool.f slices_Index_bool.f
 rw [show slices_Index_bool.l0 K l a (l.length : Int) 0 = some r from hK K (Nat.le_refl _), Option.bind_some, hd, List.drop_zero]
theorem seenB_nil (nn : Nat) : List.replicate nn false = seenB nn [] := by apply List.ext_getElem <;> simp [seenB]
theorem seen_false {nn : Nat} {s : List Int} (h : inR nn s) : (seenB nn s).contains false = !decide ((s.length : Int) = (nn : Int)) := by
 rw [Bool.eq_iff_iff, List.contains_iff_mem, Bool.not_eq_true', decide_eq_false_iff_not]
 constructor
 ·intro hm he
  obtain ⟨i, hi, hf⟩ := List.mem_map.1 hm
  have := (all_seen h).2 (by omega) i (by simpa using hi)
  rw [List.contains_iff_mem.2 this] at hf; cases hf
 ·intro hn
  apply Classical.byContradiction
  intro hm
  refine hn ?_
  have := (all_seen h).1 (fun i hi => by
   have hx : ¬ (s.contains (i : Int) = false) := fun e => hm (List.mem_map.2 ⟨i, by simpa using hi, e⟩)
   exact List.contains_iff_mem.1 (by simpa using hx))
  omega
set_option maxHeartbeats 2000000 in
theorem notKey.calls (x : Int) (W : World) : Calls Try.prog 36 #[.int .i64 x] W fun e w' => e = .returned (.bool (!inB x 0 10000)) ∧ Below W.heap.size W w' := by
 cases hb : inB x 0 10000 with
 | true =>
  have HB := Aside0.mk hb
  clear hb
  go_enter Try.func36, Try.ntmps36
  go_wp2_with (go_at_call 37; refine (impl_isTreeKey.calls x _ _ (isTreeKey_f x)).mono ?_; rintro e w' ⟨rfl, hd_⟩; obtain ⟨m, rfl⟩ := hd_.out; clear hd_; rw [HB.out])
  go_ret
  exact ⟨rfl, pw_below_drewN (Below.refl _ _) m⟩
 | false =>
  have HB := Aside0.mk hb
  clear hb
  go_enter Try.func36, Try.ntmps36
  go_wp2_with (go_at_call 37; refine (impl_isTreeKey.calls x _ _ (isTreeKey_f x)).mono ?_; rintro e w' ⟨rfl, hd_⟩; obtain ⟨m, rfl⟩ := hd_.out; clear hd_; rw [HB.out])
  go_ret
  exact ⟨rfl, pw_below_drewN (Below.refl _ _) m⟩
set_option maxHeartbeats 2000000 in
theorem notNode.calls (x : Int) (g0 : Nat) (root : Int) (A : Option Addr) (c : Nat) (l : List S58) (W : World) (q0 : W.cell? ⟨g0, 0, none⟩ = some (.int .i64 root)) (q1 : W.cell? ⟨g0, 1, none⟩ = some (.slice A l.length c)) (hr : Kd.C k58 W A l.length l) (hc : l.length ≤ c) :
  Calls Try.prog 38 #[.int .i64 x, .pointer (some ⟨g0, 0, none⟩)] W fun e w' => e = .returned (.bool (!inB x 0 (wrap64 ((l.length : Int) - 1)))) ∧ Below W.heap.size W w' := by
 have hu29 := Try.underlying29
 have HR := Aside0.mk hr
 have HC := Aside0.mk hc
 clear hr hc
 have HF := Aside0.mk (hasNode_f root l x)
 cases hb : inB x 0 (wrap64 ((l.length : Int) - 1)) with
 | true =>
  rw [hb] at HF
  clear hb
  go_enter Try.func38, Try.ntmps38
  go_wp2_with (go_at_call 39; refine (impl_Tree_hasNode.calls root A c l x true _ (by repeat (first | exact HR.out | apply Kd.C_alloc | apply Kd.C_drewN)) HC.out HF.out).mono ?_; rintro e w' ⟨rfl, hb_⟩; have HB_ := Aside0.mk hb_; clear hb_)
  go_ret
  exact ⟨rfl, by first | exact HB_.out | exact below_step (below_alloc (Below.refl _ _) _) HB_.out⟩
 | false =>
  rw [hb] at HF
  clear hb
  go_enter Try.func38, Try.ntmps38
  go_wp2_with (go_at_call 39; refine (impl_Tree_hasNode.calls root A c l x false _ (by repeat (first | exact HR.out | apply Kd.C_alloc | apply Kd.C_drewN)) HC.out HF.out).mono ?_; rintro e w' ⟨rfl, hb_⟩; have HB_ := Aside0.mk hb_; clear hb_)
  go_ret
  exact ⟨rfl, by first | exact HB_.out | exact below_step (below_alloc (Below.refl _ _) _) HB_.out⟩
set_option maxHeartbeats 8000000 in
set_option maxRecDepth 100000 in
theorem impl_TreeFault.calls (a0_0 : Int) (A0_1 : Option Addr) (c0_1 : Nat) (l0_1 : List (S58)) (r : Int) (w : World) (hr0_1 : Kd.C k58 w A0_1 l0_1.length l0_1) (hc0_1 : l0_1.length ≤ c0_1) (h : impl_TreeFault.f a0_0 l0_1 = some r) :
  Calls Try.prog 12 #[.agg #[.int .i64 a0_0, .slice A0_1 l0_1.length c0_1]] w fun e w' => e = .returned (.int .i64 r) ∧ Below w.heap.size w w' := by
 have h := Option.some.inj h
 have hu29 := Try.underlying29
 have hu58 := Try.underlying58
 have hu71 := Try.underlying71
 obtain ⟨nodes, hnodes⟩ : ∃ n, n = l0_1 := ⟨_, rfl⟩
 subst hnodes
 unfold treeF at h
 have HR := Aside0.mk hr0_1
 have HC0 := Aside0.mk hc0_1
 clear hr0_1 hc0_1
 have BW := Aside0.mk (below_alloc (Below.refl w.heap.size w) (.cells #[.int .i64 a0_0, .slice A0_1 nodes.length c0_1] 29))
 have BX := Aside0.mk (blk_new w (.cells #[.int .i64 a0_0, .slice A0_1 nodes.length c0_1] 29))
 by_cases h1 : (nodes.length : Int) < 1
 ·rw [if_pos h1] at h
  subst h
  have e1 : decide ((nodes.length : Int) < 1) = true := decide_eq_true h1
  clear h1
  go_enter Try.func12, Try.ntmps12
  go_wp2
  go_ret
  exact ⟨rfl, BW.out⟩
 rw [if_neg h1] at h
 have e1 : decide ((nodes.length : Int) < 1) = false := decide_eq_false h1
 by_cases h2 : (60 : Int) < (nodes.length : Int)
 ·rw [if_pos h2] at h
  subst h
  have e2 : decide ((60 : Int) < (nodes.length : Int)) = true := decide_eq_true h2
  clear h1 h2
  go_enter Try.func12, Try.ntmps12
  go_wp2
  go_ret
  exact ⟨rfl, BW.out⟩
 rw [if_neg h2] at h
 have e2 : decide ((60 : Int) < (nodes.length : Int)) = false := decide_eq_false h2
 have hn1 : 1 ≤ nodes.length := by omega
 have hn2 : nodes.length ≤ 60 := by omega
 have hnk := nodes_ok hn1 hn2
 have hw9 : wrap64 ((nodes.length : Int) - 1) = (nodes.length : Int) - 1 := Lb.w64 (by omega) (by omega)
 rw [hw9] at h
 clear h1 h2
 obtain ⟨q, hq⟩ : ∃ q, scanI (fun i => nodeF nodes.length (nodes.getD i z58)) nodes.length 0 = q := ⟨_, rfl⟩
 rw [hq] at h hnk
 have HH := Aside0.mk h
 have HQ := Aside0.mk hq
 have HNK := Aside0.mk hnk
 have HW9 := Aside0.mk hw9
 clear h hq hnk
 go_enter Try.func12, Try.ntmps12
 go_wp2
 generalize w.alloc (.cells #[.int .i64 a0_0, .slice A0_1 nodes.length c0_1] 29) = W0 at BW BX ⊢
 have HGB := Aside0.mk (blk_lt BX.out)
 have HB0 := Aside0.mk (Below.refl W0.heap.size W0)
 go_loopg [20] (nodes.length + 1) (fun gg v20 wr => ∃ i : Nat, v20 = .int .i64 (i : Int) ∧ Aside0 (i ≤ nodes.length) ∧ Aside0 (nodes.length - i < gg) ∧ Aside0 (scanI (fun i => nodeF nodes.length (nodes.getD i z58)) (nodes.length - i) i = q) ∧ Aside0 (Below W0.heap.size W0 wr))
 case atStart => exact ⟨0, rfl, ⟨by omega⟩, ⟨by omega⟩, ⟨by rw [Nat.sub_zero]; exact HQ.out⟩, HB0⟩
 case round =>
  clear HQ HB0
  obtain ⟨i, rfl, HI, HG, HQ, HB⟩ := hrel
  have X0 := Aside0.mk (blk_below BX.out HB.out)
  obtain ⟨t0_, t1_, y0_, y1_⟩ := Lv.blks2 X0.out
  have HRr := Aside0.mk (Kd.C_below HR.out (below_step BW.out HB.out))
  by_cases hlt : i < nodes.length
  ·have g0 : (0 : Int) ≤ (i : Int) := by omega
   have g1 : (i : Int) < (nodes.length : Int) := by omega
   have g2 : decide (i < nodes.length) = true := decide_eq_true hlt
   obtain ⟨ad, A1, c1, A2, c2, ea, hx0, hx1, hx2, hl1, hi1, hl2, hi2⟩ := at_T58 HRr.out (i : Int) g0 g1
   cases ea
   have hrd : rd_T58 nodes (i : Int) = nodes.getD i z58 := by unfold rd_T58; rw [Int.toNat_natCast]
   rw [hrd, Int.toNat_natCast] at hx0 hx1 hx2
   rw [hrd] at hl1 hi1 hl2 hi2
   have hF : (fun i => nodeF nodes.length (nodes.getD i z58)) i = nodeF nodes.length (nodes.getD i z58) := rfl
   obtain ⟨n, hn⟩ : ∃ n, n = nodes.getD i z58 := ⟨_, rfl⟩
   rw [← hn] at hx0 hx1 hx2 hl1 hi1 hl2 hi2 hF
   clear hn hrd
   rw [nodeF_eq, HW9.out] at hF
   rcases n with ⟨lf, ks, ds⟩
   simp only at hx0 hx1 hx2 hl1 hi1 hl2 hi2 hF
   have HF := Aside0.mk hF
   obtain ⟨kl, hkl⟩ : ∃ x, x = ks.length := ⟨_, rfl⟩
   obtain ⟨dl, hdl⟩ : ∃ x, x = ds.length := ⟨_, rfl⟩
   rw [← hkl] at hx1 hl1
   rw [← hdl] at hx2 hl2
   have hk63 := hi1.2.1
   rw [← hkl] at hk63
   have HKL := Aside0.mk hkl
   have HDL := Aside0.mk hdl
   clear hF hkl hdl
   go_upto_region 6 with fail
   clear hx0 hx1 hx2 t0_ t1_ y0_ y1_
   have NB := Aside0.mk (blk_new wr (.cells #[.bool lf, .slice A1 kl c1, .slice A2 dl c2] 58))
   have HBn := Aside0.mk (below_alloc HB.out (.cells #[.bool lf, .slice A1 kl c1, .slice A2 dl c2] 58))
   have XN := Aside0.mk (blk_alloc X0.out (.cells #[.bool lf, .slice A1 kl c1, .slice A2 dl c2] 58))
   have HRn := Aside0.mk (Kd.C_alloc HRr.out (.cells #[.bool lf, .slice A1 kl c1, .slice A2 dl c2] 58))
   have HI1 := Aside0.mk (Kd.C_alloc hi1 (.cells #[.bool lf, .slice A1 kl c1, .slice A2 dl c2] 58))
   have HI2 := Aside0.mk (Kd.C_alloc hi2 (.cells #[.bool lf, .slice A1 kl c1, .slice A2 dl c2] 58))
   clear HB X0 HRr hi1 hi2
   have hnb := blk_lt XN.out
   have hne : wr.heap.size ≠ w.heap.size := fun e => by have h1 := NB.out; rw [e] at h1; rw [XN.out] at h1; simp at h1
   generalize wr.alloc (.cells #[.bool lf, .slice A1 kl c1, .slice A2 dl c2] 58) = w7 at NB HBn XN HRn HI1 HI2 ⊢
   generalize wr.heap.size = nb at NB ⊢
   clear hnb hne
   obtain ⟨t0_, t1_, y0_, y1_⟩ := Lv.blks2 XN.out
   obtain ⟨n0_, n1_, n2_, z0_, z1_, z2_⟩ := Lv.blks3 NB.out
   cases lf with
   | true =>
    by_cases p1 : kl ≤ 3
    ·have p1' : decide ((kl : Int) ≤ 3) = true := decide_eq_true (by omega)
     have p1n : decide (kl ≤ 3) = true := decide_eq_true p1
     by_cases p0 : dl = 0
     ·have p0' : ((dl : Int) == 0) = true := beq_iff_eq.2 (by omega)
      have p0n : (dl == 0) = true := beq_iff_eq.2 p0
      have hcb : countsB ⟨true, ks, ds⟩ = true := countsB_yes HKL.out HDL.out (by simp; omega)
      have hv0 := HF.out
      rw [if_pos hcb] at hv0
      clear hcb
      try clear p0
      try clear p1
      try clear p2
      try clear p3
      have HV := Aside0.mk hv0
      have hk3 : ks.length ≤ 3 := by have h1 := HKL.out; have h2 := of_decide_eq_true p1n; omega
      obtain ⟨K, hK⟩ := rise_some ks hk3
      have HK0 := Aside0.mk hK
      clear hv0 HF hK hk3
      go_upto_region 11 with fail
      cases hk : ks.any (fun x => !inB x 0 10000) with
      | true =>
       have HK := Aside0.mk hk
       have hv := HV.out
       rw [if_pos hk] at hv
       clear hk
       have HS := scan_ret HQ.out hlt hv (by decide)
       have hr : r = 3 := by have := HH.out; rw [HS, if_neg (by decide)] at this; exact this.symm
       subst hr
       clear hv HS
       go_wp2_with (go_at_call 35; rw [HKL.out]; refine (slices_ContainsFunc_int64.calls 36 #[] (fun x => !inB x 0 10000) A1 c1 ks w7 HI1.out (fun W2 x _ _ => notKey.calls x W2) (enters_of Try.func36 (by kernel_rfl) rfl)).mono ?_; rintro e w2 ⟨rfl, hb2⟩; rw [HK.out]; have HB2 := Aside0.mk hb2; clear hb2; have T2 := Lv.blks2 (blk_below XN.out HB2.out); have N2 := Lv.blks3 (blk_below NB.out HB2.out); obtain ⟨t0b, t1b, y0b, y1b⟩ := T2; obtain ⟨n0b, n1b, n2b, z0b, z1b, z2b⟩ := N2)
       go_ret
       exact ⟨rfl, below_step BW.out (below_step HBn.out HB2.out)⟩
      | false =>
       have HK := Aside0.mk hk
       have hv := HV.out
       rw [if_neg (by rw [hk]; decide)] at hv
       clear hk HV
       cases hdd : ds.any (fun x => !inB x 0 ((nodes.length : Int) - 1)) with
       | true =>
        have HD := Aside0.mk hdd
        rw [if_pos hdd] at hv
        clear hdd
        have HS := scan_ret HQ.out hlt hv (by decide)
        have hr : r = 3 := by have := HH.out; rw [HS, if_neg (by decide)] at this; exact this.symm
        subst hr
        clear hv HS
        go_wp2_with (first | (go_at_call 35; rw [HDL.out]; refine (slices_ContainsFunc_int64.calls 38 #[.pointer (some ⟨w.heap.size, 0, none⟩)] (fun x => !inB x 0 (wrap64 ((nodes.length : Int) - 1))) A2 c2 ds w2 (Kd.C_below HI2.out HB2.out) (fun W2 x _ hb => notNode.calls x w.heap.size a0_0 (some ad) c0_1 nodes W2 (pw_cell_below hb (pw_cell_below HB2.out t0_)) (pw_cell_below hb (pw_cell_below HB2.out t1_)) (Kd.C_below (Kd.C_below HRn.out HB2.out) hb) HC0.out) (enters_of Try.func38 (by kernel_rfl) rfl)).mono ?_; rintro e w3 ⟨rfl, hb3⟩; rw [HW9.out, HD.out]; have HB3 := Aside0.mk (below_step HB2.out hb3); clear hb3; have N3 := Lv.blks3 (blk_below NB.out HB3.out); obtain ⟨n0c, n1c, n2c, z0c, z1c, z2c⟩ := N3) | (go_at_call 35; rw [HKL.out]; refine (slices_ContainsFunc_int64.calls 36 #[] (fun x => !inB x 0 10000) A1 c1 ks w7 HI1.out (fun W2 x _ _ => notKey.calls x W2) (enters_of Try.func36 (by kernel_rfl) rfl)).mono ?_; rintro e w2 ⟨rfl, hb2⟩; rw [HK.out]; have HB2 := Aside0.mk hb2; clear hb2; have T2 := Lv.blks2 (blk_below XN.out HB2.out); have N2 := Lv.blks3 (blk_below NB.out HB2.out); obtain ⟨t0b, t1b, y0b, y1b⟩ := T2; obtain ⟨n0b, n1b, n2b, z0b, z1b, z2b⟩ := N2))
        go_ret
        exact ⟨rfl, below_step BW.out (below_step HBn.out HB3.out)⟩
       | false =>
        have HD := Aside0.mk hdd
        rw [if_neg (by rw [hdd]; decide)] at hv
        clear hdd
        have hK := HK0.out
        cases hrb : risesB ks with
        | false =>
         rw [if_neg (by rw [hrb]; decide)] at hv
         have HRS := Aside0.mk hK
         have HRB := Aside0.mk hrb
         clear hK hrb
         have HS := scan_ret HQ.out hlt hv (by decide)
         have hr : r = 1 := by have := HH.out; rw [HS, if_neg (by decide)] at this; exact this.symm
         subst hr
         clear hv HS
         go_wp2_with (first | (go_at_call 40; rw [HKL.out]; refine (impl_rise.calls K A1 c1 ks _ w3 (Kd.C_below HI1.out HB3.out) (by rw [← HKL.out]; exact hl1) HRS.out).mono ?_; rintro e w4 ⟨rfl, hd4⟩; obtain ⟨m, rfl⟩ := hd4.out; clear hd4; rw [HRB.out]) | (go_at_call 35; rw [HDL.out]; refine (slices_ContainsFunc_int64.calls 38 #[.pointer (some ⟨w.heap.size, 0, none⟩)] (fun x => !inB x 0 (wrap64 ((nodes.length : Int) - 1))) A2 c2 ds w2 (Kd.C_below HI2.out HB2.out) (fun W2 x _ hb => notNode.calls x w.heap.size a0_0 (some ad) c0_1 nodes W2 (pw_cell_below hb (pw_cell_below HB2.out t0_)) (pw_cell_below hb (pw_cell_below HB2.out t1_)) (Kd.C_below (Kd.C_below HRn.out HB2.out) hb) HC0.out) (enters_of Try.func38 (by kernel_rfl) rfl)).mono ?_; rintro e w3 ⟨rfl, hb3⟩; rw [HW9.out, HD.out]; have HB3 := Aside0.mk (below_step HB2.out hb3); clear hb3; have N3 := Lv.blks3 (blk_below NB.out HB3.out); obtain ⟨n0c, n1c, n2c, z0c, z1c, z2c⟩ := N3) | (go_at_call 35; rw [HKL.out]; refine (slices_ContainsFunc_int64.calls 36 #[] (fun x => !inB x 0 10000) A1 c1 ks w7 HI1.out (fun W2 x _ _ => notKey.calls x W2) (enters_of Try.func36 (by kernel_rfl) rfl)).mono ?_; rintro e w2 ⟨rfl, hb2⟩; rw [HK.out]; have HB2 := Aside0.mk hb2; clear hb2; have T2 := Lv.blks2 (blk_below XN.out HB2.out); have N2 := Lv.blks3 (blk_below NB.out HB2.out); obtain ⟨t0b, t1b, y0b, y1b⟩ := T2; obtain ⟨n0b, n1b, n2b, z0b, z1b, z2b⟩ := N2))
         go_ret
         exact ⟨rfl, below_step BW.out (pw_below_drewN (below_step HBn.out HB3.out) m)⟩
        | true =>
         rw [if_pos hrb] at hv
         have HRS := Aside0.mk hK
         have HRB := Aside0.mk hrb
         clear hK hrb
         have HS := Aside0.mk (scan_next HQ.out hlt hv)
         clear hv
         go_wp2_with (first | (go_at_call 40; rw [HKL.out]; refine (impl_rise.calls K A1 c1 ks _ w3 (Kd.C_below HI1.out HB3.out) (by rw [← HKL.out]; exact hl1) HRS.out).mono ?_; rintro e w4 ⟨rfl, hd4⟩; obtain ⟨m, rfl⟩ := hd4.out; clear hd4; rw [HRB.out]) | (go_at_call 35; rw [HDL.out]; refine (slices_ContainsFunc_int64.calls 38 #[.pointer (some ⟨w.heap.size, 0, none⟩)] (fun x => !inB x 0 (wrap64 ((nodes.length : Int) - 1))) A2 c2 ds w2 (Kd.C_below HI2.out HB2.out) (fun W2 x _ hb => notNode.calls x w.heap.size a0_0 (some ad) c0_1 nodes W2 (pw_cell_below hb (pw_cell_below HB2.out t0_)) (pw_cell_below hb (pw_cell_below HB2.out t1_)) (Kd.C_below (Kd.C_below HRn.out HB2.out) hb) HC0.out) (enters_of Try.func38 (by kernel_rfl) rfl)).mono ?_; rintro e w3 ⟨rfl, hb3⟩; rw [HW9.out, HD.out]; have HB3 := Aside0.mk (below_step HB2.out hb3); clear hb3; have N3 := Lv.blks3 (blk_below NB.out HB3.out); obtain ⟨n0c, n1c, n2c, z0c, z1c, z2c⟩ := N3) | (go_at_call 35; rw [HKL.out]; refine (slices_ContainsFunc_int64.calls 36 #[] (fun x => !inB x 0 10000) A1 c1 ks w7 HI1.out (fun W2 x _ _ => notKey.calls x W2) (enters_of Try.func36 (by kernel_rfl) rfl)).mono ?_; rintro e w2 ⟨rfl, hb2⟩; rw [HK.out]; have HB2 := Aside0.mk hb2; clear hb2; have T2 := Lv.blks2 (blk_below XN.out HB2.out); have N2 := Lv.blks3 (blk_below NB.out HB2.out); obtain ⟨t0b, t1b, y0b, y1b⟩ := T2; obtain ⟨n0b, n1b, n2b, z0b, z1b, z2b⟩ := N2))
         go_roundg (nodes.length - i)
         case measure => have := HG.out; omega
         case rel => exact ⟨i + 1, by first | rfl | rw [Lb.w64n (by omega)] | go_num, ⟨by omega⟩, ⟨by omega⟩, HS, ⟨pw_below_drewN (below_step HBn.out HB3.out) m⟩⟩
     ·have p0' : ((dl : Int) == 0) = false := beq_eq_false_iff_ne.2 (by omega)
      have p0n : (dl == 0) = false := beq_eq_false_iff_ne.2 p0
      have hv := HF.out
      rw [if_neg (show ¬ countsB _ = true from countsB_no HKL.out HDL.out (by simp; omega))] at hv
      have HS := scan_ret HQ.out hlt hv (by decide)
      have hr : r = 1 := by have := HH.out; rw [HS, if_neg (by decide)] at this; exact this.symm
      subst hr
      clear hv HS
      try clear p0
      try clear p1
      try clear p2
      try clear p3
      go_wp2
      go_ret
      exact ⟨rfl, below_step BW.out HBn.out⟩
    ·have p1' : decide ((kl : Int) ≤ 3) = false := decide_eq_false (by omega)
     have p1n : decide (kl ≤ 3) = false := decide_eq_false p1
     have hv := HF.out
     rw [if_neg (show ¬ countsB _ = true from countsB_no HKL.out HDL.out (by simp; omega))] at hv
     have HS := scan_ret HQ.out hlt hv (by decide)
     have hr : r = 1 := by have := HH.out; rw [HS, if_neg (by decide)] at this; exact this.symm
     subst hr
     clear hv HS
     try clear p0
     try clear p1
     try clear p2
     try clear p3
     go_wp2
     go_ret
     exact ⟨rfl, below_step BW.out HBn.out⟩
   | false =>
    by_cases p1 : kl ≤ 3
    ·have p1' : decide ((kl : Int) ≤ 3) = true := decide_eq_true (by omega)
     have p1n : decide (kl ≤ 3) = true := decide_eq_true p1
     by_cases p0 : dl = 0
     ·have p0' : ((dl : Int) == 0) = true := beq_iff_eq.2 (by omega)
      have p0n : (dl == 0) = true := beq_iff_eq.2 p0
      by_cases p2 : 1 ≤ kl
      ·have p2' : decide ((1 : Int) ≤ (kl : Int)) = true := decide_eq_true (by omega)
       have p2n : decide (1 ≤ kl) = true := decide_eq_true p2
       have e3 : wrap64 ((kl : Int) + 1) = (kl : Int) + 1 := Lb.w64 (by omega) (by omega)
       have p3' : ((dl : Int) == (kl : Int) + 1) = false := beq_eq_false_iff_ne.2 (by omega)
       have hv := HF.out
       rw [if_neg (show ¬ countsB _ = true from countsB_no HKL.out HDL.out (by simp; omega))] at hv
       have HS := scan_ret HQ.out hlt hv (by decide)
       have hr : r = 1 := by have := HH.out; rw [HS, if_neg (by decide)] at this; exact this.symm
       subst hr
       clear hv HS
       try clear p0
       try clear p1
       try clear p2
       try clear p3
       go_wp2
       go_ret
       exact ⟨rfl, below_step BW.out HBn.out⟩
      ·have p2' : decide ((1 : Int) ≤ (kl : Int)) = false := decide_eq_false (by omega)
       have p2n : decide (1 ≤ kl) = false := decide_eq_false p2
       have hv := HF.out
       rw [if_neg (show ¬ countsB _ = true from countsB_no HKL.out HDL.out (by simp; omega))] at hv
       have HS := scan_ret HQ.out hlt hv (by decide)
       have hr : r = 1 := by have := HH.out; rw [HS, if_neg (by decide)] at this; exact this.symm
       subst hr
       clear hv HS
       try clear p0
       try clear p1
       try clear p2
       try clear p3
       go_wp2
       go_ret
       exact ⟨rfl, below_step BW.out HBn.out⟩
     ·have p0' : ((dl : Int) == 0) = false := beq_eq_false_iff_ne.2 (by omega)
      have p0n : (dl == 0) = false := beq_eq_false_iff_ne.2 p0
      by_cases p2 : 1 ≤ kl
      ·have p2' : decide ((1 : Int) ≤ (kl : Int)) = true := decide_eq_true (by omega)
       have p2n : decide (1 ≤ kl) = true := decide_eq_true p2
       by_cases p3 : dl = kl + 1
       ·have e3 : wrap64 ((kl : Int) + 1) = (kl : Int) + 1 := Lb.w64 (by omega) (by omega)
        have p3' : ((dl : Int) == (kl : Int) + 1) = true := beq_iff_eq.2 (by omega)
        have hcb : countsB ⟨false, ks, ds⟩ = true := countsB_yes HKL.out HDL.out (by simp; omega)
        have hv0 := HF.out
        rw [if_pos hcb] at hv0
        clear hcb
        try clear p0
        try clear p1
        try clear p2
        try clear p3
        have HV := Aside0.mk hv0
        have hk3 : ks.length ≤ 3 := by have h1 := HKL.out; have h2 := of_decide_eq_true p1n; omega
        obtain ⟨K, hK⟩ := rise_some ks hk3
        have HK0 := Aside0.mk hK
        clear hv0 HF hK hk3
        go_upto_region 11 with fail
        cases hk : ks.any (fun x => !inB x 0 10000) with
        | true =>
         have HK := Aside0.mk hk
         have hv := HV.out
         rw [if_pos hk] at hv
         clear hk
         have HS := scan_ret HQ.out hlt hv (by decide)
         have hr : r = 3 := by have := HH.out; rw [HS, if_neg (by decide)] at this; exact this.symm
         subst hr
         clear hv HS
         go_wp2_with (go_at_call 35; rw [HKL.out]; refine (slices_ContainsFunc_int64.calls 36 #[] (fun x => !inB x 0 10000) A1 c1 ks w7 HI1.out (fun W2 x _ _ => notKey.calls x W2) (enters_of Try.func36 (by kernel_rfl) rfl)).mono ?_; rintro e w2 ⟨rfl, hb2⟩; rw [HK.out]; have HB2 := Aside0.mk hb2; clear hb2; have T2 := Lv.blks2 (blk_below XN.out HB2.out); have N2 := Lv.blks3 (blk_below NB.out HB2.out); obtain ⟨t0b, t1b, y0b, y1b⟩ := T2; obtain ⟨n0b, n1b, n2b, z0b, z1b, z2b⟩ := N2)
         go_ret
         exact ⟨rfl, below_step BW.out (below_step HBn.out HB2.out)⟩
        | false =>
         have HK := Aside0.mk hk
         have hv := HV.out
         rw [if_neg (by rw [hk]; decide)] at hv
         clear hk HV
         cases hdd : ds.any (fun x => !inB x 0 ((nodes.length : Int) - 1)) with
         | true =>
          have HD := Aside0.mk hdd
          rw [if_pos hdd] at hv
          clear hdd
          have HS := scan_ret HQ.out hlt hv (by decide)
          have hr : r = 3 := by have := HH.out; rw [HS, if_neg (by decide)] at this; exact this.symm
          subst hr
          clear hv HS
          go_wp2_with (first | (go_at_call 35; rw [HDL.out]; refine (slices_ContainsFunc_int64.calls 38 #[.pointer (some ⟨w.heap.size, 0, none⟩)] (fun x => !inB x 0 (wrap64 ((nodes.length : Int) - 1))) A2 c2 ds w2 (Kd.C_below HI2.out HB2.out) (fun W2 x _ hb => notNode.calls x w.heap.size a0_0 (some ad) c0_1 nodes W2 (pw_cell_below hb (pw_cell_below HB2.out t0_)) (pw_cell_below hb (pw_cell_below HB2.out t1_)) (Kd.C_below (Kd.C_below HRn.out HB2.out) hb) HC0.out) (enters_of Try.func38 (by kernel_rfl) rfl)).mono ?_; rintro e w3 ⟨rfl, hb3⟩; rw [HW9.out, HD.out]; have HB3 := Aside0.mk (below_step HB2.out hb3); clear hb3; have N3 := Lv.blks3 (blk_below NB.out HB3.out); obtain ⟨n0c, n1c, n2c, z0c, z1c, z2c⟩ := N3) | (go_at_call 35; rw [HKL.out]; refine (slices_ContainsFunc_int64.calls 36 #[] (fun x => !inB x 0 10000) A1 c1 ks w7 HI1.out (fun W2 x _ _ => notKey.calls x W2) (enters_of Try.func36 (by kernel_rfl) rfl)).mono ?_; rintro e w2 ⟨rfl, hb2⟩; rw [HK.out]; have HB2 := Aside0.mk hb2; clear hb2; have T2 := Lv.blks2 (blk_below XN.out HB2.out); have N2 := Lv.blks3 (blk_below NB.out HB2.out); obtain ⟨t0b, t1b, y0b, y1b⟩ := T2; obtain ⟨n0b, n1b, n2b, z0b, z1b, z2b⟩ := N2))
          go_ret
          exact ⟨rfl, below_step BW.out (below_step HBn.out HB3.out)⟩
         | false =>
          have HD := Aside0.mk hdd
          rw [if_neg (by rw [hdd]; decide)] at hv
          clear hdd
          have hK := HK0.out
          cases hrb : risesB ks with
          | false =>
           rw [if_neg (by rw [hrb]; decide)] at hv
           have HRS := Aside0.mk hK
           have HRB := Aside0.mk hrb
           clear hK hrb
           have HS := scan_ret HQ.out hlt hv (by decide)
           have hr : r = 1 := by have := HH.out; rw [HS, if_neg (by decide)] at this; exact this.symm
           subst hr
           clear hv HS
           go_wp2_with (first | (go_at_call 40; rw [HKL.out]; refine (impl_rise.calls K A1 c1 ks _ w3 (Kd.C_below HI1.out HB3.out) (by rw [← HKL.out]; exact hl1) HRS.out).mono ?_; rintro e w4 ⟨rfl, hd4⟩; obtain ⟨m, rfl⟩ := hd4.out; clear hd4; rw [HRB.out]) | (go_at_call 35; rw [HDL.out]; refine (slices_ContainsFunc_int64.calls 38 #[.pointer (some ⟨w.heap.size, 0, none⟩)] (fun x => !inB x 0 (wrap64 ((nodes.length : Int) - 1))) A2 c2 ds w2 (Kd.C_below HI2.out HB2.out) (fun W2 x _ hb => notNode.calls x w.heap.size a0_0 (some ad) c0_1 nodes W2 (pw_cell_below hb (pw_cell_below HB2.out t0_)) (pw_cell_below hb (pw_cell_below HB2.out t1_)) (Kd.C_below (Kd.C_below HRn.out HB2.out) hb) HC0.out) (enters_of Try.func38 (by kernel_rfl) rfl)).mono ?_; rintro e w3 ⟨rfl, hb3⟩; rw [HW9.out, HD.out]; have HB3 := Aside0.mk (below_step HB2.out hb3); clear hb3; have N3 := Lv.blks3 (blk_below NB.out HB3.out); obtain ⟨n0c, n1c, n2c, z0c, z1c, z2c⟩ := N3) | (go_at_call 35; rw [HKL.out]; refine (slices_ContainsFunc_int64.calls 36 #[] (fun x => !inB x 0 10000) A1 c1 ks w7 HI1.out (fun W2 x _ _ => notKey.calls x W2) (enters_of Try.func36 (by kernel_rfl) rfl)).mono ?_; rintro e w2 ⟨rfl, hb2⟩; rw [HK.out]; have HB2 := Aside0.mk hb2; clear hb2; have T2 := Lv.blks2 (blk_below XN.out HB2.out); have N2 := Lv.blks3 (blk_below NB.out HB2.out); obtain ⟨t0b, t1b, y0b, y1b⟩ := T2; obtain ⟨n0b, n1b, n2b, z0b, z1b, z2b⟩ := N2))
           go_ret
           exact ⟨rfl, below_step BW.out (pw_below_drewN (below_step HBn.out HB3.out) m)⟩
          | true =>
           rw [if_pos hrb] at hv
           have HRS := Aside0.mk hK
           have HRB := Aside0.mk hrb
           clear hK hrb
           have HS := Aside0.mk (scan_next HQ.out hlt hv)
           clear hv
           go_wp2_with (first | (go_at_call 40; rw [HKL.out]; refine (impl_rise.calls K A1 c1 ks _ w3 (Kd.C_below HI1.out HB3.out) (by rw [← HKL.out]; exact hl1) HRS.out).mono ?_; rintro e w4 ⟨rfl, hd4⟩; obtain ⟨m, rfl⟩ := hd4.out; clear hd4; rw [HRB.out]) | (go_at_call 35; rw [HDL.out]; refine (slices_ContainsFunc_int64.calls 38 #[.pointer (some ⟨w.heap.size, 0, none⟩)] (fun x => !inB x 0 (wrap64 ((nodes.length : Int) - 1))) A2 c2 ds w2 (Kd.C_below HI2.out HB2.out) (fun W2 x _ hb => notNode.calls x w.heap.size a0_0 (some ad) c0_1 nodes W2 (pw_cell_below hb (pw_cell_below HB2.out t0_)) (pw_cell_below hb (pw_cell_below HB2.out t1_)) (Kd.C_below (Kd.C_below HRn.out HB2.out) hb) HC0.out) (enters_of Try.func38 (by kernel_rfl) rfl)).mono ?_; rintro e w3 ⟨rfl, hb3⟩; rw [HW9.out, HD.out]; have HB3 := Aside0.mk (below_step HB2.out hb3); clear hb3; have N3 := Lv.blks3 (blk_below NB.out HB3.out); obtain ⟨n0c, n1c, n2c, z0c, z1c, z2c⟩ := N3) | (go_at_call 35; rw [HKL.out]; refine (slices_ContainsFunc_int64.calls 36 #[] (fun x => !inB x 0 10000) A1 c1 ks w7 HI1.out (fun W2 x _ _ => notKey.calls x W2) (enters_of Try.func36 (by kernel_rfl) rfl)).mono ?_; rintro e w2 ⟨rfl, hb2⟩; rw [HK.out]; have HB2 := Aside0.mk hb2; clear hb2; have T2 := Lv.blks2 (blk_below XN.out HB2.out); have N2 := Lv.blks3 (blk_below NB.out HB2.out); obtain ⟨t0b, t1b, y0b, y1b⟩ := T2; obtain ⟨n0b, n1b, n2b, z0b, z1b, z2b⟩ := N2))
           go_roundg (nodes.length - i)
           case measure => have := HG.out; omega
           case rel => exact ⟨i + 1, by first | rfl | rw [Lb.w64n (by omega)] | go_num, ⟨by omega⟩, ⟨by omega⟩, HS, ⟨pw_below_drewN (below_step HBn.out HB3.out) m⟩⟩
       ·have e3 : wrap64 ((kl : Int) + 1) = (kl : Int) + 1 := Lb.w64 (by omega) (by omega)
        have p3' : ((dl : Int) == (kl : Int) + 1) = false := beq_eq_false_iff_ne.2 (by omega)
        have hv := HF.out
        rw [if_neg (show ¬ countsB _ = true from countsB_no HKL.out HDL.out (by simp; omega))] at hv
        have HS := scan_ret HQ.out hlt hv (by decide)
        have hr : r = 1 := by have := HH.out; rw [HS, if_neg (by decide)] at this; exact this.symm
        subst hr
        clear hv HS
        try clear p0
        try clear p1
        try clear p2
        try clear p3
        go_wp2
        go_ret
        exact ⟨rfl, below_step BW.out HBn.out⟩
      ·have p2' : decide ((1 : Int) ≤ (kl : Int)) = false := decide_eq_false (by omega)
       have p2n : decide (1 ≤ kl) = false := decide_eq_false p2
       have hv := HF.out
       rw [if_neg (show ¬ countsB _ = true from countsB_no HKL.out HDL.out (by simp; omega))] at hv
       have HS := scan_ret HQ.out hlt hv (by decide)
       have hr : r = 1 := by have := HH.out; rw [HS, if_neg (by decide)] at this; exact this.symm
       subst hr
       clear hv HS
       try clear p0
       try clear p1
       try clear p2
       try clear p3
       go_wp2
       go_ret
       exact ⟨rfl, below_step BW.out HBn.out⟩
    ·have p1' : decide ((kl : Int) ≤ 3) = false := decide_eq_false (by omega)
     have p1n : decide (kl ≤ 3) = false := decide_eq_false p1
     have p2 : 1 ≤ kl := by omega
     have p2' : decide ((1 : Int) ≤ (kl : Int)) = true := decide_eq_true (by omega)
     have p2n : decide (1 ≤ kl) = true := decide_eq_true p2
     have hv := HF.out
     rw [if_neg (show ¬ countsB _ = true from countsB_no HKL.out HDL.out (by simp; omega))] at hv
     have HS := scan_ret HQ.out hlt hv (by decide)
     have hr : r = 1 := by have := HH.out; rw [HS, if_neg (by decide)] at this; exact this.symm
     subst hr
     clear hv HS
     try clear p0
     try clear p1
     try clear p2
     try clear p3
     go_wp2
     go_ret
     exact ⟨rfl, below_step BW.out HBn.out⟩
  ·have hq0 := scan_end HQ.out (by omega)
   have c3 : decide ((i : Int) < (nodes.length : Int)) = false := decide_eq_false (by omega)
   have c4 : decide (i < nodes.length) = false := decide_eq_false hlt
   subst hq0
   have hh := HH.out
   rw [if_pos rfl] at hh
   obtain ⟨hlen, hkid⟩ := HNK.out rfl
   have HLN := Aside0.mk hlen
   have HKD := Aside0.mk hkid
   have hhn := hasNode_f a0_0 nodes a0_0
   rw [HW9.out] at hhn
   clear HH HQ HNK HG HI hlt hlen hkid
   cases hib : inB a0_0 0 ((nodes.length : Int) - 1) with
   | false =>
    rw [if_neg (by rw [hib]; decide)] at hh
    rw [hib] at hhn
    have HHN := Aside0.mk hhn
    clear hib hhn
    subst hh
    go_wp2_with (go_at_call 39; refine (impl_Tree_hasNode.calls a0_0 A0_1 c0_1 nodes a0_0 _ wr HRr.out HC0.out HHN.out).mono ?_; rintro e w2 ⟨rfl, hb2⟩; have HB2 := Aside0.mk hb2; clear hb2)
    go_ret
    exact ⟨rfl, below_step BW.out (below_step HB.out HB2.out)⟩
   | true =>
    rw [if_pos hib] at hh
    rw [hib] at hhn
    have HHN := Aside0.mk hhn
    clear hhn
    have hin := inB_iff.1 hib
    obtain ⟨hr0, hr1⟩ := hin
    obtain ⟨g', hw, hin2, -⟩ := walkW_some HKD.out 61 ⟨[], 0, false⟩ a0_0 0 10001 1 ⟨List.nodup_nil, fun x hx => absurd hx (by simp)⟩ hr0 (by omega) (by simp only [List.length_nil]; omega)
    have HW := Aside0.mk hw
    rw [hw] at hh
    clear hib hw
    have hr2 : a0_0 < (nodes.length : Int) := by omega
    rcases g' with ⟨s2, dep2, bad2⟩
    simp only [treeEnd] at hh
    have HIN := Aside0.mk hin2
    have hsl := inR_len hin2
    simp only at hsl
    clear hin2
    go_upto_region 18 with (go_at_call 39; refine (impl_Tree_hasNode.calls a0_0 A0_1 c0_1 nodes a0_0 _ wr HRr.out HC0.out HHN.out).mono ?_; rintro e w2 ⟨rfl, hb2⟩; have HB2 := Aside0.mk hb2; clear hb2)
    have HB3 := Aside0.mk (below_step HB.out HB2.out)
    have X2 := Aside0.mk (blk_below X0.out HB2.out)
    have HR2 := Aside0.mk (Kd.C_below HRr.out HB2.out)
    clear HB X0 HRr t0_ t1_ y0_ y1_ HB2
    obtain ⟨t0_, t1_, y0_, y1_⟩ := Lv.blks2 X2.out
    refine start_ (n := 8) (S := fun W_ => W_.cell? ⟨w.heap.size, 0, none⟩ = some (.int .i64 a0_0) ∧ W_.cell? ⟨w.heap.size, 1, none⟩ = some (.slice A0_1 nodes.length c0_1)) (ds := []) #[false, false, false, false, false, false, false, false] (by kernel_rfl) rfl rfl ⟨t0_, t1_⟩ (fun hHeld => ?_)
    have HB4 := Aside0.mk (below_drew1 HB3.out)
    have X3 := Aside0.mk (blk_drew X2.out)
    have HR3 := Aside0.mk (Kd.C_drew HR2.out)
    clear HB3 X2 HR2 t0_ t1_ y0_ y1_
    generalize w2.drew = W1 at HB4 X3 HR3 hHeld ⊢
    refine zp 1 82 ?_; refine zt 0 81 ?_; refine zt 2 83 ?_; refine zp 3 84 ?_
    refine one_ (i := 4) (N := some 85) #[true, true, true, true, true, false, false, false] rfl rfl (by kernel_rfl) (by decide) (fun K hK => ?_)
    refine Kd.R_make_step Kd.bool (w0 := W1) W1.heap.size 4 (by rfl) (N := 85) rfl 69 _ _ rfl (nodes.length : Int) rfl rfl Try.underlying69 (.bool false) 1 (by kernel_rfl) rfl (by decide) (by decide) false (ok := fun _ => True) (okp := fun _ => True) rfl (fun _ hk => hk) trivial (by omega) (by omega) (Below.refl _ _) (Nat.le_refl _) ?_
    intro v1 W2 hR2 hB2 hg2 ho2
    rw [Int.toNat_natCast, seenB_nil] at hR2
    obtain ⟨rb, cap, e2_, hrb0, hrb1, -⟩ := Kd.R_form hR2 (by rw [seenB_len]; omega)
    rw [seenB_len] at e2_
    subst e2_
    have HR2_ := Aside0.mk hR2
    have HB2 := Aside0.mk hB2
    clear hR2 hB2 hg2 ho2 hrb0 hrb1
    refine hK.out _ _ ⟨pw_cell_below HB2.out hHeld.1, pw_cell_below HB2.out hHeld.2⟩ (fun hHeld => ?_)
    clear hK K
    refine norm_ (a' := ?_) ?_ ?_
    rotate_left
    ·show Act.put _ (some 85) _ = _
     simp only [Act.put, List.setIfInBounds_toArray, List.set_cons_zero, List.set_cons_succ, i64_w, i32_w]
     rfl
    refine zp 5 86 ?_
    refine one_ (i := 6) (N := some 87) #[true, true, true, true, true, true, true, false] rfl rfl (by kernel_rfl) (by decide) (fun K hK => ?_)
    refine box_step (by rfl) (N := 87) rfl (cs := #[.int .i64 a0_0, .slice A0_1 nodes.length c0_1, .slice (some ⟨rb, 0, none⟩) nodes.length cap, .int .i64 0, .bool false]) (t := 71) ?hr ?_
    case hr => first | (go_simp; done) | (go_simp; rfl)
    intro wb hwb W3 hbox hB3
    have HSV := Aside0.mk (show StV W1 W3 wb rb cap c0_1 nodes.length a0_0 A0_1 (seenB nodes.length []) 0 false from ⟨hbox, Kd.R_below HR2_.out hB3, below_step HB2.out hB3⟩)
    have HGW := Aside0.mk (show W1.heap.size ≤ wb by rw [hwb]; exact HB2.out.size)
    refine hK.out _ _ ⟨pw_cell_below hB3 hHeld.1, pw_cell_below hB3 hHeld.2⟩ (fun hHeld => ?_)
    clear hK K hbox hB3 hwb HR2_ HB2
    refine norm_ (a' := ?_) ?_ ?_
    rotate_left
    ·show Act.put _ (some 87) _ = _
     simp only [Act.put, List.setIfInBounds_toArray, List.set_cons_zero, List.set_cons_succ, i64_w, i32_w]
     rfl
    refine zp 7 6 ?_
    refine done_ (by kernel_rfl) ?_
    obtain ⟨t0_, t1_⟩ := hHeld
    cases bad2 with
    | true =>
     rw [if_pos rfl] at hh
     subst hh
     go_wp2_with (go_at_call 41; refine (impl_visit.at (w0 := W1) (root := a0_0) HR3.out HGW.out hn2 HLN.out HKD.out 61 [] 0 a0_0 0 10001 1 ⟨s2, dep2, _⟩ W3 HW.out ⟨List.nodup_nil, fun x hx => absurd hx (by simp)⟩ hr0 hr2 (by omega) HSV.out).mono ?_; rintro e w5 ⟨rfl, xs5, dep5, hS5, hx5, -⟩; clear hx5; have HS5 := Aside0.mk hS5; obtain ⟨q0_, q1_, q2_, q3_, q4_, z3_, z4_⟩ := svCells hS5; clear hS5)
     go_ret
     exact ⟨rfl, below_step BW.out (below_step HB4.out HS5.out.2.2)⟩
    | false =>
     rw [if_neg (by decide)] at hh
     obtain ⟨K, hK⟩ := contains_some (seenB nodes.length s2) false (by rw [seenB_len]; omega)
     rw [seen_false HIN.out] at hK
     have hsbl := seenB_len nodes.length s2
     by_cases hs : (s2.length : Int) = (nodes.length : Int)
     ·rw [if_pos hs] at hh
      subst hh
      rw [show decide ((s2.length : Int) = (nodes.length : Int)) = true from decide_eq_true hs] at hK
      have HKK := Aside0.mk hK
      have HSB := Aside0.mk hsbl
      clear hs hK hsbl
      go_upto_region 20 with (go_at_call 41; refine (impl_visit.at (w0 := W1) (root := a0_0) HR3.out HGW.out hn2 HLN.out HKD.out 61 [] 0 a0_0 0 10001 1 ⟨s2, dep2, _⟩ W3 HW.out ⟨List.nodup_nil, fun x hx => absurd hx (by simp)⟩ hr0 hr2 (by omega) HSV.out).mono ?_; rintro e w5 ⟨rfl, xs5, dep5, hS5, hx5, -⟩; have HX5 := Aside0.mk ((hx5 rfl).1); clear hx5; have HS5 := Aside0.mk hS5; obtain ⟨q0_, q1_, q2_, q3_, q4_, z3_, z4_⟩ := svCells hS5; clear hS5)
      have hcc := fun q1 q2 => slices_Contains_bool.calls K (some ⟨rb, 0, none⟩) cap (seenB nodes.length s2) false _ w5 q1 q2 HKK.out
      rw [HSB.out] at hcc
      have hcc := hcc (by have q := Kd.R_reads' HS5.out.2.1; rw [HX5.out, HSB.out] at q; exact q.2.2) (by have q := Kd.R_reads' HS5.out.2.1; exact q.2.1)
      have HCC := Aside0.mk hcc
      clear hcc
      go_wp2_with (go_at_call 42; refine HCC.out.mono ?_; rintro e w6 ⟨rfl, hd6⟩; obtain ⟨m, rfl⟩ := hd6.out; clear hd6)
      go_ret
      exact ⟨rfl, below_step BW.out (pw_below_drewN (below_step HB4.out HS5.out.2.2) m)⟩
     ·rw [if_neg hs] at hh
      subst hh
      rw [show decide ((s2.length : Int) = (nodes.length : Int)) = false from decide_eq_false hs] at hK
      have HKK := Aside0.mk hK
      have HSB := Aside0.mk hsbl
      clear hs hK hsbl
      go_upto_region 20 with (go_at_call 41; refine (impl_visit.at (w0 := W1) (root := a0_0) HR3.out HGW.out hn2 HLN.out HKD.out 61 [] 0 a0_0 0 10001 1 ⟨s2, dep2, _⟩ W3 HW.out ⟨List.nodup_nil, fun x hx => absurd hx (by simp)⟩ hr0 hr2 (by omega) HSV.out).mono ?_; rintro e w5 ⟨rfl, xs5, dep5, hS5, hx5, -⟩; have HX5 := Aside0.mk ((hx5 rfl).1); clear hx5; have HS5 := Aside0.mk hS5; obtain ⟨q0_, q1_, q2_, q3_, q4_, z3_, z4_⟩ := svCells hS5; clear hS5)
      have hcc := fun q1 q2 => slices_Contains_bool.calls K (some ⟨rb, 0, none⟩) cap (seenB nodes.length s2) false _ w5 q1 q2 HKK.out
      rw [HSB.out] at hcc
      have hcc := hcc (by have q := Kd.R_reads' HS5.out.2.1; rw [HX5.out, HSB.out] at q; exact q.2.2) (by have q := Kd.R_reads' HS5.out.2.1; exact q.2.1)
      have HCC := Aside0.mk hcc
      clear hcc
      go_wp2_with (go_at_call 42; refine HCC.out.mono ?_; rintro e w6 ⟨rfl, hd6⟩; obtain ⟨m, rfl⟩ := hd6.out; clear hd6)
      go_ret
      exact ⟨rfl, below_step BW.out (pw_below_drewN (below_step HB4.out HS5.out.2.2) m)⟩


end Go.Proofs.Ytdhdgkonghefeaa.P
