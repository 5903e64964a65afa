-- Printed by this session's own program over the kit's print (wip/tools/mp.py). Not trusted: Lean checks it.
import Derived.Test.YtdhdgkonghefeaaP0
import Derived.Test.YtdhdgkonghefeaaPCall2
import Derived.Test.YtdhdgkonghefeaaPCall3
import Derived.Test.YtdhdgkonghefeaaPCall5
import Derived.Test.YtdhdgkonghefeaaPCbcdf0
import Derived.Test.YtdhdgkonghefeaaPDm0
import Derived.Test.YtdhdgkonghefeaaWRepsOne
import Derived.Test.YtdhdgkonghefeaaLb
import Derived.Test.YtdhdgkonghefeaaLv
import Derived.IntWalk
import Derived.Shelf.Abstract
import Derived.Test.YtdhdgkonghefeaaZz
namespace Go.Proofs.Ytdhdgkonghefeaa.P
open Go.RowKit Go.Proofs.YtdhdgkonghefeaaW.PrintWords Go.Proofs.YtdhdgkonghefeaaW.PrintLast Go.Proofs.YtdhdgkonghefeaaW.PrintMore
attribute [local go_sem] max2_int min2_int max_two min_two max_three min_three max_four min_four   -- for this text's walks alone
set_option linter.unusedVariables false
set_option linter.unusedSimpArgs false

/-! ### spec_l4Has: function 44 -/
-- PROOF --
-- NEEDS Derived.Test.YtdhdgkonghefeaaLb
-- NEEDS Derived.Test.YtdhdgkonghefeaaLv
-- NEEDS Derived.IntWalk
-- NEEDS Derived.Shelf.Abstract
-- NEEDS Derived.Test.YtdhdgkonghefeaaZz
theorem last_mem {p : List Int} (h : p ≠ []) : p.getD (p.length - 1) 0 ∈ p := by
 have hl := List.length_pos_iff.2 h
 rw [Lb.getD_at (by omega)]
 exact List.getElem_mem _
set_option maxHeartbeats 8000000 in
set_option maxRecDepth 100000 in
theorem spec_l4Has.calls {g : Nat} (s0_0 : Int) (A1 : Option Addr) (c1 : Nat) (s0_1 : List (S58)) (a1 : Int) (r : Bool) (w : World) (hr1 : Kd.C k58 w A1 s0_1.length s0_1) (hc1 : s0_1.length ≤ c1) (h : spec_l4Has.f s0_0 s0_1 a1 = some r)
  (hbx : Aside0 (w.heap[g]? = some (.cells #[.int .i64 s0_0, .slice A1 s0_1.length c1] 29 (0, 0))) := by assumption) :
  Calls Try.prog 44 #[.pointer (some ⟨g, 0, none⟩), .int .i64 a1] w fun e w' => e = .returned (.bool r) ∧ Below w.heap.size w w' := by
 have hu29 := Try.underlying29
 have hu58 := Try.underlying58
 unfold spec_l4Has.f at h
 by_cases ht : treeF s0_0 s0_1 = 0
 case neg => rw [if_neg ht] at h; cases h
 rw [if_pos ht] at h
 have h := Option.some.inj h
 unfold hasF at h
 obtain ⟨hn1, hn2, hlen, hkid, h3, h4, hp⟩ := treeF_ok ht
 obtain ⟨p, hp⟩ := hp a1
 rw [hp] at h
 simp only at h
 obtain ⟨hp0, hp1, hpm⟩ := pathW_mem (fun n hn => (hlen n hn).2.2) hkid a1 61 s0_0 p h3 h4 hp
 have hpl := List.length_pos_iff.2 hp0
 obtain ⟨Y, hY⟩ : ∃ y, y = p.getD (p.length - 1) 0 := ⟨_, rfl⟩
 have hY2 := hpm _ (last_mem hp0)
 unfold lastKeys at h
 rw [← hY] at h hY2
 obtain ⟨hY0, hY1⟩ := hY2
 have HF := Aside0.mk (show spec_l4Path.f s0_0 s0_1 a1 = some p by unfold spec_l4Path.f; rw [if_pos ht, hp])
 obtain ⟨ad, Ak, ck, A2, c2, ea, -, hx1, -, hl1, hi1, -, -⟩ := at_T58 hr1 Y hY0 hY1
 cases ea
 have hm := getD_mem hY0 hY1
 have hrd : rd_T58 s0_1 Y = s0_1.getD Y.toNat z58 := rfl
 rw [hrd] at hx1 hl1 hi1
 obtain ⟨ks, hks⟩ : ∃ k, k = (s0_1.getD Y.toNat z58).f1 := ⟨_, rfl⟩
 have hk3 := (hlen _ hm).1
 rw [← hks] at h hx1 hl1 hi1 hk3
 obtain ⟨KN, hK⟩ := l1Has_some ks a1 (by omega)
 rw [h] at hK
 have HK := Aside0.mk hK
 have HR := Aside0.mk hr1
 have HC := Aside0.mk hc1
 have HX1 := Aside0.mk hx1
 have HI1 := Aside0.mk hi1
 have HYY := Aside0.mk hY
 have e9 : wrap64 ((p.length : Int) - 1) = ((p.length - 1 : Nat) : Int) := by rw [Lb.w64 (by omega) (by omega)]; omega
 have i9 : ((p.length - 1 : Nat) : Int) < (p.length : Int) := by omega
 have i8 : p.length - 1 < p.length := by omega
 clear ht h hp hlen hkid h3 h4 hp0 hpm hm hrd hks hK hr1 hc1 hx1 hi1 hY hk3 hn1 hn2 hpl
 go_enter Try.func44, Try.ntmps44
 go_upto_region 2 with (go_at_call 47; refine (spec_l4Path.calls (g := g) s0_0 (some ad) c1 s0_1 a1 p w HR.out HC.out HF.out hbx).mono ?_; rintro e w1 ⟨v, rfl, hr1, hb1⟩; obtain ⟨A3, c3, e3_, hlc, hC3⟩ := Kd.R_reads hr1; subst e3_; have HC3 := Aside0.mk hC3; have HB1 := Aside0.mk hb1; clear hr1 hb1 hC3)
 have X1 := Aside0.mk (blk_below hbx.out HB1.out)
 obtain ⟨a3, ea, hy_⟩ := Kd.at_int HC3.out ((p.length - 1 : Nat) : Int) (by omega) (by omega)
 cases ea
 rw [show rd p ((p.length - 1 : Nat) : Int) = Y by unfold rd; rw [Int.toNat_natCast]; exact HYY.out.symm, Int.toNat_natCast] at hy_
 obtain ⟨-, t1_, -, -⟩ := Lv.blks2 X1.out
 have HXk := Aside0.mk (pw_cell_below HB1.out HX1.out)
 have HIk := Aside0.mk (Kd.C_below HI1.out HB1.out)
 clear HX1 HI1 X1 HC3
 generalize p.length - 1 = pl at hy_ e9 i9 i8
 refine start_ (n := 16) (S := fun W_ => W_.cell? ⟨g, 1, none⟩ = some (.slice (some ad) s0_1.length c1) ∧ W_.cell? (a3.add pl) = some (.int .i64 Y) ∧ W_.cell? ⟨(ad.add (Y.toNat * 3)).block, (ad.add (Y.toNat * 3)).off + 1, none⟩ = some (.slice Ak ks.length ck)) (ds := []) #[false, false, false, false, false, false, false, false, false, false, false, false, false, false, false, false] (by kernel_rfl) rfl rfl ⟨t1_, hy_, HXk.out⟩ (fun hHeld => ?_)
 replace HIk := Aside0.mk (Kd.C_drew HIk.out)
 replace HB1 := Aside0.mk (below_drew1 HB1.out)
 clear t1_ hy_ HXk
 generalize w1.drew = w2 at HIk HB1 hHeld ⊢
 refine zp 0 9 ?_; refine zp 1 10 ?_; refine zp 2 11 ?_; refine zp 4 13 ?_; refine zp 5 14 ?_; refine zp 6 15 ?_; refine zp 7 16 ?_; refine zp 8 17 ?_; refine zp 13 22 ?_; refine zt 3 12 ?_; refine zt 9 18 ?_; refine zp 10 19 ?_; refine zp 11 20 ?_; refine zt 12 21 ?_
 refine one_ (i := 14) (N := some 23) #[true, true, true, true, true, true, true, true, true, true, true, true, true, true, true, false] rfl rfl (by kernel_rfl) (by decide) (fun K hK => ?_)
 refine goes_ Try.func63 (by kernel_rfl) rfl #[.slice Ak ks.length ck, .int .i64 a1] (by rfl) rfl rfl zm ?_
 refine (spec_l1Has.calls KN Ak ck ks a1 r _ HIk.out hl1 HK.out).mono ?_
 rintro e w3 ⟨rfl, hd3⟩
 refine ⟨_, rfl, ?_⟩
 obtain ⟨m, rfl⟩ := hd3.out
 clear hd3
 refine hK.out _ _ ⟨hHeld.1, hHeld.2.1, hHeld.2.2⟩ (fun hHeld => ?_)
 clear hK K
 refine norm_ (a' := ?_) ?_ ?_
 rotate_left
 ·show Act.put _ (some 23) _ = _
  simp only [Act.put, List.setIfInBounds_toArray, List.set_cons_zero, List.set_cons_succ, i64_w, i32_w]
  rfl
 refine zp 15 4 ?_
 refine done_ (by kernel_rfl) ?_
 go_wp2
 go_ret
 exact ⟨rfl, pw_below_drewN HB1.out m⟩


/-! ### slices_Index_int64: function 68 -/
set_option maxHeartbeats 8000000 in
set_option maxRecDepth 100000 in
theorem slices_Index_int64.calls (k : Nat) (A0 : Option Addr) (c0 : Nat) (l0 : List Int) (a1 : Int) (r : Int) (w : World) (hr0 : Kd.C (Kd.int .i64) w A0 l0.length l0) (hc0 : l0.length ≤ c0) (h : slices_Index_int64.f k l0 a1 = some r) :
  Calls Try.prog 68 #[.slice A0 l0.length c0, .int .i64 a1] w fun e w' => e = .returned (.int .i64 r) ∧ Drawn0 w w' := by
 have HR0 := Aside0.mk hr0
 have HC0 := Aside0.mk hc0
 clear hr0 hc0
 have H : (slices_Index_int64.l0 k l0 a1 (l0.length : Int) 0) = some r := h
 clear h
 have H' := Aside0.mk H
 clear H
 go_enter Try.func68, Try.ntmps68
 go_wp2
 go_loopg [8] k (fun kq v8 w' => ∃ (x8_1 : Int), v8 = .int .i64 x8_1 ∧ Aside0 (slices_Index_int64.l0 kq l0 a1 (l0.length : Int) x8_1 = some r) ∧ Aside0 (kq ≤ k) ∧ Drawn0 w w')
 case atStart => exact ⟨(0), (by first | rfl | (simp; done) | (simp [*]; done)), H', ⟨Nat.le_refl _⟩, by repeat (first | exact Drawn0.refl _ | apply Drawn0.step)⟩
 case round =>
  clear H'
  try clear p2
  obtain ⟨x8_1, rfl, HA, HK1, ⟨m1, rfl⟩⟩ := hrel
  cases gk with
  | zero => exact absurd HA.out (by simp [slices_Index_int64.l0])
  | succ k1 =>
   have H := HA.out
   clear HA
   simp only [slices_Index_int64.l0] at H
   by_cases c3 : x8_1 < (l0.length : Int)
   ·rw [if_pos c3] at H
    have c3b0 : decide (x8_1 < (l0.length : Int)) = true := decide_eq_true c3
    clear c3
    by_cases c4 : 0 ≤ x8_1
    ·rw [if_pos c4] at H
     have c4b0 : decide (0 ≤ x8_1) = true := decide_eq_true c4
     clear c4
     by_cases c5 : x8_1 < (l0.length : Int)
     ·rw [if_pos c5] at H
      have c5b0 : decide (x8_1 < (l0.length : Int)) = true := decide_eq_true c5
      clear c5
      by_cases c6 : a1 = (rd l0 x8_1)
      ·rw [if_pos c6] at H
       have c6b0 : (a1 == (rd l0 x8_1)) = true := beq_iff_eq.mpr c6
       have c6b1 : (a1 != (rd l0 x8_1)) = false := bne_eq_false_iff_eq.mpr c6
       clear c6
       obtain rfl := Option.some.inj H
       have p182 : 0 ≤ (x8_1 : Int) := of_decide_eq_true (by first | (with_reducible assumption) | assumption)
       have q182 : x8_1 < (l0.length : Int) := of_decide_eq_true (by first | (with_reducible assumption) | assumption)
       obtain ⟨ad182, e182, hx182_0⟩ := Kd.at_int HR0.out x8_1 p182 q182
       cases e182
       replace p182 := eq_true p182
       replace q182 := eq_true q182
       go_wp2
       go_ret
       exact ⟨by first | rfl | (simp; done) | (simp [*]; done), by repeat (first | exact Drawn0.refl _ | apply Drawn0.step)⟩
      ·rw [if_neg c6] at H
       have c6b0 : (a1 == (rd l0 x8_1)) = false := beq_eq_false_iff_ne.mpr c6
       have c6b1 : (a1 != (rd l0 x8_1)) = true := bne_iff_ne.mpr c6
       have H' := Aside0.mk H
       clear H
       have p182 : 0 ≤ (x8_1 : Int) := of_decide_eq_true (by first | (with_reducible assumption) | assumption)
       have q182 : x8_1 < (l0.length : Int) := of_decide_eq_true (by first | (with_reducible assumption) | assumption)
       obtain ⟨ad182, e182, hx182_0⟩ := Kd.at_int HR0.out x8_1 p182 q182
       cases e182
       replace p182 := eq_true p182
       replace q182 := eq_true q182
       go_wp2
       go_roundg k1
       case measure => have := HK1.out; omega
       case rel => exact ⟨(wrap64 (x8_1 + 1)), (by first | rfl | (simp; done) | (simp [*]; done)), H', ⟨by have := HK1.out; omega⟩, by repeat (first | exact Drawn0.refl _ | apply Drawn0.step)⟩
     ·rw [if_neg c5] at H
      exact absurd H (by simp)
    ·rw [if_neg c4] at H
     exact absurd H (by simp)
   ·rw [if_neg c3] at H
    have c3b0 : decide (x8_1 < (l0.length : Int)) = false := decide_eq_false c3
    clear c3
    obtain rfl := Option.some.inj H
    go_wp2
    go_ret
    exact ⟨by first | rfl | (simp; done) | (simp [*]; done), by repeat (first | exact Drawn0.refl _ | apply Drawn0.step)⟩

/-! ### slices_Contains_int64: function 45 -/
set_option maxHeartbeats 8000000 in
set_option maxRecDepth 100000 in
theorem slices_Contains_int64.calls (k : Nat) (A0 : Option Addr) (c0 : Nat) (l0 : List Int) (a1 : Int) (r : Bool) (w : World) (hr0 : Kd.C (Kd.int .i64) w A0 l0.length l0) (hc0 : l0.length ≤ c0) (h : slices_Contains_int64.f k l0 a1 = some r) :
  Calls Try.prog 45 #[.slice A0 l0.length c0, .int .i64 a1] w fun e w' => e = .returned (.bool r) ∧ Drawn0 w w' := by
 have HR0 := Aside0.mk hr0
 have HC0 := Aside0.mk hc0
 clear hr0 hc0
 have H : ((slices_Index_int64.f k l0 a1).bind fun t183 => (some (decide (t183 ≥ 0)))) = some r := h
 clear h
 replace H := Option.bind_eq_some_iff.mp H
 obtain ⟨t183, A30, H⟩ := H
 replace H : (some (decide (t183 ≥ 0))) = some r := H
 have A3 := Aside0.mk A30
 clear A30
 obtain rfl := Option.some.inj H
 go_enter Try.func45, Try.ntmps45
 go_wp2_with (first | ((with_reducible refine gate_callee (f := 68) rfl ?_); refine goesL_ (some 7) rfl rfl Try.func68 (by kernel_rfl) rfl #[.slice A0 l0.length c0, .int .i64 a1] rfl (by (try simp only [List.map_toArray, List.map_cons, List.map_nil]); first | done | rfl | (simp only [List.length_drop, List.length_take]; rfl)) ?_; (with_reducible refine (slices_Index_int64.calls k _ _ l0 a1 t183 _ ?side1 ?side2 A3.out).mono ?_); (case side1 => repeat (first | exact HR0.out | (with_reducible refine Kd.C_alloc ?_ _) | (with_reducible refine Kd.C_drewN ?_ _) | (with_reducible refine Kd.C_drew ?_))); (case side2 => exact HC0.out); rintro e w' ⟨rfl, ⟨nd, rfl⟩⟩; refine ⟨_, rfl, ?_⟩))
 go_ret
 exact ⟨by first | rfl | (simp; done) | (simp [*]; done), by repeat (first | exact Drawn0.refl _ | apply Drawn0.step)⟩

/-! ### impl_Tree_leaf: function 46 -/
-- PROOF --
-- NEEDS Derived.Test.YtdhdgkonghefeaaLb
-- NEEDS Derived.Test.YtdhdgkonghefeaaLv
-- NEEDS Derived.IntWalk
-- NEEDS Derived.Shelf.Abstract
-- NEEDS Derived.Test.YtdhdgkonghefeaaZz
set_option maxHeartbeats 8000000 in
set_option maxRecDepth 100000 in
theorem impl_leaf.at (k : Nat) (a0_0 : Int) (ad : Addr) (c0_1 : Nat) (l0_1 : List (S58)) (a1 : Int) (p : List Int) (Y : Int) (w : World) (hr0_1 : Kd.C k58 w (some ad) l0_1.length l0_1) (hc0_1 : l0_1.length ≤ c0_1) (hp : impl_Tree_path.f k a0_0 l0_1 a1 = some p) (hpl : 0 < p.length) (hp1 : p.length ≤ 1000) (hY : Y = p.getD (p.length - 1) 0) (hY0 : 0 ≤ Y) (hY1 : Y < (l0_1.length : Int)) :
  Calls Try.prog 46 #[.agg #[.int .i64 a0_0, .slice (some ad) l0_1.length c0_1], .int .i64 a1] w fun e w' => e = .returned (.pointer (some (ad.add (Y.toNat * 3)))) ∧ Below w.heap.size w w' := by
 have hu29 := Try.underlying29
 have hu58 := Try.underlying58
 have HR := Aside0.mk hr0_1
 have HC := Aside0.mk hc0_1
 have HF := Aside0.mk hp
 have HYY := Aside0.mk hY
 have e9 : wrap64 ((p.length : Int) - 1) = ((p.length - 1 : Nat) : Int) := by rw [Lb.w64 (by omega) (by omega)]; omega
 have i9 : ((p.length - 1 : Nat) : Int) < (p.length : Int) := by omega
 have i8 : p.length - 1 < p.length := by omega
 clear hr0_1 hc0_1 hp hY hpl hp1
 go_enter Try.func46, Try.ntmps46
 go_upto_region 1 with fail
 have BX := Aside0.mk (blk_new w (.cells #[.int .i64 a0_0, .slice (some ad) l0_1.length c0_1] 29))
 have BW := Aside0.mk (below_alloc (Below.refl w.heap.size w) (.cells #[.int .i64 a0_0, .slice (some ad) l0_1.length c0_1] 29))
 replace HR := Aside0.mk (Kd.C_alloc HR.out (.cells #[.int .i64 a0_0, .slice (some ad) l0_1.length c0_1] 29))
 generalize w.alloc (.cells #[.int .i64 a0_0, .slice (some ad) l0_1.length c0_1] 29) = W0 at BX BW HR ⊢
 obtain ⟨t0_, t1_, -, -⟩ := Lv.blks2 BX.out
 go_upto_region 2 with (go_at_call 48; refine (impl_Tree_path.calls k a0_0 (some ad) c0_1 l0_1 a1 p _ HR.out HC.out HF.out).mono ?_; rintro e w1 ⟨v, rfl, hr1, hb1⟩; obtain ⟨A3, c3, e3_, hlc, hC3⟩ := Kd.R_reads hr1; subst e3_; have HC3 := Aside0.mk hC3; have HB1 := Aside0.mk hb1; clear hr1 hb1 hC3)
 clear t0_ t1_
 have X1 := Aside0.mk (blk_below BX.out HB1.out)
 obtain ⟨a3, ea, hy_⟩ := Kd.at_int HC3.out ((p.length - 1 : Nat) : Int) (by omega) (by omega)
 cases ea
 rw [show rd p ((p.length - 1 : Nat) : Int) = Y by unfold rd; rw [Int.toNat_natCast]; exact HYY.out.symm, Int.toNat_natCast] at hy_
 obtain ⟨-, t1_, -, -⟩ := Lv.blks2 X1.out
 have HB2 := Aside0.mk (below_step BW.out HB1.out)
 clear X1 HC3 HB1
 generalize p.length - 1 = pl at hy_ e9 i9 i8
 refine start_ (n := 10) (S := fun W_ => W_.cell? ⟨w.heap.size, 1, none⟩ = some (.slice (some ad) l0_1.length c0_1) ∧ W_.cell? (a3.add pl) = some (.int .i64 Y)) (ds := []) #[false, false, false, false, false, false, false, false, false, false] (by kernel_rfl) rfl rfl ⟨t1_, hy_⟩ (fun hHeld => ?_)
 refine zp 0 9 ?_; refine zp 2 11 ?_; refine zp 3 12 ?_; refine zp 4 13 ?_; refine zp 5 14 ?_; refine zp 6 15 ?_; refine zt 1 10 ?_; refine zt 7 16 ?_; refine zp 8 17 ?_; refine zp 9 4 ?_
 refine done_ (by kernel_rfl) ?_
 go_wp2
 go_ret
 exact ⟨rfl, below_drew1 HB2.out⟩


/-! ### impl_HasKey: function 15 -/
-- PROOF --
-- NEEDS Derived.Test.YtdhdgkonghefeaaLb
-- NEEDS Derived.Test.YtdhdgkonghefeaaLv
-- NEEDS Derived.IntWalk
-- NEEDS Derived.Shelf.Abstract
-- NEEDS Derived.Test.YtdhdgkonghefeaaZz
theorem containsI_some (l : List Int) (a : Int) (hl : l.length < 1000000) : ∃ K, slices_Contains_int64.f K l a = some (l.contains a) := by
 have hidx : ∀ m i : Nat, m + i = l.length → ∃ r : Int, Ev (fun k => slices_Index_int64.l0 k l a (l.length : Int) (i : Int)) r ∧ decide (r ≥ 0) = (l.drop i).contains a := by
  intro m
  induction m with
  | zero =>
   intro i hi
   refine ⟨-1, ?_, by rw [List.drop_eq_nil_of_le (by omega)]; rfl⟩
   apply Lb.evSucc
   simp only [slices_Index_int64.l0]
   exact Lb.evIte (fun h => absurd h (by omega)) (fun _ => Lb.evRet rfl)
  | succ m ih =>
   intro i hi
   have hlt : i < l.length := by omega
   rw [List.drop_eq_getElem_cons hlt, List.contains_cons]
   have hrd : rd l (i : Int) = l[i] := by unfold rd; rw [Int.toNat_natCast, Lb.getD_at hlt]
   by_cases he : a = l[i]
   ·refine ⟨(i : Int), ?_, by rw [← he]; simp⟩
    apply Lb.evSucc
    simp only [slices_Index_int64.l0]
    refine Lb.evIte (fun _ => ?_) (fun h => absurd (by omega) h)
    refine Lb.evIte (fun _ => ?_) (fun h => absurd (by omega) h)
    refine Lb.evIte (fun _ => ?_) (fun h => absurd (by omega) h)
    rw [hrd]
    exact Lb.evIte (fun _ => Lb.evRet rfl) (fun h => absurd he h)
   ·obtain ⟨r, hr, hd⟩ := ih (i + 1) (by omega)
    refine ⟨r, ?_, by rw [hd, show (a == l[i]) = false by simpa using he, Bool.false_or]⟩
    apply Lb.evSucc
    simp only [slices_Index_int64.l0]
    refine Lb.evIte (fun _ => ?_) (fun h => absurd (by omega) h)
    refine Lb.evIte (fun _ => ?_) (fun h => absurd (by omega) h)
    refine Lb.evIte (fun _ => ?_) (fun h => absurd (by omega) h)
    rw [hrd, Lb.w64n (by omega)]
    exact Lb.evIte (fun h => absurd h he) (fun _ => hr)
 obtain ⟨r, ⟨K, hK⟩, hd⟩ := hidx l.length 0 (by omega)
 refine ⟨K, ?_⟩
 unfold slices_Contains_int64.f slices_Index_int64.f
 rw [show slices_Index_int64.l0 K l a (l.length : Int) 0 = some r from hK K (Nat.le_refl _), Option.bind_some, hd, List.drop_zero]
set_option maxHeartbeats 8000000 in
set_option maxRecDepth 100000 in
theorem impl_HasKey.calls (k : Nat) (a0_0 : Int) (A0_1 : Option Addr) (c0_1 : Nat) (l0_1 : List (S58)) (a1 : Int) (r : Bool) (w : World) (hr0_1 : Kd.C k58 w A0_1 l0_1.length l0_1) (hc0_1 : l0_1.length ≤ c0_1) (h : impl_HasKey.f k a0_0 l0_1 a1 = some r) :
  Calls Try.prog 15 #[.agg #[.int .i64 a0_0, .slice A0_1 l0_1.length c0_1], .int .i64 a1] w fun e w' => e = .returned (.bool r) ∧ Below w.heap.size w w' := by
 have hu29 := Try.underlying29
 have hu58 := Try.underlying58
 unfold impl_HasKey.f at h
 obtain ⟨cc, hcc⟩ : ∃ c, c = treeF a0_0 l0_1 := ⟨_, rfl⟩
 have HT := Aside0.mk (show impl_TreeFault.f a0_0 l0_1 = some cc by rw [hcc]; rfl)
 rw [← hcc] at h
 clear hcc
 have HR := Aside0.mk hr0_1
 have HC := Aside0.mk hc0_1
 clear hr0_1 hc0_1
 have BX := Aside0.mk (blk_new w (.cells #[.int .i64 a0_0, .slice A0_1 l0_1.length c0_1] 29))
 have BW := Aside0.mk (below_alloc (Below.refl w.heap.size w) (.cells #[.int .i64 a0_0, .slice A0_1 l0_1.length c0_1] 29))
 have HR0 := Aside0.mk (Kd.C_alloc HR.out (.cells #[.int .i64 a0_0, .slice A0_1 l0_1.length c0_1] 29))
 by_cases hz : cc = 0
 case neg =>
  rw [if_neg hz] at h
  have h := Option.some.inj h
  subst h
  have e1 : (cc == 0) = false := beq_eq_false_iff_ne.2 hz
  clear hz
  go_enter Try.func15, Try.ntmps15
  go_upto_region 1 with fail
  obtain ⟨s0_, s1_, -, -⟩ := Lv.blks2 BX.out
  generalize w.alloc (.cells #[.int .i64 a0_0, .slice A0_1 l0_1.length c0_1] 29) = W0 at BX BW HR0 s0_ s1_ ⊢
  go_wp2_with (go_at_call 12; refine (impl_TreeFault.calls a0_0 A0_1 c0_1 l0_1 _ _ HR0.out HC.out HT.out).mono ?_; rintro e w1 ⟨rfl, hb1⟩; have HB1 := Aside0.mk hb1; clear hb1; obtain ⟨t0_, t1_, -, -⟩ := Lv.blks2 (blk_below BX.out HB1.out))
  go_ret
  exact ⟨rfl, below_step BW.out HB1.out⟩
 rw [if_pos hz] at h
 subst hz
 obtain ⟨p, hp, h⟩ := Option.bind_eq_some_iff.1 h
 by_cases hcd : 0 < p.length ∧ p.length ≤ 1000 ∧ 0 ≤ p.getD (p.length - 1) 0 ∧ p.getD (p.length - 1) 0 < (l0_1.length : Int) ∧ (lastKeys l0_1 p).length ≤ 1000
 case neg => rw [if_neg hcd] at h; cases h
 rw [if_pos hcd] at h
 have h := Option.some.inj h
 obtain ⟨hpl, hp1, hY0, hY1, hk3⟩ := hcd
 obtain ⟨Y, hY⟩ : ∃ y, y = p.getD (p.length - 1) 0 := ⟨_, rfl⟩
 unfold lastKeys at h hk3
 rw [← hY] at h hY0 hY1 hk3
 obtain ⟨ad, Ak, ck, A2, c2, ea, -, hx1, -, hl1, hi1, -, -⟩ := at_T58 HR0.out Y hY0 hY1
 cases ea
 have hrd : rd_T58 l0_1 Y = l0_1.getD Y.toNat z58 := rfl
 rw [hrd] at hx1 hl1 hi1
 obtain ⟨ks, hks⟩ : ∃ k, k = (l0_1.getD Y.toNat z58).f1 := ⟨_, rfl⟩
 rw [← hks] at h hx1 hl1 hi1 hk3
 obtain ⟨K, hK⟩ := containsI_some ks a1 (by omega)
 rw [h] at hK
 have HK := Aside0.mk hK
 have HP := Aside0.mk hp
 have HYY := Aside0.mk hY
 have HX1 := Aside0.mk hx1
 have HI1 := Aside0.mk hi1
 clear h hp hY hx1 hi1 hK hks hrd hk3
 have e1 : ((0 : Int) == 0) = true := by decide
 go_enter Try.func15, Try.ntmps15
 go_upto_region 1 with fail
 obtain ⟨s0_, s1_, -, -⟩ := Lv.blks2 BX.out
 generalize w.alloc (.cells #[.int .i64 a0_0, .slice (some ad) l0_1.length c0_1] 29) = W0 at BX BW HR0 HX1 HI1 s0_ s1_ ⊢
 go_wp2_with (first | (go_at_call 12; refine (impl_TreeFault.calls a0_0 (some ad) c0_1 l0_1 _ _ HR0.out HC.out HT.out).mono ?_; rintro e w1 ⟨rfl, hb1⟩; have HB1 := Aside0.mk hb1; clear hb1; obtain ⟨t0_, t1_, -, -⟩ := Lv.blks2 (blk_below BX.out HB1.out)) | (go_at_call 46; refine (impl_leaf.at k a0_0 ad c0_1 l0_1 a1 p Y _ (Kd.C_below HR0.out HB1.out) HC.out HP.out hpl hp1 HYY.out hY0 hY1).mono ?_; rintro e w2 ⟨rfl, hb2⟩; have HB2 := Aside0.mk (below_step HB1.out hb2); clear hb2; have d1_ := pw_cell_below HB2.out HX1.out) | (go_at_call 45; refine (slices_Contains_int64.calls K Ak ck ks a1 r _ (Kd.C_below HI1.out HB2.out) hl1 HK.out).mono ?_; rintro e w3 ⟨rfl, hd3⟩; obtain ⟨m, rfl⟩ := hd3.out; clear hd3))
 go_ret
 exact ⟨rfl, pw_below_drewN (below_step BW.out HB2.out) m⟩


end Go.Proofs.Ytdhdgkonghefeaa.P
