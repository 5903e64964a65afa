import Derived.Test.YtocdahbinombkaaGreatP0
import Derived.Test.YtocdahbinombkaaGreatPCa0
import Derived.Test.YtocdahbinombkaaGreatPCa1
import Derived.Test.YtocdahbinombkaaGreatPCall0
import Derived.Test.YtocdahbinombkaaGreatPCall10
import Derived.Test.YtocdahbinombkaaGreatPCall13
import Derived.Test.YtocdahbinombkaaGreatPCall5
import Derived.Test.YtocdahbinombkaaGreatPCall8
import Derived.Test.YtocdahbinombkaaGreatPDall0
import Derived.Test.YtocdahbinombkaaGreatPDm0
import Derived.Test.YtocdahbinombkaaGreatWRepsOne
import Derived.Test.YtocdahbinombkaaGreatZz
import Derived.Test.YtocdahbinombkaaGreatLb
import Derived.Test.YtocdahbinombkaaGreatLv
import Derived.IntWalk
import Derived.Shelf.Abstract
import Derived.Test.YtocdahbinombkaaGreatLv
namespace Go.Proofs.YtocdahbinombkaaGreat.P
open Go.RowKit Go.Proofs.YtocdahbinombkaaGreatW.PrintWords Go.Proofs.YtocdahbinombkaaGreatW.PrintLast Go.Proofs.YtocdahbinombkaaGreatW.PrintMore
attribute [local go_sem] max2_int min2_int max_two min_two max_three min_three max_four min_four   -- for this text's walks alone
set_option linter.unusedVariables false
set_option linter.unusedSimpArgs false
-- PROOF --
def eqP (x y : S55) : Bool := x.f0 == y.f0 && (x.f1 == y.f1)
set_option maxHeartbeats 8000000 in
set_option maxRecDepth 100000 in
theorem slices_Index_impl_Pair.at (A : Option Addr) (c : Nat) (l : List S55) (x : S55) (w : World) (hr : Kd.C k55 w A l.length l) :
 Calls Tryz.prog 74 #[.slice A l.length c, .agg #[.int .i64 x.f0, .int .i64 x.f1]] w fun e w' => e = .returned (.int .i64 (Lb.idx (eqP x) l)) ∧ Below w.heap.size w w' := by
 have hu55 := Tryz.underlying55
 obtain ⟨r, hr_⟩ : ∃ r, r = Lb.idx (eqP x) l := ⟨_, rfl⟩
 rw [← hr_]
 have HR := Aside0.mk hr_
 clear hr_
 have hn := hr.2.1
 have HC := Aside0.mk hr
 clear hr
 go_enter Tryz.func74, Tryz.ntmps74
 go_upto_region 1 with fail
 have NB := Aside0.mk (blk_new w (Obj.cells #[.int .i64 x.f0, .int .i64 x.f1] 55))
 have HB := Aside0.mk (below_alloc (Below.refl w.heap.size w) (Obj.cells #[.int .i64 x.f0, .int .i64 x.f1] 55))
 have GE := Aside0.mk (Nat.le_refl w.heap.size)
 generalize w.alloc (Obj.cells #[.int .i64 x.f0, .int .i64 x.f1] 55) = w1 at NB HB ⊢
 generalize hgb : w.heap.size = gb at NB HB GE ⊢
 go_wp2
 go_loopg [8] (l.length + 1) (fun gg v8 wr => ∃ (i : Nat), v8 = .int .i64 (i : Int) ∧ Aside0 (i ≤ l.length) ∧ Aside0 (l.length - i < gg) ∧ Aside0 (∀ j, j < i → eqP x (l.getD j z55) = false) ∧ Aside0 (wr.heap[gb]? = some (Obj.cells #[.int .i64 x.f0, .int .i64 x.f1] 55)) ∧ Aside0 (Below gb w wr))
 case atStart => exact ⟨0, rfl, ⟨by omega⟩, ⟨by omega⟩, ⟨fun j h => absurd h (by omega)⟩, NB, HB⟩
 case round =>
  clear NB HB
  obtain ⟨i, rfl, HI, HG, HA, NB, HB⟩ := hrel
  by_cases hlt : i < l.length
  ·have e3 : decide ((i : Int) < (l.length : Int)) = true := decide_eq_true (by omega)
   have CW := Aside0.mk (show Kd.C k55 wr A l.length l from Kd.C_below HC.out (by rw [hgb]; exact HB.out))
   obtain ⟨ad, ea, y0_, y1_⟩ := at_T55 CW.out (i : Int) (by omega) (by omega)
   cases ea
   obtain ⟨Y, hY⟩ : ∃ y, y = l.getD i z55 := ⟨_, rfl⟩
   rw [show rd_T55 l (i : Int) = Y from hY.symm, show (i : Int).toNat = i from Int.toNat_natCast i] at y0_ y1_
   have HY := Aside0.mk hY
   have HLT := Aside0.mk hlt
   clear hY
   obtain ⟨x0_, x1_, -, -⟩ := Lv.blks2 NB.out
   go_upto_region 4 with fail
   by_cases q0 : x.f0 = Y.f0
   case neg =>
    have q0_ : (x.f0 = Y.f0) = False := eq_false q0
    have HN := Aside0.mk (show eqP x Y = false by unfold eqP; simp [q0])
    clear q0
    refine start_ (n := 6) (S := fun W_ => W_.cell? ⟨gb, 0, none⟩ = some (.int .i64 x.f0) ∧ W_.cell? ⟨gb, 1, none⟩ = some (.int .i64 x.f1) ∧ W_.cell? (ad.add (i * 2)) = some (.int .i64 Y.f0) ∧ W_.cell? ⟨(ad.add (i * 2)).block, (ad.add (i * 2)).off + 1, none⟩ = some (.int .i64 Y.f1)) (ds := []) #[false, false, false, false, false, false] (by kernel_rfl) rfl rfl ⟨x0_, x1_, y0_, y1_⟩ (fun hHeld => ?_)
    clear x0_ x1_ y0_ y1_
    have NB2 := Aside0.mk (show wr.drew.heap[gb]? = _ from NB.out)
    have HB2 := Aside0.mk (below_drew1 HB.out : Below gb w wr.drew)
    generalize wr.drew = wd at NB2 HB2 hHeld ⊢
    refine zp 1 12 ?_; refine zp 2 13 ?_; refine zp 3 14 ?_; refine zt 0 11 ?_; refine zt 4 15 ?_; refine zp 5 16 ?_
    refine done_ (by kernel_rfl) ?_
    go_wp2
    go_roundg (l.length - i)
    case measure => have := HG.out; omega
    case rel => exact ⟨i + 1, by first | rfl | rw [Lb.w64n (by omega)] | go_num, ⟨by omega⟩, ⟨by omega⟩, ⟨fun j hj => (Nat.lt_succ_iff_lt_or_eq.1 hj).elim (HA.out j) (fun h => by rw [h, ← HY.out]; exact HN.out)⟩, NB2, HB2⟩
   have q0_ : (x.f0 = Y.f0) = True := eq_true q0
   by_cases q1 : x.f1 = Y.f1
   case neg =>
    have q1_ : (x.f1 = Y.f1) = False := eq_false q1
    have HN := Aside0.mk (show eqP x Y = false by unfold eqP; simp [q0, q1])
    clear q0 q1
    refine start_ (n := 6) (S := fun W_ => W_.cell? ⟨gb, 0, none⟩ = some (.int .i64 x.f0) ∧ W_.cell? ⟨gb, 1, none⟩ = some (.int .i64 x.f1) ∧ W_.cell? (ad.add (i * 2)) = some (.int .i64 Y.f0) ∧ W_.cell? ⟨(ad.add (i * 2)).block, (ad.add (i * 2)).off + 1, none⟩ = some (.int .i64 Y.f1)) (ds := []) #[false, false, false, false, false, false] (by kernel_rfl) rfl rfl ⟨x0_, x1_, y0_, y1_⟩ (fun hHeld => ?_)
    clear x0_ x1_ y0_ y1_
    have NB2 := Aside0.mk (show wr.drew.heap[gb]? = _ from NB.out)
    have HB2 := Aside0.mk (below_drew1 HB.out : Below gb w wr.drew)
    generalize wr.drew = wd at NB2 HB2 hHeld ⊢
    refine zp 1 12 ?_; refine zp 2 13 ?_; refine zp 3 14 ?_; refine zt 0 11 ?_; refine zt 4 15 ?_; refine zp 5 16 ?_
    refine done_ (by kernel_rfl) ?_
    go_wp2
    go_roundg (l.length - i)
    case measure => have := HG.out; omega
    case rel => exact ⟨i + 1, by first | rfl | rw [Lb.w64n (by omega)] | go_num, ⟨by omega⟩, ⟨by omega⟩, ⟨fun j hj => (Nat.lt_succ_iff_lt_or_eq.1 hj).elim (HA.out j) (fun h => by rw [h, ← HY.out]; exact HN.out)⟩, NB2, HB2⟩
   have q1_ : (x.f1 = Y.f1) = True := eq_true q1
   have HE := Aside0.mk (show r = (i : Int) by rw [HR.out]; unfold Lb.idx; rw [Lb.idx_hit (eqP x) z55 l i 0 hlt HA.out (by rw [← HY.out]; unfold eqP; simp [q0, q1]), Int.zero_add])
   clear q0 q1
   refine start_ (n := 6) (S := fun W_ => W_.cell? ⟨gb, 0, none⟩ = some (.int .i64 x.f0) ∧ W_.cell? ⟨gb, 1, none⟩ = some (.int .i64 x.f1) ∧ W_.cell? (ad.add (i * 2)) = some (.int .i64 Y.f0) ∧ W_.cell? ⟨(ad.add (i * 2)).block, (ad.add (i * 2)).off + 1, none⟩ = some (.int .i64 Y.f1)) (ds := []) #[false, false, false, false, false, false] (by kernel_rfl) rfl rfl ⟨x0_, x1_, y0_, y1_⟩ (fun hHeld => ?_)
   clear x0_ x1_ y0_ y1_
   have NB2 := Aside0.mk (show wr.drew.heap[gb]? = _ from NB.out)
   have HB2 := Aside0.mk (below_drew1 HB.out : Below gb w wr.drew)
   generalize wr.drew = wd at NB2 HB2 hHeld ⊢
   refine zp 1 12 ?_; refine zp 2 13 ?_; refine zp 3 14 ?_; refine zt 0 11 ?_; refine zt 4 15 ?_; refine zp 5 16 ?_
   refine done_ (by kernel_rfl) ?_
   go_wp2
   go_ret
   rw [hgb]
   exact ⟨by rw [HE.out]; rfl, HB2.out⟩
  have e3 : decide ((i : Int) < (l.length : Int)) = false := decide_eq_false (by omega)
  have HE := Aside0.mk (show r = -1 by rw [HR.out]; exact Lb.idx_miss (eqP x) z55 l 0 (fun j hj => HA.out j (by have := HI.out; omega)))
  go_wp2
  go_ret
  rw [hgb]
  exact ⟨by rw [HE.out]; rfl, HB.out⟩
set_option maxHeartbeats 4000000 in
set_option maxRecDepth 100000 in
theorem slices_Contains_impl_Pair.at (A : Option Addr) (c : Nat) (l : List S55) (x : S55) (w : World) (hr : Kd.C k55 w A l.length l) :
 Calls Tryz.prog 33 #[.slice A l.length c, .agg #[.int .i64 x.f0, .int .i64 x.f1]] w fun e w' => e = .returned (.bool (l.any (eqP x))) ∧ Below w.heap.size w w' := by
 have hu55 := Tryz.underlying55
 rw [← Lb.idx_any]
 generalize hR : Lb.idx (eqP x) l = r
 have HR := Aside0.mk hR
 clear hR
 have HC := Aside0.mk hr
 clear hr
 rcases x with ⟨x0, x1⟩
 have NBx := Aside0.mk (blk_new w (Obj.cells #[.int .i64 x0, .int .i64 x1] 55))
 have HB := Aside0.mk (below_alloc (Below.refl w.heap.size w) (Obj.cells #[.int .i64 x0, .int .i64 x1] 55))
 go_enter Tryz.func33, Tryz.ntmps33
 go_upto_region 1 with fail
 generalize w.alloc (Obj.cells #[.int .i64 x0, .int .i64 x1] 55) = w1 at NBx HB ⊢
 obtain ⟨a0_, a1_, -, -⟩ := Lv.blks2 NBx.out
 go_wp2_with (go_at_call 74; refine (slices_Index_impl_Pair.at A c l ⟨x0, x1⟩ _ (Kd.C_below HC.out HB.out)).mono ?_; rintro e w' ⟨rfl, hb⟩; rw [HR.out]; replace HB := Aside0.mk (below_step HB.out hb); clear hb)
 go_ret
 exact ⟨rfl, HB.out⟩
set_option maxHeartbeats 4000000 in
set_option maxRecDepth 100000 in
theorem notIn.calls (A : Option Addr) (c : Nat) (l : List S55) (x : S55) (B : Nat) (W : World) (hr : Kd.C k55 W A l.length l) (hB : B < W.heap.size) (q1 : W.cell? ⟨B, 0, none⟩ = some (.slice A l.length c)) :
 Calls Tryz.prog 32 #[.agg #[.int .i64 x.f0, .int .i64 x.f1], .pointer (some ⟨B, 0, none⟩)] W fun e w' => e = .returned (.bool (!(l.any (eqP x)))) ∧ Below W.heap.size W w' := by
 have hu55 := Tryz.underlying55
 obtain ⟨t, ht⟩ : ∃ t, l.any (eqP x) = t := ⟨_, rfl⟩
 rw [ht]
 have HT := Aside0.mk ht
 clear ht
 have HC := Aside0.mk hr
 clear hr
 rcases x with ⟨x0, x1⟩
 have NBx := Aside0.mk (blk_new W (Obj.cells #[.int .i64 x0, .int .i64 x1] 55))
 have HB := Aside0.mk (below_alloc (Below.refl W.heap.size W) (Obj.cells #[.int .i64 x0, .int .i64 x1] 55))
 have q2_ := pw_cell_below HB.out q1
 clear q1
 go_enter Tryz.func32, Tryz.ntmps32
 go_upto_region 1 with fail
 generalize W.alloc (Obj.cells #[.int .i64 x0, .int .i64 x1] 55) = w1 at NBx HB q2_ ⊢
 obtain ⟨a0_, a1_, -, -⟩ := Lv.blks2 NBx.out
 go_wp2_with (go_at_call 33; refine (slices_Contains_impl_Pair.at A c l ⟨x0, x1⟩ _ (Kd.C_below HC.out HB.out)).mono ?_; rintro e w' ⟨rfl, hb⟩; rw [HT.out]; replace HB := Aside0.mk (below_step HB.out hb); clear hb)
 go_ret
 exact ⟨rfl, HB.out⟩
set_option maxHeartbeats 8000000 in
set_option maxRecDepth 100000 in
theorem impl_IndexFault.calls (k : Nat) (a0_0 : Int) (a0_1 : Int) (A0_2 : Option Addr) (c0_2 : Nat) (l0_2 : List (S84)) (A0_3 : Option Addr) (c0_3 : Nat) (l0_3 : List (S87)) (A1 : Option Addr) (c1 : Nat) (l1 : List (S55)) (r : Int) (w : World) (hr0_2 : Kd.C k84 w A0_2 l0_2.length l0_2) (hc0_2 : l0_2.length ≤ c0_2) (hr0_3 : Kd.C k87 w A0_3 l0_3.length l0_3) (hc0_3 : l0_3.length ≤ c0_3) (hr1 : Kd.C k55 w A1 l1.length l1) (hc1 : l1.length ≤ c1) (h : impl_IndexFault.f k a0_0 a0_1 l0_2 l0_3 l1 = some r) :
 Calls Tryz.prog 10 #[.agg #[.int .i64 a0_0, .int .i64 a0_1, .slice A0_2 l0_2.length c0_2, .slice A0_3 l0_3.length c0_3], .slice A1 l1.length c1] w fun e w' => e = .returned (.int .i64 r) ∧ Below w.heap.size w w' := by
 have hu33 := Tryz.underlying33
 unfold impl_IndexFault.f at h
 obtain ⟨flt, hf, h⟩ := Option.bind_eq_some_iff.mp h
 have HF := Aside0.mk hf
 have H := Aside0.mk h
 have HR2 := Aside0.mk hr0_2
 have HC2 := Aside0.mk hc0_2
 have HR3 := Aside0.mk hr0_3
 have HC3 := Aside0.mk hc0_3
 have HR1 := Aside0.mk hr1
 have HC1 := Aside0.mk hc1
 have hn2 := hr0_2.2.1
 have hn3 := hr0_3.2.1
 have hn1 := hr1.2.1
 clear hf h hr0_2 hc0_2 hr0_3 hc0_3 hr1 hc1
 go_enter Tryz.func10, Tryz.ntmps10
 go_upto_region 1 with fail
 have NE := Aside0.mk (blk_alloc (blk_new w (Obj.cells #[.int .i64 a0_0, .int .i64 a0_1, .slice A0_2 l0_2.length c0_2, .slice A0_3 l0_3.length c0_3] 33)) (Obj.cells #[.slice A1 l1.length c1] 35))
 have NI := Aside0.mk (blk_new (w.alloc (Obj.cells #[.int .i64 a0_0, .int .i64 a0_1, .slice A0_2 l0_2.length c0_2, .slice A0_3 l0_3.length c0_3] 33)) (Obj.cells #[.slice A1 l1.length c1] 35))
 have e1 : (w.alloc (Obj.cells #[.int .i64 a0_0, .int .i64 a0_1, .slice A0_2 l0_2.length c0_2, .slice A0_3 l0_3.length c0_3] 33)).heap.size = w.heap.size + 1 := by simp
 have HB := Aside0.mk (below_alloc (below_alloc (Below.refl w.heap.size w) (Obj.cells #[.int .i64 a0_0, .int .i64 a0_1, .slice A0_2 l0_2.length c0_2, .slice A0_3 l0_3.length c0_3] 33)) (Obj.cells #[.slice A1 l1.length c1] 35))
 rw [e1] at NI
 try rw [e1]
 generalize (w.alloc (Obj.cells #[.int .i64 a0_0, .int .i64 a0_1, .slice A0_2 l0_2.length c0_2, .slice A0_3 l0_3.length c0_3] 33)).alloc (Obj.cells #[.slice A1 l1.length c1] 35) = u1 at NE NI HB ⊢
 clear e1
 obtain ⟨n0_, n1_, n2_, n3_, -, -, -, -⟩ := Lv.blks4 NE.out
 go_upto_region 2 with (go_at_call 28; refine (impl_EngineFault.calls k a0_0 a0_1 A0_2 c0_2 l0_2 A0_3 c0_3 l0_3 flt _ (Kd.C_below HR2.out HB.out) HC2.out (Kd.C_below HR3.out HB.out) HC3.out HF.out).mono ?_; rintro e u2 ⟨rfl, hb⟩; replace NE := Aside0.mk (keepB hb NE.out); replace NI := Aside0.mk (keepB hb NI.out); replace HB := Aside0.mk (below_step HB.out hb); clear hb; clear n0_ n1_ n2_ n3_)
 have h := H.out
 by_cases f0 : flt = 0
 ·rw [if_pos f0] at h
  obtain ⟨c, hc, h⟩ := Option.bind_eq_some_iff.mp h
  have f1 : (flt == 0) = true := beq_iff_eq.2 f0
  have HP := Aside0.mk hc
  have H2 := Aside0.mk h
  have m0_ : u2.cell? ⟨w.heap.size + 1, 0, none⟩ = some (.slice A1 l1.length c1) := (blk_cell NI.out 0).trans rfl
  clear H h hc f0
  go_upto_region 4 with (go_at_call 29; refine (impl_PairsFault.calls k A1 c1 l1 c _ (Kd.C_below HR1.out HB.out) HC1.out HP.out).mono ?_; rintro e u3 ⟨rfl, hb⟩; replace NE := Aside0.mk (keepB hb NE.out); replace NI := Aside0.mk (keepB hb NI.out); replace HB := Aside0.mk (below_step HB.out hb); clear hb; clear m0_)
  have h := H2.out
  by_cases c0 : c = 0
  ·rw [if_pos c0] at h
   obtain ⟨ps, hp, h⟩ := Option.bind_eq_some_iff.mp h
   have h := Option.some.inj h
   have g1 : (c == 0) = true := beq_iff_eq.2 c0
   have HPS := Aside0.mk hp
   have HRR := Aside0.mk h
   obtain ⟨n0_, n1_, n2_, n3_, -, -, -, -⟩ := Lv.blks4 NE.out
   clear H2 h hp
   obtain ⟨an, han⟩ : ∃ b, b = (ps.any fun x => !(l1.any fun y => x.f0 == y.f0 && (x.f1 == y.f1))) := ⟨_, rfl⟩
   rw [← han] at HRR
   have HAN := Aside0.mk (show (ps.any fun x => !(l1.any (eqP x))) = an from han.symm)
   clear han
   cases an with
   | true =>
    have hrr := HRR.out
    rw [if_pos rfl] at hrr
    subst hrr
    go_wp2_with (first | (go_at_call 31; refine (impl_Engine_pairs.calls k a0_0 a0_1 A0_2 c0_2 l0_2 A0_3 c0_3 l0_3 ps _ (Kd.C_below HR2.out HB.out) HC2.out (Kd.C_below HR3.out HB.out) HC3.out HPS.out).mono ?_; rintro e u4 ⟨vp, rfl, hr, hb⟩; obtain ⟨Ap, cp, ep⟩ := Kd.R_slice hr; subst ep; have HPC := Aside0.mk (Kd.R_reads' hr).2.2; replace NI := Aside0.mk (keepB hb NI.out); replace HB := Aside0.mk (below_step HB.out hb); clear hb hr; clear n0_ n1_ n2_ n3_) | (go_at_call 30; refine (slices_ContainsFunc_impl_Pair.calls 32 #[.pointer (some ⟨w.heap.size + 1, 0, none⟩)] (fun x => !(l1.any (eqP x))) Ap cp ps _ HPC.out (fun W2 x _ hb => notIn.calls A1 c1 l1 x (w.heap.size + 1) W2 (Kd.C_below (Kd.C_below HR1.out HB.out) hb) (Nat.lt_of_lt_of_le (blk_lt NI.out) hb.size) ((hb.cell (p := ⟨w.heap.size + 1, 0, none⟩) (blk_lt NI.out)).trans ((blk_cell NI.out 0).trans rfl))) (enters_of Tryz.func32 (by kernel_rfl) rfl)).mono ?_; rintro e u5 ⟨rfl, hb⟩; rw [HAN.out]; replace HB := Aside0.mk (below_step HB.out hb); clear hb))
    go_ret
    exact ⟨rfl, HB.out⟩
   | false =>
    have hrr := HRR.out
    rw [if_neg (by decide)] at hrr
    subst hrr
    go_wp2_with (first | (go_at_call 31; refine (impl_Engine_pairs.calls k a0_0 a0_1 A0_2 c0_2 l0_2 A0_3 c0_3 l0_3 ps _ (Kd.C_below HR2.out HB.out) HC2.out (Kd.C_below HR3.out HB.out) HC3.out HPS.out).mono ?_; rintro e u4 ⟨vp, rfl, hr, hb⟩; obtain ⟨Ap, cp, ep⟩ := Kd.R_slice hr; subst ep; have HPC := Aside0.mk (Kd.R_reads' hr).2.2; replace NI := Aside0.mk (keepB hb NI.out); replace HB := Aside0.mk (below_step HB.out hb); clear hb hr; clear n0_ n1_ n2_ n3_) | (go_at_call 30; refine (slices_ContainsFunc_impl_Pair.calls 32 #[.pointer (some ⟨w.heap.size + 1, 0, none⟩)] (fun x => !(l1.any (eqP x))) Ap cp ps _ HPC.out (fun W2 x _ hb => notIn.calls A1 c1 l1 x (w.heap.size + 1) W2 (Kd.C_below (Kd.C_below HR1.out HB.out) hb) (Nat.lt_of_lt_of_le (blk_lt NI.out) hb.size) ((hb.cell (p := ⟨w.heap.size + 1, 0, none⟩) (blk_lt NI.out)).trans ((blk_cell NI.out 0).trans rfl))) (enters_of Tryz.func32 (by kernel_rfl) rfl)).mono ?_; rintro e u5 ⟨rfl, hb⟩; rw [HAN.out]; replace HB := Aside0.mk (below_step HB.out hb); clear hb))
    go_ret
    exact ⟨rfl, HB.out⟩
  rw [if_neg c0] at h
  obtain rfl := Option.some.inj h
  have g1 : (c == 0) = false := beq_eq_false_iff_ne.2 c0
  clear H2 h
  go_wp2
  go_ret
  exact ⟨rfl, HB.out⟩
 rw [if_neg f0] at h
 obtain rfl := Option.some.inj h
 have f1 : (flt == 0) = false := beq_eq_false_iff_ne.2 f0
 clear H h
 go_wp2
 go_ret
 exact ⟨rfl, HB.out⟩
set_option maxHeartbeats 8000000 in
set_option maxRecDepth 100000 in
theorem laws_FnExactIndexFault.calls (k : Nat) (a0_0 : Int) (a0_1 : Int) (A0_2 : Option Addr) (c0_2 : Nat) (l0_2 : List (S73)) (A0_3 : Option Addr) (c0_3 : Nat) (l0_3 : List (S77)) (A1 : Option Addr) (c1 : Nat) (l1 : List (S59)) (w : World) (hr0_2 : Kd.C k73 w A0_2 l0_2.length l0_2) (hc0_2 : l0_2.length ≤ c0_2) (hr0_3 : Kd.C k77 w A0_3 l0_3.length l0_3) (hc0_3 : l0_3.length ≤ c0_3) (hr1 : Kd.C k59 w A1 l1.length l1) (hc1 : l1.length ≤ c1) (h : laws_FnExactIndexFault.f k a0_0 a0_1 l0_2 l0_3 l1 = some true) :
 Calls Tryz.prog 3 #[.agg #[.int .i64 a0_0, .int .i64 a0_1, .slice A0_2 l0_2.length c0_2, .slice A0_3 l0_3.length c0_3], .slice A1 l1.length c1] w fun e w' => e = .returned (.bool true) ∧ Below w.heap.size w w' := by
 have hu25 := Tryz.underlying25
 have hu33 := Tryz.underlying33
 have HR0_2 := Aside0.mk hr0_2
 have HC0_2 := Aside0.mk hc0_2
 clear hr0_2 hc0_2
 have HR0_3 := Aside0.mk hr0_3
 have HC0_3 := Aside0.mk hc0_3
 clear hr0_3 hc0_3
 have HR1 := Aside0.mk hr1
 have HC1 := Aside0.mk hc1
 clear hr1 hc1
 have HB := Aside0.mk (Below.refl w.heap.size w)
 have H : ((laws_szEngine.f k a0_0 a0_1 l0_2 l0_3 1048576).bind fun t79 => (if t79 < 0 then (some true) else ((laws_szPairS.f l1 t79).bind fun t84 => (if t84 < 0 then (some true) else ((laws_toEngine.f k a0_0 a0_1 l0_2 l0_3).bind fun bt76 => ((laws_toPairS.f k l1).bind fun t81 => ((spec_IndexFault.f k bt76.1 bt76.2.1 bt76.2.2.1 bt76.2.2.2 t81).bind fun t78 => ((laws_toEngine.f k a0_0 a0_1 l0_2 l0_3).bind fun bt57 => ((laws_toPairS.f k l1).bind fun t63 => ((impl_IndexFault.f k bt57.1 bt57.2.1 bt57.2.2.1 bt57.2.2.2 t63).bind fun t74 => (if t74 = t78 then ((laws_toEngine.f k a0_0 a0_1 l0_2 l0_3).bind fun bt58 => ((laws_eqEngine.f k bt57.1 bt57.2.1 bt57.2.2.1 bt57.2.2.2 bt58.1 bt58.2.1 bt58.2.2.1 bt58.2.2.2).bind fun t75 => (if t75 = true then ((laws_toPairS.f k l1).bind fun t67 => ((laws_eqPairS.f k t63 t67).bind fun t68 => (if t68 = true then (some true) else (some false)))) else (some false)))) else (some false)))))))))))) = some true := h
 clear h
 replace H := Option.bind_eq_some_iff.mp H
 obtain ⟨t79, A30, H⟩ := H
 replace H : (if t79 < 0 then (some true) else ((laws_szPairS.f l1 t79).bind fun t84 => (if t84 < 0 then (some true) else ((laws_toEngine.f k a0_0 a0_1 l0_2 l0_3).bind fun bt76 => ((laws_toPairS.f k l1).bind fun t81 => ((spec_IndexFault.f k bt76.1 bt76.2.1 bt76.2.2.1 bt76.2.2.2 t81).bind fun t78 => ((laws_toEngine.f k a0_0 a0_1 l0_2 l0_3).bind fun bt57 => ((laws_toPairS.f k l1).bind fun t63 => ((impl_IndexFault.f k bt57.1 bt57.2.1 bt57.2.2.1 bt57.2.2.2 t63).bind fun t74 => (if t74 = t78 then ((laws_toEngine.f k a0_0 a0_1 l0_2 l0_3).bind fun bt58 => ((laws_eqEngine.f k bt57.1 bt57.2.1 bt57.2.2.1 bt57.2.2.2 bt58.1 bt58.2.1 bt58.2.2.1 bt58.2.2.2).bind fun t75 => (if t75 = true then ((laws_toPairS.f k l1).bind fun t67 => ((laws_eqPairS.f k t63 t67).bind fun t68 => (if t68 = true then (some true) else (some false)))) else (some false)))) else (some false))))))))))) = some true := H
 have A3 := Aside0.mk A30
 clear A30
 by_cases c4 : t79 < 0
 ·rw [if_pos c4] at H
  have c4b0 : decide (t79 < 0) = true := decide_eq_true c4
  clear c4
  go_enter Tryz.func3, Tryz.ntmps3
  go_wp2_with (first | ((with_reducible refine gate_dst (N := 2) rfl ?_); refine box_event ?hg (N := 2) ?hd (cs := #[.int .i64 a0_0, .int .i64 a0_1, .slice A0_2 l0_2.length c0_2, .slice A0_3 l0_3.length c0_3]) (t := 25) ?hr ?_; (case hd => rfl); (case hg => rfl); (case hr => first | (go_simp; done) | (go_simp; rfl)); intro gb55 hg w5 hbox hb; have n0_ := Aside0.mk (below_step zb hb); have n1_ := Aside0.mk (hbox); have n2_ := Aside0.mk ((by rw [hg]; exact (below_size zb) : w.heap.size ≤ gb55)); have n3_ := n2_; clear HB; have HB := n0_; have BK55 := n1_; have GW55 := n2_; have GE55 := n3_; clear n0_ n1_ n2_ n3_; clear hb hbox hg; obtain ⟨hcz6_0, hcz6_1, hcz6_2, hcz6_3, hfz6_0, hfz6_1, hfz6_2, hfz6_3⟩ := Go.Proofs.YtocdahbinombkaaGreat.Lv.blks4 BK55.out) | ((with_reducible refine gate_callee (f := 5) rfl ?_); refine goesL_ (some 12) rfl rfl Tryz.func5 (by kernel_rfl) rfl #[.agg #[.int .i64 a0_0, .int .i64 a0_1, .slice A0_2 l0_2.length c0_2, .slice A0_3 l0_3.length c0_3], .int .i64 1048576] rfl zm ?_; (with_reducible refine (laws_szEngine.calls k a0_0 a0_1 _ _ l0_2 _ _ l0_3 1048576 t79 _ ?side1 ?side2 ?side3 ?side4 A3.out).mono ?_); (case side1 => repeat (first | exact (Kd.C_below HR0_2.out HB.out) | (with_reducible first | refine Kd.C_alloc ?_ _ | refine Kd.C_drewN ?_ _ | refine Kd.C_drew ?_))); (case side2 => exact HC0_2.out); (case side3 => repeat (first | exact (Kd.C_below HR0_3.out HB.out) | (with_reducible first | refine Kd.C_alloc ?_ _ | refine Kd.C_drewN ?_ _ | refine Kd.C_drew ?_))); (case side4 => exact HC0_3.out); rintro e w7 ⟨rfl, hb⟩; refine ⟨_, rfl, ?_⟩; have n0_ := Aside0.mk (blk_below (g := gb55) (o := .cells #[.int .i64 a0_0, .int .i64 a0_1, .slice A0_2 l0_2.length c0_2, .slice A0_3 l0_3.length c0_3] 25 (0, 0)) zk hb); have n1_ := Aside0.mk (below_step zb hb); clear BK55; clear HB; have BK55 := n0_; have HB := n1_; clear n0_ n1_; (try clear hb); (try clear hb2); (try clear hk); (try clear hi)))
  go_ret
  exact ⟨ze, zb⟩
 rw [if_neg c4] at H
 have c4b0 : decide (t79 < 0) = false := decide_eq_false c4
 clear c4
 replace H := Option.bind_eq_some_iff.mp H
 obtain ⟨t84, A80, H⟩ := H
 replace H : (if t84 < 0 then (some true) else ((laws_toEngine.f k a0_0 a0_1 l0_2 l0_3).bind fun bt76 => ((laws_toPairS.f k l1).bind fun t81 => ((spec_IndexFault.f k bt76.1 bt76.2.1 bt76.2.2.1 bt76.2.2.2 t81).bind fun t78 => ((laws_toEngine.f k a0_0 a0_1 l0_2 l0_3).bind fun bt57 => ((laws_toPairS.f k l1).bind fun t63 => ((impl_IndexFault.f k bt57.1 bt57.2.1 bt57.2.2.1 bt57.2.2.2 t63).bind fun t74 => (if t74 = t78 then ((laws_toEngine.f k a0_0 a0_1 l0_2 l0_3).bind fun bt58 => ((laws_eqEngine.f k bt57.1 bt57.2.1 bt57.2.2.1 bt57.2.2.2 bt58.1 bt58.2.1 bt58.2.2.1 bt58.2.2.2).bind fun t75 => (if t75 = true then ((laws_toPairS.f k l1).bind fun t67 => ((laws_eqPairS.f k t63 t67).bind fun t68 => (if t68 = true then (some true) else (some false)))) else (some false)))) else (some false))))))))) = some true := H
 have A8 := Aside0.mk A80
 clear A80
 by_cases c9 : t84 < 0
 ·rw [if_pos c9] at H
  have c9b0 : decide (t84 < 0) = true := decide_eq_true c9
  clear c9
  go_enter Tryz.func3, Tryz.ntmps3
  go_wp2_with (first | ((with_reducible refine gate_dst (N := 2) rfl ?_); refine box_event ?hg (N := 2) ?hd (cs := #[.int .i64 a0_0, .int .i64 a0_1, .slice A0_2 l0_2.length c0_2, .slice A0_3 l0_3.length c0_3]) (t := 25) ?hr ?_; (case hd => rfl); (case hg => rfl); (case hr => first | (go_simp; done) | (go_simp; rfl)); intro gb55 hg w10 hbox hb; have n0_ := Aside0.mk (below_step zb hb); have n1_ := Aside0.mk (hbox); have n2_ := Aside0.mk ((by rw [hg]; exact (below_size zb) : w.heap.size ≤ gb55)); have n3_ := n2_; clear HB; have HB := n0_; have BK55 := n1_; have GW55 := n2_; have GE55 := n3_; clear n0_ n1_ n2_ n3_; clear hb hbox hg; obtain ⟨hcz11_0, hcz11_1, hcz11_2, hcz11_3, hfz11_0, hfz11_1, hfz11_2, hfz11_3⟩ := Go.Proofs.YtocdahbinombkaaGreat.Lv.blks4 BK55.out) | ((with_reducible refine gate_callee (f := 5) rfl ?_); refine goesL_ (some 12) rfl rfl Tryz.func5 (by kernel_rfl) rfl #[.agg #[.int .i64 a0_0, .int .i64 a0_1, .slice A0_2 l0_2.length c0_2, .slice A0_3 l0_3.length c0_3], .int .i64 1048576] rfl zm ?_; (with_reducible refine (laws_szEngine.calls k a0_0 a0_1 _ _ l0_2 _ _ l0_3 1048576 t79 _ ?side1 ?side2 ?side3 ?side4 A3.out).mono ?_); (case side1 => repeat (first | exact (Kd.C_below HR0_2.out HB.out) | (with_reducible first | refine Kd.C_alloc ?_ _ | refine Kd.C_drewN ?_ _ | refine Kd.C_drew ?_))); (case side2 => exact HC0_2.out); (case side3 => repeat (first | exact (Kd.C_below HR0_3.out HB.out) | (with_reducible first | refine Kd.C_alloc ?_ _ | refine Kd.C_drewN ?_ _ | refine Kd.C_drew ?_))); (case side4 => exact HC0_3.out); rintro e w12 ⟨rfl, hb⟩; refine ⟨_, rfl, ?_⟩; have n0_ := Aside0.mk (blk_below (g := gb55) (o := .cells #[.int .i64 a0_0, .int .i64 a0_1, .slice A0_2 l0_2.length c0_2, .slice A0_3 l0_3.length c0_3] 25 (0, 0)) zk hb); have n1_ := Aside0.mk (below_step zb hb); clear BK55; clear HB; have BK55 := n0_; have HB := n1_; clear n0_ n1_; (try clear hb); (try clear hb2); (try clear hk); (try clear hi)) | ((with_reducible refine gate_callee (f := 6) rfl ?_); refine goesL_ (some 17) rfl rfl Tryz.func6 (by kernel_rfl) rfl #[.slice A1 l1.length c1, .int .i64 t79] rfl zm ?_; (with_reducible refine (laws_szPairS.calls _ _ l1 t79 t84 _ ?side1 ?side2 A8.out).mono ?_); (case side1 => repeat (first | exact (Kd.C_below HR1.out HB.out) | (with_reducible first | refine Kd.C_alloc ?_ _ | refine Kd.C_drewN ?_ _ | refine Kd.C_drew ?_))); (case side2 => exact HC1.out); rintro e w' ⟨rfl, ⟨nd, rfl⟩⟩; refine ⟨_, rfl, ?_⟩))
  go_ret
  exact ⟨ze, zb⟩
 rw [if_neg c9] at H
 have c9b0 : decide (t84 < 0) = false := decide_eq_false c9
 clear c9
 replace H := Option.bind_eq_some_iff.mp H
 obtain ⟨⟨t76, t86, t87, t88⟩, A92, H⟩ := H
 replace H : ((laws_toPairS.f k l1).bind fun t81 => ((spec_IndexFault.f k t76 t86 t87 t88 t81).bind fun t78 => ((laws_toEngine.f k a0_0 a0_1 l0_2 l0_3).bind fun bt57 => ((laws_toPairS.f k l1).bind fun t63 => ((impl_IndexFault.f k bt57.1 bt57.2.1 bt57.2.2.1 bt57.2.2.2 t63).bind fun t74 => (if t74 = t78 then ((laws_toEngine.f k a0_0 a0_1 l0_2 l0_3).bind fun bt58 => ((laws_eqEngine.f k bt57.1 bt57.2.1 bt57.2.2.1 bt57.2.2.2 bt58.1 bt58.2.1 bt58.2.2.1 bt58.2.2.2).bind fun t75 => (if t75 = true then ((laws_toPairS.f k l1).bind fun t67 => ((laws_eqPairS.f k t63 t67).bind fun t68 => (if t68 = true then (some true) else (some false)))) else (some false)))) else (some false))))))) = some true := H
 have A13 := Aside0.mk A92
 clear A92
 replace H := Option.bind_eq_some_iff.mp H
 obtain ⟨t81, A93, H⟩ := H
 replace H : ((spec_IndexFault.f k t76 t86 t87 t88 t81).bind fun t78 => ((laws_toEngine.f k a0_0 a0_1 l0_2 l0_3).bind fun bt57 => ((laws_toPairS.f k l1).bind fun t63 => ((impl_IndexFault.f k bt57.1 bt57.2.1 bt57.2.2.1 bt57.2.2.2 t63).bind fun t74 => (if t74 = t78 then ((laws_toEngine.f k a0_0 a0_1 l0_2 l0_3).bind fun bt58 => ((laws_eqEngine.f k bt57.1 bt57.2.1 bt57.2.2.1 bt57.2.2.2 bt58.1 bt58.2.1 bt58.2.2.1 bt58.2.2.2).bind fun t75 => (if t75 = true then ((laws_toPairS.f k l1).bind fun t67 => ((laws_eqPairS.f k t63 t67).bind fun t68 => (if t68 = true then (some true) else (some false)))) else (some false)))) else (some false)))))) = some true := H
 have A14 := Aside0.mk A93
 clear A93
 replace H := Option.bind_eq_some_iff.mp H
 obtain ⟨t78, A94, H⟩ := H
 replace H : ((laws_toEngine.f k a0_0 a0_1 l0_2 l0_3).bind fun bt57 => ((laws_toPairS.f k l1).bind fun t63 => ((impl_IndexFault.f k bt57.1 bt57.2.1 bt57.2.2.1 bt57.2.2.2 t63).bind fun t74 => (if t74 = t78 then ((laws_toEngine.f k a0_0 a0_1 l0_2 l0_3).bind fun bt58 => ((laws_eqEngine.f k bt57.1 bt57.2.1 bt57.2.2.1 bt57.2.2.2 bt58.1 bt58.2.1 bt58.2.2.1 bt58.2.2.2).bind fun t75 => (if t75 = true then ((laws_toPairS.f k l1).bind fun t67 => ((laws_eqPairS.f k t63 t67).bind fun t68 => (if t68 = true then (some true) else (some false)))) else (some false)))) else (some false))))) = some true := H
 have A15 := Aside0.mk A94
 clear A94
 replace H := Option.bind_eq_some_iff.mp H
 obtain ⟨⟨t57, t69, t70, t72⟩, A95, H⟩ := H
 replace H : ((laws_toPairS.f k l1).bind fun t63 => ((impl_IndexFault.f k t57 t69 t70 t72 t63).bind fun t74 => (if t74 = t78 then ((laws_toEngine.f k a0_0 a0_1 l0_2 l0_3).bind fun bt58 => ((laws_eqEngine.f k t57 t69 t70 t72 bt58.1 bt58.2.1 bt58.2.2.1 bt58.2.2.2).bind fun t75 => (if t75 = true then ((laws_toPairS.f k l1).bind fun t67 => ((laws_eqPairS.f k t63 t67).bind fun t68 => (if t68 = true then (some true) else (some false)))) else (some false)))) else (some false)))) = some true := H
 have A16 := Aside0.mk A95
 clear A95
 replace H := Option.bind_eq_some_iff.mp H
 obtain ⟨t63, A96, H⟩ := H
 replace H : ((impl_IndexFault.f k t57 t69 t70 t72 t63).bind fun t74 => (if t74 = t78 then ((laws_toEngine.f k a0_0 a0_1 l0_2 l0_3).bind fun bt58 => ((laws_eqEngine.f k t57 t69 t70 t72 bt58.1 bt58.2.1 bt58.2.2.1 bt58.2.2.2).bind fun t75 => (if t75 = true then ((laws_toPairS.f k l1).bind fun t67 => ((laws_eqPairS.f k t63 t67).bind fun t68 => (if t68 = true then (some true) else (some false)))) else (some false)))) else (some false))) = some true := H
 have A17 := Aside0.mk A96
 clear A96
 replace H := Option.bind_eq_some_iff.mp H
 obtain ⟨t74, A97, H⟩ := H
 replace H : (if t74 = t78 then ((laws_toEngine.f k a0_0 a0_1 l0_2 l0_3).bind fun bt58 => ((laws_eqEngine.f k t57 t69 t70 t72 bt58.1 bt58.2.1 bt58.2.2.1 bt58.2.2.2).bind fun t75 => (if t75 = true then ((laws_toPairS.f k l1).bind fun t67 => ((laws_eqPairS.f k t63 t67).bind fun t68 => (if t68 = true then (some true) else (some false)))) else (some false)))) else (some false)) = some true := H
 have A18 := Aside0.mk A97
 clear A97
 by_cases c19 : t74 = t78
 ·rw [if_pos c19] at H
  have c19b0 : (t74 == t78) = true := beq_iff_eq.mpr c19
  have c19b1 : (t74 != t78) = false := bne_eq_false_iff_eq.mpr c19
  clear c19
  replace H := Option.bind_eq_some_iff.mp H
  obtain ⟨⟨t58, t89, t90, t91⟩, A98, H⟩ := H
  replace H : ((laws_eqEngine.f k t57 t69 t70 t72 t58 t89 t90 t91).bind fun t75 => (if t75 = true then ((laws_toPairS.f k l1).bind fun t67 => ((laws_eqPairS.f k t63 t67).bind fun t68 => (if t68 = true then (some true) else (some false)))) else (some false))) = some true := H
  have A20 := Aside0.mk A98
  clear A98
  replace H := Option.bind_eq_some_iff.mp H
  obtain ⟨t75, A99, H⟩ := H
  replace H : (if t75 = true then ((laws_toPairS.f k l1).bind fun t67 => ((laws_eqPairS.f k t63 t67).bind fun t68 => (if t68 = true then (some true) else (some false)))) else (some false)) = some true := H
  have A21 := Aside0.mk A99
  clear A99
  by_cases c22 : t75 = true
  ·subst c22
   have H1 : ((laws_toPairS.f k l1).bind fun t67 => ((laws_eqPairS.f k t63 t67).bind fun t68 => (if t68 = true then (some true) else (some false)))) = some true := by rw [if_pos rfl] at H; first | done | exact H
   clear H
   have H := H1
   clear H1
   replace H := Option.bind_eq_some_iff.mp H
   obtain ⟨t67, A230, H⟩ := H
   replace H : ((laws_eqPairS.f k t63 t67).bind fun t68 => (if t68 = true then (some true) else (some false))) = some true := H
   have A23 := Aside0.mk A230
   clear A230
   replace H := Option.bind_eq_some_iff.mp H
   obtain ⟨t68, A240, H⟩ := H
   replace H : (if t68 = true then (some true) else (some false)) = some true := H
   have A24 := Aside0.mk A240
   clear A240
   by_cases c25 : t68 = true
   ·subst c25
    have H1 : (some true) = some true := by rw [if_pos rfl] at H; first | done | exact H
    clear H
    have H := H1
    clear H1
    go_enter Tryz.func3, Tryz.ntmps3
    try go_wp2_with (first | ((with_reducible refine gate_dst (N := 2) rfl ?_); refine box_event ?hg (N := 2) ?hd (cs := #[.int .i64 a0_0, .int .i64 a0_1, .slice A0_2 l0_2.length c0_2, .slice A0_3 l0_3.length c0_3]) (t := 25) ?hr ?_; (case hd => rfl); (case hg => rfl); (case hr => first | (go_simp; done) | (go_simp; rfl)); intro gb55 hg w26 hbox hb; have n0_ := Aside0.mk (below_step zb hb); have n1_ := Aside0.mk (hbox); have n2_ := Aside0.mk ((by rw [hg]; exact (below_size zb) : w.heap.size ≤ gb55)); have n3_ := n2_; clear HB; have HB := n0_; have BK55 := n1_; have GW55 := n2_; have GE55 := n3_; clear n0_ n1_ n2_ n3_; clear hb hbox hg; obtain ⟨hcz27_0, hcz27_1, hcz27_2, hcz27_3, hfz27_0, hfz27_1, hfz27_2, hfz27_3⟩ := Go.Proofs.YtocdahbinombkaaGreat.Lv.blks4 BK55.out) | ((with_reducible refine gate_callee (f := 5) rfl ?_); refine goesL_ (some 12) rfl rfl Tryz.func5 (by kernel_rfl) rfl #[.agg #[.int .i64 a0_0, .int .i64 a0_1, .slice A0_2 l0_2.length c0_2, .slice A0_3 l0_3.length c0_3], .int .i64 1048576] rfl zm ?_; (with_reducible refine (laws_szEngine.calls k a0_0 a0_1 _ _ l0_2 _ _ l0_3 1048576 t79 _ ?side1 ?side2 ?side3 ?side4 A3.out).mono ?_); (case side1 => repeat (first | exact (Kd.C_below HR0_2.out HB.out) | (with_reducible first | refine Kd.C_alloc ?_ _ | refine Kd.C_drewN ?_ _ | refine Kd.C_drew ?_))); (case side2 => exact HC0_2.out); (case side3 => repeat (first | exact (Kd.C_below HR0_3.out HB.out) | (with_reducible first | refine Kd.C_alloc ?_ _ | refine Kd.C_drewN ?_ _ | refine Kd.C_drew ?_))); (case side4 => exact HC0_3.out); rintro e w28 ⟨rfl, hb⟩; refine ⟨_, rfl, ?_⟩; have n0_ := Aside0.mk (blk_below (g := gb55) (o := .cells #[.int .i64 a0_0, .int .i64 a0_1, .slice A0_2 l0_2.length c0_2, .slice A0_3 l0_3.length c0_3] 25 (0, 0)) zk hb); have n1_ := Aside0.mk (below_step zb hb); clear BK55; clear HB; have BK55 := n0_; have HB := n1_; clear n0_ n1_; (try clear hb); (try clear hb2); (try clear hk); (try clear hi)) | ((with_reducible refine gate_callee (f := 6) rfl ?_); refine goesL_ (some 17) rfl rfl Tryz.func6 (by kernel_rfl) rfl #[.slice A1 l1.length c1, .int .i64 t79] rfl zm ?_; (with_reducible refine (laws_szPairS.calls _ _ l1 t79 t84 _ ?side1 ?side2 A8.out).mono ?_); (case side1 => repeat (first | exact (Kd.C_below HR1.out HB.out) | (with_reducible first | refine Kd.C_alloc ?_ _ | refine Kd.C_drewN ?_ _ | refine Kd.C_drew ?_))); (case side2 => exact HC1.out); rintro e w' ⟨rfl, ⟨nd, rfl⟩⟩; refine ⟨_, rfl, ?_⟩; (repeat (rw [drewN_self w28]; generalize hq_ : World.drewN w28 _ = w28; have n0_ : Aside0 (w28.heap[gb55]? = some (.cells #[.int .i64 a0_0, .int .i64 a0_1, .slice A0_2 l0_2.length c0_2, .slice A0_3 l0_3.length c0_3] 25 (0, 0))) := ⟨by rw [← hq_]; exact zk⟩; have n1_ : Aside0 (Below w.heap.size w w28) := ⟨by rw [← hq_]; exact zb⟩; clear BK55 HB hq_; have BK55 := n0_; have HB := n1_; clear n0_ n1_)); (try (have hczrgb359_0 : w28.cell? ⟨gb55, 0, none⟩ = some (.int .i64 a0_0) := (blk_cell BK55.out 0).trans rfl)); (try (have hfzrgb359_0 := blk_frozen BK55.out 0)); (try (have hczrgb359_1 : w28.cell? ⟨gb55, 1, none⟩ = some (.int .i64 a0_1) := (blk_cell BK55.out 1).trans rfl)); (try (have hfzrgb359_1 := blk_frozen BK55.out 1)); (try (have hczrgb359_2 : w28.cell? ⟨gb55, 2, none⟩ = some (.slice A0_2 l0_2.length c0_2) := (blk_cell BK55.out 2).trans rfl)); (try (have hfzrgb359_2 := blk_frozen BK55.out 2)); (try (have hczrgb359_3 : w28.cell? ⟨gb55, 3, none⟩ = some (.slice A0_3 l0_3.length c0_3) := (blk_cell BK55.out 3).trans rfl)); (try (have hfzrgb359_3 := blk_frozen BK55.out 3)); obtain ⟨hcz29_0, hcz29_1, hcz29_2, hcz29_3, hfz29_0, hfz29_1, hfz29_2, hfz29_3⟩ := Go.Proofs.YtocdahbinombkaaGreat.Lv.blks4 BK55.out) | ((with_reducible refine gate_callee (f := 8) rfl ?_); refine goesL_ (some 21) rfl rfl Tryz.func8 (by kernel_rfl) rfl #[.agg #[.int .i64 a0_0, .int .i64 a0_1, .slice A0_2 l0_2.length c0_2, .slice A0_3 l0_3.length c0_3]] rfl zm ?_; (with_reducible refine (laws_toEngine.calls k a0_0 a0_1 _ _ l0_2 _ _ l0_3 t76 t86 t87 t88 _ ?side1 ?side2 ?side3 ?side4 A13.out).mono ?_); (case side1 => repeat (first | exact (Kd.C_below HR0_2.out HB.out) | (with_reducible first | refine Kd.C_alloc ?_ _ | refine Kd.C_drewN ?_ _ | refine Kd.C_drew ?_))); (case side2 => exact HC0_2.out); (case side3 => repeat (first | exact (Kd.C_below HR0_3.out HB.out) | (with_reducible first | refine Kd.C_alloc ?_ _ | refine Kd.C_drewN ?_ _ | refine Kd.C_drew ?_))); (case side4 => exact HC0_3.out); rintro e w30 ⟨v365, v368, rfl, ho0, ho1, hb⟩; refine ⟨_, rfl, ?_⟩; have n0_ := Aside0.mk (Kd.S_lower ho0 (below_size zb)); have n1_ := Aside0.mk (Kd.S_lower ho1 (below_size zb)); have n2_ := Aside0.mk (blk_below (g := gb55) (o := .cells #[.int .i64 a0_0, .int .i64 a0_1, .slice A0_2 l0_2.length c0_2, .slice A0_3 l0_3.length c0_3] 25 (0, 0)) zk hb); have n3_ := Aside0.mk (below_step zb hb); clear BK55; clear HB; have HO60 := n0_; have HO61 := n1_; have BK55 := n2_; have HB := n3_; clear n0_ n1_ n2_ n3_; (try clear hb); (try clear hb2); (try clear hk); (try clear hi); (try clear ho0); (try clear ho1)) | ((with_reducible refine gate_callee (f := 9) rfl ?_); refine goesL_ (some 23) rfl rfl Tryz.func9 (by kernel_rfl) rfl #[.slice A1 l1.length c1] rfl zm ?_; (with_reducible refine (laws_toPairS.calls k _ _ l1 t81 _ ?side1 ?side2 A14.out).mono ?_); (case side1 => repeat (first | exact (Kd.C_below HR1.out HB.out) | (with_reducible first | refine Kd.C_alloc ?_ _ | refine Kd.C_drewN ?_ _ | refine Kd.C_drew ?_))); (case side2 => exact HC1.out); rintro e w31 ⟨v371, rfl, ho0, hb⟩; refine ⟨_, rfl, ?_⟩; have n0_ := Aside0.mk (Kd.S_below (by (with_reducible repeat (first | apply Kd.S_alloc | apply Kd.S_drewN | apply Kd.S_drew)); exact HO60.out) hb); have n1_ := Aside0.mk (Kd.S_below (by (with_reducible repeat (first | apply Kd.S_alloc | apply Kd.S_drewN | apply Kd.S_drew)); exact HO61.out) hb); have n2_ := Aside0.mk (Kd.R_lower ho0 (below_size zb)); have n3_ := Aside0.mk (blk_below (g := gb55) (o := .cells #[.int .i64 a0_0, .int .i64 a0_1, .slice A0_2 l0_2.length c0_2, .slice A0_3 l0_3.length c0_3] 25 (0, 0)) zk hb); have n4_ := Aside0.mk (below_step zb hb); clear HO60; clear HO61; clear BK55; clear HB; have HO60 := n0_; have HO61 := n1_; have HO62 := n2_; have BK55 := n3_; have HB := n4_; clear n0_ n1_ n2_ n3_ n4_; (try clear hb); (try clear hb2); (try clear hk); (try clear hi); (try clear ho0); obtain ⟨Ao32, co32, eo32⟩ := Kd.S_slice HO60.out; subst eo32; obtain ⟨Ao33, co33, eo33⟩ := Kd.S_slice HO61.out; subst eo33; obtain ⟨Ao34, co34, eo34⟩ := Kd.R_slice HO62.out; subst eo34) | ((with_reducible refine gate_callee (f := 7) rfl ?_); refine goesL_ (some 24) rfl rfl Tryz.func7 (by kernel_rfl) rfl #[.agg #[.int .i64 t76, .int .i64 t86, .slice Ao32 t87.length co32, .slice Ao33 t88.length co33], .slice Ao34 t81.length co34] rfl zm ?_; (with_reducible refine (spec_IndexFault.calls k t76 t86 _ _ t87 _ _ t88 _ _ t81 t78 _ ?side1 ?side2 ?side3 ?side4 ?side5 ?side6 A15.out).mono ?_); (case side1 => repeat (first | exact (Kd.S_reads' HO60.out).2.2 | (with_reducible first | refine Kd.C_alloc ?_ _ | refine Kd.C_drewN ?_ _ | refine Kd.C_drew ?_))); (case side2 => exact (Kd.S_reads' HO60.out).2.1); (case side3 => repeat (first | exact (Kd.S_reads' HO61.out).2.2 | (with_reducible first | refine Kd.C_alloc ?_ _ | refine Kd.C_drewN ?_ _ | refine Kd.C_drew ?_))); (case side4 => exact (Kd.S_reads' HO61.out).2.1); (case side5 => repeat (first | exact (Kd.R_reads' HO62.out).2.2 | (with_reducible first | refine Kd.C_alloc ?_ _ | refine Kd.C_drewN ?_ _ | refine Kd.C_drew ?_))); (case side6 => exact (Kd.R_reads' HO62.out).2.1); rintro e w35 ⟨rfl, hb⟩; refine ⟨_, rfl, ?_⟩; have n0_ := Aside0.mk (Kd.S_below (by (with_reducible repeat (first | apply Kd.S_alloc | apply Kd.S_drewN | apply Kd.S_drew)); exact HO60.out) hb); have n1_ := Aside0.mk (Kd.S_below (by (with_reducible repeat (first | apply Kd.S_alloc | apply Kd.S_drewN | apply Kd.S_drew)); exact HO61.out) hb); have n2_ := Aside0.mk (Kd.R_below (by (with_reducible repeat (first | apply Kd.R_alloc | apply Kd.R_drewN | apply Kd.R_drew)); exact HO62.out) hb); have n3_ := Aside0.mk (blk_below (g := gb55) (o := .cells #[.int .i64 a0_0, .int .i64 a0_1, .slice A0_2 l0_2.length c0_2, .slice A0_3 l0_3.length c0_3] 25 (0, 0)) zk hb); have n4_ := Aside0.mk (below_step zb hb); clear HO60; clear HO61; clear HO62; clear BK55; clear HB; have HO60 := n0_; have HO61 := n1_; have HO62 := n2_; have BK55 := n3_; have HB := n4_; clear n0_ n1_ n2_ n3_ n4_; (try clear hb); (try clear hb2); (try clear hk); (try clear hi); obtain ⟨hcz36_0, hcz36_1, hcz36_2, hcz36_3, hfz36_0, hfz36_1, hfz36_2, hfz36_3⟩ := Go.Proofs.YtocdahbinombkaaGreat.Lv.blks4 BK55.out) | ((with_reducible refine gate_callee (f := 8) rfl ?_); refine goesL_ (some 26) rfl rfl Tryz.func8 (by kernel_rfl) rfl #[.agg #[.int .i64 a0_0, .int .i64 a0_1, .slice A0_2 l0_2.length c0_2, .slice A0_3 l0_3.length c0_3]] rfl zm ?_; (with_reducible refine (laws_toEngine.calls k a0_0 a0_1 _ _ l0_2 _ _ l0_3 t57 t69 t70 t72 _ ?side1 ?side2 ?side3 ?side4 A16.out).mono ?_); (case side1 => repeat (first | exact (Kd.C_below HR0_2.out HB.out) | (with_reducible first | refine Kd.C_alloc ?_ _ | refine Kd.C_drewN ?_ _ | refine Kd.C_drew ?_))); (case side2 => exact HC0_2.out); (case side3 => repeat (first | exact (Kd.C_below HR0_3.out HB.out) | (with_reducible first | refine Kd.C_alloc ?_ _ | refine Kd.C_drewN ?_ _ | refine Kd.C_drew ?_))); (case side4 => exact HC0_3.out); rintro e w37 ⟨v377, v380, rfl, ho0, ho1, hb⟩; refine ⟨_, rfl, ?_⟩; have n0_ := Aside0.mk (Kd.S_elder' (by (with_reducible repeat (first | apply Kd.S_alloc | apply Kd.S_drewN | apply Kd.S_drew)); exact HO60.out) (Kd.S_base ho0) hb); have n1_ := Aside0.mk (Kd.S_elder' (by (with_reducible repeat (first | apply Kd.S_alloc | apply Kd.S_drewN | apply Kd.S_drew)); exact HO61.out) (Kd.S_base ho1) hb); have n2_ := Aside0.mk (Kd.R_below (by (with_reducible repeat (first | apply Kd.R_alloc | apply Kd.R_drewN | apply Kd.R_drew)); exact HO62.out) hb); have n3_ := Aside0.mk (Kd.S_lower (Kd.S_new' ho0 (Kd.S_lt (by (with_reducible repeat (first | apply Kd.S_alloc | apply Kd.S_drewN | apply Kd.S_drew)); exact HO60.out))) (below_size zb)); have n4_ := Aside0.mk (Kd.S_lower (Kd.S_new' ho1 (Kd.S_lt (by (with_reducible repeat (first | apply Kd.S_alloc | apply Kd.S_drewN | apply Kd.S_drew)); exact HO61.out))) (below_size zb)); have n5_ := Aside0.mk (blk_below (g := gb55) (o := .cells #[.int .i64 a0_0, .int .i64 a0_1, .slice A0_2 l0_2.length c0_2, .slice A0_3 l0_3.length c0_3] 25 (0, 0)) zk hb); have n6_ := Aside0.mk (below_step zb hb); clear HO60; clear HO61; clear HO62; clear BK55; clear HB; have HO60 := n0_; have HO61 := n1_; have HO62 := n2_; have HO65 := n3_; have HO66 := n4_; have BK55 := n5_; have HB := n6_; clear n0_ n1_ n2_ n3_ n4_ n5_ n6_; (try clear hb); (try clear hb2); (try clear hk); (try clear hi); (try clear ho0); (try clear ho1)) | ((with_reducible refine gate_dst (N := 7) rfl ?_); refine box_event ?hg (N := 7) ?hd (cs := #[.int .i64 0, .int .i64 0, .slice none 0 0, .slice none 0 0]) (t := 33) ?hr ?_; (case hd => rfl); (case hg => rfl); (case hr => first | (go_simp; done) | (go_simp; rfl)); intro gb56 hg w38 hbox hb; have n0_ := Aside0.mk (Kd.S_below (by (with_reducible repeat (first | apply Kd.S_alloc | apply Kd.S_drewN | apply Kd.S_drew)); exact HO60.out) hb); have n1_ := Aside0.mk (Kd.S_below (by (with_reducible repeat (first | apply Kd.S_alloc | apply Kd.S_drewN | apply Kd.S_drew)); exact HO61.out) hb); have n2_ := Aside0.mk (Kd.R_below (by (with_reducible repeat (first | apply Kd.R_alloc | apply Kd.R_drewN | apply Kd.R_drew)); exact HO62.out) hb); have n3_ := Aside0.mk (Kd.S_below (by (with_reducible repeat (first | apply Kd.S_alloc | apply Kd.S_drewN | apply Kd.S_drew)); exact HO65.out) hb); have n4_ := Aside0.mk (Kd.S_below (by (with_reducible repeat (first | apply Kd.S_alloc | apply Kd.S_drewN | apply Kd.S_drew)); exact HO66.out) hb); have n5_ := Aside0.mk (blk_below (g := gb55) (o := .cells #[.int .i64 a0_0, .int .i64 a0_1, .slice A0_2 l0_2.length c0_2, .slice A0_3 l0_3.length c0_3] 25 (0, 0)) zk hb); have n6_ := Aside0.mk (below_step zb hb); have n7_ := Aside0.mk (hbox); have n8_ := Aside0.mk ((by rw [hg]; exact (below_size zb) : w.heap.size ≤ gb56)); have n9_ := n8_; have n10_ := Aside0.mk ((by rw [hg]; exact Nat.ne_of_lt (blk_lt (g := gb55) (o := .cells #[.int .i64 a0_0, .int .i64 a0_1, .slice A0_2 l0_2.length c0_2, .slice A0_3 l0_3.length c0_3] 25 (0, 0)) zk) : gb55 ≠ gb56)); have n11_ := Aside0.mk ((by rw [hg]; exact Nat.ne_of_gt (blk_lt (g := gb55) (o := .cells #[.int .i64 a0_0, .int .i64 a0_1, .slice A0_2 l0_2.length c0_2, .slice A0_3 l0_3.length c0_3] 25 (0, 0)) zk) : gb56 ≠ gb55)); clear HO60; clear HO61; clear HO62; clear HO65; clear HO66; clear BK55; clear HB; have HO60 := n0_; have HO61 := n1_; have HO62 := n2_; have HO65 := n3_; have HO66 := n4_; have BK55 := n5_; have HB := n6_; have BK56 := n7_; have GW56 := n8_; have GE56 := n9_; have NB359_382 := n10_; have NB382_359 := n11_; clear n0_ n1_ n2_ n3_ n4_ n5_ n6_ n7_ n8_ n9_ n10_ n11_; clear hb hbox hg; have hnb39 := NB382_359.out; have hnc39 := NB359_382.out; obtain ⟨hcz40_0, hcz40_1, hcz40_2, hcz40_3, hfz40_0, hfz40_1, hfz40_2, hfz40_3⟩ := Go.Proofs.YtocdahbinombkaaGreat.Lv.blks4 BK56.out; obtain ⟨Ao41, co41, eo41⟩ := Kd.S_slice HO65.out; subst eo41; obtain ⟨Ao42, co42, eo42⟩ := Kd.S_slice HO66.out; subst eo42) | ((with_reducible refine gate_callee (f := 9) rfl ?_); refine goesL_ (some 28) rfl rfl Tryz.func9 (by kernel_rfl) rfl #[.slice A1 l1.length c1] rfl zm ?_; (with_reducible refine (laws_toPairS.calls k _ _ l1 t63 _ ?side1 ?side2 A17.out).mono ?_); (case side1 => exact Kd.C_below HR1.out zb); (case side2 => exact HC1.out); rintro e w43 ⟨v384, rfl, ho0, hb⟩; refine ⟨_, rfl, ?_⟩; have n0_ := Aside0.mk (Kd.S_below (by (with_reducible repeat (first | apply Kd.S_alloc | apply Kd.S_drewN | apply Kd.S_drew)); exact (Kd.S_mono (Kd.S_far (p := ⟨gb56, 3, none⟩) (Kd.S_far (p := ⟨gb56, 2, none⟩) (Kd.S_far (p := ⟨gb56, 1, none⟩) (Kd.S_far (p := ⟨gb56, 0, none⟩) (Kd.S_types HO60.out BK56.out (by decide)) (fun _ hk => hk.2) (.int .i64 t57)) (fun _ hk => hk.2) (.int .i64 t69)) (fun _ hk => hk.2) (.slice Ao41 t70.length co41)) (fun _ hk => hk.2) (.slice Ao42 t72.length co42)) (fun _ h_ => h_.1))) hb); have n1_ := Aside0.mk (Kd.S_below (by (with_reducible repeat (first | apply Kd.S_alloc | apply Kd.S_drewN | apply Kd.S_drew)); exact (Kd.S_mono (Kd.S_far (p := ⟨gb56, 3, none⟩) (Kd.S_far (p := ⟨gb56, 2, none⟩) (Kd.S_far (p := ⟨gb56, 1, none⟩) (Kd.S_far (p := ⟨gb56, 0, none⟩) (Kd.S_types HO61.out BK56.out (by decide)) (fun _ hk => hk.2) (.int .i64 t57)) (fun _ hk => hk.2) (.int .i64 t69)) (fun _ hk => hk.2) (.slice Ao41 t70.length co41)) (fun _ hk => hk.2) (.slice Ao42 t72.length co42)) (fun _ h_ => h_.1))) hb); have n2_ := Aside0.mk (Kd.R_elder' (by (with_reducible repeat (first | apply Kd.R_alloc | apply Kd.R_drewN | apply Kd.R_drew)); exact (Kd.R_mono (Kd.R_far (p := ⟨gb56, 3, none⟩) (Kd.R_far (p := ⟨gb56, 2, none⟩) (Kd.R_far (p := ⟨gb56, 1, none⟩) (Kd.R_far (p := ⟨gb56, 0, none⟩) (Kd.R_types HO62.out BK56.out (by decide)) (fun _ hk => hk.2) (.int .i64 t57)) (fun _ hk => hk.2) (.int .i64 t69)) (fun _ hk => hk.2) (.slice Ao41 t70.length co41)) (fun _ hk => hk.2) (.slice Ao42 t72.length co42)) (fun _ h_ => h_.1))) (Kd.R_base ho0) hb); have n3_ := Aside0.mk (Kd.S_below (by (with_reducible repeat (first | apply Kd.S_alloc | apply Kd.S_drewN | apply Kd.S_drew)); exact (Kd.S_mono (Kd.S_far (p := ⟨gb56, 3, none⟩) (Kd.S_far (p := ⟨gb56, 2, none⟩) (Kd.S_far (p := ⟨gb56, 1, none⟩) (Kd.S_far (p := ⟨gb56, 0, none⟩) (Kd.S_types HO65.out BK56.out (by decide)) (fun _ hk => hk.2) (.int .i64 t57)) (fun _ hk => hk.2) (.int .i64 t69)) (fun _ hk => hk.2) (.slice Ao41 t70.length co41)) (fun _ hk => hk.2) (.slice Ao42 t72.length co42)) (fun _ h_ => h_.1))) hb); have n4_ := Aside0.mk (Kd.S_below (by (with_reducible repeat (first | apply Kd.S_alloc | apply Kd.S_drewN | apply Kd.S_drew)); exact (Kd.S_mono (Kd.S_far (p := ⟨gb56, 3, none⟩) (Kd.S_far (p := ⟨gb56, 2, none⟩) (Kd.S_far (p := ⟨gb56, 1, none⟩) (Kd.S_far (p := ⟨gb56, 0, none⟩) (Kd.S_types HO66.out BK56.out (by decide)) (fun _ hk => hk.2) (.int .i64 t57)) (fun _ hk => hk.2) (.int .i64 t69)) (fun _ hk => hk.2) (.slice Ao41 t70.length co41)) (fun _ hk => hk.2) (.slice Ao42 t72.length co42)) (fun _ h_ => h_.1))) hb); have n5_ := Aside0.mk (Kd.R_lower (Kd.R_new' ho0 (Kd.R_lt (by (with_reducible repeat (first | apply Kd.R_alloc | apply Kd.R_drewN | apply Kd.R_drew)); exact (Kd.R_mono (Kd.R_far (p := ⟨gb56, 3, none⟩) (Kd.R_far (p := ⟨gb56, 2, none⟩) (Kd.R_far (p := ⟨gb56, 1, none⟩) (Kd.R_far (p := ⟨gb56, 0, none⟩) (Kd.R_types HO62.out BK56.out (by decide)) (fun _ hk => hk.2) (.int .i64 t57)) (fun _ hk => hk.2) (.int .i64 t69)) (fun _ hk => hk.2) (.slice Ao41 t70.length co41)) (fun _ hk => hk.2) (.slice Ao42 t72.length co42)) (fun _ h_ => h_.1))))) (below_size zb)); have n6_ := Aside0.mk (blk_below (g := gb55) (o := .cells #[.int .i64 a0_0, .int .i64 a0_1, .slice A0_2 l0_2.length c0_2, .slice A0_3 l0_3.length c0_3] 25 (0, 0)) (by (with_reducible repeat (first | refine blk_drewN ?_ _ | refine blk_drew ?_ | refine blk_alloc ?_ _)); refine blk_far ?_ NB359_382.out _; (with_reducible repeat (first | refine blk_drewN ?_ _ | refine blk_drew ?_ | refine blk_alloc ?_ _)); refine blk_far ?_ NB359_382.out _; (with_reducible repeat (first | refine blk_drewN ?_ _ | refine blk_drew ?_ | refine blk_alloc ?_ _)); refine blk_far ?_ NB359_382.out _; (with_reducible repeat (first | refine blk_drewN ?_ _ | refine blk_drew ?_ | refine blk_alloc ?_ _)); refine blk_far ?_ NB359_382.out _; (with_reducible repeat (first | refine blk_drewN ?_ _ | refine blk_drew ?_ | refine blk_alloc ?_ _)); exact BK55.out) hb); have n7_ := Aside0.mk (blk_below (g := gb56) (o := .cells #[.int .i64 t57, .int .i64 t69, .slice Ao41 t70.length co41, .slice Ao42 t72.length co42] 33 (0, 0)) (by (with_reducible repeat (first | refine blk_drewN ?_ _ | refine blk_drew ?_ | refine blk_alloc ?_ _)); refine blk_put (cs := #[.int .i64 t57, .int .i64 t69, .slice Ao41 t70.length co41, .slice none 0 0]) ?_ 3 _ rfl; (with_reducible repeat (first | refine blk_drewN ?_ _ | refine blk_drew ?_ | refine blk_alloc ?_ _)); refine blk_put (cs := #[.int .i64 t57, .int .i64 t69, .slice none 0 0, .slice none 0 0]) ?_ 2 _ rfl; (with_reducible repeat (first | refine blk_drewN ?_ _ | refine blk_drew ?_ | refine blk_alloc ?_ _)); refine blk_put (cs := #[.int .i64 t57, .int .i64 0, .slice none 0 0, .slice none 0 0]) ?_ 1 _ rfl; (with_reducible repeat (first | refine blk_drewN ?_ _ | refine blk_drew ?_ | refine blk_alloc ?_ _)); refine blk_put (cs := #[.int .i64 0, .int .i64 0, .slice none 0 0, .slice none 0 0]) ?_ 0 _ rfl; (with_reducible repeat (first | refine blk_drewN ?_ _ | refine blk_drew ?_ | refine blk_alloc ?_ _)); exact BK56.out) hb); have n8_ := Aside0.mk (below_step zb hb); clear HO60; clear HO61; clear HO62; clear HO65; clear HO66; clear BK55; clear BK56; clear HB; have HO60 := n0_; have HO61 := n1_; have HO62 := n2_; have HO65 := n3_; have HO66 := n4_; have HO71 := n5_; have BK55 := n6_; have BK56 := n7_; have HB := n8_; clear n0_ n1_ n2_ n3_ n4_ n5_ n6_ n7_ n8_; (try clear hb); (try clear hb2); (try clear hk); (try clear hi); (try clear ho0); obtain ⟨hcz44_0, hcz44_1, hcz44_2, hcz44_3, hfz44_0, hfz44_1, hfz44_2, hfz44_3⟩ := Go.Proofs.YtocdahbinombkaaGreat.Lv.blks4 BK56.out; obtain ⟨Ao45, co45, eo45⟩ := Kd.R_slice HO71.out; subst eo45) | ((with_reducible refine gate_callee (f := 10) rfl ?_); refine goesL_ (some 31) rfl rfl Tryz.func10 (by kernel_rfl) rfl #[.agg #[.int .i64 t57, .int .i64 t69, .slice Ao41 t70.length co41, .slice Ao42 t72.length co42], .slice Ao45 t63.length co45] rfl zm ?_; (with_reducible refine (impl_IndexFault.calls k t57 t69 _ _ t70 _ _ t72 _ _ t63 t74 _ ?side1 ?side2 ?side3 ?side4 ?side5 ?side6 A18.out).mono ?_); (case side1 => repeat (first | exact (Kd.S_reads' HO65.out).2.2 | (with_reducible first | refine Kd.C_alloc ?_ _ | refine Kd.C_drewN ?_ _ | refine Kd.C_drew ?_))); (case side2 => exact (Kd.S_reads' HO65.out).2.1); (case side3 => repeat (first | exact (Kd.S_reads' HO66.out).2.2 | (with_reducible first | refine Kd.C_alloc ?_ _ | refine Kd.C_drewN ?_ _ | refine Kd.C_drew ?_))); (case side4 => exact (Kd.S_reads' HO66.out).2.1); (case side5 => repeat (first | exact (Kd.R_reads' HO71.out).2.2 | (with_reducible first | refine Kd.C_alloc ?_ _ | refine Kd.C_drewN ?_ _ | refine Kd.C_drew ?_))); (case side6 => exact (Kd.R_reads' HO71.out).2.1); rintro e w46 ⟨rfl, hb⟩; refine ⟨_, rfl, ?_⟩; have n0_ := Aside0.mk (Kd.S_below (by (with_reducible repeat (first | apply Kd.S_alloc | apply Kd.S_drewN | apply Kd.S_drew)); exact HO60.out) hb); have n1_ := Aside0.mk (Kd.S_below (by (with_reducible repeat (first | apply Kd.S_alloc | apply Kd.S_drewN | apply Kd.S_drew)); exact HO61.out) hb); have n2_ := Aside0.mk (Kd.R_below (by (with_reducible repeat (first | apply Kd.R_alloc | apply Kd.R_drewN | apply Kd.R_drew)); exact HO62.out) hb); have n3_ := Aside0.mk (Kd.S_below (by (with_reducible repeat (first | apply Kd.S_alloc | apply Kd.S_drewN | apply Kd.S_drew)); exact HO65.out) hb); have n4_ := Aside0.mk (Kd.S_below (by (with_reducible repeat (first | apply Kd.S_alloc | apply Kd.S_drewN | apply Kd.S_drew)); exact HO66.out) hb); have n5_ := Aside0.mk (Kd.R_below (by (with_reducible repeat (first | apply Kd.R_alloc | apply Kd.R_drewN | apply Kd.R_drew)); exact HO71.out) hb); have n6_ := Aside0.mk (blk_below (g := gb55) (o := .cells #[.int .i64 a0_0, .int .i64 a0_1, .slice A0_2 l0_2.length c0_2, .slice A0_3 l0_3.length c0_3] 25 (0, 0)) zk hb); have n7_ := Aside0.mk (blk_below (g := gb56) (o := .cells #[.int .i64 t57, .int .i64 t69, .slice Ao41 t70.length co41, .slice Ao42 t72.length co42] 33 (0, 0)) zk hb); have n8_ := Aside0.mk (below_step zb hb); clear HO60; clear HO61; clear HO62; clear HO65; clear HO66; clear HO71; clear BK55; clear BK56; clear HB; have HO60 := n0_; have HO61 := n1_; have HO62 := n2_; have HO65 := n3_; have HO66 := n4_; have HO71 := n5_; have BK55 := n6_; have BK56 := n7_; have HB := n8_; clear n0_ n1_ n2_ n3_ n4_ n5_ n6_ n7_ n8_; (try clear hb); (try clear hb2); (try clear hk); (try clear hi)))
    have n0_ := Aside0.mk (Kd.S_drew HO60.out)
    have n1_ := Aside0.mk (Kd.S_drew HO61.out)
    have n2_ := Aside0.mk (Kd.R_drew HO62.out)
    have n3_ := Aside0.mk (Kd.S_drew HO65.out)
    have n4_ := Aside0.mk (Kd.S_drew HO66.out)
    have n5_ := Aside0.mk (Kd.R_drew HO71.out)
    have n6_ := Aside0.mk (blk_drew BK55.out)
    have n7_ := Aside0.mk (blk_drew BK56.out)
    have n8_ := Aside0.mk (below_drew1 HB.out)
    clear HO60
    clear HO61
    clear HO62
    clear HO65
    clear HO66
    clear HO71
    clear BK55
    clear BK56
    clear HB
    have HO60 := n0_
    have HO61 := n1_
    have HO62 := n2_
    have HO65 := n3_
    have HO66 := n4_
    have HO71 := n5_
    have BK55 := n6_
    have BK56 := n7_
    have HB := n8_
    clear n0_ n1_ n2_ n3_ n4_ n5_ n6_ n7_ n8_
    refine start_ (n := 5) (S := fun w' => w'.cell? ⟨gb56, 0, none⟩ = some (.int .i64 t57) ∧ w'.cell? ⟨gb56, 1, none⟩ = some (.int .i64 t69) ∧ w'.cell? ⟨gb56, 2, none⟩ = some (.slice Ao41 t70.length co41) ∧ w'.cell? ⟨gb56, 3, none⟩ = some (.slice Ao42 t72.length co42) ∧ w'.cell? ⟨gb55, 0, none⟩ = some (.int .i64 a0_0) ∧ w'.cell? ⟨gb55, 1, none⟩ = some (.int .i64 a0_1) ∧ w'.cell? ⟨gb55, 2, none⟩ = some (.slice A0_2 l0_2.length c0_2) ∧ w'.cell? ⟨gb55, 3, none⟩ = some (.slice A0_3 l0_3.length c0_3)) (ds := []) #[false, false, false, false, false] (by kernel_rfl) rfl rfl ⟨(blk_cell BK56.out 0).trans rfl, (blk_cell BK56.out 1).trans rfl, (blk_cell BK56.out 2).trans rfl, (blk_cell BK56.out 3).trans rfl, (blk_cell BK55.out 0).trans rfl, (blk_cell BK55.out 1).trans rfl, (blk_cell BK55.out 2).trans rfl, (blk_cell BK55.out 3).trans rfl⟩ (fun hHeld => ?_)
    generalize w46.drew = w47 at HO60 HO61 HO62 HO65 HO66 HO71 BK55 BK56 HB hHeld ⊢
    refine zt 0 35 ?_; refine zt 1 36 ?_
    refine one_ (i := 2) (N := some 37) #[true, true, true, false, false] rfl rfl (by kernel_rfl) (by decide) (fun K hK => ?_)
    refine goes_ Tryz.func8 (by kernel_rfl) rfl #[.agg #[.int .i64 a0_0, .int .i64 a0_1, .slice A0_2 l0_2.length c0_2, .slice A0_3 l0_3.length c0_3]] (by rfl) rfl rfl zm ?_
    with_reducible refine (laws_toEngine.calls k a0_0 a0_1 _ _ l0_2 _ _ l0_3 t58 t89 t90 t91 _ ?side1 ?side2 ?side3 ?side4 A20.out).mono ?_
    (case side1 => repeat (first | exact (Kd.C_below HR0_2.out HB.out) | (with_reducible first | refine Kd.C_alloc ?_ _ | refine Kd.C_drewN ?_ _ | refine Kd.C_drew ?_)))
    (case side2 => exact HC0_2.out)
    (case side3 => repeat (first | exact (Kd.C_below HR0_3.out HB.out) | (with_reducible first | refine Kd.C_alloc ?_ _ | refine Kd.C_drewN ?_ _ | refine Kd.C_drew ?_)))
    (case side4 => exact HC0_3.out)
    rintro e w48 ⟨v390, v393, rfl, ho0, ho1, hb⟩
    refine ⟨_, rfl, ?_⟩
    have n0_ := Aside0.mk (Kd.S_elder' (by (with_reducible repeat (first | apply Kd.S_alloc | apply Kd.S_drewN | apply Kd.S_drew)); exact HO60.out) (Kd.S_base ho0) hb)
    have n1_ := Aside0.mk (Kd.S_elder' (by (with_reducible repeat (first | apply Kd.S_alloc | apply Kd.S_drewN | apply Kd.S_drew)); exact HO61.out) (Kd.S_base ho1) hb)
    have n2_ := Aside0.mk (Kd.R_below (by (with_reducible repeat (first | apply Kd.R_alloc | apply Kd.R_drewN | apply Kd.R_drew)); exact HO62.out) hb)
    have n3_ := Aside0.mk (Kd.S_elder' (by (with_reducible repeat (first | apply Kd.S_alloc | apply Kd.S_drewN | apply Kd.S_drew)); exact HO65.out) (Kd.S_base ho0) hb)
    have n4_ := Aside0.mk (Kd.S_elder' (by (with_reducible repeat (first | apply Kd.S_alloc | apply Kd.S_drewN | apply Kd.S_drew)); exact HO66.out) (Kd.S_base ho1) hb)
    have n5_ := Aside0.mk (Kd.R_below (by (with_reducible repeat (first | apply Kd.R_alloc | apply Kd.R_drewN | apply Kd.R_drew)); exact HO71.out) hb)
    have n6_ := Aside0.mk (Kd.S_lower (Kd.S_new' (Kd.S_new' ho0 (Kd.S_lt (by (with_reducible repeat (first | apply Kd.S_alloc | apply Kd.S_drewN | apply Kd.S_drew)); exact HO60.out))) (Kd.S_lt (by (with_reducible repeat (first | apply Kd.S_alloc | apply Kd.S_drewN | apply Kd.S_drew)); exact HO65.out))) (below_size zb))
    have n7_ := Aside0.mk (Kd.S_lower (Kd.S_new' (Kd.S_new' ho1 (Kd.S_lt (by (with_reducible repeat (first | apply Kd.S_alloc | apply Kd.S_drewN | apply Kd.S_drew)); exact HO61.out))) (Kd.S_lt (by (with_reducible repeat (first | apply Kd.S_alloc | apply Kd.S_drewN | apply Kd.S_drew)); exact HO66.out))) (below_size zb))
    have n8_ := Aside0.mk (blk_below (g := gb55) (o := .cells #[.int .i64 a0_0, .int .i64 a0_1, .slice A0_2 l0_2.length c0_2, .slice A0_3 l0_3.length c0_3] 25 (0, 0)) zk hb)
    have n9_ := Aside0.mk (blk_below (g := gb56) (o := .cells #[.int .i64 t57, .int .i64 t69, .slice Ao41 t70.length co41, .slice Ao42 t72.length co42] 33 (0, 0)) zk hb)
    have n10_ := Aside0.mk (below_step zb hb)
    clear HO60
    clear HO61
    clear HO62
    clear HO65
    clear HO66
    clear HO71
    clear BK55
    clear BK56
    clear HB
    have HO60 := n0_
    have HO61 := n1_
    have HO62 := n2_
    have HO65 := n3_
    have HO66 := n4_
    have HO71 := n5_
    have HO82 := n6_
    have HO83 := n7_
    have BK55 := n8_
    have BK56 := n9_
    have HB := n10_
    clear n0_ n1_ n2_ n3_ n4_ n5_ n6_ n7_ n8_ n9_ n10_
    (try clear hb)
    (try clear hb2)
    (try clear hk)
    (try clear hi)
    (try clear ho0)
    (try clear ho1)
    obtain ⟨Ao49, co49, eo49⟩ := Kd.S_slice HO82.out
    (first | subst eo49 | (injection eo49 with f1_ f2_ f3_; have f4_ := f1_.symm; have f5_ := f3_.symm; clear f1_ f2_ f3_; subst f4_; subst f5_))
    obtain ⟨Ao50, co50, eo50⟩ := Kd.S_slice HO83.out
    (first | subst eo50 | (injection eo50 with f1_ f2_ f3_; have f4_ := f1_.symm; have f5_ := f3_.symm; clear f1_ f2_ f3_; subst f4_; subst f5_))
    refine hK.out _ _ ⟨(blk_cell BK56.out 0).trans rfl, (blk_cell BK56.out 1).trans rfl, (blk_cell BK56.out 2).trans rfl, (blk_cell BK56.out 3).trans rfl, (blk_cell BK55.out 0).trans rfl, (blk_cell BK55.out 1).trans rfl, (blk_cell BK55.out 2).trans rfl, (blk_cell BK55.out 3).trans rfl⟩ (fun hHeld => ?_)
    clear hK K
    refine norm_ (a' := ?_) ?_ ?_
    rotate_left
    ·show Act.put _ (some 37) _ = _
     simp only [Act.put, List.setIfInBounds_toArray, List.set_cons_zero, List.set_cons_succ, i64_w, i32_w]
     rfl
    refine one_ (i := 3) (N := some 38) #[true, true, true, true, false] rfl rfl (by kernel_rfl) (by decide) (fun K hK => ?_)
    refine goes_ Tryz.func11 (by kernel_rfl) rfl #[.agg #[.int .i64 t57, .int .i64 t69, .slice Ao41 t70.length co41, .slice Ao42 t72.length co42], .agg #[.int .i64 t58, .int .i64 t89, .slice Ao49 t90.length co49, .slice Ao50 t91.length co50]] (by rfl) rfl rfl zm ?_
    with_reducible refine (laws_eqEngine.calls k t57 t69 _ _ t70 _ _ t72 t58 t89 _ _ t90 _ _ t91 true _ ?side1 ?side2 ?side3 ?side4 ?side5 ?side6 ?side7 ?side8 A21.out).mono ?_
    (case side1 => repeat (first | exact (Kd.S_reads' HO65.out).2.2 | (with_reducible first | refine Kd.C_alloc ?_ _ | refine Kd.C_drewN ?_ _ | refine Kd.C_drew ?_)))
    (case side2 => exact (Kd.S_reads' HO65.out).2.1)
    (case side3 => repeat (first | exact (Kd.S_reads' HO66.out).2.2 | (with_reducible first | refine Kd.C_alloc ?_ _ | refine Kd.C_drewN ?_ _ | refine Kd.C_drew ?_)))
    (case side4 => exact (Kd.S_reads' HO66.out).2.1)
    (case side5 => repeat (first | exact (Kd.S_reads' HO82.out).2.2 | (with_reducible first | refine Kd.C_alloc ?_ _ | refine Kd.C_drewN ?_ _ | refine Kd.C_drew ?_)))
    (case side6 => exact (Kd.S_reads' HO82.out).2.1)
    (case side7 => repeat (first | exact (Kd.S_reads' HO83.out).2.2 | (with_reducible first | refine Kd.C_alloc ?_ _ | refine Kd.C_drewN ?_ _ | refine Kd.C_drew ?_)))
    (case side8 => exact (Kd.S_reads' HO83.out).2.1)
    rintro e w51 ⟨rfl, hb⟩
    refine ⟨_, rfl, ?_⟩
    have n0_ := Aside0.mk (Kd.S_below (by (with_reducible repeat (first | apply Kd.S_alloc | apply Kd.S_drewN | apply Kd.S_drew)); exact HO60.out) hb)
    have n1_ := Aside0.mk (Kd.S_below (by (with_reducible repeat (first | apply Kd.S_alloc | apply Kd.S_drewN | apply Kd.S_drew)); exact HO61.out) hb)
    have n2_ := Aside0.mk (Kd.R_below (by (with_reducible repeat (first | apply Kd.R_alloc | apply Kd.R_drewN | apply Kd.R_drew)); exact HO62.out) hb)
    have n3_ := Aside0.mk (Kd.S_below (by (with_reducible repeat (first | apply Kd.S_alloc | apply Kd.S_drewN | apply Kd.S_drew)); exact HO65.out) hb)
    have n4_ := Aside0.mk (Kd.S_below (by (with_reducible repeat (first | apply Kd.S_alloc | apply Kd.S_drewN | apply Kd.S_drew)); exact HO66.out) hb)
    have n5_ := Aside0.mk (Kd.R_below (by (with_reducible repeat (first | apply Kd.R_alloc | apply Kd.R_drewN | apply Kd.R_drew)); exact HO71.out) hb)
    have n6_ := Aside0.mk (Kd.S_below (by (with_reducible repeat (first | apply Kd.S_alloc | apply Kd.S_drewN | apply Kd.S_drew)); exact HO82.out) hb)
    have n7_ := Aside0.mk (Kd.S_below (by (with_reducible repeat (first | apply Kd.S_alloc | apply Kd.S_drewN | apply Kd.S_drew)); exact HO83.out) hb)
    have n8_ := Aside0.mk (blk_below (g := gb55) (o := .cells #[.int .i64 a0_0, .int .i64 a0_1, .slice A0_2 l0_2.length c0_2, .slice A0_3 l0_3.length c0_3] 25 (0, 0)) zk hb)
    have n9_ := Aside0.mk (blk_below (g := gb56) (o := .cells #[.int .i64 t57, .int .i64 t69, .slice Ao41 t70.length co41, .slice Ao42 t72.length co42] 33 (0, 0)) zk hb)
    have n10_ := Aside0.mk (below_step zb hb)
    clear HO60
    clear HO61
    clear HO62
    clear HO65
    clear HO66
    clear HO71
    clear HO82
    clear HO83
    clear BK55
    clear BK56
    clear HB
    have HO60 := n0_
    have HO61 := n1_
    have HO62 := n2_
    have HO65 := n3_
    have HO66 := n4_
    have HO71 := n5_
    have HO82 := n6_
    have HO83 := n7_
    have BK55 := n8_
    have BK56 := n9_
    have HB := n10_
    clear n0_ n1_ n2_ n3_ n4_ n5_ n6_ n7_ n8_ n9_ n10_
    (try clear hb)
    (try clear hb2)
    (try clear hk)
    (try clear hi)
    refine hK.out _ _ ⟨(blk_cell BK56.out 0).trans rfl, (blk_cell BK56.out 1).trans rfl, (blk_cell BK56.out 2).trans rfl, (blk_cell BK56.out 3).trans rfl, (blk_cell BK55.out 0).trans rfl, (blk_cell BK55.out 1).trans rfl, (blk_cell BK55.out 2).trans rfl, (blk_cell BK55.out 3).trans rfl⟩ (fun hHeld => ?_)
    clear hK K
    refine norm_ (a' := ?_) ?_ ?_
    rotate_left
    ·show Act.put _ (some 38) _ = _
     simp only [Act.put, List.setIfInBounds_toArray, List.set_cons_zero, List.set_cons_succ, i64_w, i32_w]
     rfl
    refine zp 4 39 ?_
    refine done_ (by kernel_rfl) ?_
    try go_wp2_with (first | ((with_reducible refine gate_callee (f := 9) rfl ?_); refine goesL_ (some 42) rfl rfl Tryz.func9 (by kernel_rfl) rfl #[.slice A1 l1.length c1] rfl zm ?_; (with_reducible refine (laws_toPairS.calls k _ _ l1 t67 _ ?side1 ?side2 A23.out).mono ?_); (case side1 => repeat (first | exact (Kd.C_below HR1.out HB.out) | (with_reducible first | refine Kd.C_alloc ?_ _ | refine Kd.C_drewN ?_ _ | refine Kd.C_drew ?_))); (case side2 => exact HC1.out); rintro e w52 ⟨v397, rfl, ho0, hb⟩; refine ⟨_, rfl, ?_⟩; have n0_ := Aside0.mk (Kd.S_below (by (with_reducible repeat (first | apply Kd.S_alloc | apply Kd.S_drewN | apply Kd.S_drew)); exact HO60.out) hb); have n1_ := Aside0.mk (Kd.S_below (by (with_reducible repeat (first | apply Kd.S_alloc | apply Kd.S_drewN | apply Kd.S_drew)); exact HO61.out) hb); have n2_ := Aside0.mk (Kd.R_elder' (by (with_reducible repeat (first | apply Kd.R_alloc | apply Kd.R_drewN | apply Kd.R_drew)); exact HO62.out) (Kd.R_base ho0) hb); have n3_ := Aside0.mk (Kd.S_below (by (with_reducible repeat (first | apply Kd.S_alloc | apply Kd.S_drewN | apply Kd.S_drew)); exact HO65.out) hb); have n4_ := Aside0.mk (Kd.S_below (by (with_reducible repeat (first | apply Kd.S_alloc | apply Kd.S_drewN | apply Kd.S_drew)); exact HO66.out) hb); have n5_ := Aside0.mk (Kd.R_elder' (by (with_reducible repeat (first | apply Kd.R_alloc | apply Kd.R_drewN | apply Kd.R_drew)); exact HO71.out) (Kd.R_base ho0) hb); have n6_ := Aside0.mk (Kd.S_below (by (with_reducible repeat (first | apply Kd.S_alloc | apply Kd.S_drewN | apply Kd.S_drew)); exact HO82.out) hb); have n7_ := Aside0.mk (Kd.S_below (by (with_reducible repeat (first | apply Kd.S_alloc | apply Kd.S_drewN | apply Kd.S_drew)); exact HO83.out) hb); have n8_ := Aside0.mk (Kd.R_lower (Kd.R_new' (Kd.R_new' ho0 (Kd.R_lt (by (with_reducible repeat (first | apply Kd.R_alloc | apply Kd.R_drewN | apply Kd.R_drew)); exact HO62.out))) (Kd.R_lt (by (with_reducible repeat (first | apply Kd.R_alloc | apply Kd.R_drewN | apply Kd.R_drew)); exact HO71.out))) (below_size zb)); have n9_ := Aside0.mk (blk_below (g := gb55) (o := .cells #[.int .i64 a0_0, .int .i64 a0_1, .slice A0_2 l0_2.length c0_2, .slice A0_3 l0_3.length c0_3] 25 (0, 0)) zk hb); have n10_ := Aside0.mk (blk_below (g := gb56) (o := .cells #[.int .i64 t57, .int .i64 t69, .slice Ao41 t70.length co41, .slice Ao42 t72.length co42] 33 (0, 0)) zk hb); have n11_ := Aside0.mk (below_step zb hb); clear HO60; clear HO61; clear HO62; clear HO65; clear HO66; clear HO71; clear HO82; clear HO83; clear BK55; clear BK56; clear HB; have HO60 := n0_; have HO61 := n1_; have HO62 := n2_; have HO65 := n3_; have HO66 := n4_; have HO71 := n5_; have HO82 := n6_; have HO83 := n7_; have HO85 := n8_; have BK55 := n9_; have BK56 := n10_; have HB := n11_; clear n0_ n1_ n2_ n3_ n4_ n5_ n6_ n7_ n8_ n9_ n10_ n11_; (try clear hb); (try clear hb2); (try clear hk); (try clear hi); (try clear ho0); obtain ⟨Ao53, co53, eo53⟩ := Kd.R_slice HO85.out; subst eo53) | ((with_reducible refine gate_callee (f := 12) rfl ?_); refine goesL_ (some 43) rfl rfl Tryz.func12 (by kernel_rfl) rfl #[.slice Ao45 t63.length co45, .slice Ao53 t67.length co53] rfl zm ?_; (with_reducible refine (laws_eqPairS.calls k _ _ t63 _ _ t67 true _ ?side1 ?side2 ?side3 ?side4 A24.out).mono ?_); (case side1 => repeat (first | exact (Kd.R_reads' HO71.out).2.2 | (with_reducible first | refine Kd.C_alloc ?_ _ | refine Kd.C_drewN ?_ _ | refine Kd.C_drew ?_))); (case side2 => exact (Kd.R_reads' HO71.out).2.1); (case side3 => repeat (first | exact (Kd.R_reads' HO85.out).2.2 | (with_reducible first | refine Kd.C_alloc ?_ _ | refine Kd.C_drewN ?_ _ | refine Kd.C_drew ?_))); (case side4 => exact (Kd.R_reads' HO85.out).2.1); rintro e w54 ⟨rfl, hb⟩; refine ⟨_, rfl, ?_⟩; have n0_ := Aside0.mk (Kd.S_below (by (with_reducible repeat (first | apply Kd.S_alloc | apply Kd.S_drewN | apply Kd.S_drew)); exact HO60.out) hb); have n1_ := Aside0.mk (Kd.S_below (by (with_reducible repeat (first | apply Kd.S_alloc | apply Kd.S_drewN | apply Kd.S_drew)); exact HO61.out) hb); have n2_ := Aside0.mk (Kd.R_below (by (with_reducible repeat (first | apply Kd.R_alloc | apply Kd.R_drewN | apply Kd.R_drew)); exact HO62.out) hb); have n3_ := Aside0.mk (Kd.S_below (by (with_reducible repeat (first | apply Kd.S_alloc | apply Kd.S_drewN | apply Kd.S_drew)); exact HO65.out) hb); have n4_ := Aside0.mk (Kd.S_below (by (with_reducible repeat (first | apply Kd.S_alloc | apply Kd.S_drewN | apply Kd.S_drew)); exact HO66.out) hb); have n5_ := Aside0.mk (Kd.R_below (by (with_reducible repeat (first | apply Kd.R_alloc | apply Kd.R_drewN | apply Kd.R_drew)); exact HO71.out) hb); have n6_ := Aside0.mk (Kd.S_below (by (with_reducible repeat (first | apply Kd.S_alloc | apply Kd.S_drewN | apply Kd.S_drew)); exact HO82.out) hb); have n7_ := Aside0.mk (Kd.S_below (by (with_reducible repeat (first | apply Kd.S_alloc | apply Kd.S_drewN | apply Kd.S_drew)); exact HO83.out) hb); have n8_ := Aside0.mk (Kd.R_below (by (with_reducible repeat (first | apply Kd.R_alloc | apply Kd.R_drewN | apply Kd.R_drew)); exact HO85.out) hb); have n9_ := Aside0.mk (blk_below (g := gb55) (o := .cells #[.int .i64 a0_0, .int .i64 a0_1, .slice A0_2 l0_2.length c0_2, .slice A0_3 l0_3.length c0_3] 25 (0, 0)) zk hb); have n10_ := Aside0.mk (blk_below (g := gb56) (o := .cells #[.int .i64 t57, .int .i64 t69, .slice Ao41 t70.length co41, .slice Ao42 t72.length co42] 33 (0, 0)) zk hb); have n11_ := Aside0.mk (below_step zb hb); clear HO60; clear HO61; clear HO62; clear HO65; clear HO66; clear HO71; clear HO82; clear HO83; clear HO85; clear BK55; clear BK56; clear HB; have HO60 := n0_; have HO61 := n1_; have HO62 := n2_; have HO65 := n3_; have HO66 := n4_; have HO71 := n5_; have HO82 := n6_; have HO83 := n7_; have HO85 := n8_; have BK55 := n9_; have BK56 := n10_; have HB := n11_; clear n0_ n1_ n2_ n3_ n4_ n5_ n6_ n7_ n8_ n9_ n10_ n11_; (try clear hb); (try clear hb2); (try clear hk); (try clear hi)))
    go_ret
    exact ⟨ze, zb⟩
   replace c25 := Bool.eq_false_iff.mpr c25
   subst c25
   have H1 : (some false) = some true := by rw [if_neg (show ¬ (false = true) by decide)] at H; first | done | exact H
   clear H
   have H := H1
   clear H1
   exact absurd H (by simp)
  replace c22 := Bool.eq_false_iff.mpr c22
  subst c22
  have H1 : (some false) = some true := by rw [if_neg (show ¬ (false = true) by decide)] at H; first | done | exact H
  clear H
  have H := H1
  clear H1
  exact absurd H (by simp)
 rw [if_neg c19] at H
 have c19b0 : (t74 == t78) = false := beq_eq_false_iff_ne.mpr c19
 have c19b1 : (t74 != t78) = true := bne_iff_ne.mpr c19
 exact absurd H (by simp)
end Go.Proofs.YtocdahbinombkaaGreat.P
