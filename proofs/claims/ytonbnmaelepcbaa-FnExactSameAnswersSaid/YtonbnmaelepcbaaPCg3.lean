import Derived.Test.YtonbnmaelepcbaaP0
import Derived.Test.YtonbnmaelepcbaaPCacdefgh6
import Derived.Test.YtonbnmaelepcbaaPCdgh0
import Derived.Test.YtonbnmaelepcbaaPCdgh1
import Derived.Test.YtonbnmaelepcbaaPCfg0
import Derived.Test.YtonbnmaelepcbaaPCg2
import Derived.Test.YtonbnmaelepcbaaPCgh0
import Derived.Test.YtonbnmaelepcbaaPDacdefgh0
import Derived.Test.YtonbnmaelepcbaaPDg0
import Derived.Test.YtonbnmaelepcbaaPDm1
import Derived.Test.YtonbnmaelepcbaaWRepsOne
import Derived.Test.YtonbnmaelepcbaaLb
import Derived.Test.YtonbnmaelepcbaaLv
import Derived.IntWalk
import Derived.Shelf.Abstract
import Derived.Test.YtonbnmaelepcbaaZz
namespace Go.Proofs.Ytonbnmaelepcbaa.P
open Go.RowKit Go.Proofs.YtonbnmaelepcbaaW.PrintWords Go.Proofs.YtonbnmaelepcbaaW.PrintLast Go.Proofs.YtonbnmaelepcbaaW.PrintMore
attribute [local go_sem] max2_int min2_int max_two min_two max_three min_three max_four min_four   -- for this text's walks alone
set_option linter.unusedVariables false
set_option linter.unusedSimpArgs false
-- PROOF --
theorem SE8.mk {g : Nat} {a0 a1 : Int} {v2 v3 : Value} {b0 b1 : Int} {u2 u3 : Value} {W : World} (XA : Aside0 (W.heap[g]? = some (.cells #[.int .i64 a0, .int .i64 a1, v2, v3] 31 (0, 0)))) (XB : Aside0 (W.heap[g + 1]? = some (.cells #[.int .i64 b0, .int .i64 b1, u2, u3] 31 (0, 0)))) : SE8 g a0 a1 v2 v3 b0 b1 u2 u3 W := ⟨(blk_cell XA.out 0).trans rfl, (blk_cell XA.out 1).trans rfl, (blk_cell XA.out 2).trans rfl, (blk_cell XA.out 3).trans rfl, (blk_cell XB.out 0).trans rfl, (blk_cell XB.out 1).trans rfl, (blk_cell XB.out 2).trans rfl, (blk_cell XB.out 3).trans rfl⟩
theorem SE18.mk {w : World} {g : Nat} {a0 a1 : Int} {v2 v3 : Value} {b0 b1 : Int} {u2 u3 : Value} {p : Addr} {Y : S83} {A4 : Option Addr} {c4 : Nat} {q : Addr} {Z : S83} {A5 : Option Addr} {c5 : Nat} {W : World} (XA : Aside0 (W.heap[g]? = some (.cells #[.int .i64 a0, .int .i64 a1, v2, v3] 31 (0, 0)))) (XB : Aside0 (W.heap[g + 1]? = some (.cells #[.int .i64 b0, .int .i64 b1, u2, u3] 31 (0, 0)))) (HB : Aside0 (Below w.heap.size w W)) (HW : Aside0 (TX5 p Y A4 c4 w)) (HV : Aside0 (TX5 q Z A5 c5 w)) : SE18 g a0 a1 v2 v3 b0 b1 u2 u3 p Y A4 c4 q Z A5 c5 W :=
 ⟨(blk_cell XA.out 0).trans rfl, (blk_cell XA.out 1).trans rfl, (blk_cell XA.out 2).trans rfl, (blk_cell XA.out 3).trans rfl, (blk_cell XB.out 0).trans rfl, (blk_cell XB.out 1).trans rfl, (blk_cell XB.out 2).trans rfl, (blk_cell XB.out 3).trans rfl, pw_cell_below HB.out HW.out.1, pw_cell_below HB.out HW.out.2.1, pw_cell_below HB.out HW.out.2.2.1, pw_cell_below HB.out HW.out.2.2.2.1, pw_cell_below HB.out HW.out.2.2.2.2, pw_cell_below HB.out HV.out.1, pw_cell_below HB.out HV.out.2.1, pw_cell_below HB.out HV.out.2.2.1, pw_cell_below HB.out HV.out.2.2.2.1, pw_cell_below HB.out HV.out.2.2.2.2⟩
set_option maxHeartbeats 8000000 in
set_option maxRecDepth 100000 in
theorem impl_SameAnswers.calls (k : Nat) (a0_0 a0_1 : Int) (A2 : Option Addr) (c2 : Nat) (l2 : List S83) (A3 : Option Addr) (c3 : Nat) (l3 : List S87) (b0_0 b0_1 : Int) (B2 : Option Addr) (d2 : Nat) (m2 : List S83) (B3 : Option Addr) (d3 : Nat) (m3 : List S87) (r : Bool) (w : World) (hr2 : Kd.C k83 w A2 l2.length l2) (hc2 : l2.length ≤ c2) (hr3 : Kd.C k87 w A3 l3.length l3) (hc3 : l3.length ≤ c3) (hs2 : Kd.C k83 w B2 m2.length m2) (hd2 : m2.length ≤ d2) (hs3 : Kd.C k87 w B3 m3.length m3) (hd3 : m3.length ≤ d3) (h : impl_SameAnswers.f k a0_0 a0_1 l2 l3 b0_0 b0_1 m2 m3 = some r) :
 Calls Try.prog 42 #[.agg #[.int .i64 a0_0, .int .i64 a0_1, .slice A2 l2.length c2, .slice A3 l3.length c3], .agg #[.int .i64 b0_0, .int .i64 b0_1, .slice B2 m2.length d2, .slice B3 m3.length d3]] w fun e w' => e = .returned (.bool r) ∧ Below w.heap.size w w' := by
 have hu28 := Try.underlying28
 have hu31 := Try.underlying31
 have hu61 := Try.underlying61
 have hu83 := Try.underlying83
 have hu116 := Try.underlying116
 have hu118 := Try.underlying118
 have HB := Aside0.mk (Below.refl w.heap.size w)
 have HR2 := Aside0.mk hr2
 have HR3 := Aside0.mk hr3
 have HC2 := Aside0.mk hc2
 have HC3 := Aside0.mk hc3
 have hn2 := hr2.2.1
 have hn3 := hr3.2.1
 clear hr2 hr3 hc2 hc3
 have HS2 := Aside0.mk hs2
 have HS3 := Aside0.mk hs3
 have HD2 := Aside0.mk hd2
 have HD3 := Aside0.mk hd3
 have hm2 := hs2.2.1
 have hm3 := hs3.2.1
 clear hs2 hs3 hd2 hd3
 unfold impl_SameAnswers.f at h
 obtain ⟨fa, hf, h⟩ := Option.bind_eq_some_iff.mp h
 have HF := Aside0.mk hf
 clear hf
 by_cases f0 : fa = 0
 ·rw [if_pos f0] at h
  obtain ⟨fb, hg, h⟩ := Option.bind_eq_some_iff.mp h
  have HG := Aside0.mk hg
  clear hg
  have f01 : (fa == 0) = true := beq_iff_eq.2 f0
  have f02 : (fa != 0) = false := bne_eq_false_iff_eq.2 f0
  have F0 := Aside0.mk f0
  clear f0
  by_cases g0 : fb = 0
  ·rw [if_pos g0] at h
   have g01 : (fb == 0) = true := beq_iff_eq.2 g0
   have g02 : (fb != 0) = false := bne_eq_false_iff_eq.2 g0
   have G0 := Aside0.mk g0
   clear g0
   by_cases k0 : a0_1 = b0_1
   ·rw [if_pos k0] at h
    have k01 : (a0_1 == b0_1) = true := beq_iff_eq.2 k0
    have k02 : (a0_1 != b0_1) = false := bne_eq_false_iff_eq.2 k0
    have K0 := Aside0.mk k0
    clear k0
    by_cases n0 : a0_0 = b0_0
    ·rw [if_pos n0] at h
     have n01 : (a0_0 == b0_0) = true := beq_iff_eq.2 n0
     have n02 : (a0_0 != b0_0) = false := bne_eq_false_iff_eq.2 n0
     have N0 := Aside0.mk n0
     clear n0
     obtain ⟨x, hx, h⟩ := Option.bind_eq_some_iff.mp h
     obtain ⟨y, hy, h⟩ := Option.bind_eq_some_iff.mp h
     obtain ⟨q, hq, h⟩ := Option.bind_eq_some_iff.mp h
     have HX := Aside0.mk hx
     have HY := Aside0.mk hy
     have HQ := Aside0.mk hq
     have H := Aside0.mk h
     clear hx hy hq h
     cases q with
     | false =>
      have h := H.out
      rw [if_neg (by decide)] at h
      obtain rfl := Option.some.inj h
      clear H h
      go_enter Try.func42, Try.ntmps42
      go_wp2_with fail
      have b1_ := blk_new w (Obj.cells #[.int .i64 a0_0, .int .i64 a0_1, .slice A2 l2.length c2, .slice A3 l3.length c3] 31)
      have b2_ := blk_new (w.alloc (Obj.cells #[.int .i64 a0_0, .int .i64 a0_1, .slice A2 l2.length c2, .slice A3 l3.length c3] 31)) (Obj.cells #[.int .i64 b0_0, .int .i64 b0_1, .slice B2 m2.length d2, .slice B3 m3.length d3] 31)
      have XA := Aside0.mk (blk_alloc b1_ (Obj.cells #[.int .i64 b0_0, .int .i64 b0_1, .slice B2 m2.length d2, .slice B3 m3.length d3] 31))
      have e1_ : (w.alloc (Obj.cells #[.int .i64 a0_0, .int .i64 a0_1, .slice A2 l2.length c2, .slice A3 l3.length c3] 31)).heap.size = w.heap.size + 1 := by simp
      rw [e1_] at b2_
      have XB := Aside0.mk b2_
      have HB := Aside0.mk (below_alloc (below_alloc (Below.refl w.heap.size w) (Obj.cells #[.int .i64 a0_0, .int .i64 a0_1, .slice A2 l2.length c2, .slice A3 l3.length c3] 31)) (Obj.cells #[.int .i64 b0_0, .int .i64 b0_1, .slice B2 m2.length d2, .slice B3 m3.length d3] 31))
      clear b1_ b2_
      try rw [e1_]
      generalize (w.alloc (Obj.cells #[.int .i64 a0_0, .int .i64 a0_1, .slice A2 l2.length c2, .slice A3 l3.length c3] 31)).alloc (Obj.cells #[.int .i64 b0_0, .int .i64 b0_1, .slice B2 m2.length d2, .slice B3 m3.length d3] 31) = u0 at XA XB HB ⊢
      clear e1_
      skip
      refine start_ (n := 30) (S := SE8 w.heap.size a0_0 a0_1 (.slice A2 l2.length c2) (.slice A3 l3.length c3) b0_0 b0_1 (.slice B2 m2.length d2) (.slice B3 m3.length d3)) (ds := []) #[false, false, false, false, false, false, false, false, false, false, false, false, false, false, false, false, false, false, false, false, false, false, false, false, false, false, false, false, false, false] (by kernel_rfl) rfl rfl (SE8.mk (W := u0) XA XB) (fun hHeld => ?_)
      replace HB := Aside0.mk (below_drew1 HB.out)
      replace XA := Aside0.mk (blk_drew XA.out)
      replace XB := Aside0.mk (blk_drew XB.out)
      generalize u0.drew = u1 at HB hHeld XA XB ⊢
      refine zt 0 12 ?_
      refine z1 1 (some 13) (fun K hK => ?_)
      refine zg Try.func14 #[.agg #[.int .i64 a0_0, .int .i64 a0_1, .slice A2 l2.length c2, .slice A3 l3.length c3]] ?_
      with_reducible refine (impl_EngineFault.calls k a0_0 a0_1 _ c2 l2 A3 c3 l3 fa _ (Kd.C_below HR2.out HB.out) HC2.out (Kd.C_below HR3.out HB.out) HC3.out HF.out).mono ?_
      rintro e u2 ⟨rfl, hb⟩
      refine ⟨_, rfl, ?_⟩
      replace HB := Aside0.mk (show Below w.heap.size w _ from below_step HB.out hb)
      replace XA := Aside0.mk (keepB hb XA.out)
      replace XB := Aside0.mk (keepB hb XB.out)
      clear hb
      refine hK.out _ _ (SE8.mk XA XB) (fun hHeld => ?_)
      clear hK K
      refine zn 13 ?_
      refine zp 2 14 ?_; refine zp 3 15 ?_; refine zt 4 16 ?_
      refine z1 5 (some 17) (fun K hK => ?_)
      refine zg Try.func14 #[.agg #[.int .i64 b0_0, .int .i64 b0_1, .slice B2 m2.length d2, .slice B3 m3.length d3]] ?_
      with_reducible refine (impl_EngineFault.calls k b0_0 b0_1 _ d2 m2 B3 d3 m3 fb _ (Kd.C_below HS2.out HB.out) HD2.out (Kd.C_below HS3.out HB.out) HD3.out HG.out).mono ?_
      rintro e u3 ⟨rfl, hb⟩
      refine ⟨_, rfl, ?_⟩
      replace HB := Aside0.mk (show Below w.heap.size w _ from below_step HB.out hb)
      replace XA := Aside0.mk (keepB hb XA.out)
      replace XB := Aside0.mk (keepB hb XB.out)
      clear hb
      refine hK.out _ _ (SE8.mk XA XB) (fun hHeld => ?_)
      clear hK K
      refine zn 17 ?_
      refine zp 6 18 ?_; refine zp 7 19 ?_; refine zp 8 20 ?_; refine zp 9 21 ?_; refine zp 11 23 ?_; refine zt 10 22 ?_; refine zt 12 24 ?_; refine zp 13 25 ?_; refine zp 14 26 ?_; refine zp 15 27 ?_; refine zp 16 28 ?_; refine zp 18 30 ?_; refine zt 17 29 ?_; refine zt 19 31 ?_; refine zp 20 32 ?_; refine zp 21 33 ?_; refine zp 22 34 ?_; refine zt 23 35 ?_; refine zt 25 37 ?_
      refine z1 24 (some 36) (fun K hK => ?_)
      refine zg Try.func93 #[.agg #[.int .i64 a0_0, .int .i64 a0_1, .slice A2 l2.length c2, .slice A3 l3.length c3]] ?_
      with_reducible refine (impl_Engine_open.calls k a0_0 a0_1 _ c2 l2 A3 c3 l3 x _ (Kd.C_below HR2.out HB.out) HC2.out (Kd.C_below HR3.out HB.out) HC3.out HX.out).mono ?_
      rintro e u4 ⟨v1, rfl, hr, hb⟩
      refine ⟨_, rfl, ?_⟩
      have hz_ := HB.out.size
      replace HB := Aside0.mk (show Below w.heap.size w _ from below_step HB.out hb)
      replace XA := Aside0.mk (keepB hb XA.out)
      replace XB := Aside0.mk (keepB hb XB.out)
      clear hb
      obtain ⟨ARX, cRX, eRX⟩ := Kd.R_slice hr
      subst eRX
      have RX := Aside0.mk (show Kd.R (Kd.int .i64) 2 u4 w.heap.size (fun _ => True) (.slice ARX x.length cRX) x from Kd.R_lower hr hz_)
      clear hr
      clear hz_
      refine hK.out _ _ (SE8.mk XA XB) (fun hHeld => ?_)
      clear hK K
      refine zn 36 ?_
      refine z1 26 (some 38) (fun K hK => ?_)
      refine zg Try.func93 #[.agg #[.int .i64 b0_0, .int .i64 b0_1, .slice B2 m2.length d2, .slice B3 m3.length d3]] ?_
      with_reducible refine (impl_Engine_open.calls k b0_0 b0_1 _ d2 m2 B3 d3 m3 y _ (Kd.C_below HS2.out HB.out) HD2.out (Kd.C_below HS3.out HB.out) HD3.out HY.out).mono ?_
      rintro e u5 ⟨v1, rfl, hr, hb⟩
      refine ⟨_, rfl, ?_⟩
      have hz_ := HB.out.size
      replace HB := Aside0.mk (show Below w.heap.size w _ from below_step HB.out hb)
      replace XA := Aside0.mk (keepB hb XA.out)
      replace XB := Aside0.mk (keepB hb XB.out)
      replace RX := Aside0.mk (Kd.R_below RX.out hb)
      clear hb
      obtain ⟨ARY, cRY, eRY⟩ := Kd.R_slice hr
      subst eRY
      have RY := Aside0.mk (show Kd.R (Kd.int .i64) 2 u5 w.heap.size (fun _ => True) (.slice ARY y.length cRY) y from Kd.R_lower hr hz_)
      clear hr
      clear hz_
      refine hK.out _ _ (SE8.mk XA XB) (fun hHeld => ?_)
      clear hK K
      refine zn 38 ?_
      refine z1 27 (some 39) (fun K hK => ?_)
      refine zg Try.func102 #[.slice ARX x.length cRX, .slice ARY y.length cRY] ?_
      with_reducible refine (slices_Equal_int64.calls k _ _ x _ _ y _ _ (Kd.R_reads' RX.out).2.2 (Kd.R_reads' RX.out).2.1 (Kd.R_reads' RY.out).2.2 (Kd.R_reads' RY.out).2.1 HQ.out).mono ?_
      rintro e u6 ⟨rfl, hd⟩
      refine ⟨_, rfl, ?_⟩
      have hb : Below u5.heap.size u5 u6 := by obtain ⟨n_, rfl⟩ := hd.out; exact pw_below_drewN (Below.refl _ _) n_
      clear hd
      replace HB := Aside0.mk (show Below w.heap.size w _ from below_step HB.out hb)
      replace XA := Aside0.mk (keepB hb XA.out)
      replace XB := Aside0.mk (keepB hb XB.out)
      replace RX := Aside0.mk (Kd.R_below RX.out hb)
      replace RY := Aside0.mk (Kd.R_below RY.out hb)
      clear hb
      refine hK.out _ _ (SE8.mk XA XB) (fun hHeld => ?_)
      clear hK K
      refine zn 39 ?_
      refine zp 28 40 ?_; refine zp 29 41 ?_
      refine done_ (by kernel_rfl) ?_
      go_wp2_with fail
      go_ret
      exact ⟨rfl, HB.out⟩
     | true =>
      have h := H.out
      rw [if_pos rfl] at h
      have H0 := Aside0.mk h
      clear H h
      go_enter Try.func42, Try.ntmps42
      go_wp2_with fail
      have b1_ := blk_new w (Obj.cells #[.int .i64 a0_0, .int .i64 a0_1, .slice A2 l2.length c2, .slice A3 l3.length c3] 31)
      have b2_ := blk_new (w.alloc (Obj.cells #[.int .i64 a0_0, .int .i64 a0_1, .slice A2 l2.length c2, .slice A3 l3.length c3] 31)) (Obj.cells #[.int .i64 b0_0, .int .i64 b0_1, .slice B2 m2.length d2, .slice B3 m3.length d3] 31)
      have XA := Aside0.mk (blk_alloc b1_ (Obj.cells #[.int .i64 b0_0, .int .i64 b0_1, .slice B2 m2.length d2, .slice B3 m3.length d3] 31))
      have e1_ : (w.alloc (Obj.cells #[.int .i64 a0_0, .int .i64 a0_1, .slice A2 l2.length c2, .slice A3 l3.length c3] 31)).heap.size = w.heap.size + 1 := by simp
      rw [e1_] at b2_
      have XB := Aside0.mk b2_
      have HB := Aside0.mk (below_alloc (below_alloc (Below.refl w.heap.size w) (Obj.cells #[.int .i64 a0_0, .int .i64 a0_1, .slice A2 l2.length c2, .slice A3 l3.length c3] 31)) (Obj.cells #[.int .i64 b0_0, .int .i64 b0_1, .slice B2 m2.length d2, .slice B3 m3.length d3] 31))
      clear b1_ b2_
      try rw [e1_]
      generalize (w.alloc (Obj.cells #[.int .i64 a0_0, .int .i64 a0_1, .slice A2 l2.length c2, .slice A3 l3.length c3] 31)).alloc (Obj.cells #[.int .i64 b0_0, .int .i64 b0_1, .slice B2 m2.length d2, .slice B3 m3.length d3] 31) = u0 at XA XB HB ⊢
      clear e1_
      skip
      refine start_ (n := 30) (S := SE8 w.heap.size a0_0 a0_1 (.slice A2 l2.length c2) (.slice A3 l3.length c3) b0_0 b0_1 (.slice B2 m2.length d2) (.slice B3 m3.length d3)) (ds := []) #[false, false, false, false, false, false, false, false, false, false, false, false, false, false, false, false, false, false, false, false, false, false, false, false, false, false, false, false, false, false] (by kernel_rfl) rfl rfl (SE8.mk (W := u0) XA XB) (fun hHeld => ?_)
      replace HB := Aside0.mk (below_drew1 HB.out)
      replace XA := Aside0.mk (blk_drew XA.out)
      replace XB := Aside0.mk (blk_drew XB.out)
      generalize u0.drew = u1 at HB hHeld XA XB ⊢
      refine zt 0 12 ?_
      refine z1 1 (some 13) (fun K hK => ?_)
      refine zg Try.func14 #[.agg #[.int .i64 a0_0, .int .i64 a0_1, .slice A2 l2.length c2, .slice A3 l3.length c3]] ?_
      with_reducible refine (impl_EngineFault.calls k a0_0 a0_1 _ c2 l2 A3 c3 l3 fa _ (Kd.C_below HR2.out HB.out) HC2.out (Kd.C_below HR3.out HB.out) HC3.out HF.out).mono ?_
      rintro e u2 ⟨rfl, hb⟩
      refine ⟨_, rfl, ?_⟩
      replace HB := Aside0.mk (show Below w.heap.size w _ from below_step HB.out hb)
      replace XA := Aside0.mk (keepB hb XA.out)
      replace XB := Aside0.mk (keepB hb XB.out)
      clear hb
      refine hK.out _ _ (SE8.mk XA XB) (fun hHeld => ?_)
      clear hK K
      refine zn 13 ?_
      refine zp 2 14 ?_; refine zp 3 15 ?_; refine zt 4 16 ?_
      refine z1 5 (some 17) (fun K hK => ?_)
      refine zg Try.func14 #[.agg #[.int .i64 b0_0, .int .i64 b0_1, .slice B2 m2.length d2, .slice B3 m3.length d3]] ?_
      with_reducible refine (impl_EngineFault.calls k b0_0 b0_1 _ d2 m2 B3 d3 m3 fb _ (Kd.C_below HS2.out HB.out) HD2.out (Kd.C_below HS3.out HB.out) HD3.out HG.out).mono ?_
      rintro e u3 ⟨rfl, hb⟩
      refine ⟨_, rfl, ?_⟩
      replace HB := Aside0.mk (show Below w.heap.size w _ from below_step HB.out hb)
      replace XA := Aside0.mk (keepB hb XA.out)
      replace XB := Aside0.mk (keepB hb XB.out)
      clear hb
      refine hK.out _ _ (SE8.mk XA XB) (fun hHeld => ?_)
      clear hK K
      refine zn 17 ?_
      refine zp 6 18 ?_; refine zp 7 19 ?_; refine zp 8 20 ?_; refine zp 9 21 ?_; refine zp 11 23 ?_; refine zt 10 22 ?_; refine zt 12 24 ?_; refine zp 13 25 ?_; refine zp 14 26 ?_; refine zp 15 27 ?_; refine zp 16 28 ?_; refine zp 18 30 ?_; refine zt 17 29 ?_; refine zt 19 31 ?_; refine zp 20 32 ?_; refine zp 21 33 ?_; refine zp 22 34 ?_; refine zt 23 35 ?_; refine zt 25 37 ?_
      refine z1 24 (some 36) (fun K hK => ?_)
      refine zg Try.func93 #[.agg #[.int .i64 a0_0, .int .i64 a0_1, .slice A2 l2.length c2, .slice A3 l3.length c3]] ?_
      with_reducible refine (impl_Engine_open.calls k a0_0 a0_1 _ c2 l2 A3 c3 l3 x _ (Kd.C_below HR2.out HB.out) HC2.out (Kd.C_below HR3.out HB.out) HC3.out HX.out).mono ?_
      rintro e u4 ⟨v1, rfl, hr, hb⟩
      refine ⟨_, rfl, ?_⟩
      have hz_ := HB.out.size
      replace HB := Aside0.mk (show Below w.heap.size w _ from below_step HB.out hb)
      replace XA := Aside0.mk (keepB hb XA.out)
      replace XB := Aside0.mk (keepB hb XB.out)
      clear hb
      obtain ⟨ARX, cRX, eRX⟩ := Kd.R_slice hr
      subst eRX
      have RX := Aside0.mk (show Kd.R (Kd.int .i64) 2 u4 w.heap.size (fun _ => True) (.slice ARX x.length cRX) x from Kd.R_lower hr hz_)
      clear hr
      clear hz_
      refine hK.out _ _ (SE8.mk XA XB) (fun hHeld => ?_)
      clear hK K
      refine zn 36 ?_
      refine z1 26 (some 38) (fun K hK => ?_)
      refine zg Try.func93 #[.agg #[.int .i64 b0_0, .int .i64 b0_1, .slice B2 m2.length d2, .slice B3 m3.length d3]] ?_
      with_reducible refine (impl_Engine_open.calls k b0_0 b0_1 _ d2 m2 B3 d3 m3 y _ (Kd.C_below HS2.out HB.out) HD2.out (Kd.C_below HS3.out HB.out) HD3.out HY.out).mono ?_
      rintro e u5 ⟨v1, rfl, hr, hb⟩
      refine ⟨_, rfl, ?_⟩
      have hz_ := HB.out.size
      replace HB := Aside0.mk (show Below w.heap.size w _ from below_step HB.out hb)
      replace XA := Aside0.mk (keepB hb XA.out)
      replace XB := Aside0.mk (keepB hb XB.out)
      replace RX := Aside0.mk (Kd.R_below RX.out hb)
      clear hb
      obtain ⟨ARY, cRY, eRY⟩ := Kd.R_slice hr
      subst eRY
      have RY := Aside0.mk (show Kd.R (Kd.int .i64) 2 u5 w.heap.size (fun _ => True) (.slice ARY y.length cRY) y from Kd.R_lower hr hz_)
      clear hr
      clear hz_
      refine hK.out _ _ (SE8.mk XA XB) (fun hHeld => ?_)
      clear hK K
      refine zn 38 ?_
      refine z1 27 (some 39) (fun K hK => ?_)
      refine zg Try.func102 #[.slice ARX x.length cRX, .slice ARY y.length cRY] ?_
      with_reducible refine (slices_Equal_int64.calls k _ _ x _ _ y _ _ (Kd.R_reads' RX.out).2.2 (Kd.R_reads' RX.out).2.1 (Kd.R_reads' RY.out).2.2 (Kd.R_reads' RY.out).2.1 HQ.out).mono ?_
      rintro e u6 ⟨rfl, hd⟩
      refine ⟨_, rfl, ?_⟩
      have hb : Below u5.heap.size u5 u6 := by obtain ⟨n_, rfl⟩ := hd.out; exact pw_below_drewN (Below.refl _ _) n_
      clear hd
      replace HB := Aside0.mk (show Below w.heap.size w _ from below_step HB.out hb)
      replace XA := Aside0.mk (keepB hb XA.out)
      replace XB := Aside0.mk (keepB hb XB.out)
      replace RX := Aside0.mk (Kd.R_below RX.out hb)
      replace RY := Aside0.mk (Kd.R_below RY.out hb)
      clear hb
      refine hK.out _ _ (SE8.mk XA XB) (fun hHeld => ?_)
      clear hK K
      refine zn 39 ?_
      refine zp 28 40 ?_; refine zp 29 41 ?_
      refine done_ (by kernel_rfl) ?_
      clear RX RY
      obtain ⟨cXA_0, cXA_1, cXA_2, cXA_3, -, -, -, -⟩ := Lv.blks4 XA.out
      have lXA := blk_lt XA.out
      have nXA := Nat.ne_of_lt (blk_lt XA.out)
      obtain ⟨cXB_0, cXB_1, cXB_2, cXB_3, -, -, -, -⟩ := Lv.blks4 XB.out
      have lXB := blk_lt XB.out
      have nXB := Nat.ne_of_lt (blk_lt XB.out)
      go_wp2_with fail
      refine (impl_Engine_open.calls k a0_0 a0_1 _ c2 l2 A3 c3 l3 x _ (Kd.C_below HR2.out HB.out) HC2.out (Kd.C_below HR3.out HB.out) HC3.out HX.out).mono ?_
      clear cXA_0 cXA_1 cXA_2 cXA_3 lXA nXA cXB_0 cXB_1 cXB_2 cXB_3 lXB nXB
      rintro e u7 ⟨v1, rfl, hr, hb⟩
      have hz_ := HB.out.size
      replace HB := Aside0.mk (show Below w.heap.size w _ from below_step HB.out hb)
      replace XA := Aside0.mk (keepB hb XA.out)
      replace XB := Aside0.mk (keepB hb XB.out)
      clear hb
      obtain ⟨ARX, cRX, eRX⟩ := Kd.R_slice hr
      subst eRX
      have RX := Aside0.mk (show Kd.R (Kd.int .i64) 2 u7 w.heap.size (fun _ => True) (.slice ARX x.length cRX) x from Kd.R_lower hr hz_)
      clear hr
      clear hz_
      have hxl := (Kd.R_reads' RX.out).2.2.2.1
      go_wp2_with fail
      go_loopg [45] k (fun kq v45 wr => ∃ (i : Int), v45 = .int .i64 i ∧ Aside0 (impl_SameAnswers.l0 kq a0_0 a0_1 l2 l3 b0_0 b0_1 m2 m3 x i = some r) ∧ Aside0 (kq ≤ k) ∧ Aside0 (0 ≤ i ∧ i ≤ (x.length : Int)) ∧ Aside0 (wr.heap[w.heap.size]? = some (Obj.cells #[.int .i64 a0_0, .int .i64 a0_1, .slice A2 l2.length c2, .slice A3 l3.length c3] 31)) ∧ Aside0 (wr.heap[w.heap.size + 1]? = some (Obj.cells #[.int .i64 b0_0, .int .i64 b0_1, .slice B2 m2.length d2, .slice B3 m3.length d3] 31)) ∧ Aside0 (Kd.R (Kd.int .i64) 2 wr w.heap.size (fun _ => True) (.slice ARX x.length cRX) x) ∧ Aside0 (Below w.heap.size w wr))
      case atStart => exact ⟨0, rfl, H0, ⟨Nat.le_refl _⟩, ⟨by omega⟩, XA, XB, RX, HB⟩
      case round =>
       clear H0 XA XB RX HB
       obtain ⟨i, rfl, HA, HK1, HI, XA, XB, RX, HB⟩ := hrel
       cases gk with
       | zero => exact absurd HA.out (by simp [impl_SameAnswers.l0])
       | succ k1 =>
        have H := HA.out
        clear HA
        simp only [impl_SameAnswers.l0] at H
        by_cases c1 : i < (x.length : Int)
        ·rw [if_pos c1] at H
         have C1 := Aside0.mk c1
         have E9 := Aside0.mk (show wrap64 (i + 1) = i + 1 from by have h_ := HI.out; have h2_ := C1.out; exact Lb.w64 (by omega) (by omega))
         have d1 : decide (i < (x.length : Int)) = true := decide_eq_true c1
         have i0 : 0 ≤ i := HI.out.1
         have i0_ := eq_true i0
         have i1_ := eq_true c1
         obtain ⟨id, hid⟩ : ∃ z, z = rd x i := ⟨_, rfl⟩
         rw [← hid] at H
         have HID := Aside0.mk hid
         clear hid
         by_cases cj : etxF l2 id = 0 ∧ etxF m2 id = 0
         case neg => exact absurd H (by rw [if_neg cj]; simp)
         rw [if_pos cj] at H
         obtain ⟨ja0, ja1⟩ := etxF_ok cj.1
         obtain ⟨jb0, jb1⟩ := etxF_ok cj.2
         have EA := Aside0.mk cj.1
         have EB := Aside0.mk cj.2
         clear cj
         obtain ⟨ja, hja⟩ : ∃ z, z = Lb.idx (fun u : S83 => u.f0 == id) l2 := ⟨_, rfl⟩
         obtain ⟨jb, hjb⟩ : ∃ z, z = Lb.idx (fun u : S83 => u.f0 == id) m2 := ⟨_, rfl⟩
         rw [← hja] at H ja0 ja1
         rw [← hjb] at H jb0 jb1
         have HJA := Aside0.mk hja
         have HJB := Aside0.mk hjb
         clear hja hjb
         obtain ⟨Y, hY⟩ : ∃ z, z = l2.getD ja.toNat z83 := ⟨_, rfl⟩
         obtain ⟨Z, hZ⟩ : ∃ z, z = m2.getD jb.toNat z83 := ⟨_, rfl⟩
         rw [← hY, ← hZ] at H
         have HY_ := Aside0.mk hY
         have HZ_ := Aside0.mk hZ
         clear hY hZ
         obtain ⟨q, hq, H⟩ := Option.bind_eq_some_iff.mp H
         unfold implSameScan at hq
         obtain ⟨sc, hsc, hq⟩ := Option.bind_eq_some_iff.mp hq
         obtain ⟨sd, hsd, hq⟩ := Option.bind_eq_some_iff.mp hq
         have HSC := Aside0.mk hsc
         have HSD := Aside0.mk hsd
         have HQ2 := Aside0.mk hq
         have H2 := Aside0.mk H
         clear hsc hsd hq H
         obtain ⟨ax, ea, hx_⟩ := Kd.at_int (Kd.R_reads' RX.out).2.2 i i0 c1
         cases ea
         rw [← HID.out] at hx_
         clear c1
         obtain ⟨ad, A4, c4, ea, hw0, hw1, hw2, hw3, hw4, hc4, hK4⟩ := at_T83 HR2.out ja ja0 ja1
         cases ea
         rw [show rd_T83 l2 ja = Y from HY_.out.symm] at hw0 hw1 hw2 hw3 hw4 hc4 hK4
         have HW := Aside0.mk (show TX5 (ad.add (ja.toNat * 5)) Y A4 c4 w from ⟨hw0, hw1, hw2, hw3, hw4⟩)
         have HC4 := Aside0.mk hc4
         have HK4 := Aside0.mk hK4
         clear hw0 hw1 hw2 hw3 hw4 hc4 hK4
         obtain ⟨bd, A5, c5, ea, hw0, hw1, hw2, hw3, hw4, hc4, hK4⟩ := at_T83 HS2.out jb jb0 jb1
         cases ea
         rw [show rd_T83 m2 jb = Z from HZ_.out.symm] at hw0 hw1 hw2 hw3 hw4 hc4 hK4
         have HV := Aside0.mk (show TX5 (bd.add (jb.toNat * 5)) Z A5 c5 w from ⟨hw0, hw1, hw2, hw3, hw4⟩)
         have HC5 := Aside0.mk hc4
         have HK5 := Aside0.mk hK4
         clear hw0 hw1 hw2 hw3 hw4 hc4 hK4
         go_wp2_with fail
         refine (impl_Engine_txn.at (g := w.heap.size) a0_0 a0_1 _ c2 l2 A3 c3 l3 id _ (Kd.C_below HR2.out HB.out) HC2.out (Kd.C_below HR3.out HB.out) HC3.out XA).mono ?_
         rintro e u8 ⟨⟨p, rfl, hp⟩, hb⟩
         replace HB := Aside0.mk (show Below w.heap.size w _ from below_step HB.out hb)
         replace XA := Aside0.mk (keepB hb XA.out)
         replace XB := Aside0.mk (keepB hb XB.out)
         replace RX := Aside0.mk (Kd.R_below RX.out hb)
         clear hb
         obtain ⟨ad_, ea, ep⟩ := hp EA.out
         cases ea
         subst ep
         rw [EA.out, ← HJA.out]
         go_wp2_with fail
         refine (impl_Engine_txn.at (g := w.heap.size + 1) b0_0 b0_1 _ d2 m2 B3 d3 m3 id _ (Kd.C_below HS2.out HB.out) HD2.out (Kd.C_below HS3.out HB.out) HD3.out XB).mono ?_
         rintro e u9 ⟨⟨p, rfl, hp⟩, hb⟩
         replace HB := Aside0.mk (show Below w.heap.size w _ from below_step HB.out hb)
         replace XA := Aside0.mk (keepB hb XA.out)
         replace XB := Aside0.mk (keepB hb XB.out)
         replace RX := Aside0.mk (Kd.R_below RX.out hb)
         clear hb
         obtain ⟨ad_, ea, ep⟩ := hp EB.out
         cases ea
         subst ep
         rw [EB.out, ← HJB.out]
         clear hx_
         go_upto_region 8 with fail
         cases q with
         | false =>
          have h := H2.out
          rw [if_neg (by decide)] at h
          obtain rfl := Option.some.inj h
          clear H2 h
          refine start_ (n := 12) (S := SE18 w.heap.size a0_0 a0_1 (.slice (some ad) l2.length c2) (.slice A3 l3.length c3) b0_0 b0_1 (.slice (some bd) m2.length d2) (.slice B3 m3.length d3) (ad.add (ja.toNat * 5)) Y A4 c4 (bd.add (jb.toNat * 5)) Z A5 c5) (ds := []) #[false, false, false, false, false, false, false, false, false, false, false, false] (by kernel_rfl) rfl rfl (SE18.mk (W := u9) XA XB HB HW HV) (fun hHeld => ?_)
          replace HB := Aside0.mk (below_drew1 HB.out)
          replace XA := Aside0.mk (blk_drew XA.out)
          replace XB := Aside0.mk (blk_drew XB.out)
          replace RX := Aside0.mk (Kd.R_drew RX.out)
          generalize u9.drew = u10 at HB hHeld XA XB RX ⊢
          refine zp 1 60 ?_; refine zp 2 61 ?_; refine zp 6 65 ?_; refine zp 7 66 ?_; refine zt 0 59 ?_; refine zt 3 62 ?_; refine zt 5 64 ?_; refine zt 8 67 ?_
          refine z1 4 (some 63) (fun K hK => ?_)
          refine zg Try.func104 #[.agg #[.int .i64 a0_0, .int .i64 a0_1, .slice (some ad) l2.length c2, .slice A3 l3.length c3], .agg #[.int .i64 Y.f0, .int .i64 Y.f1, .int .i64 Y.f2, .int .i64 Y.f3, .slice A4 Y.f4.length c4], .int .i64 0, .int .i64 31] ?_
          with_reducible refine (impl_Engine_scan.calls k1 a0_0 a0_1 _ c2 l2 A3 c3 l3 Y.f0 Y.f1 Y.f2 Y.f3 A4 c4 Y.f4 0 31 sc _ (Kd.C_below HR2.out HB.out) HC2.out (Kd.C_below HR3.out HB.out) HC3.out (Kd.C_below HK4.out HB.out) HC4.out HSC.out).mono ?_
          rintro e u11 ⟨v1, rfl, hr, hb⟩
          refine ⟨_, rfl, ?_⟩
          have hz_ := HB.out.size
          replace HB := Aside0.mk (show Below w.heap.size w _ from below_step HB.out hb)
          replace XA := Aside0.mk (keepB hb XA.out)
          replace XB := Aside0.mk (keepB hb XB.out)
          replace RX := Aside0.mk (Kd.R_below RX.out hb)
          clear hb
          obtain ⟨ARC, cRC, eRC⟩ := Kd.R_slice hr
          subst eRC
          have RC := Aside0.mk (show Kd.R k105 105 u11 w.heap.size (fun _ => True) (.slice ARC sc.length cRC) sc from Kd.R_lower hr hz_)
          clear hr
          clear hz_
          refine hK.out _ _ (SE18.mk XA XB HB HW HV) (fun hHeld => ?_)
          clear hK K
          refine zn 63 ?_
          refine z1 9 (some 68) (fun K hK => ?_)
          refine zg Try.func104 #[.agg #[.int .i64 b0_0, .int .i64 b0_1, .slice (some bd) m2.length d2, .slice B3 m3.length d3], .agg #[.int .i64 Z.f0, .int .i64 Z.f1, .int .i64 Z.f2, .int .i64 Z.f3, .slice A5 Z.f4.length c5], .int .i64 0, .int .i64 31] ?_
          with_reducible refine (impl_Engine_scan.calls k1 b0_0 b0_1 _ d2 m2 B3 d3 m3 Z.f0 Z.f1 Z.f2 Z.f3 A5 c5 Z.f4 0 31 sd _ (Kd.C_below HS2.out HB.out) HD2.out (Kd.C_below HS3.out HB.out) HD3.out (Kd.C_below HK5.out HB.out) HC5.out HSD.out).mono ?_
          rintro e u12 ⟨v1, rfl, hr, hb⟩
          refine ⟨_, rfl, ?_⟩
          have hz_ := HB.out.size
          replace HB := Aside0.mk (show Below w.heap.size w _ from below_step HB.out hb)
          replace XA := Aside0.mk (keepB hb XA.out)
          replace XB := Aside0.mk (keepB hb XB.out)
          replace RX := Aside0.mk (Kd.R_below RX.out hb)
          replace RC := Aside0.mk (Kd.R_below RC.out hb)
          clear hb
          obtain ⟨ARD, cRD, eRD⟩ := Kd.R_slice hr
          subst eRD
          have RD := Aside0.mk (show Kd.R k105 105 u12 w.heap.size (fun _ => True) (.slice ARD sd.length cRD) sd from Kd.R_lower hr hz_)
          clear hr
          clear hz_
          refine hK.out _ _ (SE18.mk XA XB HB HW HV) (fun hHeld => ?_)
          clear hK K
          refine zn 68 ?_
          refine z1 10 (some 69) (fun K hK => ?_)
          refine zg Try.func103 #[.slice ARC sc.length cRC, .slice ARD sd.length cRD] ?_
          with_reducible refine (slices_Equal_impl_Cell.calls k1 _ _ sc _ _ sd _ _ (Kd.R_reads' RC.out).2.2 (Kd.R_reads' RC.out).2.1 (Kd.R_reads' RD.out).2.2 (Kd.R_reads' RD.out).2.1 HQ2.out).mono ?_
          rintro e u13 ⟨rfl, hd⟩
          refine ⟨_, rfl, ?_⟩
          have hb : Below u12.heap.size u12 u13 := by obtain ⟨n_, rfl⟩ := hd.out; exact pw_below_drewN (Below.refl _ _) n_
          clear hd
          replace HB := Aside0.mk (show Below w.heap.size w _ from below_step HB.out hb)
          replace XA := Aside0.mk (keepB hb XA.out)
          replace XB := Aside0.mk (keepB hb XB.out)
          replace RX := Aside0.mk (Kd.R_below RX.out hb)
          replace RC := Aside0.mk (Kd.R_below RC.out hb)
          replace RD := Aside0.mk (Kd.R_below RD.out hb)
          clear hb
          refine hK.out _ _ (SE18.mk XA XB HB HW HV) (fun hHeld => ?_)
          clear hK K
          refine zn 69 ?_
          refine zp 11 70 ?_
          refine done_ (by kernel_rfl) ?_
          go_wp2_with fail
          go_ret
          exact ⟨rfl, HB.out⟩
         | true =>
          have h := H2.out
          rw [if_pos rfl] at h
          obtain ⟨z, hz, h⟩ := Option.bind_eq_some_iff.mp h
          have HZ := Aside0.mk hz
          have H3 := Aside0.mk h
          clear H2 h hz
          refine start_ (n := 12) (S := SE18 w.heap.size a0_0 a0_1 (.slice (some ad) l2.length c2) (.slice A3 l3.length c3) b0_0 b0_1 (.slice (some bd) m2.length d2) (.slice B3 m3.length d3) (ad.add (ja.toNat * 5)) Y A4 c4 (bd.add (jb.toNat * 5)) Z A5 c5) (ds := []) #[false, false, false, false, false, false, false, false, false, false, false, false] (by kernel_rfl) rfl rfl (SE18.mk (W := u9) XA XB HB HW HV) (fun hHeld => ?_)
          replace HB := Aside0.mk (below_drew1 HB.out)
          replace XA := Aside0.mk (blk_drew XA.out)
          replace XB := Aside0.mk (blk_drew XB.out)
          replace RX := Aside0.mk (Kd.R_drew RX.out)
          generalize u9.drew = u10 at HB hHeld XA XB RX ⊢
          refine zp 1 60 ?_; refine zp 2 61 ?_; refine zp 6 65 ?_; refine zp 7 66 ?_; refine zt 0 59 ?_; refine zt 3 62 ?_; refine zt 5 64 ?_; refine zt 8 67 ?_
          refine z1 4 (some 63) (fun K hK => ?_)
          refine zg Try.func104 #[.agg #[.int .i64 a0_0, .int .i64 a0_1, .slice (some ad) l2.length c2, .slice A3 l3.length c3], .agg #[.int .i64 Y.f0, .int .i64 Y.f1, .int .i64 Y.f2, .int .i64 Y.f3, .slice A4 Y.f4.length c4], .int .i64 0, .int .i64 31] ?_
          with_reducible refine (impl_Engine_scan.calls k1 a0_0 a0_1 _ c2 l2 A3 c3 l3 Y.f0 Y.f1 Y.f2 Y.f3 A4 c4 Y.f4 0 31 sc _ (Kd.C_below HR2.out HB.out) HC2.out (Kd.C_below HR3.out HB.out) HC3.out (Kd.C_below HK4.out HB.out) HC4.out HSC.out).mono ?_
          rintro e u11 ⟨v1, rfl, hr, hb⟩
          refine ⟨_, rfl, ?_⟩
          have hz_ := HB.out.size
          replace HB := Aside0.mk (show Below w.heap.size w _ from below_step HB.out hb)
          replace XA := Aside0.mk (keepB hb XA.out)
          replace XB := Aside0.mk (keepB hb XB.out)
          replace RX := Aside0.mk (Kd.R_below RX.out hb)
          clear hb
          obtain ⟨ARC, cRC, eRC⟩ := Kd.R_slice hr
          subst eRC
          have RC := Aside0.mk (show Kd.R k105 105 u11 w.heap.size (fun _ => True) (.slice ARC sc.length cRC) sc from Kd.R_lower hr hz_)
          clear hr
          clear hz_
          refine hK.out _ _ (SE18.mk XA XB HB HW HV) (fun hHeld => ?_)
          clear hK K
          refine zn 63 ?_
          refine z1 9 (some 68) (fun K hK => ?_)
          refine zg Try.func104 #[.agg #[.int .i64 b0_0, .int .i64 b0_1, .slice (some bd) m2.length d2, .slice B3 m3.length d3], .agg #[.int .i64 Z.f0, .int .i64 Z.f1, .int .i64 Z.f2, .int .i64 Z.f3, .slice A5 Z.f4.length c5], .int .i64 0, .int .i64 31] ?_
          with_reducible refine (impl_Engine_scan.calls k1 b0_0 b0_1 _ d2 m2 B3 d3 m3 Z.f0 Z.f1 Z.f2 Z.f3 A5 c5 Z.f4 0 31 sd _ (Kd.C_below HS2.out HB.out) HD2.out (Kd.C_below HS3.out HB.out) HD3.out (Kd.C_below HK5.out HB.out) HC5.out HSD.out).mono ?_
          rintro e u12 ⟨v1, rfl, hr, hb⟩
          refine ⟨_, rfl, ?_⟩
          have hz_ := HB.out.size
          replace HB := Aside0.mk (show Below w.heap.size w _ from below_step HB.out hb)
          replace XA := Aside0.mk (keepB hb XA.out)
          replace XB := Aside0.mk (keepB hb XB.out)
          replace RX := Aside0.mk (Kd.R_below RX.out hb)
          replace RC := Aside0.mk (Kd.R_below RC.out hb)
          clear hb
          obtain ⟨ARD, cRD, eRD⟩ := Kd.R_slice hr
          subst eRD
          have RD := Aside0.mk (show Kd.R k105 105 u12 w.heap.size (fun _ => True) (.slice ARD sd.length cRD) sd from Kd.R_lower hr hz_)
          clear hr
          clear hz_
          refine hK.out _ _ (SE18.mk XA XB HB HW HV) (fun hHeld => ?_)
          clear hK K
          refine zn 68 ?_
          refine z1 10 (some 69) (fun K hK => ?_)
          refine zg Try.func103 #[.slice ARC sc.length cRC, .slice ARD sd.length cRD] ?_
          with_reducible refine (slices_Equal_impl_Cell.calls k1 _ _ sc _ _ sd _ _ (Kd.R_reads' RC.out).2.2 (Kd.R_reads' RC.out).2.1 (Kd.R_reads' RD.out).2.2 (Kd.R_reads' RD.out).2.1 HQ2.out).mono ?_
          rintro e u13 ⟨rfl, hd⟩
          refine ⟨_, rfl, ?_⟩
          have hb : Below u12.heap.size u12 u13 := by obtain ⟨n_, rfl⟩ := hd.out; exact pw_below_drewN (Below.refl _ _) n_
          clear hd
          replace HB := Aside0.mk (show Below w.heap.size w _ from below_step HB.out hb)
          replace XA := Aside0.mk (keepB hb XA.out)
          replace XB := Aside0.mk (keepB hb XB.out)
          replace RX := Aside0.mk (Kd.R_below RX.out hb)
          replace RC := Aside0.mk (Kd.R_below RC.out hb)
          replace RD := Aside0.mk (Kd.R_below RD.out hb)
          clear hb
          refine hK.out _ _ (SE18.mk XA XB HB HW HV) (fun hHeld => ?_)
          clear hK K
          refine zn 69 ?_
          refine zp 11 70 ?_
          refine done_ (by kernel_rfl) ?_
          clear RC RD
          go_wp2_with fail
          go_loopg [71] k1 (fun kq v71 wr2 => ∃ (key : Int), v71 = .int .i64 key ∧ Aside0 (impl_SameAnswers.l1 kq l3 m3 Y.f1 Y.f0 Z.f1 Z.f0 key = some z) ∧ Aside0 (kq ≤ k1) ∧ Aside0 (0 ≤ key ∧ key ≤ 32) ∧ Aside0 (wr2.heap[w.heap.size]? = some (Obj.cells #[.int .i64 a0_0, .int .i64 a0_1, .slice (some ad) l2.length c2, .slice A3 l3.length c3] 31)) ∧ Aside0 (wr2.heap[w.heap.size + 1]? = some (Obj.cells #[.int .i64 b0_0, .int .i64 b0_1, .slice (some bd) m2.length d2, .slice B3 m3.length d3] 31)) ∧ Aside0 (Kd.R (Kd.int .i64) 2 wr2 w.heap.size (fun _ => True) (.slice (some ax) x.length cRX) x) ∧ Aside0 (Below w.heap.size w wr2))
          case atStart => exact ⟨0, rfl, HZ, ⟨Nat.le_refl _⟩, ⟨by omega⟩, XA, XB, RX, HB⟩
          case round =>
           clear HZ XA XB RX HB
           obtain ⟨key, rfl, HA, HK2, HI2, XA, XB, RX, HB⟩ := hrel
           cases gk with
           | zero => exact absurd HA.out (by simp [impl_SameAnswers.l1])
           | succ k2 =>
            have H := HA.out
            clear HA
            simp only [impl_SameAnswers.l1] at H
            by_cases c2_ : key < 32
            ·rw [if_pos c2_] at H
             have C2_ := Aside0.mk c2_
             have F9 := Aside0.mk (show wrap64 (key + 1) = key + 1 from by have h_ := HI2.out; exact Lb.w64 (by omega) (by omega))
             have d2_ : decide (key < 32) = true := decide_eq_true c2_
             clear c2_
             obtain ⟨pa, hpa, H⟩ := Option.bind_eq_some_iff.mp H
             obtain ⟨pb, hpb, H⟩ := Option.bind_eq_some_iff.mp H
             have HPA := Aside0.mk hpa
             have HPB := Aside0.mk hpb
             have H5 := Aside0.mk H
             clear hpa hpb H
             go_upto_region 13 with fail
             go_cut [90] (fun v90 wc => v90 = .bool (pa != pb) ∧ Aside0 (Kd.R (Kd.int .i64) 2 wc w.heap.size (fun _ => True) (.slice (some ax) x.length cRX) x) ∧ Aside0 (Below w.heap.size w wc) ∧ Aside0 (wc.heap[w.heap.size]? = some (Obj.cells #[.int .i64 a0_0, .int .i64 a0_1, .slice (some ad) l2.length c2, .slice A3 l3.length c3] 31)) ∧ Aside0 (wc.heap[w.heap.size + 1]? = some (Obj.cells #[.int .i64 b0_0, .int .i64 b0_1, .slice (some bd) m2.length d2, .slice B3 m3.length d3] 31)))
             case first =>
              refine start_ (n := 17) (S := SE18 w.heap.size a0_0 a0_1 (.slice (some ad) l2.length c2) (.slice A3 l3.length c3) b0_0 b0_1 (.slice (some bd) m2.length d2) (.slice B3 m3.length d3) (ad.add (ja.toNat * 5)) Y A4 c4 (bd.add (jb.toNat * 5)) Z A5 c5) (ds := []) #[false, false, false, false, false, false, false, false, false, false, false, false, false, false, false, false, false] (by kernel_rfl) rfl rfl (SE18.mk (W := wr) XA XB HB HW HV) (fun hHeld => ?_)
              replace HB := Aside0.mk (below_drew1 HB.out)
              replace XA := Aside0.mk (blk_drew XA.out)
              replace XB := Aside0.mk (blk_drew XB.out)
              replace RX := Aside0.mk (Kd.R_drew RX.out)
              generalize wr.drew = u14 at HB hHeld XA XB RX ⊢
              refine zp 1 75 ?_; refine zp 3 77 ?_; refine zp 4 78 ?_; refine zp 9 83 ?_; refine zp 11 85 ?_; refine zp 12 86 ?_; refine zt 0 74 ?_; refine zt 5 79 ?_; refine zt 8 82 ?_; refine zt 13 87 ?_
              refine z1 2 (some 76) (fun K hK => ?_)
              refine zg Try.func67 #[.agg #[.int .i64 a0_0, .int .i64 a0_1, .slice (some ad) l2.length c2, .slice A3 l3.length c3], .int .i64 key] ?_
              with_reducible refine (impl_Engine_chain.at a0_0 a0_1 (some ad) c2 l2 A3 c3 l3 key _ (Kd.C_below HR3.out HB.out)).mono ?_
              rintro e u15 ⟨AC1, cC1, rfl, hcl, hcr, hb⟩
              refine ⟨_, rfl, ?_⟩
              have hz_ := HB.out.size
              replace HB := Aside0.mk (show Below w.heap.size w _ from below_step HB.out hb)
              replace XA := Aside0.mk (keepB hb XA.out)
              replace XB := Aside0.mk (keepB hb XB.out)
              replace RX := Aside0.mk (Kd.R_below RX.out hb)
              clear hb
              have CR1 := Aside0.mk hcr
              have CC1 := Aside0.mk hcl
              clear hcr hcl
              clear hz_
              refine hK.out _ _ (SE18.mk XA XB HB HW HV) (fun hHeld => ?_)
              clear hK K
              refine zn 76 ?_
              refine z1 6 (some 80) (fun K hK => ?_)
              refine zg Try.func84 #[.agg #[.int .i64 Y.f0, .int .i64 Y.f1, .int .i64 Y.f2, .int .i64 Y.f3, .slice A4 Y.f4.length c4]] ?_
              with_reducible refine (impl_Txn_view.calls Y.f0 Y.f1 Y.f2 Y.f3 A4 c4 Y.f4 Y.f1 Y.f0 _ (Kd.C_below HK4.out HB.out) HC4.out rfl).mono ?_
              rintro e u16 ⟨rfl, hb⟩
              refine ⟨_, rfl, ?_⟩
              replace HB := Aside0.mk (show Below w.heap.size w _ from below_step HB.out hb)
              replace XA := Aside0.mk (keepB hb XA.out)
              replace XB := Aside0.mk (keepB hb XB.out)
              replace RX := Aside0.mk (Kd.R_below RX.out hb)
              replace CR1 := Aside0.mk (Kd.C_below CR1.out hb)
              clear hb
              refine hK.out _ _ (SE18.mk XA XB HB HW HV) (fun hHeld => ?_)
              clear hK K
              refine zn 80 ?_
              refine z1 7 (some 81) (fun K hK => ?_)
              refine zg Try.func105 #[.slice AC1 (chainF l3 key).length cC1, .agg #[.int .i64 Y.f1, .int .i64 Y.f0]] ?_
              with_reducible refine (impl_mayWrite.calls AC1 cC1 (chainF l3 key) Y.f1 Y.f0 pa _ CR1.out CC1.out HPA.out).mono ?_
              rintro e u17 ⟨rfl, hb⟩
              refine ⟨_, rfl, ?_⟩
              replace HB := Aside0.mk (show Below w.heap.size w _ from below_step HB.out hb)
              replace XA := Aside0.mk (keepB hb XA.out)
              replace XB := Aside0.mk (keepB hb XB.out)
              replace RX := Aside0.mk (Kd.R_below RX.out hb)
              replace CR1 := Aside0.mk (Kd.C_below CR1.out hb)
              clear hb
              refine hK.out _ _ (SE18.mk XA XB HB HW HV) (fun hHeld => ?_)
              clear hK K
              refine zn 81 ?_
              refine z1 10 (some 84) (fun K hK => ?_)
              refine zg Try.func67 #[.agg #[.int .i64 b0_0, .int .i64 b0_1, .slice (some bd) m2.length d2, .slice B3 m3.length d3], .int .i64 key] ?_
              with_reducible refine (impl_Engine_chain.at b0_0 b0_1 (some bd) d2 m2 B3 d3 m3 key _ (Kd.C_below HS3.out HB.out)).mono ?_
              rintro e u18 ⟨AC2, cC2, rfl, hcl, hcr, hb⟩
              refine ⟨_, rfl, ?_⟩
              have hz_ := HB.out.size
              replace HB := Aside0.mk (show Below w.heap.size w _ from below_step HB.out hb)
              replace XA := Aside0.mk (keepB hb XA.out)
              replace XB := Aside0.mk (keepB hb XB.out)
              replace RX := Aside0.mk (Kd.R_below RX.out hb)
              replace CR1 := Aside0.mk (Kd.C_below CR1.out hb)
              clear hb
              have CR2 := Aside0.mk hcr
              have CC2 := Aside0.mk hcl
              clear hcr hcl
              clear hz_
              refine hK.out _ _ (SE18.mk XA XB HB HW HV) (fun hHeld => ?_)
              clear hK K
              refine zn 84 ?_
              refine z1 14 (some 88) (fun K hK => ?_)
              refine zg Try.func84 #[.agg #[.int .i64 Z.f0, .int .i64 Z.f1, .int .i64 Z.f2, .int .i64 Z.f3, .slice A5 Z.f4.length c5]] ?_
              with_reducible refine (impl_Txn_view.calls Z.f0 Z.f1 Z.f2 Z.f3 A5 c5 Z.f4 Z.f1 Z.f0 _ (Kd.C_below HK5.out HB.out) HC5.out rfl).mono ?_
              rintro e u19 ⟨rfl, hb⟩
              refine ⟨_, rfl, ?_⟩
              replace HB := Aside0.mk (show Below w.heap.size w _ from below_step HB.out hb)
              replace XA := Aside0.mk (keepB hb XA.out)
              replace XB := Aside0.mk (keepB hb XB.out)
              replace RX := Aside0.mk (Kd.R_below RX.out hb)
              replace CR1 := Aside0.mk (Kd.C_below CR1.out hb)
              replace CR2 := Aside0.mk (Kd.C_below CR2.out hb)
              clear hb
              refine hK.out _ _ (SE18.mk XA XB HB HW HV) (fun hHeld => ?_)
              clear hK K
              refine zn 88 ?_
              refine z1 15 (some 89) (fun K hK => ?_)
              refine zg Try.func105 #[.slice AC2 (chainF m3 key).length cC2, .agg #[.int .i64 Z.f1, .int .i64 Z.f0]] ?_
              with_reducible refine (impl_mayWrite.calls AC2 cC2 (chainF m3 key) Z.f1 Z.f0 pb _ CR2.out CC2.out HPB.out).mono ?_
              rintro e u20 ⟨rfl, hb⟩
              refine ⟨_, rfl, ?_⟩
              replace HB := Aside0.mk (show Below w.heap.size w _ from below_step HB.out hb)
              replace XA := Aside0.mk (keepB hb XA.out)
              replace XB := Aside0.mk (keepB hb XB.out)
              replace RX := Aside0.mk (Kd.R_below RX.out hb)
              replace CR1 := Aside0.mk (Kd.C_below CR1.out hb)
              replace CR2 := Aside0.mk (Kd.C_below CR2.out hb)
              clear hb
              refine hK.out _ _ (SE18.mk XA XB HB HW HV) (fun hHeld => ?_)
              clear hK K
              refine zn 89 ?_
              refine zp 16 90 ?_
              refine done_ (by kernel_rfl) ?_
              go_wp2_with fail
              go_meet
              case rel => exact ⟨rfl, RX, HB, XA, XB⟩
             case rest =>
              clear HB RX XA XB
              obtain ⟨rfl, RX, HB, XA, XB⟩ := hcut
              by_cases pq : pa = pb
              ·have h := H5.out
               rw [if_pos pq] at h
               have p1_ : (pa != pb) = false := bne_eq_false_iff_eq.2 pq
               have H6 := Aside0.mk h
               clear H5 h pq
               go_wp2_with fail
               go_roundg k2
               case measure => have := HK2.out; omega
               case rel => exact ⟨wrap64 (key + 1), by first | rfl | rw [F9.out], H6, ⟨by have := HK2.out; omega⟩, ⟨by have h_ := C2_.out; have h2_ := HI2.out; rw [F9.out]; omega⟩, XA, XB, RX, HB⟩
              have h := H5.out
              rw [if_neg pq] at h
              have p1_ : (pa != pb) = true := bne_iff_ne.2 pq
              obtain rfl := Option.some.inj h
              have h := H3.out
              rw [if_neg (by decide)] at h
              obtain rfl := Option.some.inj h
              clear H5 H3 h pq
              go_wp2_with fail
              go_ret
              exact ⟨rfl, HB.out⟩
            rw [if_neg c2_] at H
            have d2_ : decide (key < 32) = false := decide_eq_false c2_
            obtain rfl := Option.some.inj H
            have h := H3.out
            rw [if_pos rfl] at h
            have H4 := Aside0.mk h
            clear H3 h H c2_
            go_wp2_with fail
            go_roundg k1
            case measure => have := HK1.out; omega
            case rel => exact ⟨wrap64 (i + 1), by first | rfl | rw [E9.out], H4, ⟨by have := HK1.out; omega⟩, ⟨by have h_ := C1.out; rw [E9.out]; omega⟩, XA, XB, RX, HB⟩
        rw [if_neg c1] at H
        obtain rfl := Option.some.inj H
        have d1 : decide (i < (x.length : Int)) = false := decide_eq_false c1
        go_wp2_with fail
        go_ret
        exact ⟨rfl, HB.out⟩
    have n01 : (a0_0 == b0_0) = false := beq_eq_false_iff_ne.2 n0
    have n02 : (a0_0 != b0_0) = true := bne_iff_ne.2 n0
    rw [if_neg n0] at h
    obtain rfl := Option.some.inj h
    go_enter Try.func42, Try.ntmps42
    go_wp2_with fail
    have b1_ := blk_new w (Obj.cells #[.int .i64 a0_0, .int .i64 a0_1, .slice A2 l2.length c2, .slice A3 l3.length c3] 31)
    have b2_ := blk_new (w.alloc (Obj.cells #[.int .i64 a0_0, .int .i64 a0_1, .slice A2 l2.length c2, .slice A3 l3.length c3] 31)) (Obj.cells #[.int .i64 b0_0, .int .i64 b0_1, .slice B2 m2.length d2, .slice B3 m3.length d3] 31)
    have XA := Aside0.mk (blk_alloc b1_ (Obj.cells #[.int .i64 b0_0, .int .i64 b0_1, .slice B2 m2.length d2, .slice B3 m3.length d3] 31))
    have e1_ : (w.alloc (Obj.cells #[.int .i64 a0_0, .int .i64 a0_1, .slice A2 l2.length c2, .slice A3 l3.length c3] 31)).heap.size = w.heap.size + 1 := by simp
    rw [e1_] at b2_
    have XB := Aside0.mk b2_
    have HB := Aside0.mk (below_alloc (below_alloc (Below.refl w.heap.size w) (Obj.cells #[.int .i64 a0_0, .int .i64 a0_1, .slice A2 l2.length c2, .slice A3 l3.length c3] 31)) (Obj.cells #[.int .i64 b0_0, .int .i64 b0_1, .slice B2 m2.length d2, .slice B3 m3.length d3] 31))
    clear b1_ b2_
    try rw [e1_]
    generalize (w.alloc (Obj.cells #[.int .i64 a0_0, .int .i64 a0_1, .slice A2 l2.length c2, .slice A3 l3.length c3] 31)).alloc (Obj.cells #[.int .i64 b0_0, .int .i64 b0_1, .slice B2 m2.length d2, .slice B3 m3.length d3] 31) = u0 at XA XB HB ⊢
    clear e1_
    skip
    refine start_ (n := 30) (S := SE8 w.heap.size a0_0 a0_1 (.slice A2 l2.length c2) (.slice A3 l3.length c3) b0_0 b0_1 (.slice B2 m2.length d2) (.slice B3 m3.length d3)) (ds := []) #[false, false, false, false, false, false, false, false, false, false, false, false, false, false, false, false, false, false, false, false, false, false, false, false, false, false, false, false, false, false] (by kernel_rfl) rfl rfl (SE8.mk (W := u0) XA XB) (fun hHeld => ?_)
    replace HB := Aside0.mk (below_drew1 HB.out)
    replace XA := Aside0.mk (blk_drew XA.out)
    replace XB := Aside0.mk (blk_drew XB.out)
    generalize u0.drew = u1 at HB hHeld XA XB ⊢
    refine zt 0 12 ?_
    refine z1 1 (some 13) (fun K hK => ?_)
    refine zg Try.func14 #[.agg #[.int .i64 a0_0, .int .i64 a0_1, .slice A2 l2.length c2, .slice A3 l3.length c3]] ?_
    with_reducible refine (impl_EngineFault.calls k a0_0 a0_1 _ c2 l2 A3 c3 l3 fa _ (Kd.C_below HR2.out HB.out) HC2.out (Kd.C_below HR3.out HB.out) HC3.out HF.out).mono ?_
    rintro e u2 ⟨rfl, hb⟩
    refine ⟨_, rfl, ?_⟩
    replace HB := Aside0.mk (show Below w.heap.size w _ from below_step HB.out hb)
    replace XA := Aside0.mk (keepB hb XA.out)
    replace XB := Aside0.mk (keepB hb XB.out)
    clear hb
    refine hK.out _ _ (SE8.mk XA XB) (fun hHeld => ?_)
    clear hK K
    refine zn 13 ?_
    refine zp 2 14 ?_; refine zp 3 15 ?_; refine zt 4 16 ?_
    refine z1 5 (some 17) (fun K hK => ?_)
    refine zg Try.func14 #[.agg #[.int .i64 b0_0, .int .i64 b0_1, .slice B2 m2.length d2, .slice B3 m3.length d3]] ?_
    with_reducible refine (impl_EngineFault.calls k b0_0 b0_1 _ d2 m2 B3 d3 m3 fb _ (Kd.C_below HS2.out HB.out) HD2.out (Kd.C_below HS3.out HB.out) HD3.out HG.out).mono ?_
    rintro e u3 ⟨rfl, hb⟩
    refine ⟨_, rfl, ?_⟩
    replace HB := Aside0.mk (show Below w.heap.size w _ from below_step HB.out hb)
    replace XA := Aside0.mk (keepB hb XA.out)
    replace XB := Aside0.mk (keepB hb XB.out)
    clear hb
    refine hK.out _ _ (SE8.mk XA XB) (fun hHeld => ?_)
    clear hK K
    refine zn 17 ?_
    refine zp 6 18 ?_; refine zp 7 19 ?_; refine zp 8 20 ?_; refine zp 9 21 ?_; refine zp 11 23 ?_; refine zt 10 22 ?_; refine zt 12 24 ?_; refine zp 13 25 ?_; refine zp 14 26 ?_; refine zp 15 27 ?_; refine zp 16 28 ?_; refine zp 18 30 ?_; refine zt 17 29 ?_; refine zt 19 31 ?_; refine zp 20 32 ?_; refine zp 21 33 ?_; refine zp 22 34 ?_; refine zo 23 35 ?_; refine zo 24 36 ?_; refine zo 25 37 ?_; refine zo 26 38 ?_; refine zo 27 39 ?_; refine zo 28 40 ?_; refine zp 29 41 ?_
    refine done_ (by kernel_rfl) ?_
    go_wp2_with fail
    go_ret
    exact ⟨rfl, HB.out⟩
   have k01 : (a0_1 == b0_1) = false := beq_eq_false_iff_ne.2 k0
   have k02 : (a0_1 != b0_1) = true := bne_iff_ne.2 k0
   rw [if_neg k0] at h
   obtain rfl := Option.some.inj h
   go_enter Try.func42, Try.ntmps42
   go_wp2_with fail
   have b1_ := blk_new w (Obj.cells #[.int .i64 a0_0, .int .i64 a0_1, .slice A2 l2.length c2, .slice A3 l3.length c3] 31)
   have b2_ := blk_new (w.alloc (Obj.cells #[.int .i64 a0_0, .int .i64 a0_1, .slice A2 l2.length c2, .slice A3 l3.length c3] 31)) (Obj.cells #[.int .i64 b0_0, .int .i64 b0_1, .slice B2 m2.length d2, .slice B3 m3.length d3] 31)
   have XA := Aside0.mk (blk_alloc b1_ (Obj.cells #[.int .i64 b0_0, .int .i64 b0_1, .slice B2 m2.length d2, .slice B3 m3.length d3] 31))
   have e1_ : (w.alloc (Obj.cells #[.int .i64 a0_0, .int .i64 a0_1, .slice A2 l2.length c2, .slice A3 l3.length c3] 31)).heap.size = w.heap.size + 1 := by simp
   rw [e1_] at b2_
   have XB := Aside0.mk b2_
   have HB := Aside0.mk (below_alloc (below_alloc (Below.refl w.heap.size w) (Obj.cells #[.int .i64 a0_0, .int .i64 a0_1, .slice A2 l2.length c2, .slice A3 l3.length c3] 31)) (Obj.cells #[.int .i64 b0_0, .int .i64 b0_1, .slice B2 m2.length d2, .slice B3 m3.length d3] 31))
   clear b1_ b2_
   try rw [e1_]
   generalize (w.alloc (Obj.cells #[.int .i64 a0_0, .int .i64 a0_1, .slice A2 l2.length c2, .slice A3 l3.length c3] 31)).alloc (Obj.cells #[.int .i64 b0_0, .int .i64 b0_1, .slice B2 m2.length d2, .slice B3 m3.length d3] 31) = u0 at XA XB HB ⊢
   clear e1_
   skip
   refine start_ (n := 30) (S := SE8 w.heap.size a0_0 a0_1 (.slice A2 l2.length c2) (.slice A3 l3.length c3) b0_0 b0_1 (.slice B2 m2.length d2) (.slice B3 m3.length d3)) (ds := []) #[false, false, false, false, false, false, false, false, false, false, false, false, false, false, false, false, false, false, false, false, false, false, false, false, false, false, false, false, false, false] (by kernel_rfl) rfl rfl (SE8.mk (W := u0) XA XB) (fun hHeld => ?_)
   replace HB := Aside0.mk (below_drew1 HB.out)
   replace XA := Aside0.mk (blk_drew XA.out)
   replace XB := Aside0.mk (blk_drew XB.out)
   generalize u0.drew = u1 at HB hHeld XA XB ⊢
   refine zt 0 12 ?_
   refine z1 1 (some 13) (fun K hK => ?_)
   refine zg Try.func14 #[.agg #[.int .i64 a0_0, .int .i64 a0_1, .slice A2 l2.length c2, .slice A3 l3.length c3]] ?_
   with_reducible refine (impl_EngineFault.calls k a0_0 a0_1 _ c2 l2 A3 c3 l3 fa _ (Kd.C_below HR2.out HB.out) HC2.out (Kd.C_below HR3.out HB.out) HC3.out HF.out).mono ?_
   rintro e u2 ⟨rfl, hb⟩
   refine ⟨_, rfl, ?_⟩
   replace HB := Aside0.mk (show Below w.heap.size w _ from below_step HB.out hb)
   replace XA := Aside0.mk (keepB hb XA.out)
   replace XB := Aside0.mk (keepB hb XB.out)
   clear hb
   refine hK.out _ _ (SE8.mk XA XB) (fun hHeld => ?_)
   clear hK K
   refine zn 13 ?_
   refine zp 2 14 ?_; refine zp 3 15 ?_; refine zt 4 16 ?_
   refine z1 5 (some 17) (fun K hK => ?_)
   refine zg Try.func14 #[.agg #[.int .i64 b0_0, .int .i64 b0_1, .slice B2 m2.length d2, .slice B3 m3.length d3]] ?_
   with_reducible refine (impl_EngineFault.calls k b0_0 b0_1 _ d2 m2 B3 d3 m3 fb _ (Kd.C_below HS2.out HB.out) HD2.out (Kd.C_below HS3.out HB.out) HD3.out HG.out).mono ?_
   rintro e u3 ⟨rfl, hb⟩
   refine ⟨_, rfl, ?_⟩
   replace HB := Aside0.mk (show Below w.heap.size w _ from below_step HB.out hb)
   replace XA := Aside0.mk (keepB hb XA.out)
   replace XB := Aside0.mk (keepB hb XB.out)
   clear hb
   refine hK.out _ _ (SE8.mk XA XB) (fun hHeld => ?_)
   clear hK K
   refine zn 17 ?_
   refine zp 6 18 ?_; refine zp 7 19 ?_; refine zp 8 20 ?_; refine zp 9 21 ?_; refine zp 11 23 ?_; refine zt 10 22 ?_; refine zt 12 24 ?_; refine zp 13 25 ?_; refine zp 14 26 ?_; refine zp 15 27 ?_; refine zo 16 28 ?_; refine zo 17 29 ?_; refine zo 18 30 ?_; refine zo 19 31 ?_; refine zo 20 32 ?_; refine zp 21 33 ?_; refine zp 22 34 ?_; refine zo 23 35 ?_; refine zo 24 36 ?_; refine zo 25 37 ?_; refine zo 26 38 ?_; refine zo 27 39 ?_; refine zo 28 40 ?_; refine zp 29 41 ?_
   refine done_ (by kernel_rfl) ?_
   go_wp2_with fail
   go_ret
   exact ⟨rfl, HB.out⟩
  have g01 : (fb == 0) = false := beq_eq_false_iff_ne.2 g0
  have g02 : (fb != 0) = true := bne_iff_ne.2 g0
  rw [if_neg g0] at h
  obtain rfl := Option.some.inj h
  go_enter Try.func42, Try.ntmps42
  go_wp2_with fail
  have b1_ := blk_new w (Obj.cells #[.int .i64 a0_0, .int .i64 a0_1, .slice A2 l2.length c2, .slice A3 l3.length c3] 31)
  have b2_ := blk_new (w.alloc (Obj.cells #[.int .i64 a0_0, .int .i64 a0_1, .slice A2 l2.length c2, .slice A3 l3.length c3] 31)) (Obj.cells #[.int .i64 b0_0, .int .i64 b0_1, .slice B2 m2.length d2, .slice B3 m3.length d3] 31)
  have XA := Aside0.mk (blk_alloc b1_ (Obj.cells #[.int .i64 b0_0, .int .i64 b0_1, .slice B2 m2.length d2, .slice B3 m3.length d3] 31))
  have e1_ : (w.alloc (Obj.cells #[.int .i64 a0_0, .int .i64 a0_1, .slice A2 l2.length c2, .slice A3 l3.length c3] 31)).heap.size = w.heap.size + 1 := by simp
  rw [e1_] at b2_
  have XB := Aside0.mk b2_
  have HB := Aside0.mk (below_alloc (below_alloc (Below.refl w.heap.size w) (Obj.cells #[.int .i64 a0_0, .int .i64 a0_1, .slice A2 l2.length c2, .slice A3 l3.length c3] 31)) (Obj.cells #[.int .i64 b0_0, .int .i64 b0_1, .slice B2 m2.length d2, .slice B3 m3.length d3] 31))
  clear b1_ b2_
  try rw [e1_]
  generalize (w.alloc (Obj.cells #[.int .i64 a0_0, .int .i64 a0_1, .slice A2 l2.length c2, .slice A3 l3.length c3] 31)).alloc (Obj.cells #[.int .i64 b0_0, .int .i64 b0_1, .slice B2 m2.length d2, .slice B3 m3.length d3] 31) = u0 at XA XB HB ⊢
  clear e1_
  skip
  refine start_ (n := 30) (S := SE8 w.heap.size a0_0 a0_1 (.slice A2 l2.length c2) (.slice A3 l3.length c3) b0_0 b0_1 (.slice B2 m2.length d2) (.slice B3 m3.length d3)) (ds := []) #[false, false, false, false, false, false, false, false, false, false, false, false, false, false, false, false, false, false, false, false, false, false, false, false, false, false, false, false, false, false] (by kernel_rfl) rfl rfl (SE8.mk (W := u0) XA XB) (fun hHeld => ?_)
  replace HB := Aside0.mk (below_drew1 HB.out)
  replace XA := Aside0.mk (blk_drew XA.out)
  replace XB := Aside0.mk (blk_drew XB.out)
  generalize u0.drew = u1 at HB hHeld XA XB ⊢
  refine zt 0 12 ?_
  refine z1 1 (some 13) (fun K hK => ?_)
  refine zg Try.func14 #[.agg #[.int .i64 a0_0, .int .i64 a0_1, .slice A2 l2.length c2, .slice A3 l3.length c3]] ?_
  with_reducible refine (impl_EngineFault.calls k a0_0 a0_1 _ c2 l2 A3 c3 l3 fa _ (Kd.C_below HR2.out HB.out) HC2.out (Kd.C_below HR3.out HB.out) HC3.out HF.out).mono ?_
  rintro e u2 ⟨rfl, hb⟩
  refine ⟨_, rfl, ?_⟩
  replace HB := Aside0.mk (show Below w.heap.size w _ from below_step HB.out hb)
  replace XA := Aside0.mk (keepB hb XA.out)
  replace XB := Aside0.mk (keepB hb XB.out)
  clear hb
  refine hK.out _ _ (SE8.mk XA XB) (fun hHeld => ?_)
  clear hK K
  refine zn 13 ?_
  refine zp 2 14 ?_; refine zp 3 15 ?_; refine zt 4 16 ?_
  refine z1 5 (some 17) (fun K hK => ?_)
  refine zg Try.func14 #[.agg #[.int .i64 b0_0, .int .i64 b0_1, .slice B2 m2.length d2, .slice B3 m3.length d3]] ?_
  with_reducible refine (impl_EngineFault.calls k b0_0 b0_1 _ d2 m2 B3 d3 m3 fb _ (Kd.C_below HS2.out HB.out) HD2.out (Kd.C_below HS3.out HB.out) HD3.out HG.out).mono ?_
  rintro e u3 ⟨rfl, hb⟩
  refine ⟨_, rfl, ?_⟩
  replace HB := Aside0.mk (show Below w.heap.size w _ from below_step HB.out hb)
  replace XA := Aside0.mk (keepB hb XA.out)
  replace XB := Aside0.mk (keepB hb XB.out)
  clear hb
  refine hK.out _ _ (SE8.mk XA XB) (fun hHeld => ?_)
  clear hK K
  refine zn 17 ?_
  refine zp 6 18 ?_; refine zp 7 19 ?_; refine zp 8 20 ?_; refine zo 9 21 ?_; refine zo 10 22 ?_; refine zo 11 23 ?_; refine zo 12 24 ?_; refine zo 13 25 ?_; refine zp 14 26 ?_; refine zp 15 27 ?_; refine zo 16 28 ?_; refine zo 17 29 ?_; refine zo 18 30 ?_; refine zo 19 31 ?_; refine zo 20 32 ?_; refine zp 21 33 ?_; refine zp 22 34 ?_; refine zo 23 35 ?_; refine zo 24 36 ?_; refine zo 25 37 ?_; refine zo 26 38 ?_; refine zo 27 39 ?_; refine zo 28 40 ?_; refine zp 29 41 ?_
  refine done_ (by kernel_rfl) ?_
  go_wp2_with fail
  go_ret
  exact ⟨rfl, HB.out⟩
 have f01 : (fa == 0) = false := beq_eq_false_iff_ne.2 f0
 have f02 : (fa != 0) = true := bne_iff_ne.2 f0
 rw [if_neg f0] at h
 obtain rfl := Option.some.inj h
 go_enter Try.func42, Try.ntmps42
 go_wp2_with fail
 have b1_ := blk_new w (Obj.cells #[.int .i64 a0_0, .int .i64 a0_1, .slice A2 l2.length c2, .slice A3 l3.length c3] 31)
 have b2_ := blk_new (w.alloc (Obj.cells #[.int .i64 a0_0, .int .i64 a0_1, .slice A2 l2.length c2, .slice A3 l3.length c3] 31)) (Obj.cells #[.int .i64 b0_0, .int .i64 b0_1, .slice B2 m2.length d2, .slice B3 m3.length d3] 31)
 have XA := Aside0.mk (blk_alloc b1_ (Obj.cells #[.int .i64 b0_0, .int .i64 b0_1, .slice B2 m2.length d2, .slice B3 m3.length d3] 31))
 have e1_ : (w.alloc (Obj.cells #[.int .i64 a0_0, .int .i64 a0_1, .slice A2 l2.length c2, .slice A3 l3.length c3] 31)).heap.size = w.heap.size + 1 := by simp
 rw [e1_] at b2_
 have XB := Aside0.mk b2_
 have HB := Aside0.mk (below_alloc (below_alloc (Below.refl w.heap.size w) (Obj.cells #[.int .i64 a0_0, .int .i64 a0_1, .slice A2 l2.length c2, .slice A3 l3.length c3] 31)) (Obj.cells #[.int .i64 b0_0, .int .i64 b0_1, .slice B2 m2.length d2, .slice B3 m3.length d3] 31))
 clear b1_ b2_
 try rw [e1_]
 generalize (w.alloc (Obj.cells #[.int .i64 a0_0, .int .i64 a0_1, .slice A2 l2.length c2, .slice A3 l3.length c3] 31)).alloc (Obj.cells #[.int .i64 b0_0, .int .i64 b0_1, .slice B2 m2.length d2, .slice B3 m3.length d3] 31) = u0 at XA XB HB ⊢
 clear e1_
 skip
 refine start_ (n := 30) (S := SE8 w.heap.size a0_0 a0_1 (.slice A2 l2.length c2) (.slice A3 l3.length c3) b0_0 b0_1 (.slice B2 m2.length d2) (.slice B3 m3.length d3)) (ds := []) #[false, false, false, false, false, false, false, false, false, false, false, false, false, false, false, false, false, false, false, false, false, false, false, false, false, false, false, false, false, false] (by kernel_rfl) rfl rfl (SE8.mk (W := u0) XA XB) (fun hHeld => ?_)
 replace HB := Aside0.mk (below_drew1 HB.out)
 replace XA := Aside0.mk (blk_drew XA.out)
 replace XB := Aside0.mk (blk_drew XB.out)
 generalize u0.drew = u1 at HB hHeld XA XB ⊢
 refine zt 0 12 ?_
 refine z1 1 (some 13) (fun K hK => ?_)
 refine zg Try.func14 #[.agg #[.int .i64 a0_0, .int .i64 a0_1, .slice A2 l2.length c2, .slice A3 l3.length c3]] ?_
 with_reducible refine (impl_EngineFault.calls k a0_0 a0_1 _ c2 l2 A3 c3 l3 fa _ (Kd.C_below HR2.out HB.out) HC2.out (Kd.C_below HR3.out HB.out) HC3.out HF.out).mono ?_
 rintro e u2 ⟨rfl, hb⟩
 refine ⟨_, rfl, ?_⟩
 replace HB := Aside0.mk (show Below w.heap.size w _ from below_step HB.out hb)
 replace XA := Aside0.mk (keepB hb XA.out)
 replace XB := Aside0.mk (keepB hb XB.out)
 clear hb
 refine hK.out _ _ (SE8.mk XA XB) (fun hHeld => ?_)
 clear hK K
 refine zn 13 ?_
 refine zp 2 14 ?_; refine zp 3 15 ?_; refine zo 4 16 ?_; refine zo 5 17 ?_; refine zo 6 18 ?_; refine zp 7 19 ?_; refine zp 8 20 ?_; refine zo 9 21 ?_; refine zo 10 22 ?_; refine zo 11 23 ?_; refine zo 12 24 ?_; refine zo 13 25 ?_; refine zp 14 26 ?_; refine zp 15 27 ?_; refine zo 16 28 ?_; refine zo 17 29 ?_; refine zo 18 30 ?_; refine zo 19 31 ?_; refine zo 20 32 ?_; refine zp 21 33 ?_; refine zp 22 34 ?_; refine zo 23 35 ?_; refine zo 24 36 ?_; refine zo 25 37 ?_; refine zo 26 38 ?_; refine zo 27 39 ?_; refine zo 28 40 ?_; refine zp 29 41 ?_
 refine done_ (by kernel_rfl) ?_
 go_wp2_with fail
 go_ret
 exact ⟨rfl, HB.out⟩
end Go.Proofs.Ytonbnmaelepcbaa.P
