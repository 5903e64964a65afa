import Derived.Test.YthagppmaofcllaaZz
import Derived.Test.YthagppmaofcllaaP0
import Derived.Test.YthagppmaofcllaaPCcg0
import Derived.Test.YthagppmaofcllaaPCg1
import Derived.Test.YthagppmaofcllaaPDcg0
import Derived.Test.YthagppmaofcllaaPDm1
import Derived.Test.YthagppmaofcllaaWRepsOne
import Derived.Test.YthagppmaofcllaaWTab
import Derived.Test.YthagppmaofcllaaLv
namespace Go.Proofs.Ythagppmaofcllaa.P
open Go.RowKit Go.Proofs.YthagppmaofcllaaW.PrintWords Go.Proofs.YthagppmaofcllaaW.PrintLast Go.Proofs.YthagppmaofcllaaW.PrintMore
attribute [local go_sem] max2_int min2_int max_two min_two max_three min_three max_four min_four   -- for this text's walks alone
set_option linter.unusedVariables false
set_option linter.unusedSimpArgs false
theorem yr0 {p : Prop} (h : p := by repeat (first | (with_reducible first | exact HB.out | apply Qc | apply Qa | apply Qb | refine Qd ?_ (IsS101.ge HI1062.out) | refine Qd ?_ GE29.out | refine Qd ?_ GE31.out) | exact HB.out)) : p := h
theorem yr1 {p : Prop} (h : p := by repeat (first | (with_reducible first | exact HB.out | apply Qc | apply Qa | apply Qb | refine Qd ?_ (IsS101.ge HI1062.out) | refine Qd ?_ GE29.out) | exact HB.out)) : p := h
theorem yr2 {p : Prop} (h : p := by repeat (first | (with_reducible first | exact HI1062.out | apply IsS101.alloc | apply IsS101.drewN | apply IsS101.drew | refine IsS101.far ?_ NB1062_1059.out _ | refine IsS101.far ?_ NB1062_1070.out _ | apply IsS101.set_1) | exact HI1062.out)) : p := h
theorem yr3 {p : Prop} (h : p := by repeat (first | (with_reducible first | exact HI1062.out | apply IsS101.alloc | apply IsS101.drewN | apply IsS101.drew | refine IsS101.far ?_ NB1062_1059.out _ | apply IsS101.set_1) | exact HI1062.out)) : p := h
def ZsDrawCrashLog.T4 : Bool × List (List Nat × List Nat) := (true, [([], []), ([], []), ([], []), ([], []), ([3], [3]), ([2, 4], [2, 4]), ([], []), ([], []), ([7], [7]), ([6, 8, 5], [6, 8]), ([], []), ([], []), ([11], [11]), ([5, 9, 10, 12], [5, 9, 10, 12]), ([1, 13, 9], [1, 13]), ([0, 14, 0], [0]), ([14, 15, 0, 1, 2, 3, 4, 5, 6, 7, 8, 9, 10, 11, 12, 13, 14, 15], [14])])
def ZsDrawCrashLog.B4 : List Nat := [0, 0, 0, 0, 8, 28, 0, 0, 128, 508, 0, 0, 2048, 8188, 16382, 32767, 65535]
theorem ZsDrawCrashLog.tab4 : rtab .any (opsOf Try.f44 4) = ZsDrawCrashLog.T4 := by kernel_rfl
theorem ZsDrawCrashLog.bits4 : waitsOk ZsDrawCrashLog.T4.2 ZsDrawCrashLog.B4 = true := by kernel_rfl
set_option maxHeartbeats 8000000 in
set_option maxRecDepth 100000 in
theorem ZsDrawCrashLog.calls (k : Nat) (A0 : Option Addr) (c0 : Nat) (l0 : List Int) (r1 : List Int) (r2 : List Int) (r3 : Int) (w : World) (hr0 : Kd.C (Kd.int .u8) w A0 l0.length l0) (hc0 : l0.length ≤ c0) (h : ZsDrawCrashLog.f k l0 = some (r1, r2, r3)) :
 Calls Try.prog 44 #[.slice A0 l0.length c0] w fun e w' => ∃ v0_ v1_ : Value, e = .returned (.tuple #[.agg #[v0_, v1_], .int .i64 r3]) ∧ Kd.R (Kd.int .u8) 5 w' w.heap.size (fun k_ => some k_ ≠ (v1_ : Value).ownBlock) v0_ r1 ∧ Kd.R (Kd.int .u8) 5 w' w.heap.size (fun k_ => some k_ ≠ (v0_ : Value).ownBlock) v1_ r2 ∧ Below w.heap.size w w' := by
 have hu27 := Try.underlying27
 have HR0 := Qz.mk hr0
 have HC0 := Qz.mk hc0
 clear hr0 hc0
 have HB := Qz.mk (Below.refl w.heap.size w)
 have H : ((Zsl1Source.f l0).bind fun bt35 => ((Zsl3Log.f k bt35.1 bt35.2).bind fun bt34 => ((Zsl1Next.f bt35.1 bt34.2.2 (wrap64 ((bt34.2.1.length : Int) + 1))).bind fun bt39 => ((Zsl1Next.f bt35.1 bt39.2 (wrap64 ((bt34.2.1.length : Int) + 1))).bind fun bt38 => ((Zsl1Pick.f bt35.1 bt38.2 (([bt39.1, bt38.1, 0, (bt34.2.1.length : Int), wrap64 ((bt34.2.1.length : Int) + 1), (-1)] : List Int))).bind fun bt41 => (some (bt34.1, bt34.2.1, bt41.1))))))) = some (r1, r2, r3) := h
 clear h
 replace H := Option.bind_eq_some_iff.mp H
 obtain ⟨⟨t35, t48⟩, A20, H⟩ := H
 replace H : ((Zsl3Log.f k t35 t48).bind fun bt34 => ((Zsl1Next.f t35 bt34.2.2 (wrap64 ((bt34.2.1.length : Int) + 1))).bind fun bt39 => ((Zsl1Next.f t35 bt39.2 (wrap64 ((bt34.2.1.length : Int) + 1))).bind fun bt38 => ((Zsl1Pick.f t35 bt38.2 (([bt39.1, bt38.1, 0, (bt34.2.1.length : Int), wrap64 ((bt34.2.1.length : Int) + 1), (-1)] : List Int))).bind fun bt41 => (some (bt34.1, bt34.2.1, bt41.1)))))) = some (r1, r2, r3) := H
 have A2 := Qz.mk A20
 clear A20
 replace H := Option.bind_eq_some_iff.mp H
 obtain ⟨⟨t34, t33, t43⟩, A30, H⟩ := H
 replace H : ((Zsl1Next.f t35 t43 (wrap64 ((t33.length : Int) + 1))).bind fun bt39 => ((Zsl1Next.f t35 bt39.2 (wrap64 ((t33.length : Int) + 1))).bind fun bt38 => ((Zsl1Pick.f t35 bt38.2 (([bt39.1, bt38.1, 0, (t33.length : Int), wrap64 ((t33.length : Int) + 1), (-1)] : List Int))).bind fun bt41 => (some (t34, t33, bt41.1))))) = some (r1, r2, r3) := H
 have A3 := Qz.mk A30
 clear A30
 replace H := Option.bind_eq_some_iff.mp H
 obtain ⟨⟨t39, t47⟩, A40, H⟩ := H
 replace H : ((Zsl1Next.f t35 t47 (wrap64 ((t33.length : Int) + 1))).bind fun bt38 => ((Zsl1Pick.f t35 bt38.2 (([t39, bt38.1, 0, (t33.length : Int), wrap64 ((t33.length : Int) + 1), (-1)] : List Int))).bind fun bt41 => (some (t34, t33, bt41.1)))) = some (r1, r2, r3) := H
 have A4 := Qz.mk A40
 clear A40
 replace H := Option.bind_eq_some_iff.mp H
 obtain ⟨⟨t38, t45⟩, A50, H⟩ := H
 replace H : ((Zsl1Pick.f t35 t45 (([t39, t38, 0, (t33.length : Int), wrap64 ((t33.length : Int) + 1), (-1)] : List Int))).bind fun bt41 => (some (t34, t33, bt41.1))) = some (r1, r2, r3) := H
 have A5 := Qz.mk A50
 clear A50
 obtain ⟨y42, hy42⟩ : ∃ y_ : List Int, y_ = (([t39, t38, 0, (t33.length : Int), wrap64 ((t33.length : Int) + 1), (-1)] : List Int)) := ⟨_, rfl⟩
 replace H : ((Zsl1Pick.f t35 t45 y42).bind fun bt41 => (some (t34, t33, bt41.1))) = some (r1, r2, r3) := by first | (rw [hy42]; with_reducible exact H) | (have H2_ := (Option.bind_some _ _).symm.trans H; rw [hy42]; with_reducible exact H2_) | (have H2_ := (Option.bind_some _ _).symm.trans H; with_reducible exact H2_) | with_reducible exact H | (rw [hy42]; exact H) | exact H
 have Ny42 := Qz.mk hy42
 clear hy42
 replace H := Option.bind_eq_some_iff.mp H
 obtain ⟨⟨t41, t49⟩, A60, H⟩ := H
 replace H : (some (t34, t33, t41)) = some (r1, r2, r3) := H
 have A6 := Qz.mk A60
 clear A60
 simp only [Option.some.injEq, Prod.mk.injEq] at H
 obtain ⟨rfl, rfl, rfl⟩ := H
 go_enter Try.func44, Try.ntmps44
 try go_wp2_with (first | ((with_reducible refine gate_dst (N := 2) rfl ?_); refine box_event ?hg (N := 2) ?hd (cs := #[.slice none 0 0, .slice none 0 0]) (t := 27) ?hr ?_; (case hd => rfl); (case hg => rfl); (case hr => first | (go_simp; done) | (go_simp; rfl)); intro gb29 hg w7 hbox hb; have n0_ := Qz.mk (Qq zb hb); have n1_ := Qz.mk (hbox); have n2_ := Qz.mk ((zh hg : w.heap.size ≤ gb29)); have n3_ := n2_; clear HB; have HB := n0_; have BK29 := n1_; have GW29 := n2_; have GE29 := n3_; clear n0_ n1_ n2_ n3_; clear hb hbox hg) | ((with_reducible refine gate_callee (f := 63) rfl ?_); refine Qat (some 8) rfl rfl Try.func63 (by kernel_rfl) rfl #[.slice A0 l0.length c0] rfl zm ?_; (with_reducible refine (Zsl1Source.calls _ _ l0 t35 t48 w _ ?side1 ?side2 ?side3 A2.out).mono ?_); (case side1 => repeat (first | (with_reducible first | exact HB.out | apply Qc | apply Qa | apply Qb | refine Qd ?_ GE29.out) | exact HB.out)); (case side2 => exact HR0.out); (case side3 => exact HC0.out); rintro e w8 ⟨g1062, rfl, hi, hb, hb2⟩; refine ⟨_, rfl, ?_⟩; have n0_ := Qz.mk (Qi (g := gb29) (o := .cells #[.slice none 0 0, .slice none 0 0] 27 (0, 0)) zk hb2); have n1_ := Qz.mk (hb); have n2_ := Qz.mk (hi); have n3_ := Qz.mk (IsS101.ne_blk hi (Qi (g := gb29) (o := .cells #[.slice none 0 0, .slice none 0 0] 27 (0, 0)) zk hb2) (by decide)); have n4_ := Qz.mk (Ne.symm (IsS101.ne_blk hi (Qi (g := gb29) (o := .cells #[.slice none 0 0, .slice none 0 0] 27 (0, 0)) zk hb2) (by decide))); clear BK29; clear HB; have BK29 := n0_; have HB := n1_; have HI1062 := n2_; have NB1062_1059 := n3_; have NB1059_1062 := n4_; clear n0_ n1_ n2_ n3_ n4_; (try clear hb); (try clear hb2); (try clear hk); (try clear hi)) | ((with_reducible refine gate_callee (f := 78) rfl ?_); refine Qat (some 10) rfl rfl Try.func78 (by kernel_rfl) rfl #[.pointer (some ⟨g1062, 0, none⟩)] rfl zm ?_; (with_reducible refine (Zsl3Log.calls k g1062 t35 t48 t34 t33 t43 w _ ?side1 ?side2 A3.out).mono ?_); (case side1 => exact yr3); (case side2 => exact yr1); rintro e w9 ⟨v51, v52, rfl, ho0, ho1, hi, hb, hk⟩; refine ⟨_, rfl, ?_⟩; have n0_ := Qz.mk (Qau.blk hk (g' := gb29) (o := .cells #[.slice none 0 0, .slice none 0 0] 27 (0, 0)) zk NB1059_1062.out (by simp)); have n1_ := Qz.mk (Kd.Qan ho0 (Qp yr1)); have n2_ := Qz.mk (Kd.Qan ho1 (Qp yr1)); have n3_ := Qz.mk (hb); have n4_ := Qz.mk (hi); clear BK29; clear HB; clear HI1062; have BK29 := n0_; have HO36 := n1_; have HO37 := n2_; have HB := n3_; have HI1062 := n4_; clear n0_ n1_ n2_ n3_ n4_; (try clear hb); (try clear hb2); (try clear hk); (try clear hi); (try clear ho0); (try clear ho1)) | ((with_reducible refine gate_dst (N := 5) rfl ?_); refine box_event ?hg (N := 5) ?hd (cs := #[.slice none 0 0, .slice none 0 0]) (t := 27) ?hr ?_; (case hd => rfl); (case hg => rfl); (case hr => first | (go_simp; done) | (go_simp; rfl)); intro gb31 hg w10 hbox hb; have n0_ := Qz.mk (Kd.Qy (zr HO36) hb); have n1_ := Qz.mk (Kd.Qy (zr HO37) hb); have n2_ := Qz.mk (Qi (g := gb29) (o := .cells #[.slice none 0 0, .slice none 0 0] 27 (0, 0)) zk hb); have n3_ := Qz.mk (IsS101.below yr3 hb); have n4_ := Qz.mk (Qq yr1 hb); have n5_ := Qz.mk (hbox); have n6_ := Qz.mk ((by rw [hg]; exact (Qp yr1) : w.heap.size ≤ gb31)); have n7_ := n6_; have n8_ := Qz.mk ((by rw [hg]; exact Nat.ne_of_lt (Ql (g := gb29) (o := .cells #[.slice none 0 0, .slice none 0 0] 27 (0, 0)) zk) : gb29 ≠ gb31)); have n9_ := Qz.mk ((by rw [hg]; exact Nat.ne_of_gt (Ql (g := gb29) (o := .cells #[.slice none 0 0, .slice none 0 0] 27 (0, 0)) zk) : gb31 ≠ gb29)); have n10_ := Qz.mk ((by rw [hg]; exact Nat.ne_of_lt (IsS101.lt (show IsS101 w _ g1062 t35 t43 from by repeat (first | (with_reducible first | exact HI1062.out | apply IsS101.alloc | apply IsS101.drewN | apply IsS101.drew | refine IsS101.far ?_ NB1062_1059.out _ | apply IsS101.set_1) | exact HI1062.out))) : g1062 ≠ gb31)); have n11_ := Qz.mk ((by rw [hg]; exact Nat.ne_of_gt (IsS101.lt (show IsS101 w _ g1062 t35 t43 from by repeat (first | (with_reducible first | exact HI1062.out | apply IsS101.alloc | apply IsS101.drewN | apply IsS101.drew | refine IsS101.far ?_ NB1062_1059.out _ | apply IsS101.set_1) | exact HI1062.out))) : gb31 ≠ g1062)); clear HO36; clear HO37; clear BK29; clear HI1062; clear HB; have HO36 := n0_; have HO37 := n1_; have BK29 := n2_; have HI1062 := n3_; have HB := n4_; have BK31 := n5_; have GW31 := n6_; have GE31 := n7_; have NB1059_1070 := n8_; have NB1070_1059 := n9_; have NB1062_1070 := n10_; have NB1070_1062 := n11_; clear n0_ n1_ n2_ n3_ n4_ n5_ n6_ n7_ n8_ n9_ n10_ n11_; clear hb hbox hg; obtain ⟨Ao11, co11, eo11⟩ := Kd.R_slice HO36.out; subst eo11; have hnb12 := NB1070_1059.out; have hnc12 := NB1059_1070.out; have hnb13 := NB1070_1062.out; have hnc13 := NB1062_1070.out; obtain ⟨z14_0, z14_1, j14_0, j14_1⟩ := Lv.blks2 BK31.out; obtain ⟨Ao15, co15, eo15⟩ := Kd.R_slice HO37.out; subst eo15))
 have n0_ : Qz (Kd.R (Kd.int .u8) 5 ((w10.setCell ⟨gb31, 0, none⟩ (.slice Ao11 t34.length co11)).setCell ⟨gb31, 1, none⟩ (.slice Ao15 t33.length co15)) w.heap.size (fun k_ => some k_ ≠ (.slice Ao15 t33.length co15 : Value).ownBlock) (.slice Ao11 t34.length co11) t34) := ⟨by refine zR ?_; exact Kd.Qw (Kd.Qx (p := ⟨gb31, 1, none⟩) (Kd.Qx (p := ⟨gb31, 0, none⟩) (Kd.Qai HO36.out BK31.out (by decide)) (fun _ hk => hk.2) (.slice Ao11 t34.length co11)) (fun _ hk => hk.2) (.slice Ao15 t33.length co15)) (fun _ hk => hk.1)⟩
 have n1_ : Qz (Kd.R (Kd.int .u8) 5 ((w10.setCell ⟨gb31, 0, none⟩ (.slice Ao11 t34.length co11)).setCell ⟨gb31, 1, none⟩ (.slice Ao15 t33.length co15)) w.heap.size (fun k_ => some k_ ≠ (.slice Ao11 t34.length co11 : Value).ownBlock) (.slice Ao15 t33.length co15) t33) := ⟨by refine zR ?_; exact Kd.Qw (Kd.Qx (p := ⟨gb31, 1, none⟩) (Kd.Qx (p := ⟨gb31, 0, none⟩) (Kd.Qai HO37.out BK31.out (by decide)) (fun _ hk => hk.2) (.slice Ao11 t34.length co11)) (fun _ hk => hk.2) (.slice Ao15 t33.length co15)) (fun _ hk => hk.1)⟩
 have n2_ : Qz (((w10.setCell ⟨gb31, 0, none⟩ (.slice Ao11 t34.length co11)).setCell ⟨gb31, 1, none⟩ (.slice Ao15 t33.length co15)).heap[gb29]? = some (.cells #[.slice none 0 0, .slice none 0 0] 27 (0, 0))) := ⟨by refine zQ ?_; refine blk_far ?_ NB1059_1070.out _; refine zQ ?_; refine blk_far ?_ NB1059_1070.out _; refine zQ ?_; exact BK29.out⟩
 have n3_ : Qz (((w10.setCell ⟨gb31, 0, none⟩ (.slice Ao11 t34.length co11)).setCell ⟨gb31, 1, none⟩ (.slice Ao15 t33.length co15)).heap[gb31]? = some (.cells #[.slice Ao11 t34.length co11, .slice Ao15 t33.length co15] 27 (0, 0))) := ⟨by refine zQ ?_; refine Qk (cs := #[.slice Ao11 t34.length co11, .slice none 0 0]) ?_ 1 _ rfl; refine zQ ?_; refine Qk (cs := #[.slice none 0 0, .slice none 0 0]) ?_ 0 _ rfl; refine zQ ?_; exact BK31.out⟩
 have n4_ : Qz (IsS101 w ((w10.setCell ⟨gb31, 0, none⟩ (.slice Ao11 t34.length co11)).setCell ⟨gb31, 1, none⟩ (.slice Ao15 t33.length co15)) g1062 t35 t43) := ⟨by first | exact (IsS101.far (p := ⟨gb31, 1, none⟩) (IsS101.far (p := ⟨gb31, 0, none⟩) HI1062.out NB1062_1070.out _) NB1062_1070.out _) | (repeat (first | (with_reducible first | exact HI1062.out | apply IsS101.alloc | apply IsS101.drewN | apply IsS101.drew | refine IsS101.far ?_ NB1062_1059.out _ | refine IsS101.far ?_ NB1062_1070.out _ | apply IsS101.set_1) | exact HI1062.out))⟩
 have n5_ : Qz (Below w.heap.size w ((w10.setCell ⟨gb31, 0, none⟩ (.slice Ao11 t34.length co11)).setCell ⟨gb31, 1, none⟩ (.slice Ao15 t33.length co15))) := ⟨by repeat (first | (with_reducible first | exact HB.out | apply Qc | apply Qa | apply Qb | refine Qd ?_ (IsS101.ge HI1062.out) | refine Qd ?_ GE29.out | refine Qd ?_ GE31.out) | exact HB.out)⟩
 (try clear HO36)
 (try clear HO37)
 (try clear BK29)
 (try clear BK31)
 (try clear HI1062)
 (try clear HB)
 generalize ((w10.setCell ⟨gb31, 0, none⟩ (.slice Ao11 t34.length co11)).setCell ⟨gb31, 1, none⟩ (.slice Ao15 t33.length co15)) = w16 at n0_ n1_ n2_ n3_ n4_ n5_ ⊢
 have HO36 := n0_
 have HO37 := n1_
 have BK29 := n2_
 have BK31 := n3_
 have HI1062 := n4_
 have HB := n5_
 clear n0_ n1_ n2_ n3_ n4_ n5_
 have n0_ := Qz.mk (Kd.Qo HO36.out)
 have n1_ := Qz.mk (Kd.Qo HO37.out)
 have n2_ := Qz.mk (Qg BK29.out)
 have n3_ := Qz.mk (Qg BK31.out)
 have n4_ := Qz.mk (IsS101.drew HI1062.out)
 have n5_ := Qz.mk (Qb HB.out)
 clear HO36
 clear HO37
 clear BK29
 clear BK31
 clear HI1062
 clear HB
 have HO36 := n0_
 have HO37 := n1_
 have BK29 := n2_
 have BK31 := n3_
 have HI1062 := n4_
 have HB := n5_
 clear n0_ n1_ n2_ n3_ n4_ n5_
 refine start_ (n := 17) (S := fun w' => w'.cell? ⟨gb31, 0, none⟩ = some (.slice Ao11 t34.length co11) ∧ w'.cell? ⟨gb31, 1, none⟩ = some (.slice Ao15 t33.length co15)) (ds := []) #[Z, Z, Z, Z, Z, Z, Z, Z, Z, Z, Z, Z, Z, Z, Z, Z, Z] (by kernel_rfl) rfl rfl ⟨(Qh BK31.out 0).trans rfl, (Qh BK31.out 1).trans rfl⟩ (fun hHeld => ?_); refine with_tabW ZsDrawCrashLog.tab4 ZsDrawCrashLog.bits4 (fun HT_ HW_ => ?_)
 generalize w16.drew = w17 at HO36 HO37 BK29 BK31 HI1062 HB hHeld ⊢
 refine zp 1 15 ?_; refine zp 2 16 ?_; refine zp 3 17 ?_; refine zp 4 18 ?_; refine zp 6 20 ?_; refine zp 7 21 ?_; refine zp 8 22 ?_; refine zp 10 24 ?_; refine zp 11 25 ?_; refine zp 12 26 ?_; refine zt 0 14 ?_
 refine one_ (i := 5) (N := some 19) #[Y, Y, Y, Y, Y, Y, Y, Y, Y, Z, Y, Y, Y, Z, Z, Z, Z] rfl rfl (one_of HT_.out (by kernel_rfl)) (by decide) (fun K hK => ?_)
 refine goes_ Try.func64 (by kernel_rfl) rfl #[.pointer (some ⟨g1062, 0, none⟩), .int .i64 (wrap64 ((t33.length : Int) + 1))] (by rfl) rfl rfl zm ?_
 with_reducible refine (Zsl1Next.calls g1062 t35 t43 (wrap64 ((t33.length : Int) + 1)) t39 t47 w _ ?side1 ?side2 A4.out).mono ?_
 (case side1 => exact yr2)
 (case side2 => exact yr0)
 rintro e w18 ⟨rfl, hi, hb, hk⟩
 refine ⟨_, rfl, ?_⟩
 have n0_ := Qz.mk (Qau.blk hk (g' := gb29) (o := .cells #[.slice none 0 0, .slice none 0 0] 27 (0, 0)) zk NB1059_1062.out (by simp))
 have n1_ := Qz.mk (Kd.Qw (Kd.R_keep (IsS101.apart (show IsS101 w _ g1062 t35 t43 from by repeat (first | (with_reducible first | exact HI1062.out | apply IsS101.alloc | apply IsS101.drewN | apply IsS101.drew | refine IsS101.far ?_ NB1062_1059.out _ | refine IsS101.far ?_ NB1062_1070.out _ | apply IsS101.set_1) | exact HI1062.out)) (zr HO36) (by decide)) hk (fun _ h => h.2)) (fun _ h => h.1))
 have n2_ := Qz.mk (Kd.Qw (Kd.R_keep (IsS101.apart (show IsS101 w _ g1062 t35 t43 from by repeat (first | (with_reducible first | exact HI1062.out | apply IsS101.alloc | apply IsS101.drewN | apply IsS101.drew | refine IsS101.far ?_ NB1062_1059.out _ | refine IsS101.far ?_ NB1062_1070.out _ | apply IsS101.set_1) | exact HI1062.out)) (zr HO37) (by decide)) hk (fun _ h => h.2)) (fun _ h => h.1))
 have n3_ := Qz.mk (Qau.blk hk (g' := gb31) (o := .cells #[.slice Ao11 t34.length co11, .slice Ao15 t33.length co15] 27 (0, 0)) zk NB1070_1062.out (by simp))
 have n4_ := Qz.mk (hb)
 have n5_ := Qz.mk (hi)
 clear BK29
 clear HO36
 clear HO37
 clear BK31
 clear HB
 clear HI1062
 have BK29 := n0_
 have HO36 := n1_
 have HO37 := n2_
 have BK31 := n3_
 have HB := n4_
 have HI1062 := n5_
 clear n0_ n1_ n2_ n3_ n4_ n5_
 (try clear hb)
 (try clear hb2)
 (try clear hk)
 (try clear hi)
 refine hK.out _ _ ⟨(Qh BK31.out 0).trans rfl, (Qh BK31.out 1).trans rfl⟩ (fun hHeld => ?_)
 clear hK K
 refine norm_ (a' := ?_) ?_ ?_
 rotate_left
 ·show Act.put _ (some 19) _ = _
  simp only [Act.put, List.setIfInBounds_toArray, List.set_cons_zero, List.set_cons_succ, Qar, Qas]
  rfl
 refine one_ (i := 9) (N := some 23) #[Y, Y, Y, Y, Y, Y, Y, Y, Y, Y, Y, Y, Y, Z, Z, Z, Z] rfl rfl (one_of HT_.out (by kernel_rfl)) (by decide) (fun K hK => ?_)
 refine goes_ Try.func64 (by kernel_rfl) rfl #[.pointer (some ⟨g1062, 0, none⟩), .int .i64 (wrap64 ((t33.length : Int) + 1))] (by rfl) rfl rfl zm ?_
 with_reducible refine (Zsl1Next.calls g1062 t35 t47 (wrap64 ((t33.length : Int) + 1)) t38 t45 w _ ?side1 ?side2 A5.out).mono ?_
 (case side1 => exact yr2)
 (case side2 => exact yr0)
 rintro e w19 ⟨rfl, hi, hb, hk⟩
 refine ⟨_, rfl, ?_⟩
 have n0_ := Qz.mk (Qau.blk hk (g' := gb29) (o := .cells #[.slice none 0 0, .slice none 0 0] 27 (0, 0)) zk NB1059_1062.out (by simp))
 have n1_ := Qz.mk (Kd.Qw (Kd.R_keep (IsS101.apart (show IsS101 w _ g1062 t35 t47 from by repeat (first | (with_reducible first | exact HI1062.out | apply IsS101.alloc | apply IsS101.drewN | apply IsS101.drew | refine IsS101.far ?_ NB1062_1059.out _ | refine IsS101.far ?_ NB1062_1070.out _ | apply IsS101.set_1) | exact HI1062.out)) (zr HO36) (by decide)) hk (fun _ h => h.2)) (fun _ h => h.1))
 have n2_ := Qz.mk (Kd.Qw (Kd.R_keep (IsS101.apart (show IsS101 w _ g1062 t35 t47 from by repeat (first | (with_reducible first | exact HI1062.out | apply IsS101.alloc | apply IsS101.drewN | apply IsS101.drew | refine IsS101.far ?_ NB1062_1059.out _ | refine IsS101.far ?_ NB1062_1070.out _ | apply IsS101.set_1) | exact HI1062.out)) (zr HO37) (by decide)) hk (fun _ h => h.2)) (fun _ h => h.1))
 have n3_ := Qz.mk (Qau.blk hk (g' := gb31) (o := .cells #[.slice Ao11 t34.length co11, .slice Ao15 t33.length co15] 27 (0, 0)) zk NB1070_1062.out (by simp))
 have n4_ := Qz.mk (hb)
 have n5_ := Qz.mk (hi)
 clear BK29
 clear HO36
 clear HO37
 clear BK31
 clear HB
 clear HI1062
 have BK29 := n0_
 have HO36 := n1_
 have HO37 := n2_
 have BK31 := n3_
 have HB := n4_
 have HI1062 := n5_
 clear n0_ n1_ n2_ n3_ n4_ n5_
 (try clear hb)
 (try clear hb2)
 (try clear hk)
 (try clear hi)
 refine hK.out _ _ ⟨(Qh BK31.out 0).trans rfl, (Qh BK31.out 1).trans rfl⟩ (fun hHeld => ?_)
 clear hK K
 refine norm_ (a' := ?_) ?_ ?_
 rotate_left
 ·show Act.put _ (some 23) _ = _
  simp only [Act.put, List.setIfInBounds_toArray, List.set_cons_zero, List.set_cons_succ, Qar, Qas]
  rfl
 refine one_ (i := 13) (N := some 27) #[Y, Y, Y, Y, Y, Y, Y, Y, Y, Y, Y, Y, Y, Y, Z, Z, Z] rfl rfl (one_of HT_.out (by kernel_rfl)) (by decide) (fun K hK => ?_)
 refine Kd.R_lit_step (Kd.int .i64) _ 2 ?hg (N := 27) ?hd (xs := ([t39, t38, 0, (t33.length : Int), wrap64 ((t33.length : Int) + 1), (-1)] : List Int)) (inner := [.int .i64 t39, .int .i64 t38, .int .i64 0, .int .i64 (t33.length : Int), .int .i64 (wrap64 ((t33.length : Int) + 1)), .int .i64 (-1)]) (ok := fun _ => True) (okp := fun _ => True) ?hr ?hp (fun _ hk => hk) trivial (Below.refl _ _) (Nat.le_refl _) (by simp) ?_; (case hd => rfl); (case hg => rfl); (case hr => first | (go_simp; done) | (go_simp; rfl)); (case hp => exact (Reps.one (show Kd.M (Kd.int .i64) _ _ _ t39 [.int .i64 t39] from rfl) (Reps.one (show Kd.M (Kd.int .i64) _ _ _ t38 [.int .i64 t38] from rfl) (Reps.one (show Kd.M (Kd.int .i64) _ _ _ 0 [.int .i64 0] from rfl) (Reps.one (show Kd.M (Kd.int .i64) _ _ _ (t33.length : Int) [.int .i64 (t33.length : Int)] from rfl) (Reps.one (show Kd.M (Kd.int .i64) _ _ _ (wrap64 ((t33.length : Int) + 1)) [.int .i64 (wrap64 ((t33.length : Int) + 1))] from rfl) (Reps.one (show Kd.M (Kd.int .i64) _ _ _ (-1) [.int .i64 (-1)] from rfl) (Reps.none _ _))))))))
 intro v53 w20 ho21 hb hg_ hnew_
 clear hg_ hnew_
 (first | rw [← Ny42.out] at ho21 | (simp only [Int.reduceToNat] at ho21; rw [← Ny42.out] at ho21))
 have n0_ := Qz.mk (Kd.Qy (zr HO36) hb)
 have n1_ := Qz.mk (Kd.Qy (zr HO37) hb)
 have n2_ := Qz.mk (Kd.Qan ho21 (Qp yr0))
 have n3_ := Qz.mk (Qi (g := gb29) (o := .cells #[.slice none 0 0, .slice none 0 0] 27 (0, 0)) zk hb)
 have n4_ := Qz.mk (IsS101.below yr2 hb)
 have n5_ := Qz.mk (Qi (g := gb31) (o := .cells #[.slice Ao11 t34.length co11, .slice Ao15 t33.length co15] 27 (0, 0)) zk hb)
 have n6_ := Qz.mk (Qq yr0 hb)
 clear HO36
 clear HO37
 clear BK29
 clear HI1062
 clear BK31
 clear HB
 have HO36 := n0_
 have HO37 := n1_
 have HO46 := n2_
 have BK29 := n3_
 have HI1062 := n4_
 have BK31 := n5_
 have HB := n6_
 clear n0_ n1_ n2_ n3_ n4_ n5_ n6_
 clear hb ho21
 obtain ⟨Ao22, co22, eo22⟩ := Kd.R_slice HO46.out
 (first | subst eo22 | (injection eo22 with f1_ f2_ f3_; have f4_ := f1_.symm; have f5_ := f3_.symm; clear f1_ f2_ f3_; subst f4_; subst f5_))
 refine hK.out _ _ ⟨(Qh BK31.out 0).trans rfl, (Qh BK31.out 1).trans rfl⟩ (fun hHeld => ?_)
 clear hK K
 refine norm_ (a' := ?_) ?_ ?_
 rotate_left
 ·show Act.put _ (some 27) _ = _
  simp only [Act.put, List.setIfInBounds_toArray, List.set_cons_zero, List.set_cons_succ, Qar, Qas]
  rfl
 refine one_ (i := 14) (N := some 28) #[Y, Y, Y, Y, Y, Y, Y, Y, Y, Y, Y, Y, Y, Y, Y, Z, Z] rfl rfl (one_of HT_.out (by kernel_rfl)) (by decide) (fun K hK => ?_)
 refine goes_ Try.func68 (by kernel_rfl) rfl #[.pointer (some ⟨g1062, 0, none⟩), .slice Ao22 y42.length co22] (by rfl) rfl rfl zm ?_
 with_reducible refine (Zsl1Pick.calls g1062 t35 t45 _ _ y42 t41 t49 w _ ?side1 ?side2 ?side3 ?side4 ?side5 A6.out).mono ?_
 (case side1 => exact yr2)
 (case side2 => exact yr0)
 (case side3 => exact zc (Kd.Qaj HO46.out).2.2)
 (case side4 => exact (Kd.Qaj HO46.out).2.1)
 (case side5 => exact far_slice (IsS101.own_ne HI1062.out HO46.out (by decide)))
 rintro e w23 ⟨rfl, hi, hb, hk⟩
 refine ⟨_, rfl, ?_⟩
 have n0_ := Qz.mk (Qau.blk hk (g' := gb29) (o := .cells #[.slice none 0 0, .slice none 0 0] 27 (0, 0)) zk NB1059_1062.out (by simp))
 have n1_ := Qz.mk (Kd.Qw (Kd.R_keep (IsS101.apart (show IsS101 w _ g1062 t35 t45 from by repeat (first | (with_reducible first | exact HI1062.out | apply IsS101.alloc | apply IsS101.drewN | apply IsS101.drew | refine IsS101.far ?_ NB1062_1059.out _ | refine IsS101.far ?_ NB1062_1070.out _ | apply IsS101.set_1) | exact HI1062.out)) (zr HO36) (by decide)) hk (fun _ h => h.2)) (fun _ h => h.1))
 have n2_ := Qz.mk (Kd.Qw (Kd.R_keep (IsS101.apart (show IsS101 w _ g1062 t35 t45 from by repeat (first | (with_reducible first | exact HI1062.out | apply IsS101.alloc | apply IsS101.drewN | apply IsS101.drew | refine IsS101.far ?_ NB1062_1059.out _ | refine IsS101.far ?_ NB1062_1070.out _ | apply IsS101.set_1) | exact HI1062.out)) (zr HO37) (by decide)) hk (fun _ h => h.2)) (fun _ h => h.1))
 have n3_ := Qz.mk (Qau.blk hk (g' := gb31) (o := .cells #[.slice Ao11 t34.length co11, .slice Ao15 t33.length co15] 27 (0, 0)) zk NB1070_1062.out (by simp))
 have n4_ := Qz.mk (Kd.Qw (Kd.R_keep (IsS101.apart (show IsS101 w _ g1062 t35 t45 from by repeat (first | (with_reducible first | exact HI1062.out | apply IsS101.alloc | apply IsS101.drewN | apply IsS101.drew | refine IsS101.far ?_ NB1062_1059.out _ | refine IsS101.far ?_ NB1062_1070.out _ | apply IsS101.set_1) | exact HI1062.out)) (zr HO46) (by decide)) hk (fun _ h => h.2)) (fun _ h => h.1))
 have n5_ := Qz.mk (hb)
 have n6_ := Qz.mk (hi)
 clear BK29
 clear HO36
 clear HO37
 clear BK31
 clear HO46
 clear HB
 clear HI1062
 have BK29 := n0_
 have HO36 := n1_
 have HO37 := n2_
 have BK31 := n3_
 have HO46 := n4_
 have HB := n5_
 have HI1062 := n6_
 clear n0_ n1_ n2_ n3_ n4_ n5_ n6_
 (try clear hb)
 (try clear hb2)
 (try clear hk)
 (try clear hi)
 refine hK.out _ _ ⟨(Qh BK31.out 0).trans rfl, (Qh BK31.out 1).trans rfl⟩ (fun hHeld => ?_)
 clear hK K
 refine norm_ (a' := ?_) ?_ ?_
 rotate_left
 ·show Act.put _ (some 28) _ = _
  simp only [Act.put, List.setIfInBounds_toArray, List.set_cons_zero, List.set_cons_succ, Qar, Qas]
  rfl
 refine one_ (i := 15) (N := none) #[Y, Y, Y, Y, Y, Y, Y, Y, Y, Y, Y, Y, Y, Y, Y, Y, Z] rfl rfl (one_of HT_.out (by kernel_rfl)) (by decide) (fun K hK => ?_)
 have hs24 : w23.cell? ⟨gb29, 0, none⟩ = some (.slice none 0 0) := (Qh BK29.out 0).trans rfl
 have hfs24 := Qj BK29.out 0
 have hns24_1 := NB1070_1059.out
 have hms24_1 := NB1059_1070.out
 have hs25 : w23.cell? ⟨gb29, 1, none⟩ = some (.slice none 0 0) := (Qh BK29.out 1).trans rfl
 have hfs25 := Qj BK29.out 1
 have hns25_1 := NB1070_1059.out
 have hms25_1 := NB1059_1070.out
 refine skip_ (w1 := ?_) (by rfl) rfl ?_ ?_
 rotate_left
 ·go_simp
  rfl
 refine hK.out _ _ ⟨((Qaq (p := ⟨gb29, _, none⟩) NB1070_1059.out _).trans (((Qaq (p := ⟨gb29, _, none⟩) NB1070_1059.out _).trans (hHeld.1)))), ((Qaq (p := ⟨gb29, _, none⟩) NB1070_1059.out _).trans (((Qaq (p := ⟨gb29, _, none⟩) NB1070_1059.out _).trans (hHeld.2))))⟩ (fun hHeld => ?_)
 clear hK K
 refine zp 16 3 ?_
 refine done_ (done_of HT_.out (by kernel_rfl)) ?_
 try go_wp2
 refine bodyPost_ret (results_ct rfl _ _ gb29 27 #[.slice Ao11 t34.length co11, .slice Ao15 t33.length co15] (0, 0) _ rfl (by refine zQ ?_; refine Qk (cs := #[.slice Ao11 t34.length co11, .slice none 0 0]) ?_ 1 _ rfl; refine zQ ?_; refine Qk (cs := #[.slice none 0 0, .slice none 0 0]) ?_ 0 _ rfl; refine zQ ?_; exact BK29.out) Try.underlying27 rfl (by kernel_rfl)) rfl ?_
 exact ⟨_, _, ze, by refine zR ?_; exact Kd.Qw (Kd.Qx (p := ⟨gb29, 1, none⟩) (Kd.Qx (p := ⟨gb29, 0, none⟩) (Kd.Qai HO36.out BK29.out (by decide)) (fun _ hk => hk.2) (.slice Ao11 t34.length co11)) (fun _ hk => hk.2) (.slice Ao15 t33.length co15)) (fun _ hk => hk.1), by refine zR ?_; exact Kd.Qw (Kd.Qx (p := ⟨gb29, 1, none⟩) (Kd.Qx (p := ⟨gb29, 0, none⟩) (Kd.Qai HO37.out BK29.out (by decide)) (fun _ hk => hk.2) (.slice Ao11 t34.length co11)) (fun _ hk => hk.2) (.slice Ao15 t33.length co15)) (fun _ hk => hk.1), by repeat (first | (with_reducible first | exact HB.out | apply Qc | apply Qa | apply Qb | refine Qd ?_ (IsS101.ge HI1062.out) | refine Qd ?_ GE29.out | refine Qd ?_ GE31.out) | exact HB.out)⟩
end Go.Proofs.Ythagppmaofcllaa.P
