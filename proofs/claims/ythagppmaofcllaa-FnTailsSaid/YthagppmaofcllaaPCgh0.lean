import Derived.Test.YthagppmaofcllaaZz
import Derived.Test.YthagppmaofcllaaP0
import Derived.Test.YthagppmaofcllaaPCaefgh0
import Derived.Test.YthagppmaofcllaaPCdgh0
import Derived.Test.YthagppmaofcllaaPDm0
import Derived.Test.YthagppmaofcllaaPDm1
import Derived.Test.YthagppmaofcllaaWRepsOne
import Derived.Test.YthagppmaofcllaaLv
import Derived.Test.YthagppmaofcllaaLv
namespace Go.Proofs.Ythagppmaofcllaa.P
open Go.RowKit Go.Proofs.YthagppmaofcllaaW.PrintWords Go.Proofs.YthagppmaofcllaaW.PrintLast Go.Proofs.YthagppmaofcllaaW.PrintMore
attribute [local go_sem] max2_int min2_int max_two min_two max_three min_three max_four min_four   -- for this text's walks alone
set_option linter.unusedVariables false
set_option linter.unusedSimpArgs false
theorem yt0 {p : Prop} (h : p := by rw [hg]; exact Nat.ne_of_lt (Ql (g := gb23) (o := .cells #[.slice A0_0 l0_0.length c0_0, .slice A0_1 l0_1.length c0_1] 27 (0, 0)) zk)) : p := h
theorem yt1 {p : Prop} (h : p := by rw [hg]; exact Nat.ne_of_gt (Ql (g := gb23) (o := .cells #[.slice A0_0 l0_0.length c0_0, .slice A0_1 l0_1.length c0_1] 27 (0, 0)) zk)) : p := h
theorem yt2 {p : Prop} (h : p := by refine zQ ?_; refine Qk (cs := #[.int .i64 t25, .int .i64 t31, .slice none 0 0]) ?_ 2 _ rfl; refine zQ ?_; refine Qk (cs := #[.int .i64 t25, .int .i64 0, .slice none 0 0]) ?_ 1 _ rfl; refine zQ ?_; refine Qk (cs := #[.int .i64 0, .int .i64 0, .slice none 0 0]) ?_ 0 _ rfl; refine zQ ?_; exact BK24.out) : p := h
theorem yt3 {p : Prop} (h : p := by refine zQ ?_; refine Qk (cs := #[.int .i64 t26, .int .i64 0, .slice none 0 0]) ?_ 2 _ rfl; refine zQ ?_; refine Qk (cs := #[.int .i64 t26, .int .i64 0, .slice none 0 0]) ?_ 1 _ rfl; refine zQ ?_; refine Qk (cs := #[.int .i64 0, .int .i64 0, .slice none 0 0]) ?_ 0 _ rfl; refine zQ ?_; exact BK24.out) : p := h
theorem yt4 {p : Prop} (h : p := by first | (go_simp; done) | (go_simp; rfl)) : p := h
set_option maxHeartbeats 8000000 in
set_option maxRecDepth 100000 in
theorem ZiRecsOf.calls (k : Nat) (A0_0 : Option Addr) (c0_0 : Nat) (l0_0 : List Int) (A0_1 : Option Addr) (c0_1 : Nat) (l0_1 : List Int) (r1 : Int) (r2 : Int) (r3 : List (S48)) (w : World) (hr0_0 : Kd.C (Kd.int .u8) w A0_0 l0_0.length l0_0) (hc0_0 : l0_0.length ≤ c0_0) (hr0_1 : Kd.C (Kd.int .u8) w A0_1 l0_1.length l0_1) (hc0_1 : l0_1.length ≤ c0_1) (h : ZiRecsOf.f k l0_0 l0_1 = some (r1, r2, r3)) :
 Calls Try.prog 45 #[.agg #[.slice A0_0 l0_0.length c0_0, .slice A0_1 l0_1.length c0_1]] w fun e w' => ∃ v2_ : Value, e = .returned (.agg #[.int .i64 r1, .int .i64 r2, v2_]) ∧ Kd.R k48 48 w' w.heap.size (fun _ => True) v2_ r3 ∧ Below w.heap.size w w' := by
 have hu27 := Try.underlying27
 have hu51 := Try.underlying51
 have HR0_0 := Qz.mk hr0_0
 have HC0_0 := Qz.mk hc0_0
 clear hr0_0 hc0_0
 have HR0_1 := Qz.mk hr0_1
 have HC0_1 := Qz.mk hc0_1
 clear hr0_1 hc0_1
 have HB := Qz.mk (Below.refl w.heap.size w)
 have H : ((ZiLogFault.f k l0_0 l0_1).bind fun t26 => (if t26 = 0 then ((ZiLog_all.f k l0_0 l0_1).bind fun t28 => ((ZiUnpackRecs.f k t28).bind fun bt25 => (some (bt25.1, bt25.2.1, bt25.2.2)))) else (some (t26, 0, ([] : List (S48)))))) = some (r1, r2, r3) := h
 clear h
 replace H := Option.bind_eq_some_iff.mp H
 obtain ⟨t26, A20, H⟩ := H
 replace H : (if t26 = 0 then ((ZiLog_all.f k l0_0 l0_1).bind fun t28 => ((ZiUnpackRecs.f k t28).bind fun bt25 => (some (bt25.1, bt25.2.1, bt25.2.2)))) else (some (t26, 0, ([] : List (S48))))) = some (r1, r2, r3) := H
 have A2 := Qz.mk A20
 clear A20
 by_cases c3 : t26 = 0
 ·rw [if_pos c3] at H
  have c3b0 : (t26 == 0) = true := beq_iff_eq.mpr c3
  have c3b1 : (t26 != 0) = false := bne_eq_false_iff_eq.mpr c3
  clear c3
  replace H := Option.bind_eq_some_iff.mp H
  obtain ⟨t28, A40, H⟩ := H
  replace H : ((ZiUnpackRecs.f k t28).bind fun bt25 => (some (bt25.1, bt25.2.1, bt25.2.2))) = some (r1, r2, r3) := H
  have A4 := Qz.mk A40
  clear A40
  replace H := Option.bind_eq_some_iff.mp H
  obtain ⟨⟨t25, t31, t32⟩, A50, H⟩ := H
  replace H : (some (t25, t31, t32)) = some (r1, r2, r3) := H
  have A5 := Qz.mk A50
  clear A50
  simp only [Option.some.injEq, Prod.mk.injEq] at H
  obtain ⟨rfl, rfl, rfl⟩ := H
  go_enter Try.func45, Try.ntmps45
  go_wp2_with (first | ((with_reducible refine gate_dst (N := 1) rfl ?_); refine box_event ?hg (N := 1) ?hd (cs := #[.slice A0_0 l0_0.length c0_0, .slice A0_1 l0_1.length c0_1]) (t := 27) ?hr ?_; (case hd => rfl); (case hg => rfl); (case hr => exact yt4); intro gb23 hg w6 hbox hb; have n0_ := Qz.mk (Qq zb hb); have n1_ := Qz.mk (hbox); have n2_ := Qz.mk ((zh hg : w.heap.size ≤ gb23)); have n3_ := n2_; clear HB; have HB := n0_; have BK23 := n1_; have GW23 := n2_; have GE23 := n3_; clear n0_ n1_ n2_ n3_; clear hb hbox hg) | ((with_reducible refine gate_dst (N := 2) rfl ?_); refine box_event ?hg (N := 2) ?hd (cs := #[.int .i64 0, .int .i64 0, .slice none 0 0]) (t := 51) ?hr ?_; (case hd => rfl); (case hg => rfl); (case hr => exact yt4); intro gb24 hg w7 hbox hb; have n0_ := Qz.mk (Qi (g := gb23) (o := .cells #[.slice A0_0 l0_0.length c0_0, .slice A0_1 l0_1.length c0_1] 27 (0, 0)) zk hb); have n1_ := Qz.mk (Qq zb hb); have n2_ := Qz.mk (hbox); have n3_ := Qz.mk ((zh hg : w.heap.size ≤ gb24)); have n4_ := n3_; have n5_ := Qz.mk ((yt0 : gb23 ≠ gb24)); have n6_ := Qz.mk ((yt1 : gb24 ≠ gb23)); clear BK23; clear HB; have BK23 := n0_; have HB := n1_; have BK24 := n2_; have GW24 := n3_; have GE24 := n4_; have NB1080_1081 := n5_; have NB1081_1080 := n6_; clear n0_ n1_ n2_ n3_ n4_ n5_ n6_; clear hb hbox hg; have hnb8 := NB1080_1081.out; have hnc8 := NB1081_1080.out; obtain ⟨z9_0, z9_1, j9_0, j9_1⟩ := Lv.blks2 BK23.out) | ((with_reducible refine gate_callee (f := 14) rfl ?_); refine Qat (some 5) rfl rfl Try.func14 (by kernel_rfl) rfl #[.agg #[.slice A0_0 l0_0.length c0_0, .slice A0_1 l0_1.length c0_1]] rfl zm ?_; (with_reducible refine (ZiLogFault.calls k _ _ l0_0 _ _ l0_1 t26 _ ?side1 ?side2 ?side3 ?side4 A2.out).mono ?_); (case side1 => exact zc (Kd.Qac HR0_0.out HB.out)); (case side2 => exact HC0_0.out); (case side3 => exact zc (Kd.Qac HR0_1.out HB.out)); (case side4 => exact HC0_1.out); rintro e w10 ⟨rfl, hb⟩; refine ⟨_, rfl, ?_⟩; have n0_ := Qz.mk (Qi (g := gb23) (o := .cells #[.slice A0_0 l0_0.length c0_0, .slice A0_1 l0_1.length c0_1] 27 (0, 0)) zk hb); have n1_ := Qz.mk (Qi (g := gb24) (o := .cells #[.int .i64 0, .int .i64 0, .slice none 0 0] 51 (0, 0)) zk hb); have n2_ := Qz.mk (Qq zb hb); clear BK23; clear BK24; clear HB; have BK23 := n0_; have BK24 := n1_; have HB := n2_; clear n0_ n1_ n2_; (try clear hb); (try clear hb2); (try clear hk); (try clear hi); obtain ⟨z11_0, z11_1, j11_0, j11_1⟩ := Lv.blks2 BK23.out) | ((with_reducible refine gate_callee (f := 50) rfl ?_); refine Qat (some 11) rfl rfl Try.func50 (by kernel_rfl) rfl #[.agg #[.slice A0_0 l0_0.length c0_0, .slice A0_1 l0_1.length c0_1]] rfl zm ?_; (with_reducible refine (ZiLog_all.calls k (fun k_ => k_ < w.heap.size) _ _ l0_0 (fun k_ => k_ < w.heap.size) _ _ l0_1 t28 _ ?side1 ?side2 A4.out).mono ?_); (case side1 => exact Kd.V_mk HC0_0.out (Kd.F_below (Kd.C_F (Kd.heap_int .u8) HR0_0.out) zb)); (case side2 => exact Kd.V_mk HC0_1.out (Kd.F_below (Kd.C_F (Kd.heap_int .u8) HR0_1.out) zb)); rintro e w12 ⟨v34, rfl, ho0, hb⟩; refine ⟨_, rfl, ?_⟩; have n0_ := Qz.mk (Kd.Qan (Kd.Qw (ok' := fun k_ => True) ho0 (fun _ hk_ => trivial)) (Qp zb)); have n1_ := Qz.mk (Qi (g := gb23) (o := .cells #[.slice A0_0 l0_0.length c0_0, .slice A0_1 l0_1.length c0_1] 27 (0, 0)) zk hb); have n2_ := Qz.mk (Qi (g := gb24) (o := .cells #[.int .i64 0, .int .i64 0, .slice none 0 0] 51 (0, 0)) zk hb); have n3_ := Qz.mk (Qq zb hb); clear BK23; clear BK24; clear HB; have HO29 := n0_; have BK23 := n1_; have BK24 := n2_; have HB := n3_; clear n0_ n1_ n2_ n3_; (try clear hb); (try clear hb2); (try clear hk); (try clear hi); (try clear ho0); obtain ⟨Ao13, co13, eo13⟩ := Kd.R_slice HO29.out; subst eo13) | ((with_reducible refine gate_callee (f := 30) rfl ?_); refine Qat (some 12) rfl rfl Try.func30 (by kernel_rfl) rfl #[.slice Ao13 t28.length co13] rfl zm ?_; (with_reducible refine (ZiUnpackRecs.calls k _ _ t28 t25 t31 t32 _ ?side1 ?side2 A5.out).mono ?_); (case side1 => exact zc (Kd.Qaj HO29.out).2.2); (case side2 => exact (Kd.Qaj HO29.out).2.1); rintro e w14 ⟨v35, rfl, ho0, hb⟩; refine ⟨_, rfl, ?_⟩; have n0_ := Qz.mk (Kd.Qy (zr HO29) hb); have n1_ := Qz.mk (Kd.Qan ho0 (Qp zb)); have n2_ := Qz.mk (Qi (g := gb23) (o := .cells #[.slice A0_0 l0_0.length c0_0, .slice A0_1 l0_1.length c0_1] 27 (0, 0)) zk hb); have n3_ := Qz.mk (Qi (g := gb24) (o := .cells #[.int .i64 0, .int .i64 0, .slice none 0 0] 51 (0, 0)) zk hb); have n4_ := Qz.mk (Qq zb hb); clear HO29; clear BK23; clear BK24; clear HB; have HO29 := n0_; have HO33 := n1_; have BK23 := n2_; have BK24 := n3_; have HB := n4_; clear n0_ n1_ n2_ n3_ n4_; (try clear hb); (try clear hb2); (try clear hk); (try clear hi); (try clear ho0); obtain ⟨z15_0, z15_1, z15_2, j15_0, j15_1, j15_2⟩ := Lv.blks3 BK24.out; obtain ⟨Ao16, co16, eo16⟩ := Kd.R_slice HO33.out; subst eo16))
  refine bodyPost_ret (results_cell_row rfl _ _ gb24 51 #[.int .i64 t25, .int .i64 t31, .slice Ao16 t32.length co16] (0, 0) _ rfl yt2 Try.underlying51 rfl (by kernel_rfl)) rfl ?_
  exact ⟨_, ze, by refine zR ?_; exact Kd.Qw (Kd.Qx (p := ⟨gb24, 2, none⟩) (Kd.Qx (p := ⟨gb24, 1, none⟩) (Kd.Qx (p := ⟨gb24, 0, none⟩) (Kd.Qai HO33.out BK24.out (by decide)) (fun _ hk => hk.2) (.int .i64 t25)) (fun _ hk => hk.2) (.int .i64 t31)) (fun _ hk => hk.2) (.slice Ao16 t32.length co16)) (fun _ hk => trivial), zb⟩
 rw [if_neg c3] at H
 have c3b0 : (t26 == 0) = false := beq_eq_false_iff_ne.mpr c3
 have c3b1 : (t26 != 0) = true := bne_iff_ne.mpr c3
 simp only [Option.some.injEq, Prod.mk.injEq] at H
 obtain ⟨rfl, rfl, rfl⟩ := H
 go_enter Try.func45, Try.ntmps45
 go_wp2_with (first | ((with_reducible refine gate_dst (N := 1) rfl ?_); refine box_event ?hg (N := 1) ?hd (cs := #[.slice A0_0 l0_0.length c0_0, .slice A0_1 l0_1.length c0_1]) (t := 27) ?hr ?_; (case hd => rfl); (case hg => rfl); (case hr => exact yt4); intro gb23 hg w17 hbox hb; have n0_ := Qz.mk (Qq zb hb); have n1_ := Qz.mk (hbox); have n2_ := Qz.mk ((zh hg : w.heap.size ≤ gb23)); have n3_ := n2_; clear HB; have HB := n0_; have BK23 := n1_; have GW23 := n2_; have GE23 := n3_; clear n0_ n1_ n2_ n3_; clear hb hbox hg) | ((with_reducible refine gate_dst (N := 2) rfl ?_); refine box_event ?hg (N := 2) ?hd (cs := #[.int .i64 0, .int .i64 0, .slice none 0 0]) (t := 51) ?hr ?_; (case hd => rfl); (case hg => rfl); (case hr => exact yt4); intro gb24 hg w18 hbox hb; have n0_ := Qz.mk (Qi (g := gb23) (o := .cells #[.slice A0_0 l0_0.length c0_0, .slice A0_1 l0_1.length c0_1] 27 (0, 0)) zk hb); have n1_ := Qz.mk (Qq zb hb); have n2_ := Qz.mk (hbox); have n3_ := Qz.mk ((zh hg : w.heap.size ≤ gb24)); have n4_ := n3_; have n5_ := Qz.mk ((yt0 : gb23 ≠ gb24)); have n6_ := Qz.mk ((yt1 : gb24 ≠ gb23)); clear BK23; clear HB; have BK23 := n0_; have HB := n1_; have BK24 := n2_; have GW24 := n3_; have GE24 := n4_; have NB1080_1081 := n5_; have NB1081_1080 := n6_; clear n0_ n1_ n2_ n3_ n4_ n5_ n6_; clear hb hbox hg; have hnb19 := NB1080_1081.out; have hnc19 := NB1081_1080.out; obtain ⟨z20_0, z20_1, j20_0, j20_1⟩ := Lv.blks2 BK23.out) | ((with_reducible refine gate_callee (f := 14) rfl ?_); refine Qat (some 5) rfl rfl Try.func14 (by kernel_rfl) rfl #[.agg #[.slice A0_0 l0_0.length c0_0, .slice A0_1 l0_1.length c0_1]] rfl zm ?_; (with_reducible refine (ZiLogFault.calls k _ _ l0_0 _ _ l0_1 t26 _ ?side1 ?side2 ?side3 ?side4 A2.out).mono ?_); (case side1 => exact zc (Kd.Qac HR0_0.out HB.out)); (case side2 => exact HC0_0.out); (case side3 => exact zc (Kd.Qac HR0_1.out HB.out)); (case side4 => exact HC0_1.out); rintro e w21 ⟨rfl, hb⟩; refine ⟨_, rfl, ?_⟩; have n0_ := Qz.mk (Qi (g := gb23) (o := .cells #[.slice A0_0 l0_0.length c0_0, .slice A0_1 l0_1.length c0_1] 27 (0, 0)) zk hb); have n1_ := Qz.mk (Qi (g := gb24) (o := .cells #[.int .i64 0, .int .i64 0, .slice none 0 0] 51 (0, 0)) zk hb); have n2_ := Qz.mk (Qq zb hb); clear BK23; clear BK24; clear HB; have BK23 := n0_; have BK24 := n1_; have HB := n2_; clear n0_ n1_ n2_; (try clear hb); (try clear hb2); (try clear hk); (try clear hi); obtain ⟨z22_0, z22_1, z22_2, j22_0, j22_1, j22_2⟩ := Lv.blks3 BK24.out))
 refine bodyPost_ret (results_cell_row rfl _ _ gb24 51 #[.int .i64 t26, .int .i64 0, .slice none 0 0] (0, 0) _ rfl yt3 Try.underlying51 rfl (by kernel_rfl)) rfl ?_
 exact ⟨_, ze, by first | exact Kd.R_nil _ _ _ _ _ | exact Kd.N_nil _ _ _ _ _ | exact Kd.V_nil _ _ _ _ _ | exact Kd.Q_nil _ _ _ _ _ | exact Kd.S_nil _ _ _ _ _, zb⟩
set_option maxHeartbeats 8000000 in
set_option maxRecDepth 100000 in
theorem ZsRecsOf.calls (k : Nat) (A0_0 : Option Addr) (c0_0 : Nat) (l0_0 : List Int) (A0_1 : Option Addr) (c0_1 : Nat) (l0_1 : List Int) (r1 : Int) (r2 : Int) (r3 : List (S48)) (w : World) (hr0_0 : Kd.C (Kd.int .u8) w A0_0 l0_0.length l0_0) (hc0_0 : l0_0.length ≤ c0_0) (hr0_1 : Kd.C (Kd.int .u8) w A0_1 l0_1.length l0_1) (hc0_1 : l0_1.length ≤ c0_1) (h : ZsRecsOf.f k l0_0 l0_1 = some (r1, r2, r3)) :
 Calls Try.prog 46 #[.agg #[.slice A0_0 l0_0.length c0_0, .slice A0_1 l0_1.length c0_1]] w fun e w' => ∃ v2_ : Value, e = .returned (.agg #[.int .i64 r1, .int .i64 r2, v2_]) ∧ Kd.R k48 48 w' w.heap.size (fun _ => True) v2_ r3 ∧ Below w.heap.size w w' := by
 have hu27 := Try.underlying27
 have hu51 := Try.underlying51
 have HR0_0 := Qz.mk hr0_0
 have HC0_0 := Qz.mk hc0_0
 clear hr0_0 hc0_0
 have HR0_1 := Qz.mk hr0_1
 have HC0_1 := Qz.mk hc0_1
 clear hr0_1 hc0_1
 have HB := Qz.mk (Below.refl w.heap.size w)
 have H : ((ZsLogFault.f k l0_0 l0_1).bind fun t26 => (if t26 = 0 then ((Zsl3All.f l0_0 l0_1).bind fun t29 => ((ZsUnpackRecs.f k t29).bind fun bt25 => (some (bt25.1, bt25.2.1, bt25.2.2)))) else (some (t26, 0, ([] : List (S48)))))) = some (r1, r2, r3) := h
 clear h
 replace H := Option.bind_eq_some_iff.mp H
 obtain ⟨t26, A20, H⟩ := H
 replace H : (if t26 = 0 then ((Zsl3All.f l0_0 l0_1).bind fun t29 => ((ZsUnpackRecs.f k t29).bind fun bt25 => (some (bt25.1, bt25.2.1, bt25.2.2)))) else (some (t26, 0, ([] : List (S48))))) = some (r1, r2, r3) := H
 have A2 := Qz.mk A20
 clear A20
 by_cases c3 : t26 = 0
 ·rw [if_pos c3] at H
  have c3b0 : (t26 == 0) = true := beq_iff_eq.mpr c3
  have c3b1 : (t26 != 0) = false := bne_eq_false_iff_eq.mpr c3
  clear c3
  replace H := Option.bind_eq_some_iff.mp H
  obtain ⟨t29, A40, H⟩ := H
  replace H : ((ZsUnpackRecs.f k t29).bind fun bt25 => (some (bt25.1, bt25.2.1, bt25.2.2))) = some (r1, r2, r3) := H
  have A4 := Qz.mk A40
  clear A40
  replace H := Option.bind_eq_some_iff.mp H
  obtain ⟨⟨t25, t31, t32⟩, A50, H⟩ := H
  replace H : (some (t25, t31, t32)) = some (r1, r2, r3) := H
  have A5 := Qz.mk A50
  clear A50
  simp only [Option.some.injEq, Prod.mk.injEq] at H
  obtain ⟨rfl, rfl, rfl⟩ := H
  go_enter Try.func46, Try.ntmps46
  go_wp2_with (first | ((with_reducible refine gate_dst (N := 1) rfl ?_); refine box_event ?hg (N := 1) ?hd (cs := #[.slice A0_0 l0_0.length c0_0, .slice A0_1 l0_1.length c0_1]) (t := 27) ?hr ?_; (case hd => rfl); (case hg => rfl); (case hr => exact yt4); intro gb23 hg w6 hbox hb; have n0_ := Qz.mk (Qq zb hb); have n1_ := Qz.mk (hbox); have n2_ := Qz.mk ((zh hg : w.heap.size ≤ gb23)); have n3_ := n2_; clear HB; have HB := n0_; have BK23 := n1_; have GW23 := n2_; have GE23 := n3_; clear n0_ n1_ n2_ n3_; clear hb hbox hg) | ((with_reducible refine gate_dst (N := 2) rfl ?_); refine box_event ?hg (N := 2) ?hd (cs := #[.int .i64 0, .int .i64 0, .slice none 0 0]) (t := 51) ?hr ?_; (case hd => rfl); (case hg => rfl); (case hr => exact yt4); intro gb24 hg w7 hbox hb; have n0_ := Qz.mk (Qi (g := gb23) (o := .cells #[.slice A0_0 l0_0.length c0_0, .slice A0_1 l0_1.length c0_1] 27 (0, 0)) zk hb); have n1_ := Qz.mk (Qq zb hb); have n2_ := Qz.mk (hbox); have n3_ := Qz.mk ((zh hg : w.heap.size ≤ gb24)); have n4_ := n3_; have n5_ := Qz.mk ((yt0 : gb23 ≠ gb24)); have n6_ := Qz.mk ((yt1 : gb24 ≠ gb23)); clear BK23; clear HB; have BK23 := n0_; have HB := n1_; have BK24 := n2_; have GW24 := n3_; have GE24 := n4_; have NB1091_1092 := n5_; have NB1092_1091 := n6_; clear n0_ n1_ n2_ n3_ n4_ n5_ n6_; clear hb hbox hg; have hnb8 := NB1091_1092.out; have hnc8 := NB1092_1091.out; obtain ⟨z9_0, z9_1, j9_0, j9_1⟩ := Lv.blks2 BK23.out) | ((with_reducible refine gate_callee (f := 12) rfl ?_); refine Qat (some 5) rfl rfl Try.func12 (by kernel_rfl) rfl #[.agg #[.slice A0_0 l0_0.length c0_0, .slice A0_1 l0_1.length c0_1]] rfl zm ?_; (with_reducible refine (ZsLogFault.calls k _ _ l0_0 _ _ l0_1 t26 _ ?side1 ?side2 ?side3 ?side4 A2.out).mono ?_); (case side1 => exact zc (Kd.Qac HR0_0.out HB.out)); (case side2 => exact HC0_0.out); (case side3 => exact zc (Kd.Qac HR0_1.out HB.out)); (case side4 => exact HC0_1.out); rintro e w10 ⟨rfl, hb⟩; refine ⟨_, rfl, ?_⟩; have n0_ := Qz.mk (Qi (g := gb23) (o := .cells #[.slice A0_0 l0_0.length c0_0, .slice A0_1 l0_1.length c0_1] 27 (0, 0)) zk hb); have n1_ := Qz.mk (Qi (g := gb24) (o := .cells #[.int .i64 0, .int .i64 0, .slice none 0 0] 51 (0, 0)) zk hb); have n2_ := Qz.mk (Qq zb hb); clear BK23; clear BK24; clear HB; have BK23 := n0_; have BK24 := n1_; have HB := n2_; clear n0_ n1_ n2_; (try clear hb); (try clear hb2); (try clear hk); (try clear hi); obtain ⟨z11_0, z11_1, j11_0, j11_1⟩ := Lv.blks2 BK23.out) | ((with_reducible refine gate_callee (f := 48) rfl ?_); refine Qat (some 11) rfl rfl Try.func48 (by kernel_rfl) rfl #[.agg #[.slice A0_0 l0_0.length c0_0, .slice A0_1 l0_1.length c0_1]] rfl zm ?_; (with_reducible refine (Zsl3All.calls _ _ l0_0 _ _ l0_1 t29 _ ?side1 ?side2 ?side3 ?side4 A4.out).mono ?_); (case side1 => exact zc (Kd.Qac HR0_0.out HB.out)); (case side2 => exact HC0_0.out); (case side3 => exact zc (Kd.Qac HR0_1.out HB.out)); (case side4 => exact HC0_1.out); rintro e w12 ⟨v34, rfl, ho0, hb⟩; refine ⟨_, rfl, ?_⟩; have n0_ := Qz.mk (Kd.Qan ho0 (Qp zb)); have n1_ := Qz.mk (Qi (g := gb23) (o := .cells #[.slice A0_0 l0_0.length c0_0, .slice A0_1 l0_1.length c0_1] 27 (0, 0)) zk hb); have n2_ := Qz.mk (Qi (g := gb24) (o := .cells #[.int .i64 0, .int .i64 0, .slice none 0 0] 51 (0, 0)) zk hb); have n3_ := Qz.mk (Qq zb hb); clear BK23; clear BK24; clear HB; have HO30 := n0_; have BK23 := n1_; have BK24 := n2_; have HB := n3_; clear n0_ n1_ n2_ n3_; (try clear hb); (try clear hb2); (try clear hk); (try clear hi); (try clear ho0); obtain ⟨Ao13, co13, eo13⟩ := Kd.R_slice HO30.out; subst eo13) | ((with_reducible refine gate_callee (f := 28) rfl ?_); refine Qat (some 12) rfl rfl Try.func28 (by kernel_rfl) rfl #[.slice Ao13 t29.length co13] rfl zm ?_; (with_reducible refine (ZsUnpackRecs.calls k _ _ t29 t25 t31 t32 _ ?side1 ?side2 A5.out).mono ?_); (case side1 => exact zc (Kd.Qaj HO30.out).2.2); (case side2 => exact (Kd.Qaj HO30.out).2.1); rintro e w14 ⟨v35, rfl, ho0, hb⟩; refine ⟨_, rfl, ?_⟩; have n0_ := Qz.mk (Kd.Qy (zr HO30) hb); have n1_ := Qz.mk (Kd.Qan ho0 (Qp zb)); have n2_ := Qz.mk (Qi (g := gb23) (o := .cells #[.slice A0_0 l0_0.length c0_0, .slice A0_1 l0_1.length c0_1] 27 (0, 0)) zk hb); have n3_ := Qz.mk (Qi (g := gb24) (o := .cells #[.int .i64 0, .int .i64 0, .slice none 0 0] 51 (0, 0)) zk hb); have n4_ := Qz.mk (Qq zb hb); clear HO30; clear BK23; clear BK24; clear HB; have HO30 := n0_; have HO33 := n1_; have BK23 := n2_; have BK24 := n3_; have HB := n4_; clear n0_ n1_ n2_ n3_ n4_; (try clear hb); (try clear hb2); (try clear hk); (try clear hi); (try clear ho0); obtain ⟨z15_0, z15_1, z15_2, j15_0, j15_1, j15_2⟩ := Lv.blks3 BK24.out; obtain ⟨Ao16, co16, eo16⟩ := Kd.R_slice HO33.out; subst eo16))
  refine bodyPost_ret (results_cell_row rfl _ _ gb24 51 #[.int .i64 t25, .int .i64 t31, .slice Ao16 t32.length co16] (0, 0) _ rfl yt2 Try.underlying51 rfl (by kernel_rfl)) rfl ?_
  exact ⟨_, ze, by refine zR ?_; exact Kd.Qw (Kd.Qx (p := ⟨gb24, 2, none⟩) (Kd.Qx (p := ⟨gb24, 1, none⟩) (Kd.Qx (p := ⟨gb24, 0, none⟩) (Kd.Qai HO33.out BK24.out (by decide)) (fun _ hk => hk.2) (.int .i64 t25)) (fun _ hk => hk.2) (.int .i64 t31)) (fun _ hk => hk.2) (.slice Ao16 t32.length co16)) (fun _ hk => trivial), zb⟩
 rw [if_neg c3] at H
 have c3b0 : (t26 == 0) = false := beq_eq_false_iff_ne.mpr c3
 have c3b1 : (t26 != 0) = true := bne_iff_ne.mpr c3
 simp only [Option.some.injEq, Prod.mk.injEq] at H
 obtain ⟨rfl, rfl, rfl⟩ := H
 go_enter Try.func46, Try.ntmps46
 go_wp2_with (first | ((with_reducible refine gate_dst (N := 1) rfl ?_); refine box_event ?hg (N := 1) ?hd (cs := #[.slice A0_0 l0_0.length c0_0, .slice A0_1 l0_1.length c0_1]) (t := 27) ?hr ?_; (case hd => rfl); (case hg => rfl); (case hr => exact yt4); intro gb23 hg w17 hbox hb; have n0_ := Qz.mk (Qq zb hb); have n1_ := Qz.mk (hbox); have n2_ := Qz.mk ((zh hg : w.heap.size ≤ gb23)); have n3_ := n2_; clear HB; have HB := n0_; have BK23 := n1_; have GW23 := n2_; have GE23 := n3_; clear n0_ n1_ n2_ n3_; clear hb hbox hg) | ((with_reducible refine gate_dst (N := 2) rfl ?_); refine box_event ?hg (N := 2) ?hd (cs := #[.int .i64 0, .int .i64 0, .slice none 0 0]) (t := 51) ?hr ?_; (case hd => rfl); (case hg => rfl); (case hr => exact yt4); intro gb24 hg w18 hbox hb; have n0_ := Qz.mk (Qi (g := gb23) (o := .cells #[.slice A0_0 l0_0.length c0_0, .slice A0_1 l0_1.length c0_1] 27 (0, 0)) zk hb); have n1_ := Qz.mk (Qq zb hb); have n2_ := Qz.mk (hbox); have n3_ := Qz.mk ((zh hg : w.heap.size ≤ gb24)); have n4_ := n3_; have n5_ := Qz.mk ((yt0 : gb23 ≠ gb24)); have n6_ := Qz.mk ((yt1 : gb24 ≠ gb23)); clear BK23; clear HB; have BK23 := n0_; have HB := n1_; have BK24 := n2_; have GW24 := n3_; have GE24 := n4_; have NB1091_1092 := n5_; have NB1092_1091 := n6_; clear n0_ n1_ n2_ n3_ n4_ n5_ n6_; clear hb hbox hg; have hnb19 := NB1091_1092.out; have hnc19 := NB1092_1091.out; obtain ⟨z20_0, z20_1, j20_0, j20_1⟩ := Lv.blks2 BK23.out) | ((with_reducible refine gate_callee (f := 12) rfl ?_); refine Qat (some 5) rfl rfl Try.func12 (by kernel_rfl) rfl #[.agg #[.slice A0_0 l0_0.length c0_0, .slice A0_1 l0_1.length c0_1]] rfl zm ?_; (with_reducible refine (ZsLogFault.calls k _ _ l0_0 _ _ l0_1 t26 _ ?side1 ?side2 ?side3 ?side4 A2.out).mono ?_); (case side1 => exact zc (Kd.Qac HR0_0.out HB.out)); (case side2 => exact HC0_0.out); (case side3 => exact zc (Kd.Qac HR0_1.out HB.out)); (case side4 => exact HC0_1.out); rintro e w21 ⟨rfl, hb⟩; refine ⟨_, rfl, ?_⟩; have n0_ := Qz.mk (Qi (g := gb23) (o := .cells #[.slice A0_0 l0_0.length c0_0, .slice A0_1 l0_1.length c0_1] 27 (0, 0)) zk hb); have n1_ := Qz.mk (Qi (g := gb24) (o := .cells #[.int .i64 0, .int .i64 0, .slice none 0 0] 51 (0, 0)) zk hb); have n2_ := Qz.mk (Qq zb hb); clear BK23; clear BK24; clear HB; have BK23 := n0_; have BK24 := n1_; have HB := n2_; clear n0_ n1_ n2_; (try clear hb); (try clear hb2); (try clear hk); (try clear hi); obtain ⟨z22_0, z22_1, z22_2, j22_0, j22_1, j22_2⟩ := Lv.blks3 BK24.out))
 refine bodyPost_ret (results_cell_row rfl _ _ gb24 51 #[.int .i64 t26, .int .i64 0, .slice none 0 0] (0, 0) _ rfl yt3 Try.underlying51 rfl (by kernel_rfl)) rfl ?_
 exact ⟨_, ze, by first | exact Kd.R_nil _ _ _ _ _ | exact Kd.N_nil _ _ _ _ _ | exact Kd.V_nil _ _ _ _ _ | exact Kd.Q_nil _ _ _ _ _ | exact Kd.S_nil _ _ _ _ _, zb⟩
end Go.Proofs.Ythagppmaofcllaa.P
