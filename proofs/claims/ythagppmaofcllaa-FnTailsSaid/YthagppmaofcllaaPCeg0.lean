import Derived.Test.YthagppmaofcllaaZz
import Derived.Test.YthagppmaofcllaaP0
import Derived.Test.YthagppmaofcllaaPCaefgh0
import Derived.Test.YthagppmaofcllaaPDm0
import Derived.Test.YthagppmaofcllaaPDm1
import Derived.Test.YthagppmaofcllaaLv
namespace Go.Proofs.Ythagppmaofcllaa.P
open Go.RowKit Go.Proofs.YthagppmaofcllaaW.PrintWords Go.Proofs.YthagppmaofcllaaW.PrintLast Go.Proofs.YthagppmaofcllaaW.PrintMore
attribute [local go_sem] max2_int min2_int max_two min_two max_three min_three max_four min_four   -- for this text's walks alone
set_option linter.unusedVariables false
set_option linter.unusedSimpArgs false
set_option maxHeartbeats 8000000 in
set_option maxRecDepth 100000 in
theorem Zsl3Flush.calls (A0_0 : Option Addr) (c0_0 : Nat) (l0_0 : List Int) (A0_1 : Option Addr) (c0_1 : Nat) (l0_1 : List Int) (r1 : List Int) (r2 : List Int) (w : World) (hr0_0 : Kd.C (Kd.int .u8) w A0_0 l0_0.length l0_0) (hc0_0 : l0_0.length ≤ c0_0) (hr0_1 : Kd.C (Kd.int .u8) w A0_1 l0_1.length l0_1) (hc0_1 : l0_1.length ≤ c0_1) (h : Zsl3Flush.f l0_0 l0_1 = some (r1, r2)) :
 Calls Try.prog 71 #[.agg #[.slice A0_0 l0_0.length c0_0, .slice A0_1 l0_1.length c0_1]] w fun e w' => ∃ v0_ v1_ : Value, e = .returned (.agg #[v0_, v1_]) ∧ Kd.R (Kd.int .u8) 5 w' w.heap.size (fun k_ => some k_ ≠ (v1_ : Value).ownBlock) v0_ r1 ∧ Kd.R (Kd.int .u8) 5 w' w.heap.size (fun k_ => some k_ ≠ (v0_ : Value).ownBlock) v1_ r2 ∧ Below w.heap.size w w' := by
 have hu27 := Try.underlying27
 have HR0_0 := Qz.mk hr0_0
 have HC0_0 := Qz.mk hc0_0
 clear hr0_0 hc0_0
 have HR0_1 := Qz.mk hr0_1
 have HC0_1 := Qz.mk hc0_1
 clear hr0_1 hc0_1
 have HB := Qz.mk (Below.refl w.heap.size w)
 have H : ((Zsl3All.f l0_0 l0_1).bind fun t12 => (some (t12, ([] : List Int)))) = some (r1, r2) := h
 clear h
 replace H := Option.bind_eq_some_iff.mp H
 obtain ⟨t12, A20, H⟩ := H
 replace H : (some (t12, ([] : List Int))) = some (r1, r2) := H
 have A2 := Qz.mk A20
 clear A20
 simp only [Option.some.injEq, Prod.mk.injEq] at H
 obtain ⟨rfl, rfl⟩ := H
 go_enter Try.func71, Try.ntmps71
 go_wp2_with (first | ((with_reducible refine gate_dst (N := 1) rfl ?_); refine box_event ?hg (N := 1) ?hd (cs := #[.slice A0_0 l0_0.length c0_0, .slice A0_1 l0_1.length c0_1]) (t := 27) ?hr ?_; (case hd => rfl); (case hg => rfl); (case hr => first | (go_simp; done) | (go_simp; rfl)); intro gb10 hg w3 hbox hb; have n0_ := Qz.mk (Qq zb hb); have n1_ := Qz.mk (hbox); have n2_ := Qz.mk ((zh hg : w.heap.size ≤ gb10)); have n3_ := n2_; clear HB; have HB := n0_; have BK10 := n1_; have GW10 := n2_; have GE10 := n3_; clear n0_ n1_ n2_ n3_; clear hb hbox hg) | ((with_reducible refine gate_dst (N := 2) rfl ?_); refine box_event ?hg (N := 2) ?hd (cs := #[.slice none 0 0, .slice none 0 0]) (t := 27) ?hr ?_; (case hd => rfl); (case hg => rfl); (case hr => first | (go_simp; done) | (go_simp; rfl)); intro gb11 hg w4 hbox hb; have n0_ := Qz.mk (Qi (g := gb10) (o := .cells #[.slice A0_0 l0_0.length c0_0, .slice A0_1 l0_1.length c0_1] 27 (0, 0)) zk hb); have n1_ := Qz.mk (Qq zb hb); have n2_ := Qz.mk (hbox); have n3_ := Qz.mk ((zh hg : w.heap.size ≤ gb11)); have n4_ := n3_; have n5_ := Qz.mk ((by rw [hg]; exact Nat.ne_of_lt (Ql (g := gb10) (o := .cells #[.slice A0_0 l0_0.length c0_0, .slice A0_1 l0_1.length c0_1] 27 (0, 0)) zk) : gb10 ≠ gb11)); have n6_ := Qz.mk ((by rw [hg]; exact Nat.ne_of_gt (Ql (g := gb10) (o := .cells #[.slice A0_0 l0_0.length c0_0, .slice A0_1 l0_1.length c0_1] 27 (0, 0)) zk) : gb11 ≠ gb10)); clear BK10; clear HB; have BK10 := n0_; have HB := n1_; have BK11 := n2_; have GW11 := n3_; have GE11 := n4_; have NB750_751 := n5_; have NB751_750 := n6_; clear n0_ n1_ n2_ n3_ n4_ n5_ n6_; clear hb hbox hg; have hnb5 := NB750_751.out; have hnc5 := NB751_750.out; obtain ⟨z6_0, z6_1, j6_0, j6_1⟩ := Lv.blks2 BK10.out) | ((with_reducible refine gate_callee (f := 48) rfl ?_); refine Qat (some 4) rfl rfl Try.func48 (by kernel_rfl) rfl #[.agg #[.slice A0_0 l0_0.length c0_0, .slice A0_1 l0_1.length c0_1]] rfl zm ?_; (with_reducible refine (Zsl3All.calls _ _ l0_0 _ _ l0_1 t12 _ ?side1 ?side2 ?side3 ?side4 A2.out).mono ?_); (case side1 => exact zc (Kd.Qac HR0_0.out HB.out)); (case side2 => exact HC0_0.out); (case side3 => exact zc (Kd.Qac HR0_1.out HB.out)); (case side4 => exact HC0_1.out); rintro e w7 ⟨v14, rfl, ho0, hb⟩; refine ⟨_, rfl, ?_⟩; have n0_ := Qz.mk (Kd.Qan ho0 (Qp zb)); have n1_ := Qz.mk (Qi (g := gb10) (o := .cells #[.slice A0_0 l0_0.length c0_0, .slice A0_1 l0_1.length c0_1] 27 (0, 0)) zk hb); have n2_ := Qz.mk (Qi (g := gb11) (o := .cells #[.slice none 0 0, .slice none 0 0] 27 (0, 0)) zk hb); have n3_ := Qz.mk (Qq zb hb); clear BK10; clear BK11; clear HB; have HO13 := n0_; have BK10 := n1_; have BK11 := n2_; have HB := n3_; clear n0_ n1_ n2_ n3_; (try clear hb); (try clear hb2); (try clear hk); (try clear hi); (try clear ho0); obtain ⟨Ao8, co8, eo8⟩ := Kd.R_slice HO13.out; subst eo8; obtain ⟨z9_0, z9_1, j9_0, j9_1⟩ := Lv.blks2 BK11.out))
 refine bodyPost_ret (results_cell_row rfl _ _ gb11 27 #[.slice Ao8 t12.length co8, .slice none 0 0] (0, 0) _ rfl (by refine zQ ?_; refine Qk (cs := #[.slice Ao8 t12.length co8, .slice none 0 0]) ?_ 1 _ rfl; refine zQ ?_; refine Qk (cs := #[.slice none 0 0, .slice none 0 0]) ?_ 0 _ rfl; refine zQ ?_; exact BK11.out) Try.underlying27 rfl (by kernel_rfl)) rfl ?_
 exact ⟨_, _, ze, by refine zR ?_; exact Kd.Qw (Kd.Qx (p := ⟨gb11, 1, none⟩) (Kd.Qx (p := ⟨gb11, 0, none⟩) (Kd.Qai HO13.out BK11.out (by decide)) (fun _ hk => hk.2) (.slice Ao8 t12.length co8)) (fun _ hk => hk.2) (.slice none 0 0)) (fun _ hk => (by simp [Value.ownBlock])), by first | exact Kd.R_nil _ _ _ _ _ | exact Kd.N_nil _ _ _ _ _ | exact Kd.V_nil _ _ _ _ _ | exact Kd.Q_nil _ _ _ _ _ | exact Kd.S_nil _ _ _ _ _, zb⟩
end Go.Proofs.Ythagppmaofcllaa.P
