import Derived.Test.YthagppmaofcllaaZz
import Derived.Test.YthagppmaofcllaaP0
import Derived.Test.YthagppmaofcllaaPCadefgh2
import Derived.Test.YthagppmaofcllaaPCadefgh4
import Derived.Test.YthagppmaofcllaaPDadefgh0
import Derived.Test.YthagppmaofcllaaPDm0
import Derived.Test.YthagppmaofcllaaWRepsOne
import Derived.Test.YthagppmaofcllaaLv
import Derived.Test.YthagppmaofcllaaLv
namespace Go.Proofs.Ythagppmaofcllaa.P
open Go.RowKit Go.Proofs.YthagppmaofcllaaW.PrintWords Go.Proofs.YthagppmaofcllaaW.PrintLast Go.Proofs.YthagppmaofcllaaW.PrintMore
attribute [local go_sem] max2_int min2_int max_two min_two max_three min_three max_four min_four   -- for this text's walks alone
set_option linter.unusedVariables false
set_option linter.unusedSimpArgs false
theorem yk0 {p : Prop} (h : p := by refine zQ ?_; refine Qk (cs := #[.int .i64 2, .int .i64 0, .slice none 0 0]) ?_ 2 _ rfl; refine zQ ?_; refine Qk (cs := #[.int .i64 2, .int .i64 0, .slice none 0 0]) ?_ 1 _ rfl; refine zQ ?_; refine Qk (cs := #[.int .i64 0, .int .i64 0, .slice none 0 0]) ?_ 0 _ rfl; refine zQ ?_; exact BK10.out) : p := h
theorem yk1 {p : Prop} (h : p := by first | (go_simp; done) | (go_simp; rfl)) : p := h
set_option maxHeartbeats 8000000 in
set_option maxRecDepth 100000 in
theorem ZsUnpackRecs.calls (k : Nat) (A0 : Option Addr) (c0 : Nat) (l0 : List Int) (r1 : Int) (r2 : Int) (r3 : List (S48)) (w : World) (hr0 : Kd.C (Kd.int .u8) w A0 l0.length l0) (hc0 : l0.length ≤ c0) (h : ZsUnpackRecs.f k l0 = some (r1, r2, r3)) :
 Calls Try.prog 28 #[.slice A0 l0.length c0] w fun e w' => ∃ v2_ : Value, e = .returned (.agg #[.int .i64 r1, .int .i64 r2, v2_]) ∧ Kd.R k48 48 w' w.heap.size (fun _ => True) v2_ r3 ∧ Below w.heap.size w w' := by
 have hu51 := Try.underlying51
 have HR0 := Qz.mk hr0
 have HC0 := Qz.mk hc0
 clear hr0 hc0
 have HB := Qz.mk (Below.refl w.heap.size w)
 have H : (if (l0.length : Int) > 4000 then (some (2, 0, ([] : List (S48)))) else ((Zsl3Recs.f k l0).bind fun bt12 => (some (0, bt12.2, bt12.1)))) = some (r1, r2, r3) := h
 clear h
 by_cases c2 : (l0.length : Int) > 4000
 ·rw [if_pos c2] at H
  have c2b0 : decide (4000 < (l0.length : Int)) = true := decide_eq_true c2
  have c2b1 : decide (4000 < l0.length) = true := decide_eq_true (by omega)
  clear c2
  simp only [Option.some.injEq, Prod.mk.injEq] at H
  obtain ⟨rfl, rfl, rfl⟩ := H
  go_enter Try.func28, Try.ntmps28
  go_wp2_with (first | ((with_reducible refine gate_dst (N := 2) rfl ?_); refine box_event ?hg (N := 2) ?hd (cs := #[.int .i64 0, .int .i64 0, .slice none 0 0]) (t := 51) ?hr ?_; (case hd => rfl); (case hg => rfl); (case hr => exact yk1); intro gb10 hg w3 hbox hb; have n0_ := Qz.mk (Qq zb hb); have n1_ := Qz.mk (hbox); have n2_ := Qz.mk ((zh hg : w.heap.size ≤ gb10)); have n3_ := n2_; clear HB; have HB := n0_; have BK10 := n1_; have GW10 := n2_; have GE10 := n3_; clear n0_ n1_ n2_ n3_; clear hb hbox hg; obtain ⟨z4_0, z4_1, z4_2, j4_0, j4_1, j4_2⟩ := Lv.blks3 BK10.out))
  refine bodyPost_ret (results_cell_row rfl _ _ gb10 51 #[.int .i64 2, .int .i64 0, .slice none 0 0] (0, 0) _ rfl yk0 Try.underlying51 rfl (by kernel_rfl)) rfl ?_
  exact ⟨_, ze, by first | exact Kd.R_nil _ _ _ _ _ | exact Kd.N_nil _ _ _ _ _ | exact Kd.V_nil _ _ _ _ _ | exact Kd.Q_nil _ _ _ _ _ | exact Kd.S_nil _ _ _ _ _, zb⟩
 rw [if_neg c2] at H
 have c2b0 : decide (4000 < (l0.length : Int)) = false := decide_eq_false c2
 have c2b1 : decide (4000 < l0.length) = false := decide_eq_false (by omega)
 clear c2
 replace H := Option.bind_eq_some_iff.mp H
 obtain ⟨⟨t12, t13⟩, A50, H⟩ := H
 replace H : (some (0, t13, t12)) = some (r1, r2, r3) := H
 have A5 := Qz.mk A50
 clear A50
 simp only [Option.some.injEq, Prod.mk.injEq] at H
 obtain ⟨rfl, rfl, rfl⟩ := H
 go_enter Try.func28, Try.ntmps28
 go_wp2_with (first | ((with_reducible refine gate_dst (N := 2) rfl ?_); refine box_event ?hg (N := 2) ?hd (cs := #[.int .i64 0, .int .i64 0, .slice none 0 0]) (t := 51) ?hr ?_; (case hd => rfl); (case hg => rfl); (case hr => exact yk1); intro gb10 hg w6 hbox hb; have n0_ := Qz.mk (Qq zb hb); have n1_ := Qz.mk (hbox); have n2_ := Qz.mk ((zh hg : w.heap.size ≤ gb10)); have n3_ := n2_; clear HB; have HB := n0_; have BK10 := n1_; have GW10 := n2_; have GE10 := n3_; clear n0_ n1_ n2_ n3_; clear hb hbox hg) | ((with_reducible refine gate_callee (f := 49) rfl ?_); refine Qat (some 11) rfl rfl Try.func49 (by kernel_rfl) rfl #[.slice A0 l0.length c0] rfl zm ?_; (with_reducible refine (Zsl3Recs.calls k _ _ l0 t12 t13 _ ?side1 ?side2 A5.out).mono ?_); (case side1 => exact zc (Kd.Qac HR0.out HB.out)); (case side2 => exact HC0.out); rintro e w7 ⟨v15, rfl, ho0, hb⟩; refine ⟨_, rfl, ?_⟩; have n0_ := Qz.mk (Kd.Qan ho0 (Qp zb)); have n1_ := Qz.mk (Qi (g := gb10) (o := .cells #[.int .i64 0, .int .i64 0, .slice none 0 0] 51 (0, 0)) zk hb); have n2_ := Qz.mk (Qq zb hb); clear BK10; clear HB; have HO14 := n0_; have BK10 := n1_; have HB := n2_; clear n0_ n1_ n2_; (try clear hb); (try clear hb2); (try clear hk); (try clear hi); (try clear ho0); obtain ⟨Ao8, co8, eo8⟩ := Kd.R_slice HO14.out; subst eo8; obtain ⟨z9_0, z9_1, z9_2, j9_0, j9_1, j9_2⟩ := Lv.blks3 BK10.out))
 refine bodyPost_ret (results_cell_row rfl _ _ gb10 51 #[.int .i64 0, .int .i64 t13, .slice Ao8 t12.length co8] (0, 0) _ rfl (by refine zQ ?_; refine Qk (cs := #[.int .i64 0, .int .i64 t13, .slice none 0 0]) ?_ 2 _ rfl; refine zQ ?_; refine Qk (cs := #[.int .i64 0, .int .i64 0, .slice none 0 0]) ?_ 1 _ rfl; refine zQ ?_; refine Qk (cs := #[.int .i64 0, .int .i64 0, .slice none 0 0]) ?_ 0 _ rfl; refine zQ ?_; exact BK10.out) Try.underlying51 rfl (by kernel_rfl)) rfl ?_
 exact ⟨_, ze, by refine zR ?_; exact Kd.Qw (Kd.Qx (p := ⟨gb10, 2, none⟩) (Kd.Qx (p := ⟨gb10, 1, none⟩) (Kd.Qx (p := ⟨gb10, 0, none⟩) (Kd.Qai HO14.out BK10.out (by decide)) (fun _ hk => hk.2) (.int .i64 0)) (fun _ hk => hk.2) (.int .i64 t13)) (fun _ hk => hk.2) (.slice Ao8 t12.length co8)) (fun _ hk => trivial), zb⟩
set_option maxHeartbeats 8000000 in
set_option maxRecDepth 100000 in
theorem ZiUnpackRecs.calls (k : Nat) (A0 : Option Addr) (c0 : Nat) (l0 : List Int) (r1 : Int) (r2 : Int) (r3 : List (S48)) (w : World) (hr0 : Kd.C (Kd.int .u8) w A0 l0.length l0) (hc0 : l0.length ≤ c0) (h : ZiUnpackRecs.f k l0 = some (r1, r2, r3)) :
 Calls Try.prog 30 #[.slice A0 l0.length c0] w fun e w' => ∃ v2_ : Value, e = .returned (.agg #[.int .i64 r1, .int .i64 r2, v2_]) ∧ Kd.R k48 48 w' w.heap.size (fun _ => True) v2_ r3 ∧ Below w.heap.size w w' := by
 have hu51 := Try.underlying51
 have HR0 := Qz.mk hr0
 have HC0 := Qz.mk hc0
 clear hr0 hc0
 have HB := Qz.mk (Below.refl w.heap.size w)
 have H : (if (l0.length : Int) > 4000 then (some (2, 0, ([] : List (S48)))) else ((Ziunpack.f k l0).bind fun t11 => (some (0, wrap64 (13 * (t11.length : Int)), t11)))) = some (r1, r2, r3) := h
 clear h
 by_cases c2 : (l0.length : Int) > 4000
 ·rw [if_pos c2] at H
  have c2b0 : decide (4000 < (l0.length : Int)) = true := decide_eq_true c2
  have c2b1 : decide (4000 < l0.length) = true := decide_eq_true (by omega)
  clear c2
  simp only [Option.some.injEq, Prod.mk.injEq] at H
  obtain ⟨rfl, rfl, rfl⟩ := H
  go_enter Try.func30, Try.ntmps30
  go_wp2_with (first | ((with_reducible refine gate_dst (N := 2) rfl ?_); refine box_event ?hg (N := 2) ?hd (cs := #[.int .i64 0, .int .i64 0, .slice none 0 0]) (t := 51) ?hr ?_; (case hd => rfl); (case hg => rfl); (case hr => exact yk1); intro gb10 hg w3 hbox hb; have n0_ := Qz.mk (Qq zb hb); have n1_ := Qz.mk (hbox); have n2_ := Qz.mk ((zh hg : w.heap.size ≤ gb10)); have n3_ := n2_; clear HB; have HB := n0_; have BK10 := n1_; have GW10 := n2_; have GE10 := n3_; clear n0_ n1_ n2_ n3_; clear hb hbox hg; obtain ⟨z4_0, z4_1, z4_2, j4_0, j4_1, j4_2⟩ := Lv.blks3 BK10.out))
  refine bodyPost_ret (results_cell_row rfl _ _ gb10 51 #[.int .i64 2, .int .i64 0, .slice none 0 0] (0, 0) _ rfl yk0 Try.underlying51 rfl (by kernel_rfl)) rfl ?_
  exact ⟨_, ze, by first | exact Kd.R_nil _ _ _ _ _ | exact Kd.N_nil _ _ _ _ _ | exact Kd.V_nil _ _ _ _ _ | exact Kd.Q_nil _ _ _ _ _ | exact Kd.S_nil _ _ _ _ _, zb⟩
 rw [if_neg c2] at H
 have c2b0 : decide (4000 < (l0.length : Int)) = false := decide_eq_false c2
 have c2b1 : decide (4000 < l0.length) = false := decide_eq_false (by omega)
 clear c2
 replace H := Option.bind_eq_some_iff.mp H
 obtain ⟨t11, A50, H⟩ := H
 replace H : (some (0, wrap64 (13 * (t11.length : Int)), t11)) = some (r1, r2, r3) := H
 have A5 := Qz.mk A50
 clear A50
 simp only [Option.some.injEq, Prod.mk.injEq] at H
 obtain ⟨rfl, rfl, rfl⟩ := H
 go_enter Try.func30, Try.ntmps30
 go_wp2_with (first | ((with_reducible refine gate_dst (N := 2) rfl ?_); refine box_event ?hg (N := 2) ?hd (cs := #[.int .i64 0, .int .i64 0, .slice none 0 0]) (t := 51) ?hr ?_; (case hd => rfl); (case hg => rfl); (case hr => exact yk1); intro gb10 hg w6 hbox hb; have n0_ := Qz.mk (Qq zb hb); have n1_ := Qz.mk (hbox); have n2_ := Qz.mk ((zh hg : w.heap.size ≤ gb10)); have n3_ := n2_; clear HB; have HB := n0_; have BK10 := n1_; have GW10 := n2_; have GE10 := n3_; clear n0_ n1_ n2_ n3_; clear hb hbox hg) | ((with_reducible refine gate_callee (f := 51) rfl ?_); refine Qat (some 9) rfl rfl Try.func51 (by kernel_rfl) rfl #[.slice A0 l0.length c0] rfl zm ?_; (with_reducible refine (Ziunpack.calls k (fun k_ => k_ < w.heap.size) _ _ l0 t11 _ ?side1 A5.out).mono ?_); (case side1 => exact Kd.V_mk HC0.out (Kd.F_below (Kd.C_F (Kd.heap_int .u8) HR0.out) zb)); rintro e w7 ⟨v14, rfl, ho0, hb⟩; refine ⟨_, rfl, ?_⟩; have n0_ := Qz.mk (Kd.Qan (Kd.Qw (ok' := fun k_ => True) ho0 (fun _ hk_ => trivial)) (Qp zb)); have n1_ := Qz.mk (Qi (g := gb10) (o := .cells #[.int .i64 0, .int .i64 0, .slice none 0 0] 51 (0, 0)) zk hb); have n2_ := Qz.mk (Qq zb hb); clear BK10; clear HB; have HO12 := n0_; have BK10 := n1_; have HB := n2_; clear n0_ n1_ n2_; (try clear hb); (try clear hb2); (try clear hk); (try clear hi); (try clear ho0); obtain ⟨Ao8, co8, eo8⟩ := Kd.R_slice HO12.out; subst eo8; obtain ⟨z9_0, z9_1, z9_2, j9_0, j9_1, j9_2⟩ := Lv.blks3 BK10.out))
 refine bodyPost_ret (results_cell_row rfl _ _ gb10 51 #[.int .i64 0, .int .i64 (wrap64 (13 * (t11.length : Int))), .slice Ao8 t11.length co8] (0, 0) _ rfl (by refine zQ ?_; refine Qk (cs := #[.int .i64 0, .int .i64 (wrap64 (13 * (t11.length : Int))), .slice none 0 0]) ?_ 2 _ rfl; refine zQ ?_; refine Qk (cs := #[.int .i64 0, .int .i64 0, .slice none 0 0]) ?_ 1 _ rfl; refine zQ ?_; refine Qk (cs := #[.int .i64 0, .int .i64 0, .slice none 0 0]) ?_ 0 _ rfl; refine zQ ?_; exact BK10.out) Try.underlying51 rfl (by kernel_rfl)) rfl ?_
 exact ⟨_, ze, by refine zR ?_; exact Kd.Qw (Kd.Qx (p := ⟨gb10, 2, none⟩) (Kd.Qx (p := ⟨gb10, 1, none⟩) (Kd.Qx (p := ⟨gb10, 0, none⟩) (Kd.Qai HO12.out BK10.out (by decide)) (fun _ hk => hk.2) (.int .i64 0)) (fun _ hk => hk.2) (.int .i64 (wrap64 (13 * (t11.length : Int))))) (fun _ hk => hk.2) (.slice Ao8 t11.length co8)) (fun _ hk => trivial), zb⟩
end Go.Proofs.Ythagppmaofcllaa.P
