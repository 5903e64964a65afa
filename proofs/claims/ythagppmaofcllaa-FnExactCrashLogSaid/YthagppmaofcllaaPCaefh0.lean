import Derived.Test.YthagppmaofcllaaP0
import Derived.Test.YthagppmaofcllaaPCadefh0
import Derived.Test.YthagppmaofcllaaPDm0
import Derived.Test.YthagppmaofcllaaWRepsOne
import Derived.Test.YthagppmaofcllaaLv
import Derived.Test.YthagppmaofcllaaLv
import Derived.Test.YthagppmaofcllaaLv
namespace Go.Proofs.Ythagppmaofcllaa.P
open Go.RowKit Go.Proofs.YthagppmaofcllaaW.PrintWords Go.Proofs.YthagppmaofcllaaW.PrintLast Go.Proofs.YthagppmaofcllaaW.PrintMore
attribute [local go_sem] max2_int min2_int max_two min_two max_three min_three max_four min_four   -- for this text's walks alone
set_option linter.unusedVariables false
set_option linter.unusedSimpArgs false
set_option maxHeartbeats 8000000 in
set_option maxRecDepth 100000 in
theorem ZlszByteS.calls (A0 : Option Addr) (c0 : Nat) (l0 : List Int) (a1 : Int) (r : Int) (w : World) (hr0 : Kd.C (Kd.int .u8) w A0 l0.length l0) (hc0 : l0.length ≤ c0) (h : ZlszByteS.f l0 a1 = some r) :
 Calls Try.prog 47 #[.slice A0 l0.length c0, .int .i64 a1] w fun e w' => e = .returned (.int .i64 r) ∧ Drawn0 w w' := by
 have HR0 := Qz.mk hr0
 have HC0 := Qz.mk hc0
 clear hr0 hc0
 have H : (if (wrap64 (a1 - (l0.length : Int))) < 0 then (some (-1)) else (some (wrap64 (a1 - (l0.length : Int))))) = some r := h
 clear h
 by_cases c3 : (wrap64 (a1 - (l0.length : Int))) < 0
 ·rw [if_pos c3] at H
  have c3b0 : decide ((wrap64 (a1 - (l0.length : Int))) < 0) = true := decide_eq_true c3
  clear c3
  obtain rfl := Option.some.inj H
  go_enter Try.func47, Try.ntmps47
  go_wp2
  go_ret
  exact ⟨by first | rfl | (simp; done) | (simp [*]; done), by repeat (first | exact Drawn0.refl _ | apply Drawn0.step)⟩
 rw [if_neg c3] at H
 have c3b0 : decide ((wrap64 (a1 - (l0.length : Int))) < 0) = false := decide_eq_false c3
 clear c3
 obtain rfl := Option.some.inj H
 go_enter Try.func47, Try.ntmps47
 go_wp2
 go_ret
 exact ⟨by first | rfl | (simp; done) | (simp [*]; done), by repeat (first | exact Drawn0.refl _ | apply Drawn0.step)⟩
set_option maxHeartbeats 8000000 in
set_option maxRecDepth 100000 in
theorem ZlszLog.calls (A0_0 : Option Addr) (c0_0 : Nat) (l0_0 : List Int) (A0_1 : Option Addr) (c0_1 : Nat) (l0_1 : List Int) (a1 : Int) (r : Int) (w : World) (hr0_0 : Kd.C (Kd.int .u8) w A0_0 l0_0.length l0_0) (hc0_0 : l0_0.length ≤ c0_0) (hr0_1 : Kd.C (Kd.int .u8) w A0_1 l0_1.length l0_1) (hc0_1 : l0_1.length ≤ c0_1) (h : ZlszLog.f l0_0 l0_1 a1 = some r) :
 Calls Try.prog 11 #[.agg #[.slice A0_0 l0_0.length c0_0, .slice A0_1 l0_1.length c0_1], .int .i64 a1] w fun e w' => e = .returned (.int .i64 r) ∧ Below w.heap.size w w' := by
 have hu24 := Try.underlying24
 have HR0_0 := Qz.mk hr0_0
 have HC0_0 := Qz.mk hc0_0
 clear hr0_0 hc0_0
 have HR0_1 := Qz.mk hr0_1
 have HC0_1 := Qz.mk hc0_1
 clear hr0_1 hc0_1
 have HB := Qz.mk (Below.refl w.heap.size w)
 have H : ((ZlszByteS.f l0_0 a1).bind fun t15 => (if t15 < 0 then (some (-1)) else ((ZlszByteS.f l0_1 t15).bind fun t16 => (if t16 < 0 then (some (-1)) else (some t16))))) = some r := h
 clear h
 replace H := Qj9 H
 obtain ⟨t15, A30, H⟩ := H
 replace H : (if t15 < 0 then (some (-1)) else ((ZlszByteS.f l0_1 t15).bind fun t16 => (if t16 < 0 then (some (-1)) else (some t16)))) = some r := H
 have A3 := Qz.mk A30
 clear A30
 by_cases c4 : t15 < 0
 ·rw [if_pos c4] at H
  have c4b0 : decide (t15 < 0) = true := decide_eq_true c4
  clear c4
  obtain rfl := Option.some.inj H
  go_enter Try.func11, Try.ntmps11
  go_wp2_with (first | ((with_reducible refine gate_dst (N := 2) rfl ?_); refine box_event ?hg (N := 2) ?hd (cs := #[.slice A0_0 l0_0.length c0_0, .slice A0_1 l0_1.length c0_1]) (t := 24) ?hr ?_; (case hd => rfl); (case hg => rfl); (case hr => first | (go_simp; done) | (go_simp; rfl)); intro gb13 hg w5 hbox hb; have n0_ := Qz.mk (Qq (by apply_rules [HB.out, Qc, Qa, Qb]) hb); have n1_ := Qz.mk (hbox); have n2_ := Qz.mk ((by rw [hg]; exact (Qp (by apply_rules [HB.out, Qc, Qa, Qb])) : w.heap.size ≤ gb13)); have n3_ := n2_; clear HB; have HB := n0_; have BK13 := n1_; have GW13 := n2_; have GE13 := n3_; clear n0_ n1_ n2_ n3_; clear hb hbox hg; obtain ⟨z6_0, z6_1, j6_0, j6_1⟩ := Lv.blks2 BK13.out) | ((with_reducible refine gate_callee (f := 47) rfl ?_); refine Qat (some 8) rfl rfl Try.func47 (by kernel_rfl) rfl #[.slice A0_0 l0_0.length c0_0, .int .i64 a1] rfl (by (try simp only [Qj4, Qj5, Qj6]); first | done | rfl | (simp only [Qj7, Qj8]; rfl)) ?_; (with_reducible refine (ZlszByteS.calls _ _ l0_0 a1 t15 _ ?side1 ?side2 A3.out).mono ?_); (case side1 => repeat (first | exact (Kd.Qac HR0_0.out HB.out) | (with_reducible first | refine Kd.Qaa ?_ _ | refine Kd.Qz ?_ _ | refine Kd.Qab ?_))); (case side2 => exact HC0_0.out); rintro e w' ⟨rfl, ⟨nd, rfl⟩⟩; refine ⟨_, rfl, ?_⟩))
  go_ret
  exact ⟨by first | rfl | (simp [Qv, Qu] <;> rfl) | (simp [*, Qv, Qu] <;> rfl), by apply_rules [HB.out, Qc, Qa, Qb, Qd, GE13.out]⟩
 rw [if_neg c4] at H
 have c4b0 : decide (t15 < 0) = false := decide_eq_false c4
 clear c4
 replace H := Qj9 H
 obtain ⟨t16, A70, H⟩ := H
 replace H : (if t16 < 0 then (some (-1)) else (some t16)) = some r := H
 have A7 := Qz.mk A70
 clear A70
 by_cases c8 : t16 < 0
 ·rw [if_pos c8] at H
  have c8b0 : decide (t16 < 0) = true := decide_eq_true c8
  clear c8
  obtain rfl := Option.some.inj H
  go_enter Try.func11, Try.ntmps11
  go_wp2_with (first | ((with_reducible refine gate_dst (N := 2) rfl ?_); refine box_event ?hg (N := 2) ?hd (cs := #[.slice A0_0 l0_0.length c0_0, .slice A0_1 l0_1.length c0_1]) (t := 24) ?hr ?_; (case hd => rfl); (case hg => rfl); (case hr => first | (go_simp; done) | (go_simp; rfl)); intro gb13 hg w9 hbox hb; have n0_ := Qz.mk (Qq (by apply_rules [HB.out, Qc, Qa, Qb]) hb); have n1_ := Qz.mk (hbox); have n2_ := Qz.mk ((by rw [hg]; exact (Qp (by apply_rules [HB.out, Qc, Qa, Qb])) : w.heap.size ≤ gb13)); have n3_ := n2_; clear HB; have HB := n0_; have BK13 := n1_; have GW13 := n2_; have GE13 := n3_; clear n0_ n1_ n2_ n3_; clear hb hbox hg; obtain ⟨z10_0, z10_1, j10_0, j10_1⟩ := Lv.blks2 BK13.out) | ((with_reducible refine gate_callee (f := 47) rfl ?_); refine Qat (some 8) rfl rfl Try.func47 (by kernel_rfl) rfl #[.slice A0_0 l0_0.length c0_0, .int .i64 a1] rfl (by (try simp only [Qj4, Qj5, Qj6]); first | done | rfl | (simp only [Qj7, Qj8]; rfl)) ?_; (with_reducible refine (ZlszByteS.calls _ _ l0_0 a1 t15 _ ?side1 ?side2 A3.out).mono ?_); (case side1 => repeat (first | exact (Kd.Qac HR0_0.out HB.out) | (with_reducible first | refine Kd.Qaa ?_ _ | refine Kd.Qz ?_ _ | refine Kd.Qab ?_))); (case side2 => exact HC0_0.out); rintro e w' ⟨rfl, ⟨nd, rfl⟩⟩; refine ⟨_, rfl, ?_⟩) | ((with_reducible refine gate_callee (f := 47) rfl ?_); refine Qat (some 14) rfl rfl Try.func47 (by kernel_rfl) rfl #[.slice A0_1 l0_1.length c0_1, .int .i64 t15] rfl (by (try simp only [Qj4, Qj5, Qj6]); first | done | rfl | (simp only [Qj7, Qj8]; rfl)) ?_; (with_reducible refine (ZlszByteS.calls _ _ l0_1 t15 t16 _ ?side1 ?side2 A7.out).mono ?_); (case side1 => repeat (first | exact (Kd.Qac HR0_1.out (by apply_rules [HB.out, Qc, Qa, Qb, Qd, GE13.out])) | (with_reducible first | refine Kd.Qaa ?_ _ | refine Kd.Qz ?_ _ | refine Kd.Qab ?_))); (case side2 => exact HC0_1.out); rintro e w' ⟨rfl, ⟨nd, rfl⟩⟩; refine ⟨_, rfl, ?_⟩))
  go_ret
  exact ⟨by first | rfl | (simp [Qv, Qu] <;> rfl) | (simp [*, Qv, Qu] <;> rfl), by apply_rules [HB.out, Qc, Qa, Qb, Qd, GE13.out]⟩
 rw [if_neg c8] at H
 have c8b0 : decide (t16 < 0) = false := decide_eq_false c8
 clear c8
 obtain rfl := Option.some.inj H
 go_enter Try.func11, Try.ntmps11
 go_wp2_with (first | ((with_reducible refine gate_dst (N := 2) rfl ?_); refine box_event ?hg (N := 2) ?hd (cs := #[.slice A0_0 l0_0.length c0_0, .slice A0_1 l0_1.length c0_1]) (t := 24) ?hr ?_; (case hd => rfl); (case hg => rfl); (case hr => first | (go_simp; done) | (go_simp; rfl)); intro gb13 hg w11 hbox hb; have n0_ := Qz.mk (Qq (by apply_rules [HB.out, Qc, Qa, Qb]) hb); have n1_ := Qz.mk (hbox); have n2_ := Qz.mk ((by rw [hg]; exact (Qp (by apply_rules [HB.out, Qc, Qa, Qb])) : w.heap.size ≤ gb13)); have n3_ := n2_; clear HB; have HB := n0_; have BK13 := n1_; have GW13 := n2_; have GE13 := n3_; clear n0_ n1_ n2_ n3_; clear hb hbox hg; obtain ⟨z12_0, z12_1, j12_0, j12_1⟩ := Lv.blks2 BK13.out) | ((with_reducible refine gate_callee (f := 47) rfl ?_); refine Qat (some 8) rfl rfl Try.func47 (by kernel_rfl) rfl #[.slice A0_0 l0_0.length c0_0, .int .i64 a1] rfl (by (try simp only [Qj4, Qj5, Qj6]); first | done | rfl | (simp only [Qj7, Qj8]; rfl)) ?_; (with_reducible refine (ZlszByteS.calls _ _ l0_0 a1 t15 _ ?side1 ?side2 A3.out).mono ?_); (case side1 => repeat (first | exact (Kd.Qac HR0_0.out HB.out) | (with_reducible first | refine Kd.Qaa ?_ _ | refine Kd.Qz ?_ _ | refine Kd.Qab ?_))); (case side2 => exact HC0_0.out); rintro e w' ⟨rfl, ⟨nd, rfl⟩⟩; refine ⟨_, rfl, ?_⟩) | ((with_reducible refine gate_callee (f := 47) rfl ?_); refine Qat (some 14) rfl rfl Try.func47 (by kernel_rfl) rfl #[.slice A0_1 l0_1.length c0_1, .int .i64 t15] rfl (by (try simp only [Qj4, Qj5, Qj6]); first | done | rfl | (simp only [Qj7, Qj8]; rfl)) ?_; (with_reducible refine (ZlszByteS.calls _ _ l0_1 t15 t16 _ ?side1 ?side2 A7.out).mono ?_); (case side1 => repeat (first | exact (Kd.Qac HR0_1.out (by apply_rules [HB.out, Qc, Qa, Qb, Qd, GE13.out])) | (with_reducible first | refine Kd.Qaa ?_ _ | refine Kd.Qz ?_ _ | refine Kd.Qab ?_))); (case side2 => exact HC0_1.out); rintro e w' ⟨rfl, ⟨nd, rfl⟩⟩; refine ⟨_, rfl, ?_⟩))
 go_ret
 exact ⟨by first | rfl | (simp [Qv, Qu] <;> rfl) | (simp [*, Qv, Qu] <;> rfl), by apply_rules [HB.out, Qc, Qa, Qb, Qd, GE13.out]⟩
set_option maxHeartbeats 8000000 in
set_option maxRecDepth 100000 in
theorem ZltoLog.calls (k : Nat) (A0_0 : Option Addr) (c0_0 : Nat) (l0_0 : List Int) (A0_1 : Option Addr) (c0_1 : Nat) (l0_1 : List Int) (r1 : List Int) (r2 : List Int) (w : World) (hr0_0 : Kd.C (Kd.int .u8) w A0_0 l0_0.length l0_0) (hc0_0 : l0_0.length ≤ c0_0) (hr0_1 : Kd.C (Kd.int .u8) w A0_1 l0_1.length l0_1) (hc0_1 : l0_1.length ≤ c0_1) (h : ZltoLog.f k l0_0 l0_1 = some (r1, r2)) :
 Calls Try.prog 13 #[.agg #[.slice A0_0 l0_0.length c0_0, .slice A0_1 l0_1.length c0_1]] w fun e w' => ∃ v0_ v1_ : Value, e = .returned (.agg #[v0_, v1_]) ∧ Kd.R (Kd.int .u8) 5 w' w.heap.size (fun k_ => some k_ ≠ (v1_ : Value).ownBlock) v0_ r1 ∧ Kd.R (Kd.int .u8) 5 w' w.heap.size (fun k_ => some k_ ≠ (v0_ : Value).ownBlock) v1_ r2 ∧ Below w.heap.size w w' := by
 have hu24 := Try.underlying24
 have hu27 := Try.underlying27
 have HR0_0 := Qz.mk hr0_0
 have HC0_0 := Qz.mk hc0_0
 clear hr0_0 hc0_0
 have HR0_1 := Qz.mk hr0_1
 have HC0_1 := Qz.mk hc0_1
 clear hr0_1 hc0_1
 have HB := Qz.mk (Below.refl w.heap.size w)
 have H : ((ZltoByteS.f k l0_0).bind fun t23 => ((ZltoByteS.f k l0_1).bind fun t25 => (some (t23, t25)))) = some (r1, r2) := h
 clear h
 replace H := Qj9 H
 obtain ⟨t23, A20, H⟩ := H
 replace H : ((ZltoByteS.f k l0_1).bind fun t25 => (some (t23, t25))) = some (r1, r2) := H
 have A2 := Qz.mk A20
 clear A20
 replace H := Qj9 H
 obtain ⟨t25, A30, H⟩ := H
 replace H : (some (t23, t25)) = some (r1, r2) := H
 have A3 := Qz.mk A30
 clear A30
 simp only [Option.some.injEq, Prod.mk.injEq] at H
 obtain ⟨rfl, rfl⟩ := H
 go_enter Try.func13, Try.ntmps13
 go_wp2_with (first | ((with_reducible refine gate_dst (N := 1) rfl ?_); refine box_event ?hg (N := 1) ?hd (cs := #[.slice A0_0 l0_0.length c0_0, .slice A0_1 l0_1.length c0_1]) (t := 24) ?hr ?_; (case hd => rfl); (case hg => rfl); (case hr => first | (go_simp; done) | (go_simp; rfl)); intro gb19 hg w4 hbox hb; have n0_ := Qz.mk (Qq (by apply_rules [HB.out, Qc, Qa, Qb]) hb); have n1_ := Qz.mk (hbox); have n2_ := Qz.mk ((by rw [hg]; exact (Qp (by apply_rules [HB.out, Qc, Qa, Qb])) : w.heap.size ≤ gb19)); have n3_ := n2_; clear HB; have HB := n0_; have BK19 := n1_; have GW19 := n2_; have GE19 := n3_; clear n0_ n1_ n2_ n3_; clear hb hbox hg) | ((with_reducible refine gate_dst (N := 2) rfl ?_); refine box_event ?hg (N := 2) ?hd (cs := #[.slice none 0 0, .slice none 0 0]) (t := 27) ?hr ?_; (case hd => rfl); (case hg => rfl); (case hr => first | (go_simp; done) | (go_simp; rfl)); intro gb21 hg w5 hbox hb; have n0_ := Qz.mk (Qi (g := gb19) (o := .cells #[.slice A0_0 l0_0.length c0_0, .slice A0_1 l0_1.length c0_1] 24 (0, 0)) (by apply_rules [BK19.out, Qe, Qg, Qf]) hb); have n1_ := Qz.mk (Qq (by apply_rules [HB.out, Qc, Qa, Qb, Qd, GE19.out]) hb); have n2_ := Qz.mk (hbox); have n3_ := Qz.mk ((by rw [hg]; exact (Qp (by apply_rules [HB.out, Qc, Qa, Qb, Qd, GE19.out])) : w.heap.size ≤ gb21)); have n4_ := n3_; have n5_ := Qz.mk ((by rw [hg]; exact Nat.ne_of_lt (Ql (g := gb19) (o := .cells #[.slice A0_0 l0_0.length c0_0, .slice A0_1 l0_1.length c0_1] 24 (0, 0)) (by apply_rules [BK19.out, Qe, Qg, Qf])) : gb19 ≠ gb21)); have n6_ := Qz.mk ((by rw [hg]; exact Nat.ne_of_gt (Ql (g := gb19) (o := .cells #[.slice A0_0 l0_0.length c0_0, .slice A0_1 l0_1.length c0_1] 24 (0, 0)) (by apply_rules [BK19.out, Qe, Qg, Qf])) : gb21 ≠ gb19)); clear BK19; clear HB; have BK19 := n0_; have HB := n1_; have BK21 := n2_; have GW21 := n3_; have GE21 := n4_; have NB210_211 := n5_; have NB211_210 := n6_; clear n0_ n1_ n2_ n3_ n4_ n5_ n6_; clear hb hbox hg) | ((with_reducible refine gate_dst (N := 3) rfl ?_); refine box_event ?hg (N := 3) ?hd (cs := #[.slice none 0 0, .slice none 0 0]) (t := 27) ?hr ?_; (case hd => rfl); (case hg => rfl); (case hr => first | (go_simp; done) | (go_simp; rfl)); intro gb22 hg w6 hbox hb; have n0_ := Qz.mk (Qi (g := gb19) (o := .cells #[.slice A0_0 l0_0.length c0_0, .slice A0_1 l0_1.length c0_1] 24 (0, 0)) (by apply_rules [BK19.out, Qe, Qg, Qf]) hb); have n1_ := Qz.mk (Qi (g := gb21) (o := .cells #[.slice none 0 0, .slice none 0 0] 27 (0, 0)) (by apply_rules [BK21.out, Qe, Qg, Qf]) hb); have n2_ := Qz.mk (Qq (by apply_rules [HB.out, Qc, Qa, Qb, Qd, GE19.out, GE21.out]) hb); have n3_ := Qz.mk (hbox); have n4_ := Qz.mk ((by rw [hg]; exact (Qp (by apply_rules [HB.out, Qc, Qa, Qb, Qd, GE19.out, GE21.out])) : w.heap.size ≤ gb22)); have n5_ := n4_; have n6_ := Qz.mk ((by rw [hg]; exact Nat.ne_of_lt (Ql (g := gb19) (o := .cells #[.slice A0_0 l0_0.length c0_0, .slice A0_1 l0_1.length c0_1] 24 (0, 0)) (by apply_rules [BK19.out, Qe, Qg, Qf])) : gb19 ≠ gb22)); have n7_ := Qz.mk ((by rw [hg]; exact Nat.ne_of_gt (Ql (g := gb19) (o := .cells #[.slice A0_0 l0_0.length c0_0, .slice A0_1 l0_1.length c0_1] 24 (0, 0)) (by apply_rules [BK19.out, Qe, Qg, Qf])) : gb22 ≠ gb19)); have n8_ := Qz.mk ((by rw [hg]; exact Nat.ne_of_lt (Ql (g := gb21) (o := .cells #[.slice none 0 0, .slice none 0 0] 27 (0, 0)) (by apply_rules [BK21.out, Qe, Qg, Qf])) : gb21 ≠ gb22)); have n9_ := Qz.mk ((by rw [hg]; exact Nat.ne_of_gt (Ql (g := gb21) (o := .cells #[.slice none 0 0, .slice none 0 0] 27 (0, 0)) (by apply_rules [BK21.out, Qe, Qg, Qf])) : gb22 ≠ gb21)); clear BK19; clear BK21; clear HB; have BK19 := n0_; have BK21 := n1_; have HB := n2_; have BK22 := n3_; have GW22 := n4_; have GE22 := n5_; have NB210_212 := n6_; have NB212_210 := n7_; have NB211_212 := n8_; have NB212_211 := n9_; clear n0_ n1_ n2_ n3_ n4_ n5_ n6_ n7_ n8_ n9_; clear hb hbox hg; have hnb7 := NB210_211.out; have hnc7 := NB211_210.out; have hnb8 := NB210_212.out; have hnc8 := NB212_210.out; obtain ⟨z9_0, z9_1, j9_0, j9_1⟩ := Lv.blks2 BK19.out) | ((with_reducible refine gate_callee (f := 29) rfl ?_); refine Qat (some 6) rfl rfl Try.func29 (by kernel_rfl) rfl #[.slice A0_0 l0_0.length c0_0] rfl (by (try simp only [Qj4, Qj5, Qj6]); first | done | rfl | (simp only [Qj7, Qj8]; rfl)) ?_; (with_reducible refine (ZltoByteS.calls k _ _ l0_0 t23 _ ?side1 ?side2 A2.out).mono ?_); (case side1 => repeat (first | exact (Kd.Qac HR0_0.out HB.out) | (with_reducible first | refine Kd.Qaa ?_ _ | refine Kd.Qz ?_ _ | refine Kd.Qab ?_))); (case side2 => exact HC0_0.out); rintro e w10 ⟨v31, rfl, ho0, hb⟩; refine ⟨_, rfl, ?_⟩; have n0_ := Qz.mk (Kd.Qan ho0 (Qp (by apply_rules [HB.out, Qc, Qa, Qb, Qd, GE19.out, GE21.out, GE22.out]))); have n1_ := Qz.mk (Qi (g := gb19) (o := .cells #[.slice A0_0 l0_0.length c0_0, .slice A0_1 l0_1.length c0_1] 24 (0, 0)) (by apply_rules [BK19.out, Qe, Qg, Qf]) hb); have n2_ := Qz.mk (Qi (g := gb21) (o := .cells #[.slice none 0 0, .slice none 0 0] 27 (0, 0)) (by apply_rules [BK21.out, Qe, Qg, Qf]) hb); have n3_ := Qz.mk (Qi (g := gb22) (o := .cells #[.slice none 0 0, .slice none 0 0] 27 (0, 0)) (by apply_rules [BK22.out, Qe, Qg, Qf]) hb); have n4_ := Qz.mk (Qq (by apply_rules [HB.out, Qc, Qa, Qb, Qd, GE19.out, GE21.out, GE22.out]) hb); clear BK19; clear BK21; clear BK22; clear HB; have HO26 := n0_; have BK19 := n1_; have BK21 := n2_; have BK22 := n3_; have HB := n4_; clear n0_ n1_ n2_ n3_ n4_; (try clear hb); (try clear hb2); (try clear hk); (try clear hi); (try clear ho0); obtain ⟨Ao11, co11, eo11⟩ := Kd.R_slice HO26.out; subst eo11; have hnb12 := NB212_211.out; have hnc12 := NB211_212.out; obtain ⟨z13_0, z13_1, j13_0, j13_1⟩ := Lv.blks2 BK22.out; obtain ⟨z14_0, z14_1, j14_0, j14_1⟩ := Lv.blks2 BK19.out) | ((with_reducible refine gate_callee (f := 29) rfl ?_); refine Qat (some 10) rfl rfl Try.func29 (by kernel_rfl) rfl #[.slice A0_1 l0_1.length c0_1] rfl (by (try simp only [Qj4, Qj5, Qj6]); first | done | rfl | (simp only [Qj7, Qj8]; rfl)) ?_; (with_reducible refine (ZltoByteS.calls k _ _ l0_1 t25 _ ?side1 ?side2 A3.out).mono ?_); (case side1 => exact Kd.Qac HR0_1.out (by apply_rules [HB.out, Qc, Qa, Qb, Qd, GE19.out, GE21.out, GE22.out])); (case side2 => exact HC0_1.out); rintro e w15 ⟨v32, rfl, ho0, hb⟩; refine ⟨_, rfl, ?_⟩; have n0_ := Qz.mk (Kd.R_elder' (by (with_reducible repeat (first | apply Kd.Qn | apply Kd.Qm | apply Kd.Qo)); exact (Kd.Qw (Kd.Qx (p := ⟨gb22, 0, none⟩) (Kd.Qai HO26.out BK22.out (by decide)) (fun _ hk => hk.2) (.slice Ao11 t23.length co11)) (fun _ h_ => h_.1))) (Kd.Qah ho0) hb); have n1_ := Qz.mk (Kd.Qan (Kd.Qal ho0 (Kd.R_lt (by (with_reducible repeat (first | apply Kd.Qn | apply Kd.Qm | apply Kd.Qo)); exact (Kd.Qw (Kd.Qx (p := ⟨gb22, 0, none⟩) (Kd.Qai HO26.out BK22.out (by decide)) (fun _ hk => hk.2) (.slice Ao11 t23.length co11)) (fun _ h_ => h_.1))))) (Qp (by apply_rules [HB.out, Qc, Qa, Qb, Qd, GE19.out, GE21.out, GE22.out]))); have n2_ := Qz.mk (Qi (g := gb19) (o := .cells #[.slice A0_0 l0_0.length c0_0, .slice A0_1 l0_1.length c0_1] 24 (0, 0)) (by (with_reducible repeat (first | refine Qe ?_ _ | refine Qg ?_ | refine Qf ?_ _)); refine blk_far ?_ NB210_212.out _; apply_rules [BK19.out, Qe, Qg, Qf]) hb); have n3_ := Qz.mk (Qi (g := gb21) (o := .cells #[.slice none 0 0, .slice none 0 0] 27 (0, 0)) (by (with_reducible repeat (first | refine Qe ?_ _ | refine Qg ?_ | refine Qf ?_ _)); refine blk_far ?_ NB211_212.out _; apply_rules [BK21.out, Qe, Qg, Qf]) hb); have n4_ := Qz.mk (Qi (g := gb22) (o := .cells #[.slice Ao11 t23.length co11, .slice none 0 0] 27 (0, 0)) (by (with_reducible repeat (first | refine Qe ?_ _ | refine Qg ?_ | refine Qf ?_ _)); refine Qk (cs := #[.slice none 0 0, .slice none 0 0]) ?_ 0 _ rfl; apply_rules [BK22.out, Qe, Qg, Qf]) hb); have n5_ := Qz.mk (Qq (by apply_rules [HB.out, Qc, Qa, Qb, Qd, GE19.out, GE21.out, GE22.out]) hb); clear HO26; clear BK19; clear BK21; clear BK22; clear HB; have HO26 := n0_; have HO28 := n1_; have BK19 := n2_; have BK21 := n3_; have BK22 := n4_; have HB := n5_; clear n0_ n1_ n2_ n3_ n4_ n5_; (try clear hb); (try clear hb2); (try clear hk); (try clear hi); (try clear ho0); obtain ⟨Ao16, co16, eo16⟩ := Kd.R_slice HO28.out; subst eo16; obtain ⟨z17_0, z17_1, j17_0, j17_1⟩ := Lv.blks2 BK22.out; obtain ⟨z18_0, z18_1, j18_0, j18_1⟩ := Lv.blks2 BK21.out))
 refine bodyPost_ret (results_cell_row rfl _ _ gb21 27 #[.slice Ao11 t23.length co11, .slice Ao16 t25.length co16] (0, 0) _ rfl (by (with_reducible repeat (first | refine Qe ?_ _ | refine Qg ?_ | refine Qf ?_ _)); refine Qk (cs := #[.slice Ao11 t23.length co11, .slice none 0 0]) ?_ 1 _ rfl; (with_reducible repeat (first | refine Qe ?_ _ | refine Qg ?_ | refine Qf ?_ _)); refine Qk (cs := #[.slice none 0 0, .slice none 0 0]) ?_ 0 _ rfl; (with_reducible repeat (first | refine Qe ?_ _ | refine Qg ?_ | refine Qf ?_ _)); refine blk_far ?_ NB211_212.out _; apply_rules [BK21.out, Qe, Qg, Qf]) Try.underlying27 rfl (by kernel_rfl)) rfl ?_
 exact ⟨_, _, by first | rfl | (simp [Qv, Qu] <;> rfl) | (simp [*, Qv, Qu] <;> rfl), by (with_reducible repeat (first | apply Kd.Qn | apply Kd.Qm | apply Kd.Qo)); exact Kd.Qw (Kd.Qx (p := ⟨gb21, 1, none⟩) (Kd.Qx (p := ⟨gb21, 0, none⟩) (Kd.Qx (p := ⟨gb22, 1, none⟩) (Kd.Qai (Kd.Qai HO26.out BK22.out (by decide)) BK21.out (by decide)) (fun _ hk => hk.1.2) (.slice Ao16 t25.length co16)) (fun _ hk => hk.2) (.slice Ao11 t23.length co11)) (fun _ hk => hk.2) (.slice Ao16 t25.length co16)) (fun _ hk => hk.1.1.2), by (with_reducible repeat (first | apply Kd.Qn | apply Kd.Qm | apply Kd.Qo)); exact Kd.Qw (Kd.Qx (p := ⟨gb21, 1, none⟩) (Kd.Qx (p := ⟨gb21, 0, none⟩) (Kd.Qx (p := ⟨gb22, 1, none⟩) (Kd.Qai (Kd.Qai HO28.out BK22.out (by decide)) BK21.out (by decide)) (fun _ hk => hk.1.2) (.slice Ao16 t25.length co16)) (fun _ hk => hk.2) (.slice Ao11 t23.length co11)) (fun _ hk => hk.2) (.slice Ao16 t25.length co16)) (fun _ hk => hk.1.1.2), by apply_rules [HB.out, Qc, Qa, Qb, Qd, GE19.out, GE21.out, GE22.out]⟩
set_option maxHeartbeats 8000000 in
set_option maxRecDepth 100000 in
theorem ZleqLog.calls (k : Nat) (A0_0 : Option Addr) (c0_0 : Nat) (l0_0 : List Int) (A0_1 : Option Addr) (c0_1 : Nat) (l0_1 : List Int) (A1_0 : Option Addr) (c1_0 : Nat) (l1_0 : List Int) (A1_1 : Option Addr) (c1_1 : Nat) (l1_1 : List Int) (r : Bool) (w : World) (hr0_0 : Kd.C (Kd.int .u8) w A0_0 l0_0.length l0_0) (hc0_0 : l0_0.length ≤ c0_0) (hr0_1 : Kd.C (Kd.int .u8) w A0_1 l0_1.length l0_1) (hc0_1 : l0_1.length ≤ c0_1) (hr1_0 : Kd.C (Kd.int .u8) w A1_0 l1_0.length l1_0) (hc1_0 : l1_0.length ≤ c1_0) (hr1_1 : Kd.C (Kd.int .u8) w A1_1 l1_1.length l1_1) (hc1_1 : l1_1.length ≤ c1_1) (h : ZleqLog.f k l0_0 l0_1 l1_0 l1_1 = some r) :
 Calls Try.prog 15 #[.agg #[.slice A0_0 l0_0.length c0_0, .slice A0_1 l0_1.length c0_1], .agg #[.slice A1_0 l1_0.length c1_0, .slice A1_1 l1_1.length c1_1]] w fun e w' => e = .returned (.bool r) ∧ Below w.heap.size w w' := by
 have hu27 := Try.underlying27
 have HR0_0 := Qz.mk hr0_0
 have HC0_0 := Qz.mk hc0_0
 clear hr0_0 hc0_0
 have HR0_1 := Qz.mk hr0_1
 have HC0_1 := Qz.mk hc0_1
 clear hr0_1 hc0_1
 have HR1_0 := Qz.mk hr1_0
 have HC1_0 := Qz.mk hc1_0
 clear hr1_0 hc1_0
 have HR1_1 := Qz.mk hr1_1
 have HC1_1 := Qz.mk hc1_1
 clear hr1_1 hc1_1
 have HB := Qz.mk (Below.refl w.heap.size w)
 have H : ((ZleqByteS.f k l0_0 l1_0).bind fun t25 => (if t25 = true then ((ZleqByteS.f k l0_1 l1_1).bind fun t24 => (if t24 = true then (some true) else (some false))) else (some false))) = some r := h
 clear h
 replace H := Qj9 H
 obtain ⟨t25, A30, H⟩ := H
 replace H : (if t25 = true then ((ZleqByteS.f k l0_1 l1_1).bind fun t24 => (if t24 = true then (some true) else (some false))) else (some false)) = some r := H
 have A3 := Qz.mk A30
 clear A30
 by_cases c4 : t25 = true
 ·subst c4
  have H1 : ((ZleqByteS.f k l0_1 l1_1).bind fun t24 => (if t24 = true then (some true) else (some false))) = some r := by rw [if_pos rfl] at H; exact H
  clear H
  have H := H1
  clear H1
  replace H := Qj9 H
  obtain ⟨t24, A50, H⟩ := H
  replace H : (if t24 = true then (some true) else (some false)) = some r := H
  have A5 := Qz.mk A50
  clear A50
  by_cases c6 : t24 = true
  ·subst c6
   have H1 : (some true) = some r := by rw [if_pos rfl] at H; exact H
   clear H
   have H := H1
   clear H1
   obtain rfl := Option.some.inj H
   go_enter Try.func15, Try.ntmps15
   go_wp2_with (first | ((with_reducible refine gate_dst (N := 2) rfl ?_); refine box_event ?hg (N := 2) ?hd (cs := #[.slice A0_0 l0_0.length c0_0, .slice A0_1 l0_1.length c0_1]) (t := 27) ?hr ?_; (case hd => rfl); (case hg => rfl); (case hr => first | (go_simp; done) | (go_simp; rfl)); intro gb22 hg w7 hbox hb; have n0_ := Qz.mk (Qq (by apply_rules [HB.out, Qc, Qa, Qb]) hb); have n1_ := Qz.mk (hbox); have n2_ := Qz.mk ((by rw [hg]; exact (Qp (by apply_rules [HB.out, Qc, Qa, Qb])) : w.heap.size ≤ gb22)); have n3_ := n2_; clear HB; have HB := n0_; have BK22 := n1_; have GW22 := n2_; have GE22 := n3_; clear n0_ n1_ n2_ n3_; clear hb hbox hg) | ((with_reducible refine gate_dst (N := 3) rfl ?_); refine box_event ?hg (N := 3) ?hd (cs := #[.slice A1_0 l1_0.length c1_0, .slice A1_1 l1_1.length c1_1]) (t := 27) ?hr ?_; (case hd => rfl); (case hg => rfl); (case hr => first | (go_simp; done) | (go_simp; rfl)); intro gb23 hg w8 hbox hb; have n0_ := Qz.mk (Qi (g := gb22) (o := .cells #[.slice A0_0 l0_0.length c0_0, .slice A0_1 l0_1.length c0_1] 27 (0, 0)) (by apply_rules [BK22.out, Qe, Qg, Qf]) hb); have n1_ := Qz.mk (Qq (by apply_rules [HB.out, Qc, Qa, Qb, Qd, GE22.out]) hb); have n2_ := Qz.mk (hbox); have n3_ := Qz.mk ((by rw [hg]; exact (Qp (by apply_rules [HB.out, Qc, Qa, Qb, Qd, GE22.out])) : w.heap.size ≤ gb23)); have n4_ := n3_; have n5_ := Qz.mk ((by rw [hg]; exact Nat.ne_of_lt (Ql (g := gb22) (o := .cells #[.slice A0_0 l0_0.length c0_0, .slice A0_1 l0_1.length c0_1] 27 (0, 0)) (by apply_rules [BK22.out, Qe, Qg, Qf])) : gb22 ≠ gb23)); have n6_ := Qz.mk ((by rw [hg]; exact Nat.ne_of_gt (Ql (g := gb22) (o := .cells #[.slice A0_0 l0_0.length c0_0, .slice A0_1 l0_1.length c0_1] 27 (0, 0)) (by apply_rules [BK22.out, Qe, Qg, Qf])) : gb23 ≠ gb22)); clear BK22; clear HB; have BK22 := n0_; have HB := n1_; have BK23 := n2_; have GW23 := n3_; have GE23 := n4_; have NB350_351 := n5_; have NB351_350 := n6_; clear n0_ n1_ n2_ n3_ n4_ n5_ n6_; clear hb hbox hg; have hnb9 := NB350_351.out; have hnc9 := NB351_350.out; obtain ⟨z10_0, z10_1, j10_0, j10_1⟩ := Lv.blks2 BK22.out; obtain ⟨z11_0, z11_1, j11_0, j11_1⟩ := Lv.blks2 BK23.out) | ((with_reducible refine gate_callee (f := 32) rfl ?_); refine Qat (some 9) rfl rfl Try.func32 (by kernel_rfl) rfl #[.slice A0_0 l0_0.length c0_0, .slice A1_0 l1_0.length c1_0] rfl (by (try simp only [Qj4, Qj5, Qj6]); first | done | rfl | (simp only [Qj7, Qj8]; rfl)) ?_; (with_reducible refine (ZleqByteS.calls k _ _ l0_0 _ _ l1_0 true _ ?side1 ?side2 ?side3 ?side4 A3.out).mono ?_); (case side1 => repeat (first | exact (Kd.Qac HR0_0.out HB.out) | (with_reducible first | refine Kd.Qaa ?_ _ | refine Kd.Qz ?_ _ | refine Kd.Qab ?_))); (case side2 => exact HC0_0.out); (case side3 => repeat (first | exact (Kd.Qac HR1_0.out HB.out) | (with_reducible first | refine Kd.Qaa ?_ _ | refine Kd.Qz ?_ _ | refine Kd.Qab ?_))); (case side4 => exact HC1_0.out); rintro e w' ⟨rfl, ⟨nd, rfl⟩⟩; refine ⟨_, rfl, ?_⟩) | ((with_reducible refine gate_callee (f := 32) rfl ?_); refine Qat (some 15) rfl rfl Try.func32 (by kernel_rfl) rfl #[.slice A0_1 l0_1.length c0_1, .slice A1_1 l1_1.length c1_1] rfl (by (try simp only [Qj4, Qj5, Qj6]); first | done | rfl | (simp only [Qj7, Qj8]; rfl)) ?_; (with_reducible refine (ZleqByteS.calls k _ _ l0_1 _ _ l1_1 true _ ?side1 ?side2 ?side3 ?side4 A5.out).mono ?_); (case side1 => repeat (first | exact (Kd.Qac HR0_1.out (by apply_rules [HB.out, Qc, Qa, Qb, Qd, GE22.out, GE23.out])) | (with_reducible first | refine Kd.Qaa ?_ _ | refine Kd.Qz ?_ _ | refine Kd.Qab ?_))); (case side2 => exact HC0_1.out); (case side3 => repeat (first | exact (Kd.Qac HR1_1.out (by apply_rules [HB.out, Qc, Qa, Qb, Qd, GE22.out, GE23.out])) | (with_reducible first | refine Kd.Qaa ?_ _ | refine Kd.Qz ?_ _ | refine Kd.Qab ?_))); (case side4 => exact HC1_1.out); rintro e w' ⟨rfl, ⟨nd, rfl⟩⟩; refine ⟨_, rfl, ?_⟩))
   go_ret
   exact ⟨by first | rfl | (simp [Qv, Qu] <;> rfl) | (simp [*, Qv, Qu] <;> rfl), by apply_rules [HB.out, Qc, Qa, Qb, Qd, GE22.out, GE23.out]⟩
  replace c6 := Bool.eq_false_iff.mpr c6
  subst c6
  have H1 : (some false) = some r := by rw [if_neg (show ¬ (false = true) by decide)] at H; exact H
  clear H
  have H := H1
  clear H1
  obtain rfl := Option.some.inj H
  go_enter Try.func15, Try.ntmps15
  go_wp2_with (first | ((with_reducible refine gate_dst (N := 2) rfl ?_); refine box_event ?hg (N := 2) ?hd (cs := #[.slice A0_0 l0_0.length c0_0, .slice A0_1 l0_1.length c0_1]) (t := 27) ?hr ?_; (case hd => rfl); (case hg => rfl); (case hr => first | (go_simp; done) | (go_simp; rfl)); intro gb22 hg w12 hbox hb; have n0_ := Qz.mk (Qq (by apply_rules [HB.out, Qc, Qa, Qb]) hb); have n1_ := Qz.mk (hbox); have n2_ := Qz.mk ((by rw [hg]; exact (Qp (by apply_rules [HB.out, Qc, Qa, Qb])) : w.heap.size ≤ gb22)); have n3_ := n2_; clear HB; have HB := n0_; have BK22 := n1_; have GW22 := n2_; have GE22 := n3_; clear n0_ n1_ n2_ n3_; clear hb hbox hg) | ((with_reducible refine gate_dst (N := 3) rfl ?_); refine box_event ?hg (N := 3) ?hd (cs := #[.slice A1_0 l1_0.length c1_0, .slice A1_1 l1_1.length c1_1]) (t := 27) ?hr ?_; (case hd => rfl); (case hg => rfl); (case hr => first | (go_simp; done) | (go_simp; rfl)); intro gb23 hg w13 hbox hb; have n0_ := Qz.mk (Qi (g := gb22) (o := .cells #[.slice A0_0 l0_0.length c0_0, .slice A0_1 l0_1.length c0_1] 27 (0, 0)) (by apply_rules [BK22.out, Qe, Qg, Qf]) hb); have n1_ := Qz.mk (Qq (by apply_rules [HB.out, Qc, Qa, Qb, Qd, GE22.out]) hb); have n2_ := Qz.mk (hbox); have n3_ := Qz.mk ((by rw [hg]; exact (Qp (by apply_rules [HB.out, Qc, Qa, Qb, Qd, GE22.out])) : w.heap.size ≤ gb23)); have n4_ := n3_; have n5_ := Qz.mk ((by rw [hg]; exact Nat.ne_of_lt (Ql (g := gb22) (o := .cells #[.slice A0_0 l0_0.length c0_0, .slice A0_1 l0_1.length c0_1] 27 (0, 0)) (by apply_rules [BK22.out, Qe, Qg, Qf])) : gb22 ≠ gb23)); have n6_ := Qz.mk ((by rw [hg]; exact Nat.ne_of_gt (Ql (g := gb22) (o := .cells #[.slice A0_0 l0_0.length c0_0, .slice A0_1 l0_1.length c0_1] 27 (0, 0)) (by apply_rules [BK22.out, Qe, Qg, Qf])) : gb23 ≠ gb22)); clear BK22; clear HB; have BK22 := n0_; have HB := n1_; have BK23 := n2_; have GW23 := n3_; have GE23 := n4_; have NB350_351 := n5_; have NB351_350 := n6_; clear n0_ n1_ n2_ n3_ n4_ n5_ n6_; clear hb hbox hg; have hnb14 := NB350_351.out; have hnc14 := NB351_350.out; obtain ⟨z15_0, z15_1, j15_0, j15_1⟩ := Lv.blks2 BK22.out; obtain ⟨z16_0, z16_1, j16_0, j16_1⟩ := Lv.blks2 BK23.out) | ((with_reducible refine gate_callee (f := 32) rfl ?_); refine Qat (some 9) rfl rfl Try.func32 (by kernel_rfl) rfl #[.slice A0_0 l0_0.length c0_0, .slice A1_0 l1_0.length c1_0] rfl (by (try simp only [Qj4, Qj5, Qj6]); first | done | rfl | (simp only [Qj7, Qj8]; rfl)) ?_; (with_reducible refine (ZleqByteS.calls k _ _ l0_0 _ _ l1_0 true _ ?side1 ?side2 ?side3 ?side4 A3.out).mono ?_); (case side1 => repeat (first | exact (Kd.Qac HR0_0.out HB.out) | (with_reducible first | refine Kd.Qaa ?_ _ | refine Kd.Qz ?_ _ | refine Kd.Qab ?_))); (case side2 => exact HC0_0.out); (case side3 => repeat (first | exact (Kd.Qac HR1_0.out HB.out) | (with_reducible first | refine Kd.Qaa ?_ _ | refine Kd.Qz ?_ _ | refine Kd.Qab ?_))); (case side4 => exact HC1_0.out); rintro e w' ⟨rfl, ⟨nd, rfl⟩⟩; refine ⟨_, rfl, ?_⟩) | ((with_reducible refine gate_callee (f := 32) rfl ?_); refine Qat (some 15) rfl rfl Try.func32 (by kernel_rfl) rfl #[.slice A0_1 l0_1.length c0_1, .slice A1_1 l1_1.length c1_1] rfl (by (try simp only [Qj4, Qj5, Qj6]); first | done | rfl | (simp only [Qj7, Qj8]; rfl)) ?_; (with_reducible refine (ZleqByteS.calls k _ _ l0_1 _ _ l1_1 false _ ?side1 ?side2 ?side3 ?side4 A5.out).mono ?_); (case side1 => repeat (first | exact (Kd.Qac HR0_1.out (by apply_rules [HB.out, Qc, Qa, Qb, Qd, GE22.out, GE23.out])) | (with_reducible first | refine Kd.Qaa ?_ _ | refine Kd.Qz ?_ _ | refine Kd.Qab ?_))); (case side2 => exact HC0_1.out); (case side3 => repeat (first | exact (Kd.Qac HR1_1.out (by apply_rules [HB.out, Qc, Qa, Qb, Qd, GE22.out, GE23.out])) | (with_reducible first | refine Kd.Qaa ?_ _ | refine Kd.Qz ?_ _ | refine Kd.Qab ?_))); (case side4 => exact HC1_1.out); rintro e w' ⟨rfl, ⟨nd, rfl⟩⟩; refine ⟨_, rfl, ?_⟩))
  go_ret
  exact ⟨by first | rfl | (simp [Qv, Qu] <;> rfl) | (simp [*, Qv, Qu] <;> rfl), by apply_rules [HB.out, Qc, Qa, Qb, Qd, GE22.out, GE23.out]⟩
 replace c4 := Bool.eq_false_iff.mpr c4
 subst c4
 have H1 : (some false) = some r := by rw [if_neg (show ¬ (false = true) by decide)] at H; exact H
 clear H
 have H := H1
 clear H1
 obtain rfl := Option.some.inj H
 go_enter Try.func15, Try.ntmps15
 go_wp2_with (first | ((with_reducible refine gate_dst (N := 2) rfl ?_); refine box_event ?hg (N := 2) ?hd (cs := #[.slice A0_0 l0_0.length c0_0, .slice A0_1 l0_1.length c0_1]) (t := 27) ?hr ?_; (case hd => rfl); (case hg => rfl); (case hr => first | (go_simp; done) | (go_simp; rfl)); intro gb22 hg w17 hbox hb; have n0_ := Qz.mk (Qq (by apply_rules [HB.out, Qc, Qa, Qb]) hb); have n1_ := Qz.mk (hbox); have n2_ := Qz.mk ((by rw [hg]; exact (Qp (by apply_rules [HB.out, Qc, Qa, Qb])) : w.heap.size ≤ gb22)); have n3_ := n2_; clear HB; have HB := n0_; have BK22 := n1_; have GW22 := n2_; have GE22 := n3_; clear n0_ n1_ n2_ n3_; clear hb hbox hg) | ((with_reducible refine gate_dst (N := 3) rfl ?_); refine box_event ?hg (N := 3) ?hd (cs := #[.slice A1_0 l1_0.length c1_0, .slice A1_1 l1_1.length c1_1]) (t := 27) ?hr ?_; (case hd => rfl); (case hg => rfl); (case hr => first | (go_simp; done) | (go_simp; rfl)); intro gb23 hg w18 hbox hb; have n0_ := Qz.mk (Qi (g := gb22) (o := .cells #[.slice A0_0 l0_0.length c0_0, .slice A0_1 l0_1.length c0_1] 27 (0, 0)) (by apply_rules [BK22.out, Qe, Qg, Qf]) hb); have n1_ := Qz.mk (Qq (by apply_rules [HB.out, Qc, Qa, Qb, Qd, GE22.out]) hb); have n2_ := Qz.mk (hbox); have n3_ := Qz.mk ((by rw [hg]; exact (Qp (by apply_rules [HB.out, Qc, Qa, Qb, Qd, GE22.out])) : w.heap.size ≤ gb23)); have n4_ := n3_; have n5_ := Qz.mk ((by rw [hg]; exact Nat.ne_of_lt (Ql (g := gb22) (o := .cells #[.slice A0_0 l0_0.length c0_0, .slice A0_1 l0_1.length c0_1] 27 (0, 0)) (by apply_rules [BK22.out, Qe, Qg, Qf])) : gb22 ≠ gb23)); have n6_ := Qz.mk ((by rw [hg]; exact Nat.ne_of_gt (Ql (g := gb22) (o := .cells #[.slice A0_0 l0_0.length c0_0, .slice A0_1 l0_1.length c0_1] 27 (0, 0)) (by apply_rules [BK22.out, Qe, Qg, Qf])) : gb23 ≠ gb22)); clear BK22; clear HB; have BK22 := n0_; have HB := n1_; have BK23 := n2_; have GW23 := n3_; have GE23 := n4_; have NB350_351 := n5_; have NB351_350 := n6_; clear n0_ n1_ n2_ n3_ n4_ n5_ n6_; clear hb hbox hg; have hnb19 := NB350_351.out; have hnc19 := NB351_350.out; obtain ⟨z20_0, z20_1, j20_0, j20_1⟩ := Lv.blks2 BK22.out; obtain ⟨z21_0, z21_1, j21_0, j21_1⟩ := Lv.blks2 BK23.out) | ((with_reducible refine gate_callee (f := 32) rfl ?_); refine Qat (some 9) rfl rfl Try.func32 (by kernel_rfl) rfl #[.slice A0_0 l0_0.length c0_0, .slice A1_0 l1_0.length c1_0] rfl (by (try simp only [Qj4, Qj5, Qj6]); first | done | rfl | (simp only [Qj7, Qj8]; rfl)) ?_; (with_reducible refine (ZleqByteS.calls k _ _ l0_0 _ _ l1_0 false _ ?side1 ?side2 ?side3 ?side4 A3.out).mono ?_); (case side1 => repeat (first | exact (Kd.Qac HR0_0.out HB.out) | (with_reducible first | refine Kd.Qaa ?_ _ | refine Kd.Qz ?_ _ | refine Kd.Qab ?_))); (case side2 => exact HC0_0.out); (case side3 => repeat (first | exact (Kd.Qac HR1_0.out HB.out) | (with_reducible first | refine Kd.Qaa ?_ _ | refine Kd.Qz ?_ _ | refine Kd.Qab ?_))); (case side4 => exact HC1_0.out); rintro e w' ⟨rfl, ⟨nd, rfl⟩⟩; refine ⟨_, rfl, ?_⟩))
 go_ret
 exact ⟨by first | rfl | (simp [Qv, Qu] <;> rfl) | (simp [*, Qv, Qu] <;> rfl), by apply_rules [HB.out, Qc, Qa, Qb, Qd, GE22.out, GE23.out]⟩
end Go.Proofs.Ythagppmaofcllaa.P
