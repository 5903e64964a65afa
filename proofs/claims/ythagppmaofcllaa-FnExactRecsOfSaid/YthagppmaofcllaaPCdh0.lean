import Derived.Test.YthagppmaofcllaaP0
import Derived.Test.YthagppmaofcllaaPCbdh0
import Derived.Test.YthagppmaofcllaaPDm0
import Derived.Test.YthagppmaofcllaaPDm1
import Derived.Test.YthagppmaofcllaaWRepsOne
import Derived.Test.YthagppmaofcllaaLv
import Derived.Test.YthagppmaofcllaaLv
import Derived.Test.YthagppmaofcllaaLv
namespace Go.Proofs.Ythagppmaofcllaa.P
open Go.RowKit Go.Proofs.YthagppmaofcllaaW.PrintWords Go.Proofs.YthagppmaofcllaaW.PrintLast Go.Proofs.YthagppmaofcllaaW.PrintMore
attribute [local go_sem] max2_int min2_int max_two min_two max_three min_three max_four min_four   -- for this text's walks alone
set_option linter.unusedVariables false
set_option linter.unusedSimpArgs false
set_option maxHeartbeats 8000000 in
set_option maxRecDepth 100000 in
theorem ZleqRecsResult.calls (k : Nat) (a0_0 : Int) (a0_1 : Int) (A0_2 : Option Addr) (c0_2 : Nat) (l0_2 : List (S48)) (a1_0 : Int) (a1_1 : Int) (A1_2 : Option Addr) (c1_2 : Nat) (l1_2 : List (S48)) (r : Bool) (w : World) (hr0_2 : Kd.C k48 w A0_2 l0_2.length l0_2) (hc0_2 : l0_2.length ≤ c0_2) (hr1_2 : Kd.C k48 w A1_2 l1_2.length l1_2) (hc1_2 : l1_2.length ≤ c1_2) (h : ZleqRecsResult.f k a0_0 a0_1 l0_2 a1_0 a1_1 l1_2 = some r) :
 Calls Try.prog 31 #[.agg #[.int .i64 a0_0, .int .i64 a0_1, .slice A0_2 l0_2.length c0_2], .agg #[.int .i64 a1_0, .int .i64 a1_1, .slice A1_2 l1_2.length c1_2]] w fun e w' => e = .returned (.bool r) ∧ Below w.heap.size w w' := by
 have hu51 := Try.underlying51
 have HR0_2 := Qz.mk hr0_2
 have HC0_2 := Qz.mk hc0_2
 clear hr0_2 hc0_2
 have HR1_2 := Qz.mk hr1_2
 have HC1_2 := Qz.mk hc1_2
 clear hr1_2 hc1_2
 have HB := Qz.mk (Below.refl w.heap.size w)
 have H : (if a0_0 = a1_0 then (if a0_1 = a1_1 then ((ZleqRecS.f k l0_2 l1_2).bind fun t32 => (if t32 = true then (some true) else (some false))) else (some false)) else (some false)) = some r := h
 clear h
 by_cases c3 : a0_0 = a1_0
 ·rw [if_pos c3] at H
  have c3b0 : (a0_0 == a1_0) = true := beq_iff_eq.mpr c3
  have c3b1 : (a0_0 != a1_0) = false := bne_eq_false_iff_eq.mpr c3
  clear c3
  by_cases c4 : a0_1 = a1_1
  ·rw [if_pos c4] at H
   have c4b0 : (a0_1 == a1_1) = true := beq_iff_eq.mpr c4
   have c4b1 : (a0_1 != a1_1) = false := bne_eq_false_iff_eq.mpr c4
   clear c4
   replace H := Qj9 H
   obtain ⟨t32, A50, H⟩ := H
   replace H : (if t32 = true then (some true) else (some false)) = some r := H
   have A5 := Qz.mk A50
   clear A50
   by_cases c6 : t32 = true
   ·subst c6
    have H1 : (some true) = some r := by rw [if_pos rfl] at H; exact H
    clear H
    have H := H1
    clear H1
    obtain rfl := Option.some.inj H
    go_enter Try.func31, Try.ntmps31
    go_wp2_with (first | ((with_reducible refine gate_dst (N := 2) rfl ?_); refine box_event ?hg (N := 2) ?hd (cs := #[.int .i64 a0_0, .int .i64 a0_1, .slice A0_2 l0_2.length c0_2]) (t := 51) ?hr ?_; (case hd => rfl); (case hg => rfl); (case hr => first | (go_simp; done) | (go_simp; rfl)); intro gb29 hg w7 hbox hb; have n0_ := Qz.mk (Qq (by apply_rules [HB.out, Qc, Qa, Qb]) hb); have n1_ := Qz.mk (hbox); have n2_ := Qz.mk ((by rw [hg]; exact (Qp (by apply_rules [HB.out, Qc, Qa, Qb])) : w.heap.size ≤ gb29)); have n3_ := n2_; clear HB; have HB := n0_; have BK29 := n1_; have GW29 := n2_; have GE29 := n3_; clear n0_ n1_ n2_ n3_; clear hb hbox hg) | ((with_reducible refine gate_dst (N := 3) rfl ?_); refine box_event ?hg (N := 3) ?hd (cs := #[.int .i64 a1_0, .int .i64 a1_1, .slice A1_2 l1_2.length c1_2]) (t := 51) ?hr ?_; (case hd => rfl); (case hg => rfl); (case hr => first | (go_simp; done) | (go_simp; rfl)); intro gb30 hg w8 hbox hb; have n0_ := Qz.mk (Qi (g := gb29) (o := .cells #[.int .i64 a0_0, .int .i64 a0_1, .slice A0_2 l0_2.length c0_2] 51 (0, 0)) (by apply_rules [BK29.out, Qe, Qg, Qf]) hb); have n1_ := Qz.mk (Qq (by apply_rules [HB.out, Qc, Qa, Qb, Qd, GE29.out]) hb); have n2_ := Qz.mk (hbox); have n3_ := Qz.mk ((by rw [hg]; exact (Qp (by apply_rules [HB.out, Qc, Qa, Qb, Qd, GE29.out])) : w.heap.size ≤ gb30)); have n4_ := n3_; have n5_ := Qz.mk ((by rw [hg]; exact Nat.ne_of_lt (Ql (g := gb29) (o := .cells #[.int .i64 a0_0, .int .i64 a0_1, .slice A0_2 l0_2.length c0_2] 51 (0, 0)) (by apply_rules [BK29.out, Qe, Qg, Qf])) : gb29 ≠ gb30)); have n6_ := Qz.mk ((by rw [hg]; exact Nat.ne_of_gt (Ql (g := gb29) (o := .cells #[.int .i64 a0_0, .int .i64 a0_1, .slice A0_2 l0_2.length c0_2] 51 (0, 0)) (by apply_rules [BK29.out, Qe, Qg, Qf])) : gb30 ≠ gb29)); clear BK29; clear HB; have BK29 := n0_; have HB := n1_; have BK30 := n2_; have GW30 := n3_; have GE30 := n4_; have NB692_693 := n5_; have NB693_692 := n6_; clear n0_ n1_ n2_ n3_ n4_ n5_ n6_; clear hb hbox hg; have hnb9 := NB692_693.out; have hnc9 := NB693_692.out; obtain ⟨z10_0, z10_1, z10_2, j10_0, j10_1, j10_2⟩ := Lv.blks3 BK29.out; obtain ⟨z11_0, z11_1, z11_2, j11_0, j11_1, j11_2⟩ := Lv.blks3 BK30.out) | ((with_reducible refine gate_callee (f := 21) rfl ?_); refine Qat (some 19) rfl rfl Try.func21 (by kernel_rfl) rfl #[.slice A0_2 l0_2.length c0_2, .slice A1_2 l1_2.length c1_2] rfl (by (try simp only [Qj4, Qj5, Qj6]); first | done | rfl | (simp only [Qj7, Qj8]; rfl)) ?_; (with_reducible refine (ZleqRecS.calls k _ _ l0_2 _ _ l1_2 true _ ?side1 ?side2 ?side3 ?side4 A5.out).mono ?_); (case side1 => repeat (first | exact (Kd.Qac HR0_2.out HB.out) | (with_reducible first | refine Kd.Qaa ?_ _ | refine Kd.Qz ?_ _ | refine Kd.Qab ?_))); (case side2 => exact HC0_2.out); (case side3 => repeat (first | exact (Kd.Qac HR1_2.out HB.out) | (with_reducible first | refine Kd.Qaa ?_ _ | refine Kd.Qz ?_ _ | refine Kd.Qab ?_))); (case side4 => exact HC1_2.out); rintro e w12 ⟨rfl, hb⟩; refine ⟨_, rfl, ?_⟩; have n0_ := Qz.mk (Qi (g := gb29) (o := .cells #[.int .i64 a0_0, .int .i64 a0_1, .slice A0_2 l0_2.length c0_2] 51 (0, 0)) (by apply_rules [BK29.out, Qe, Qg, Qf]) hb); have n1_ := Qz.mk (Qi (g := gb30) (o := .cells #[.int .i64 a1_0, .int .i64 a1_1, .slice A1_2 l1_2.length c1_2] 51 (0, 0)) (by apply_rules [BK30.out, Qe, Qg, Qf]) hb); have n2_ := Qz.mk (Qq (by apply_rules [HB.out, Qc, Qa, Qb, Qd, GE29.out, GE30.out]) hb); clear BK29; clear BK30; clear HB; have BK29 := n0_; have BK30 := n1_; have HB := n2_; clear n0_ n1_ n2_; (try clear hb); (try clear hb2); (try clear hk); (try clear hi)))
    go_ret
    exact ⟨by first | rfl | (simp [Qv, Qu] <;> rfl) | (simp [*, Qv, Qu] <;> rfl), by apply_rules [HB.out, Qc, Qa, Qb, Qd, GE29.out, GE30.out]⟩
   replace c6 := Bool.eq_false_iff.mpr c6
   subst c6
   have H1 : (some false) = some r := by rw [if_neg (show ¬ (false = true) by decide)] at H; exact H
   clear H
   have H := H1
   clear H1
   obtain rfl := Option.some.inj H
   go_enter Try.func31, Try.ntmps31
   go_wp2_with (first | ((with_reducible refine gate_dst (N := 2) rfl ?_); refine box_event ?hg (N := 2) ?hd (cs := #[.int .i64 a0_0, .int .i64 a0_1, .slice A0_2 l0_2.length c0_2]) (t := 51) ?hr ?_; (case hd => rfl); (case hg => rfl); (case hr => first | (go_simp; done) | (go_simp; rfl)); intro gb29 hg w13 hbox hb; have n0_ := Qz.mk (Qq (by apply_rules [HB.out, Qc, Qa, Qb]) hb); have n1_ := Qz.mk (hbox); have n2_ := Qz.mk ((by rw [hg]; exact (Qp (by apply_rules [HB.out, Qc, Qa, Qb])) : w.heap.size ≤ gb29)); have n3_ := n2_; clear HB; have HB := n0_; have BK29 := n1_; have GW29 := n2_; have GE29 := n3_; clear n0_ n1_ n2_ n3_; clear hb hbox hg) | ((with_reducible refine gate_dst (N := 3) rfl ?_); refine box_event ?hg (N := 3) ?hd (cs := #[.int .i64 a1_0, .int .i64 a1_1, .slice A1_2 l1_2.length c1_2]) (t := 51) ?hr ?_; (case hd => rfl); (case hg => rfl); (case hr => first | (go_simp; done) | (go_simp; rfl)); intro gb30 hg w14 hbox hb; have n0_ := Qz.mk (Qi (g := gb29) (o := .cells #[.int .i64 a0_0, .int .i64 a0_1, .slice A0_2 l0_2.length c0_2] 51 (0, 0)) (by apply_rules [BK29.out, Qe, Qg, Qf]) hb); have n1_ := Qz.mk (Qq (by apply_rules [HB.out, Qc, Qa, Qb, Qd, GE29.out]) hb); have n2_ := Qz.mk (hbox); have n3_ := Qz.mk ((by rw [hg]; exact (Qp (by apply_rules [HB.out, Qc, Qa, Qb, Qd, GE29.out])) : w.heap.size ≤ gb30)); have n4_ := n3_; have n5_ := Qz.mk ((by rw [hg]; exact Nat.ne_of_lt (Ql (g := gb29) (o := .cells #[.int .i64 a0_0, .int .i64 a0_1, .slice A0_2 l0_2.length c0_2] 51 (0, 0)) (by apply_rules [BK29.out, Qe, Qg, Qf])) : gb29 ≠ gb30)); have n6_ := Qz.mk ((by rw [hg]; exact Nat.ne_of_gt (Ql (g := gb29) (o := .cells #[.int .i64 a0_0, .int .i64 a0_1, .slice A0_2 l0_2.length c0_2] 51 (0, 0)) (by apply_rules [BK29.out, Qe, Qg, Qf])) : gb30 ≠ gb29)); clear BK29; clear HB; have BK29 := n0_; have HB := n1_; have BK30 := n2_; have GW30 := n3_; have GE30 := n4_; have NB692_693 := n5_; have NB693_692 := n6_; clear n0_ n1_ n2_ n3_ n4_ n5_ n6_; clear hb hbox hg; have hnb15 := NB692_693.out; have hnc15 := NB693_692.out; obtain ⟨z16_0, z16_1, z16_2, j16_0, j16_1, j16_2⟩ := Lv.blks3 BK29.out; obtain ⟨z17_0, z17_1, z17_2, j17_0, j17_1, j17_2⟩ := Lv.blks3 BK30.out) | ((with_reducible refine gate_callee (f := 21) rfl ?_); refine Qat (some 19) rfl rfl Try.func21 (by kernel_rfl) rfl #[.slice A0_2 l0_2.length c0_2, .slice A1_2 l1_2.length c1_2] rfl (by (try simp only [Qj4, Qj5, Qj6]); first | done | rfl | (simp only [Qj7, Qj8]; rfl)) ?_; (with_reducible refine (ZleqRecS.calls k _ _ l0_2 _ _ l1_2 false _ ?side1 ?side2 ?side3 ?side4 A5.out).mono ?_); (case side1 => repeat (first | exact (Kd.Qac HR0_2.out HB.out) | (with_reducible first | refine Kd.Qaa ?_ _ | refine Kd.Qz ?_ _ | refine Kd.Qab ?_))); (case side2 => exact HC0_2.out); (case side3 => repeat (first | exact (Kd.Qac HR1_2.out HB.out) | (with_reducible first | refine Kd.Qaa ?_ _ | refine Kd.Qz ?_ _ | refine Kd.Qab ?_))); (case side4 => exact HC1_2.out); rintro e w18 ⟨rfl, hb⟩; refine ⟨_, rfl, ?_⟩; have n0_ := Qz.mk (Qi (g := gb29) (o := .cells #[.int .i64 a0_0, .int .i64 a0_1, .slice A0_2 l0_2.length c0_2] 51 (0, 0)) (by apply_rules [BK29.out, Qe, Qg, Qf]) hb); have n1_ := Qz.mk (Qi (g := gb30) (o := .cells #[.int .i64 a1_0, .int .i64 a1_1, .slice A1_2 l1_2.length c1_2] 51 (0, 0)) (by apply_rules [BK30.out, Qe, Qg, Qf]) hb); have n2_ := Qz.mk (Qq (by apply_rules [HB.out, Qc, Qa, Qb, Qd, GE29.out, GE30.out]) hb); clear BK29; clear BK30; clear HB; have BK29 := n0_; have BK30 := n1_; have HB := n2_; clear n0_ n1_ n2_; (try clear hb); (try clear hb2); (try clear hk); (try clear hi)))
   go_ret
   exact ⟨by first | rfl | (simp [Qv, Qu] <;> rfl) | (simp [*, Qv, Qu] <;> rfl), by apply_rules [HB.out, Qc, Qa, Qb, Qd, GE29.out, GE30.out]⟩
  rw [if_neg c4] at H
  have c4b0 : (a0_1 == a1_1) = false := beq_eq_false_iff_ne.mpr c4
  have c4b1 : (a0_1 != a1_1) = true := bne_iff_ne.mpr c4
  obtain rfl := Option.some.inj H
  go_enter Try.func31, Try.ntmps31
  go_wp2_with (first | ((with_reducible refine gate_dst (N := 2) rfl ?_); refine box_event ?hg (N := 2) ?hd (cs := #[.int .i64 a0_0, .int .i64 a0_1, .slice A0_2 l0_2.length c0_2]) (t := 51) ?hr ?_; (case hd => rfl); (case hg => rfl); (case hr => first | (go_simp; done) | (go_simp; rfl)); intro gb29 hg w19 hbox hb; have n0_ := Qz.mk (Qq (by apply_rules [HB.out, Qc, Qa, Qb]) hb); have n1_ := Qz.mk (hbox); have n2_ := Qz.mk ((by rw [hg]; exact (Qp (by apply_rules [HB.out, Qc, Qa, Qb])) : w.heap.size ≤ gb29)); have n3_ := n2_; clear HB; have HB := n0_; have BK29 := n1_; have GW29 := n2_; have GE29 := n3_; clear n0_ n1_ n2_ n3_; clear hb hbox hg) | ((with_reducible refine gate_dst (N := 3) rfl ?_); refine box_event ?hg (N := 3) ?hd (cs := #[.int .i64 a1_0, .int .i64 a1_1, .slice A1_2 l1_2.length c1_2]) (t := 51) ?hr ?_; (case hd => rfl); (case hg => rfl); (case hr => first | (go_simp; done) | (go_simp; rfl)); intro gb30 hg w20 hbox hb; have n0_ := Qz.mk (Qi (g := gb29) (o := .cells #[.int .i64 a0_0, .int .i64 a0_1, .slice A0_2 l0_2.length c0_2] 51 (0, 0)) (by apply_rules [BK29.out, Qe, Qg, Qf]) hb); have n1_ := Qz.mk (Qq (by apply_rules [HB.out, Qc, Qa, Qb, Qd, GE29.out]) hb); have n2_ := Qz.mk (hbox); have n3_ := Qz.mk ((by rw [hg]; exact (Qp (by apply_rules [HB.out, Qc, Qa, Qb, Qd, GE29.out])) : w.heap.size ≤ gb30)); have n4_ := n3_; have n5_ := Qz.mk ((by rw [hg]; exact Nat.ne_of_lt (Ql (g := gb29) (o := .cells #[.int .i64 a0_0, .int .i64 a0_1, .slice A0_2 l0_2.length c0_2] 51 (0, 0)) (by apply_rules [BK29.out, Qe, Qg, Qf])) : gb29 ≠ gb30)); have n6_ := Qz.mk ((by rw [hg]; exact Nat.ne_of_gt (Ql (g := gb29) (o := .cells #[.int .i64 a0_0, .int .i64 a0_1, .slice A0_2 l0_2.length c0_2] 51 (0, 0)) (by apply_rules [BK29.out, Qe, Qg, Qf])) : gb30 ≠ gb29)); clear BK29; clear HB; have BK29 := n0_; have HB := n1_; have BK30 := n2_; have GW30 := n3_; have GE30 := n4_; have NB692_693 := n5_; have NB693_692 := n6_; clear n0_ n1_ n2_ n3_ n4_ n5_ n6_; clear hb hbox hg; have hnb21 := NB692_693.out; have hnc21 := NB693_692.out; obtain ⟨z22_0, z22_1, z22_2, j22_0, j22_1, j22_2⟩ := Lv.blks3 BK29.out; obtain ⟨z23_0, z23_1, z23_2, j23_0, j23_1, j23_2⟩ := Lv.blks3 BK30.out))
  go_ret
  exact ⟨by first | rfl | (simp [Qv, Qu] <;> rfl) | (simp [*, Qv, Qu] <;> rfl), by apply_rules [HB.out, Qc, Qa, Qb, Qd, GE29.out, GE30.out]⟩
 rw [if_neg c3] at H
 have c3b0 : (a0_0 == a1_0) = false := beq_eq_false_iff_ne.mpr c3
 have c3b1 : (a0_0 != a1_0) = true := bne_iff_ne.mpr c3
 obtain rfl := Option.some.inj H
 go_enter Try.func31, Try.ntmps31
 go_wp2_with (first | ((with_reducible refine gate_dst (N := 2) rfl ?_); refine box_event ?hg (N := 2) ?hd (cs := #[.int .i64 a0_0, .int .i64 a0_1, .slice A0_2 l0_2.length c0_2]) (t := 51) ?hr ?_; (case hd => rfl); (case hg => rfl); (case hr => first | (go_simp; done) | (go_simp; rfl)); intro gb29 hg w24 hbox hb; have n0_ := Qz.mk (Qq (by apply_rules [HB.out, Qc, Qa, Qb]) hb); have n1_ := Qz.mk (hbox); have n2_ := Qz.mk ((by rw [hg]; exact (Qp (by apply_rules [HB.out, Qc, Qa, Qb])) : w.heap.size ≤ gb29)); have n3_ := n2_; clear HB; have HB := n0_; have BK29 := n1_; have GW29 := n2_; have GE29 := n3_; clear n0_ n1_ n2_ n3_; clear hb hbox hg) | ((with_reducible refine gate_dst (N := 3) rfl ?_); refine box_event ?hg (N := 3) ?hd (cs := #[.int .i64 a1_0, .int .i64 a1_1, .slice A1_2 l1_2.length c1_2]) (t := 51) ?hr ?_; (case hd => rfl); (case hg => rfl); (case hr => first | (go_simp; done) | (go_simp; rfl)); intro gb30 hg w25 hbox hb; have n0_ := Qz.mk (Qi (g := gb29) (o := .cells #[.int .i64 a0_0, .int .i64 a0_1, .slice A0_2 l0_2.length c0_2] 51 (0, 0)) (by apply_rules [BK29.out, Qe, Qg, Qf]) hb); have n1_ := Qz.mk (Qq (by apply_rules [HB.out, Qc, Qa, Qb, Qd, GE29.out]) hb); have n2_ := Qz.mk (hbox); have n3_ := Qz.mk ((by rw [hg]; exact (Qp (by apply_rules [HB.out, Qc, Qa, Qb, Qd, GE29.out])) : w.heap.size ≤ gb30)); have n4_ := n3_; have n5_ := Qz.mk ((by rw [hg]; exact Nat.ne_of_lt (Ql (g := gb29) (o := .cells #[.int .i64 a0_0, .int .i64 a0_1, .slice A0_2 l0_2.length c0_2] 51 (0, 0)) (by apply_rules [BK29.out, Qe, Qg, Qf])) : gb29 ≠ gb30)); have n6_ := Qz.mk ((by rw [hg]; exact Nat.ne_of_gt (Ql (g := gb29) (o := .cells #[.int .i64 a0_0, .int .i64 a0_1, .slice A0_2 l0_2.length c0_2] 51 (0, 0)) (by apply_rules [BK29.out, Qe, Qg, Qf])) : gb30 ≠ gb29)); clear BK29; clear HB; have BK29 := n0_; have HB := n1_; have BK30 := n2_; have GW30 := n3_; have GE30 := n4_; have NB692_693 := n5_; have NB693_692 := n6_; clear n0_ n1_ n2_ n3_ n4_ n5_ n6_; clear hb hbox hg; have hnb26 := NB692_693.out; have hnc26 := NB693_692.out; obtain ⟨z27_0, z27_1, z27_2, j27_0, j27_1, j27_2⟩ := Lv.blks3 BK29.out; obtain ⟨z28_0, z28_1, z28_2, j28_0, j28_1, j28_2⟩ := Lv.blks3 BK30.out))
 go_ret
 exact ⟨by first | rfl | (simp [Qv, Qu] <;> rfl) | (simp [*, Qv, Qu] <;> rfl), by apply_rules [HB.out, Qc, Qa, Qb, Qd, GE29.out, GE30.out]⟩
set_option maxHeartbeats 8000000 in
set_option maxRecDepth 100000 in
theorem ZlmarkRecsResult.calls (k : Nat) (a0_0 : Int) (a0_1 : Int) (P0_2_ : Nat → Prop) (u9000_ : Value) (l0_2 : List (S48)) (a1 : Int) (r1 : Int) (r2 : List (S48)) (w0 w : World) (hB : Below w0.heap.size w0 w) (ho0_2 : Kd.R k48 48 w w0.heap.size P0_2_ u9000_ l0_2) (h : ZlmarkRecsResult.f k a0_0 a0_1 l0_2 a1 = some (r1, r2)) :
 Calls Try.prog 34 #[.agg #[.int .i64 a0_0, .int .i64 a0_1, u9000_], .int .i64 a1] w fun e w' => e = .returned (.int .i64 r1) ∧ Kd.R k48 48 w' w0.heap.size (fun k_ => (P0_2_ k_ ∨ w.heap.size ≤ k_)) u9000_ r2 ∧ Below w0.heap.size w0 w' ∧ Kept w w' (fun k_ => P0_2_ k_) := by
 have hu51 := Try.underlying51
 have HO0_2 := Qz.mk (show Kd.R k48 48 w w0.heap.size (fun k_ => (P0_2_ k_ ∨ w.heap.size ≤ k_)) u9000_ l0_2 from Kd.Qw ho0_2 (fun k_ hk => (.inl hk)))
 have HK := Qz.mk (Kept.refl w (fun k_ => P0_2_ k_))
 have HW0 := Qz.mk hB.size
 have HB := Qz.mk hB
 clear hB
 have H : ((ZlmarkRecS.f k l0_2 a1).bind fun bt11 => (some (bt11.1, bt11.2))) = some (r1, r2) := h
 clear h
 replace H := Qj9 H
 obtain ⟨⟨t11, t12⟩, A30, H⟩ := H
 replace H : (some (t11, t12)) = some (r1, r2) := H
 have A3 := Qz.mk A30
 clear A30
 simp only [Option.some.injEq, Prod.mk.injEq] at H
 obtain ⟨rfl, rfl⟩ := H
 obtain ⟨Ao4, co4, eo4⟩ := Kd.R_slice HO0_2.out
 subst eo4
 go_enter Try.func34, Try.ntmps34
 go_wp2_with (first | ((with_reducible refine gate_dst (N := 2) rfl ?_); refine box_event ?hg (N := 2) ?hd (cs := #[.int .i64 a0_0, .int .i64 a0_1, .slice Ao4 l0_2.length co4]) (t := 51) ?hr ?_; (case hd => rfl); (case hg => rfl); (case hr => first | (go_simp; done) | (go_simp; rfl)); intro gb10 hg w5 hbox hb; have n0_ := Qz.mk (Kd.Qy (by (with_reducible repeat (first | apply Kd.Qn | apply Kd.Qm | apply Kd.Qo)); exact HO0_2.out) hb); have n1_ := Qz.mk (Kept.below (S := (fun k_ => P0_2_ k_)) (by repeat (first | (with_reducible first | exact HK.out | apply Kept.alloc | apply Kept.drewN | apply Kept.drew) | exact HK.out)) hb); have n2_ := Qz.mk (Qq (by apply_rules [HB.out, Qc, Qa, Qb]) hb); have n3_ := Qz.mk (hbox); have n4_ := Qz.mk ((by rw [hg]; exact (by first | exact HK.out.1 | exact (show Kept w _ (fun k_ => P0_2_ k_) from by repeat (first | (with_reducible first | exact HK.out | apply Kept.alloc | apply Kept.drewN | apply Kept.drew) | exact HK.out)).1) : w.heap.size ≤ gb10)); have n5_ := Qz.mk ((by rw [hg]; exact (Qp (by apply_rules [HB.out, Qc, Qa, Qb])) : w0.heap.size ≤ gb10)); clear HO0_2; clear HK; clear HB; have HO0_2 := n0_; have HK := n1_; have HB := n2_; have BK10 := n3_; have GW10 := n4_; have GE10 := n5_; clear n0_ n1_ n2_ n3_ n4_ n5_; clear hb hbox hg; obtain ⟨z6_0, z6_1, z6_2, j6_0, j6_1, j6_2⟩ := Lv.blks3 BK10.out) | ((with_reducible refine gate_callee (f := 22) rfl ?_); refine Qat (some 8) rfl rfl Try.func22 (by kernel_rfl) rfl #[.slice Ao4 l0_2.length co4, .int .i64 a1] rfl (by (try simp only [Qj4, Qj5, Qj6]); first | done | rfl | (simp only [Qj7, Qj8]; rfl)) ?_; (with_reducible refine (ZlmarkRecS.calls k (fun k_ => some k_ = (.slice Ao4 l0_2.length co4 : Value).ownBlock) (.slice Ao4 l0_2.length co4) l0_2 a1 t11 t12 w0 _ ?side1 ?side2 A3.out).mono ?_); (case side1 => apply_rules [HB.out, Qc, Qa, Qb, Qd, GE10.out]); (case side2 => exact Kd.R_tight rfl HO0_2.out); rintro e w7 ⟨rfl, hy0, hb, hkp⟩; refine ⟨_, rfl, ?_⟩; have n0_ := Qz.mk (Kd.R_reok rfl hy0 (fun k_ e_ => HO0_2.out.1 k_ e_)); have n1_ := Qz.mk (blk_kept (by apply_rules [BK10.out, Qe, Qg, Qf]) hkp (fun hs_ => (fun e_ => (Kd.R_ne HO0_2.out BK10.out (by decide)) e_) hs_)); have n2_ := Qz.mk (Kept.then_ (S := (fun k_ => P0_2_ k_)) (by repeat (first | (with_reducible first | exact HK.out | apply Kept.alloc | apply Kept.drewN | apply Kept.drew | refine Kept.setCell ?_ (.inr GW10.out) _) | exact HK.out)) hkp (fun k_ hs_ => (fun e_ => (HO0_2.out.1 k_ e_.symm)) hs_)); have n3_ := Qz.mk (hb); clear HO0_2; clear BK10; clear HK; clear HB; have HO0_2 := n0_; have BK10 := n1_; have HK := n2_; have HB := n3_; clear n0_ n1_ n2_ n3_; (try clear hb); (try clear hkp); (try clear hy0)))
 go_ret
 exact ⟨by first | rfl | (simp [Qv, Qu] <;> rfl) | (simp [*, Qv, Qu] <;> rfl), by (with_reducible repeat (first | apply Kd.Qn | apply Kd.Qm | apply Kd.Qo)); exact HO0_2.out, by apply_rules [HB.out, Qc, Qa, Qb, Qd, GE10.out], by repeat (first | (with_reducible first | exact HK.out | apply Kept.alloc | apply Kept.drewN | apply Kept.drew | refine Kept.setCell ?_ (.inr GW10.out) _) | exact HK.out)⟩
set_option maxHeartbeats 40000000 in
set_option maxRecDepth 100000 in
theorem ZlheldRecS.calls (k : Nat) (A0 : Option Addr) (c0 : Nat) (l0 : List (S48)) (a1 : Int) (r : Int) (w : World) (hr0 : Kd.C k48 w A0 l0.length l0) (hc0 : l0.length ≤ c0) (h : ZlheldRecS.f k l0 a1 = some r) :
 Calls Try.prog 69 #[.slice A0 l0.length c0, .int .i64 a1] w fun e w' => e = .returned (.int .i64 r) ∧ Drawn0 w w' := by
 have HR0 := Qz.mk hr0
 have HC0 := Qz.mk hc0
 clear hr0 hc0
 have H : (ZlheldRecS.l0 k l0 a1 0) = some r := h
 clear h
 have H' := Qz.mk H
 clear H
 go_enter Try.func69, Try.ntmps69
 go_wp2
 go_loopg [1, 5] k (fun kq v1 v5 w' => ∃ (x1_1 : Int) (x5_1 : Int), v1 = .int .i64 x1_1 ∧ v5 = .int .i64 x5_1 ∧ Qz (ZlheldRecS.l0 kq l0 x1_1 x5_1 = some r) ∧ Qz (kq ≤ k) ∧ Drawn0 w w')
 case atStart => exact ⟨(a1), (0), (by first | rfl | (simp; done) | (simp [*]; done)), (by first | rfl | (simp; done) | (simp [*]; done)), H', ⟨Nat.le_refl _⟩, by repeat (first | exact Drawn0.refl _ | apply Drawn0.step)⟩
 case round =>
  clear H'
  try clear p2
  obtain ⟨x1_1, x5_1, rfl, rfl, HA, HK1, ⟨m1, rfl⟩⟩ := hrel
  cases gk with
  | zero => exact absurd HA.out (by simp [ZlheldRecS.l0])
  | succ k1 =>
   have H := HA.out
   clear HA
   simp only [ZlheldRecS.l0] at H
   by_cases c3 : x5_1 < (l0.length : Int)
   ·rw [if_pos c3] at H
    have c3b0 : decide (x5_1 < (l0.length : Int)) = true := decide_eq_true c3
    clear c3
    by_cases c4 : 0 ≤ x5_1
    ·rw [if_pos c4] at H
     have c4b0 : decide (0 ≤ x5_1) = true := decide_eq_true c4
     clear c4
     by_cases c5 : ((rd_T48 l0 x5_1).f0) = x1_1
     ·rw [if_pos c5] at H
      have c5b0 : (((rd_T48 l0 x5_1).f0) == x1_1) = true := beq_iff_eq.mpr c5
      have c5b1 : (((rd_T48 l0 x5_1).f0) != x1_1) = false := bne_eq_false_iff_eq.mpr c5
      clear c5
      by_cases c6 : ((rd_T48 l0 x5_1).f1) = (wrap64 (x1_1 + 1))
      ·rw [if_pos c6] at H
       have c6b0 : (((rd_T48 l0 x5_1).f1) == (wrap64 (x1_1 + 1))) = true := beq_iff_eq.mpr c6
       have c6b1 : (((rd_T48 l0 x5_1).f1) != (wrap64 (x1_1 + 1))) = false := bne_eq_false_iff_eq.mpr c6
       clear c6
       by_cases c7 : ((rd_T48 l0 x5_1).f2) = (wrap64 ((wrap64 (x1_1 + 1)) + 1))
       ·rw [if_pos c7] at H
        have c7b0 : (((rd_T48 l0 x5_1).f2) == (wrap64 ((wrap64 (x1_1 + 1)) + 1))) = true := beq_iff_eq.mpr c7
        have c7b1 : (((rd_T48 l0 x5_1).f2) != (wrap64 ((wrap64 (x1_1 + 1)) + 1))) = false := bne_eq_false_iff_eq.mpr c7
        clear c7
        by_cases c8 : (((rd_T48 l0 x5_1).f3) != ((Int.tmod (wrap64 ((wrap64 ((wrap64 (x1_1 + 1)) + 1)) + 1)) 3) == 0)) = true
        ·rw [if_pos c8] at H
         have c8b0 : (((rd_T48 l0 x5_1).f3) != ((Int.tmod (wrap64 ((wrap64 ((wrap64 (x1_1 + 1)) + 1)) + 1)) 3) == 0)) = true := c8
         (try (have c8b1 : decide (((rd_T48 l0 x5_1).f3) = ((Int.tmod (wrap64 ((wrap64 ((wrap64 (x1_1 + 1)) + 1)) + 1)) 3) == 0)) = false := by simpa using c8))
         (try (have c8b2 : (((rd_T48 l0 x5_1).f3) == ((Int.tmod (wrap64 ((wrap64 ((wrap64 (x1_1 + 1)) + 1)) + 1)) 3) == 0)) = false := by simpa using c8))
         (try (have c8b3 : ¬ (((rd_T48 l0 x5_1).f3) = ((Int.tmod (wrap64 ((wrap64 ((wrap64 (x1_1 + 1)) + 1)) + 1)) 3) == 0)) := by simpa using c8))
         clear c8
         obtain rfl := Option.some.inj H
         have p699 : 0 ≤ (x5_1 : Int) := of_decide_eq_true (by first | (with_reducible assumption) | assumption)
         have q13 : x5_1 < (l0.length : Int) := of_decide_eq_true (by first | (with_reducible assumption) | assumption)
         obtain ⟨ad13, e699, hx13_0, hx13_1, hx13_2, hx13_3, hx13_4, hx13_5, hx13_6, hx13_7⟩ := at_T48 HR0.out x5_1 p699 q13
         cases e699
         replace p699 := eq_true p699
         replace q13 := eq_true q13
         have p700 : 0 ≤ (x5_1 : Int) := of_decide_eq_true (by first | (with_reducible assumption) | assumption)
         have q14 : x5_1 < (l0.length : Int) := of_decide_eq_true (by first | (with_reducible assumption) | assumption)
         obtain ⟨ad14, e700, hx14_0, hx14_1, hx14_2, hx14_3, hx14_4, hx14_5, hx14_6, hx14_7⟩ := at_T48 HR0.out x5_1 p700 q14
         obtain rfl : ad13 = ad14 := (by injection e700)
         replace p700 := eq_true p700
         replace q14 := eq_true q14
         have p701 : 0 ≤ (x5_1 : Int) := of_decide_eq_true (by first | (with_reducible assumption) | assumption)
         have q15 : x5_1 < (l0.length : Int) := of_decide_eq_true (by first | (with_reducible assumption) | assumption)
         obtain ⟨ad15, e701, hx15_0, hx15_1, hx15_2, hx15_3, hx15_4, hx15_5, hx15_6, hx15_7⟩ := at_T48 HR0.out x5_1 p701 q15
         obtain rfl : ad13 = ad15 := (by injection e701)
         replace p701 := eq_true p701
         replace q15 := eq_true q15
         have p702 : 0 ≤ (x5_1 : Int) := of_decide_eq_true (by first | (with_reducible assumption) | assumption)
         have q16 : x5_1 < (l0.length : Int) := of_decide_eq_true (by first | (with_reducible assumption) | assumption)
         obtain ⟨ad16, e702, hx16_0, hx16_1, hx16_2, hx16_3, hx16_4, hx16_5, hx16_6, hx16_7⟩ := at_T48 HR0.out x5_1 p702 q16
         obtain rfl : ad13 = ad16 := (by injection e702)
         replace p702 := eq_true p702
         replace q16 := eq_true q16
         go_wp2
         go_ret
         exact ⟨by first | rfl | (simp; done) | (simp [*]; done), by repeat (first | exact Drawn0.refl _ | apply Drawn0.step)⟩
        rw [if_neg c8] at H
        have c8b0 : (((rd_T48 l0 x5_1).f3) != ((Int.tmod (wrap64 ((wrap64 ((wrap64 (x1_1 + 1)) + 1)) + 1)) 3) == 0)) = false := by simpa using c8
        (try (have c8b1 : decide (((rd_T48 l0 x5_1).f3) = ((Int.tmod (wrap64 ((wrap64 ((wrap64 (x1_1 + 1)) + 1)) + 1)) 3) == 0)) = true := by simpa using c8))
        (try (have c8b2 : (((rd_T48 l0 x5_1).f3) == ((Int.tmod (wrap64 ((wrap64 ((wrap64 (x1_1 + 1)) + 1)) + 1)) 3) == 0)) = true := by simpa using c8))
        clear c8
        by_cases c9 : ((rd_T48 l0 x5_1).f4) = (wrap64 ((wrap64 ((wrap64 ((wrap64 (x1_1 + 1)) + 1)) + 1)) + 1))
        ·rw [if_pos c9] at H
         have c9b0 : (((rd_T48 l0 x5_1).f4) == (wrap64 ((wrap64 ((wrap64 ((wrap64 (x1_1 + 1)) + 1)) + 1)) + 1))) = true := beq_iff_eq.mpr c9
         have c9b1 : (((rd_T48 l0 x5_1).f4) != (wrap64 ((wrap64 ((wrap64 ((wrap64 (x1_1 + 1)) + 1)) + 1)) + 1))) = false := bne_eq_false_iff_eq.mpr c9
         clear c9
         by_cases c10 : (((rd_T48 l0 x5_1).f5) != ((Int.tmod (wrap64 ((wrap64 ((wrap64 ((wrap64 ((wrap64 (x1_1 + 1)) + 1)) + 1)) + 1)) + 1)) 3) == 0)) = true
         ·rw [if_pos c10] at H
          have c10b0 : (((rd_T48 l0 x5_1).f5) != ((Int.tmod (wrap64 ((wrap64 ((wrap64 ((wrap64 ((wrap64 (x1_1 + 1)) + 1)) + 1)) + 1)) + 1)) 3) == 0)) = true := c10
          (try (have c10b1 : decide (((rd_T48 l0 x5_1).f5) = ((Int.tmod (wrap64 ((wrap64 ((wrap64 ((wrap64 ((wrap64 (x1_1 + 1)) + 1)) + 1)) + 1)) + 1)) 3) == 0)) = false := by simpa using c10))
          (try (have c10b2 : (((rd_T48 l0 x5_1).f5) == ((Int.tmod (wrap64 ((wrap64 ((wrap64 ((wrap64 ((wrap64 (x1_1 + 1)) + 1)) + 1)) + 1)) + 1)) 3) == 0)) = false := by simpa using c10))
          (try (have c10b3 : ¬ (((rd_T48 l0 x5_1).f5) = ((Int.tmod (wrap64 ((wrap64 ((wrap64 ((wrap64 ((wrap64 (x1_1 + 1)) + 1)) + 1)) + 1)) + 1)) 3) == 0)) := by simpa using c10))
          clear c10
          obtain rfl := Option.some.inj H
          have p699 : 0 ≤ (x5_1 : Int) := of_decide_eq_true (by first | (with_reducible assumption) | assumption)
          have q13 : x5_1 < (l0.length : Int) := of_decide_eq_true (by first | (with_reducible assumption) | assumption)
          obtain ⟨ad13, e699, hx13_0, hx13_1, hx13_2, hx13_3, hx13_4, hx13_5, hx13_6, hx13_7⟩ := at_T48 HR0.out x5_1 p699 q13
          cases e699
          replace p699 := eq_true p699
          replace q13 := eq_true q13
          have p700 : 0 ≤ (x5_1 : Int) := of_decide_eq_true (by first | (with_reducible assumption) | assumption)
          have q14 : x5_1 < (l0.length : Int) := of_decide_eq_true (by first | (with_reducible assumption) | assumption)
          obtain ⟨ad14, e700, hx14_0, hx14_1, hx14_2, hx14_3, hx14_4, hx14_5, hx14_6, hx14_7⟩ := at_T48 HR0.out x5_1 p700 q14
          obtain rfl : ad13 = ad14 := (by injection e700)
          replace p700 := eq_true p700
          replace q14 := eq_true q14
          have p701 : 0 ≤ (x5_1 : Int) := of_decide_eq_true (by first | (with_reducible assumption) | assumption)
          have q15 : x5_1 < (l0.length : Int) := of_decide_eq_true (by first | (with_reducible assumption) | assumption)
          obtain ⟨ad15, e701, hx15_0, hx15_1, hx15_2, hx15_3, hx15_4, hx15_5, hx15_6, hx15_7⟩ := at_T48 HR0.out x5_1 p701 q15
          obtain rfl : ad13 = ad15 := (by injection e701)
          replace p701 := eq_true p701
          replace q15 := eq_true q15
          have p702 : 0 ≤ (x5_1 : Int) := of_decide_eq_true (by first | (with_reducible assumption) | assumption)
          have q16 : x5_1 < (l0.length : Int) := of_decide_eq_true (by first | (with_reducible assumption) | assumption)
          obtain ⟨ad16, e702, hx16_0, hx16_1, hx16_2, hx16_3, hx16_4, hx16_5, hx16_6, hx16_7⟩ := at_T48 HR0.out x5_1 p702 q16
          obtain rfl : ad13 = ad16 := (by injection e702)
          replace p702 := eq_true p702
          replace q16 := eq_true q16
          have p703 : 0 ≤ (x5_1 : Int) := of_decide_eq_true (by first | (with_reducible assumption) | assumption)
          have q17 : x5_1 < (l0.length : Int) := of_decide_eq_true (by first | (with_reducible assumption) | assumption)
          obtain ⟨ad17, e703, hx17_0, hx17_1, hx17_2, hx17_3, hx17_4, hx17_5, hx17_6, hx17_7⟩ := at_T48 HR0.out x5_1 p703 q17
          obtain rfl : ad13 = ad17 := (by injection e703)
          replace p703 := eq_true p703
          replace q17 := eq_true q17
          have p704 : 0 ≤ (x5_1 : Int) := of_decide_eq_true (by first | (with_reducible assumption) | assumption)
          have q18 : x5_1 < (l0.length : Int) := of_decide_eq_true (by first | (with_reducible assumption) | assumption)
          obtain ⟨ad18, e704, hx18_0, hx18_1, hx18_2, hx18_3, hx18_4, hx18_5, hx18_6, hx18_7⟩ := at_T48 HR0.out x5_1 p704 q18
          obtain rfl : ad13 = ad18 := (by injection e704)
          replace p704 := eq_true p704
          replace q18 := eq_true q18
          go_wp2
          go_ret
          exact ⟨by first | rfl | (simp; done) | (simp [*]; done), by repeat (first | exact Drawn0.refl _ | apply Drawn0.step)⟩
         rw [if_neg c10] at H
         have c10b0 : (((rd_T48 l0 x5_1).f5) != ((Int.tmod (wrap64 ((wrap64 ((wrap64 ((wrap64 ((wrap64 (x1_1 + 1)) + 1)) + 1)) + 1)) + 1)) 3) == 0)) = false := by simpa using c10
         (try (have c10b1 : decide (((rd_T48 l0 x5_1).f5) = ((Int.tmod (wrap64 ((wrap64 ((wrap64 ((wrap64 ((wrap64 (x1_1 + 1)) + 1)) + 1)) + 1)) + 1)) 3) == 0)) = true := by simpa using c10))
         (try (have c10b2 : (((rd_T48 l0 x5_1).f5) == ((Int.tmod (wrap64 ((wrap64 ((wrap64 ((wrap64 ((wrap64 (x1_1 + 1)) + 1)) + 1)) + 1)) + 1)) 3) == 0)) = true := by simpa using c10))
         clear c10
         by_cases c11 : ((rd_T48 l0 x5_1).f6) = (wrap64 ((wrap64 ((wrap64 ((wrap64 ((wrap64 ((wrap64 (x1_1 + 1)) + 1)) + 1)) + 1)) + 1)) + 1))
         ·rw [if_pos c11] at H
          have c11b0 : (((rd_T48 l0 x5_1).f6) == (wrap64 ((wrap64 ((wrap64 ((wrap64 ((wrap64 ((wrap64 (x1_1 + 1)) + 1)) + 1)) + 1)) + 1)) + 1))) = true := beq_iff_eq.mpr c11
          have c11b1 : (((rd_T48 l0 x5_1).f6) != (wrap64 ((wrap64 ((wrap64 ((wrap64 ((wrap64 ((wrap64 (x1_1 + 1)) + 1)) + 1)) + 1)) + 1)) + 1))) = false := bne_eq_false_iff_eq.mpr c11
          clear c11
          have HX_ := Qz.mk H
          clear H
          have p699 : 0 ≤ (x5_1 : Int) := of_decide_eq_true (by first | (with_reducible assumption) | assumption)
          have q13 : x5_1 < (l0.length : Int) := of_decide_eq_true (by first | (with_reducible assumption) | assumption)
          obtain ⟨ad13, e699, hx13_0, hx13_1, hx13_2, hx13_3, hx13_4, hx13_5, hx13_6, hx13_7⟩ := at_T48 HR0.out x5_1 p699 q13
          cases e699
          replace p699 := eq_true p699
          replace q13 := eq_true q13
          have p700 : 0 ≤ (x5_1 : Int) := of_decide_eq_true (by first | (with_reducible assumption) | assumption)
          have q14 : x5_1 < (l0.length : Int) := of_decide_eq_true (by first | (with_reducible assumption) | assumption)
          obtain ⟨ad14, e700, hx14_0, hx14_1, hx14_2, hx14_3, hx14_4, hx14_5, hx14_6, hx14_7⟩ := at_T48 HR0.out x5_1 p700 q14
          obtain rfl : ad13 = ad14 := (by injection e700)
          replace p700 := eq_true p700
          replace q14 := eq_true q14
          have p701 : 0 ≤ (x5_1 : Int) := of_decide_eq_true (by first | (with_reducible assumption) | assumption)
          have q15 : x5_1 < (l0.length : Int) := of_decide_eq_true (by first | (with_reducible assumption) | assumption)
          obtain ⟨ad15, e701, hx15_0, hx15_1, hx15_2, hx15_3, hx15_4, hx15_5, hx15_6, hx15_7⟩ := at_T48 HR0.out x5_1 p701 q15
          obtain rfl : ad13 = ad15 := (by injection e701)
          replace p701 := eq_true p701
          replace q15 := eq_true q15
          have p702 : 0 ≤ (x5_1 : Int) := of_decide_eq_true (by first | (with_reducible assumption) | assumption)
          have q16 : x5_1 < (l0.length : Int) := of_decide_eq_true (by first | (with_reducible assumption) | assumption)
          obtain ⟨ad16, e702, hx16_0, hx16_1, hx16_2, hx16_3, hx16_4, hx16_5, hx16_6, hx16_7⟩ := at_T48 HR0.out x5_1 p702 q16
          obtain rfl : ad13 = ad16 := (by injection e702)
          replace p702 := eq_true p702
          replace q16 := eq_true q16
          have p703 : 0 ≤ (x5_1 : Int) := of_decide_eq_true (by first | (with_reducible assumption) | assumption)
          have q17 : x5_1 < (l0.length : Int) := of_decide_eq_true (by first | (with_reducible assumption) | assumption)
          obtain ⟨ad17, e703, hx17_0, hx17_1, hx17_2, hx17_3, hx17_4, hx17_5, hx17_6, hx17_7⟩ := at_T48 HR0.out x5_1 p703 q17
          obtain rfl : ad13 = ad17 := (by injection e703)
          replace p703 := eq_true p703
          replace q17 := eq_true q17
          have p704 : 0 ≤ (x5_1 : Int) := of_decide_eq_true (by first | (with_reducible assumption) | assumption)
          have q18 : x5_1 < (l0.length : Int) := of_decide_eq_true (by first | (with_reducible assumption) | assumption)
          obtain ⟨ad18, e704, hx18_0, hx18_1, hx18_2, hx18_3, hx18_4, hx18_5, hx18_6, hx18_7⟩ := at_T48 HR0.out x5_1 p704 q18
          obtain rfl : ad13 = ad18 := (by injection e704)
          replace p704 := eq_true p704
          replace q18 := eq_true q18
          have p705 : 0 ≤ (x5_1 : Int) := of_decide_eq_true (by first | (with_reducible assumption) | assumption)
          have q19 : x5_1 < (l0.length : Int) := of_decide_eq_true (by first | (with_reducible assumption) | assumption)
          obtain ⟨ad19, e705, hx19_0, hx19_1, hx19_2, hx19_3, hx19_4, hx19_5, hx19_6, hx19_7⟩ := at_T48 HR0.out x5_1 p705 q19
          obtain rfl : ad13 = ad19 := (by injection e705)
          replace p705 := eq_true p705
          replace q19 := eq_true q19
          have p706 : 0 ≤ (x5_1 : Int) := of_decide_eq_true (by first | (with_reducible assumption) | assumption)
          have q20 : x5_1 < (l0.length : Int) := of_decide_eq_true (by first | (with_reducible assumption) | assumption)
          obtain ⟨ad20, e706, hx20_0, hx20_1, hx20_2, hx20_3, hx20_4, hx20_5, hx20_6, hx20_7⟩ := at_T48 HR0.out x5_1 p706 q20
          obtain rfl : ad13 = ad20 := (by injection e706)
          replace p706 := eq_true p706
          replace q20 := eq_true q20
          have H := HX_.out
          clear HX_
          by_cases c12 : ((rd_T48 l0 x5_1).f7) = (wrap64 ((wrap64 ((wrap64 ((wrap64 ((wrap64 ((wrap64 ((wrap64 (x1_1 + 1)) + 1)) + 1)) + 1)) + 1)) + 1)) + 1))
          ·rw [if_pos c12] at H
           have c12b0 : (((rd_T48 l0 x5_1).f7) == (wrap64 ((wrap64 ((wrap64 ((wrap64 ((wrap64 ((wrap64 ((wrap64 (x1_1 + 1)) + 1)) + 1)) + 1)) + 1)) + 1)) + 1))) = true := beq_iff_eq.mpr c12
           have c12b1 : (((rd_T48 l0 x5_1).f7) != (wrap64 ((wrap64 ((wrap64 ((wrap64 ((wrap64 ((wrap64 ((wrap64 (x1_1 + 1)) + 1)) + 1)) + 1)) + 1)) + 1)) + 1))) = false := bne_eq_false_iff_eq.mpr c12
           clear c12
           have H' := Qz.mk H
           clear H
           go_wp2
           go_roundg k1
           case measure => have := HK1.out; omega
           case rel => exact ⟨(wrap64 ((wrap64 ((wrap64 ((wrap64 ((wrap64 ((wrap64 ((wrap64 ((wrap64 (x1_1 + 1)) + 1)) + 1)) + 1)) + 1)) + 1)) + 1)) + 1)), (wrap64 (x5_1 + 1)), (by first | rfl | (simp; done) | (simp [*]; done)), (by first | rfl | (simp; done) | (simp [*]; done)), H', ⟨by have := HK1.out; omega⟩, by repeat (first | exact Drawn0.refl _ | apply Drawn0.step)⟩
          ·rw [if_neg c12] at H
           have c12b0 : (((rd_T48 l0 x5_1).f7) == (wrap64 ((wrap64 ((wrap64 ((wrap64 ((wrap64 ((wrap64 ((wrap64 (x1_1 + 1)) + 1)) + 1)) + 1)) + 1)) + 1)) + 1))) = false := beq_eq_false_iff_ne.mpr c12
           have c12b1 : (((rd_T48 l0 x5_1).f7) != (wrap64 ((wrap64 ((wrap64 ((wrap64 ((wrap64 ((wrap64 ((wrap64 (x1_1 + 1)) + 1)) + 1)) + 1)) + 1)) + 1)) + 1))) = true := bne_iff_ne.mpr c12
           obtain rfl := Option.some.inj H
           go_wp2
           go_ret
           exact ⟨by first | rfl | (simp; done) | (simp [*]; done), by repeat (first | exact Drawn0.refl _ | apply Drawn0.step)⟩
         rw [if_neg c11] at H
         have c11b0 : (((rd_T48 l0 x5_1).f6) == (wrap64 ((wrap64 ((wrap64 ((wrap64 ((wrap64 ((wrap64 (x1_1 + 1)) + 1)) + 1)) + 1)) + 1)) + 1))) = false := beq_eq_false_iff_ne.mpr c11
         have c11b1 : (((rd_T48 l0 x5_1).f6) != (wrap64 ((wrap64 ((wrap64 ((wrap64 ((wrap64 ((wrap64 (x1_1 + 1)) + 1)) + 1)) + 1)) + 1)) + 1))) = true := bne_iff_ne.mpr c11
         obtain rfl := Option.some.inj H
         have p699 : 0 ≤ (x5_1 : Int) := of_decide_eq_true (by first | (with_reducible assumption) | assumption)
         have q13 : x5_1 < (l0.length : Int) := of_decide_eq_true (by first | (with_reducible assumption) | assumption)
         obtain ⟨ad13, e699, hx13_0, hx13_1, hx13_2, hx13_3, hx13_4, hx13_5, hx13_6, hx13_7⟩ := at_T48 HR0.out x5_1 p699 q13
         cases e699
         replace p699 := eq_true p699
         replace q13 := eq_true q13
         have p700 : 0 ≤ (x5_1 : Int) := of_decide_eq_true (by first | (with_reducible assumption) | assumption)
         have q14 : x5_1 < (l0.length : Int) := of_decide_eq_true (by first | (with_reducible assumption) | assumption)
         obtain ⟨ad14, e700, hx14_0, hx14_1, hx14_2, hx14_3, hx14_4, hx14_5, hx14_6, hx14_7⟩ := at_T48 HR0.out x5_1 p700 q14
         obtain rfl : ad13 = ad14 := (by injection e700)
         replace p700 := eq_true p700
         replace q14 := eq_true q14
         have p701 : 0 ≤ (x5_1 : Int) := of_decide_eq_true (by first | (with_reducible assumption) | assumption)
         have q15 : x5_1 < (l0.length : Int) := of_decide_eq_true (by first | (with_reducible assumption) | assumption)
         obtain ⟨ad15, e701, hx15_0, hx15_1, hx15_2, hx15_3, hx15_4, hx15_5, hx15_6, hx15_7⟩ := at_T48 HR0.out x5_1 p701 q15
         obtain rfl : ad13 = ad15 := (by injection e701)
         replace p701 := eq_true p701
         replace q15 := eq_true q15
         have p702 : 0 ≤ (x5_1 : Int) := of_decide_eq_true (by first | (with_reducible assumption) | assumption)
         have q16 : x5_1 < (l0.length : Int) := of_decide_eq_true (by first | (with_reducible assumption) | assumption)
         obtain ⟨ad16, e702, hx16_0, hx16_1, hx16_2, hx16_3, hx16_4, hx16_5, hx16_6, hx16_7⟩ := at_T48 HR0.out x5_1 p702 q16
         obtain rfl : ad13 = ad16 := (by injection e702)
         replace p702 := eq_true p702
         replace q16 := eq_true q16
         have p703 : 0 ≤ (x5_1 : Int) := of_decide_eq_true (by first | (with_reducible assumption) | assumption)
         have q17 : x5_1 < (l0.length : Int) := of_decide_eq_true (by first | (with_reducible assumption) | assumption)
         obtain ⟨ad17, e703, hx17_0, hx17_1, hx17_2, hx17_3, hx17_4, hx17_5, hx17_6, hx17_7⟩ := at_T48 HR0.out x5_1 p703 q17
         obtain rfl : ad13 = ad17 := (by injection e703)
         replace p703 := eq_true p703
         replace q17 := eq_true q17
         have p704 : 0 ≤ (x5_1 : Int) := of_decide_eq_true (by first | (with_reducible assumption) | assumption)
         have q18 : x5_1 < (l0.length : Int) := of_decide_eq_true (by first | (with_reducible assumption) | assumption)
         obtain ⟨ad18, e704, hx18_0, hx18_1, hx18_2, hx18_3, hx18_4, hx18_5, hx18_6, hx18_7⟩ := at_T48 HR0.out x5_1 p704 q18
         obtain rfl : ad13 = ad18 := (by injection e704)
         replace p704 := eq_true p704
         replace q18 := eq_true q18
         have p705 : 0 ≤ (x5_1 : Int) := of_decide_eq_true (by first | (with_reducible assumption) | assumption)
         have q19 : x5_1 < (l0.length : Int) := of_decide_eq_true (by first | (with_reducible assumption) | assumption)
         obtain ⟨ad19, e705, hx19_0, hx19_1, hx19_2, hx19_3, hx19_4, hx19_5, hx19_6, hx19_7⟩ := at_T48 HR0.out x5_1 p705 q19
         obtain rfl : ad13 = ad19 := (by injection e705)
         replace p705 := eq_true p705
         replace q19 := eq_true q19
         go_wp2
         go_ret
         exact ⟨by first | rfl | (simp; done) | (simp [*]; done), by repeat (first | exact Drawn0.refl _ | apply Drawn0.step)⟩
        rw [if_neg c9] at H
        have c9b0 : (((rd_T48 l0 x5_1).f4) == (wrap64 ((wrap64 ((wrap64 ((wrap64 (x1_1 + 1)) + 1)) + 1)) + 1))) = false := beq_eq_false_iff_ne.mpr c9
        have c9b1 : (((rd_T48 l0 x5_1).f4) != (wrap64 ((wrap64 ((wrap64 ((wrap64 (x1_1 + 1)) + 1)) + 1)) + 1))) = true := bne_iff_ne.mpr c9
        obtain rfl := Option.some.inj H
        have p699 : 0 ≤ (x5_1 : Int) := of_decide_eq_true (by first | (with_reducible assumption) | assumption)
        have q13 : x5_1 < (l0.length : Int) := of_decide_eq_true (by first | (with_reducible assumption) | assumption)
        obtain ⟨ad13, e699, hx13_0, hx13_1, hx13_2, hx13_3, hx13_4, hx13_5, hx13_6, hx13_7⟩ := at_T48 HR0.out x5_1 p699 q13
        cases e699
        replace p699 := eq_true p699
        replace q13 := eq_true q13
        have p700 : 0 ≤ (x5_1 : Int) := of_decide_eq_true (by first | (with_reducible assumption) | assumption)
        have q14 : x5_1 < (l0.length : Int) := of_decide_eq_true (by first | (with_reducible assumption) | assumption)
        obtain ⟨ad14, e700, hx14_0, hx14_1, hx14_2, hx14_3, hx14_4, hx14_5, hx14_6, hx14_7⟩ := at_T48 HR0.out x5_1 p700 q14
        obtain rfl : ad13 = ad14 := (by injection e700)
        replace p700 := eq_true p700
        replace q14 := eq_true q14
        have p701 : 0 ≤ (x5_1 : Int) := of_decide_eq_true (by first | (with_reducible assumption) | assumption)
        have q15 : x5_1 < (l0.length : Int) := of_decide_eq_true (by first | (with_reducible assumption) | assumption)
        obtain ⟨ad15, e701, hx15_0, hx15_1, hx15_2, hx15_3, hx15_4, hx15_5, hx15_6, hx15_7⟩ := at_T48 HR0.out x5_1 p701 q15
        obtain rfl : ad13 = ad15 := (by injection e701)
        replace p701 := eq_true p701
        replace q15 := eq_true q15
        have p702 : 0 ≤ (x5_1 : Int) := of_decide_eq_true (by first | (with_reducible assumption) | assumption)
        have q16 : x5_1 < (l0.length : Int) := of_decide_eq_true (by first | (with_reducible assumption) | assumption)
        obtain ⟨ad16, e702, hx16_0, hx16_1, hx16_2, hx16_3, hx16_4, hx16_5, hx16_6, hx16_7⟩ := at_T48 HR0.out x5_1 p702 q16
        obtain rfl : ad13 = ad16 := (by injection e702)
        replace p702 := eq_true p702
        replace q16 := eq_true q16
        have p703 : 0 ≤ (x5_1 : Int) := of_decide_eq_true (by first | (with_reducible assumption) | assumption)
        have q17 : x5_1 < (l0.length : Int) := of_decide_eq_true (by first | (with_reducible assumption) | assumption)
        obtain ⟨ad17, e703, hx17_0, hx17_1, hx17_2, hx17_3, hx17_4, hx17_5, hx17_6, hx17_7⟩ := at_T48 HR0.out x5_1 p703 q17
        obtain rfl : ad13 = ad17 := (by injection e703)
        replace p703 := eq_true p703
        replace q17 := eq_true q17
        go_wp2
        go_ret
        exact ⟨by first | rfl | (simp; done) | (simp [*]; done), by repeat (first | exact Drawn0.refl _ | apply Drawn0.step)⟩
       rw [if_neg c7] at H
       have c7b0 : (((rd_T48 l0 x5_1).f2) == (wrap64 ((wrap64 (x1_1 + 1)) + 1))) = false := beq_eq_false_iff_ne.mpr c7
       have c7b1 : (((rd_T48 l0 x5_1).f2) != (wrap64 ((wrap64 (x1_1 + 1)) + 1))) = true := bne_iff_ne.mpr c7
       obtain rfl := Option.some.inj H
       have p699 : 0 ≤ (x5_1 : Int) := of_decide_eq_true (by first | (with_reducible assumption) | assumption)
       have q13 : x5_1 < (l0.length : Int) := of_decide_eq_true (by first | (with_reducible assumption) | assumption)
       obtain ⟨ad13, e699, hx13_0, hx13_1, hx13_2, hx13_3, hx13_4, hx13_5, hx13_6, hx13_7⟩ := at_T48 HR0.out x5_1 p699 q13
       cases e699
       replace p699 := eq_true p699
       replace q13 := eq_true q13
       have p700 : 0 ≤ (x5_1 : Int) := of_decide_eq_true (by first | (with_reducible assumption) | assumption)
       have q14 : x5_1 < (l0.length : Int) := of_decide_eq_true (by first | (with_reducible assumption) | assumption)
       obtain ⟨ad14, e700, hx14_0, hx14_1, hx14_2, hx14_3, hx14_4, hx14_5, hx14_6, hx14_7⟩ := at_T48 HR0.out x5_1 p700 q14
       obtain rfl : ad13 = ad14 := (by injection e700)
       replace p700 := eq_true p700
       replace q14 := eq_true q14
       have p701 : 0 ≤ (x5_1 : Int) := of_decide_eq_true (by first | (with_reducible assumption) | assumption)
       have q15 : x5_1 < (l0.length : Int) := of_decide_eq_true (by first | (with_reducible assumption) | assumption)
       obtain ⟨ad15, e701, hx15_0, hx15_1, hx15_2, hx15_3, hx15_4, hx15_5, hx15_6, hx15_7⟩ := at_T48 HR0.out x5_1 p701 q15
       obtain rfl : ad13 = ad15 := (by injection e701)
       replace p701 := eq_true p701
       replace q15 := eq_true q15
       go_wp2
       go_ret
       exact ⟨by first | rfl | (simp; done) | (simp [*]; done), by repeat (first | exact Drawn0.refl _ | apply Drawn0.step)⟩
      rw [if_neg c6] at H
      have c6b0 : (((rd_T48 l0 x5_1).f1) == (wrap64 (x1_1 + 1))) = false := beq_eq_false_iff_ne.mpr c6
      have c6b1 : (((rd_T48 l0 x5_1).f1) != (wrap64 (x1_1 + 1))) = true := bne_iff_ne.mpr c6
      obtain rfl := Option.some.inj H
      have p699 : 0 ≤ (x5_1 : Int) := of_decide_eq_true (by first | (with_reducible assumption) | assumption)
      have q13 : x5_1 < (l0.length : Int) := of_decide_eq_true (by first | (with_reducible assumption) | assumption)
      obtain ⟨ad13, e699, hx13_0, hx13_1, hx13_2, hx13_3, hx13_4, hx13_5, hx13_6, hx13_7⟩ := at_T48 HR0.out x5_1 p699 q13
      cases e699
      replace p699 := eq_true p699
      replace q13 := eq_true q13
      have p700 : 0 ≤ (x5_1 : Int) := of_decide_eq_true (by first | (with_reducible assumption) | assumption)
      have q14 : x5_1 < (l0.length : Int) := of_decide_eq_true (by first | (with_reducible assumption) | assumption)
      obtain ⟨ad14, e700, hx14_0, hx14_1, hx14_2, hx14_3, hx14_4, hx14_5, hx14_6, hx14_7⟩ := at_T48 HR0.out x5_1 p700 q14
      obtain rfl : ad13 = ad14 := (by injection e700)
      replace p700 := eq_true p700
      replace q14 := eq_true q14
      go_wp2
      go_ret
      exact ⟨by first | rfl | (simp; done) | (simp [*]; done), by repeat (first | exact Drawn0.refl _ | apply Drawn0.step)⟩
     rw [if_neg c5] at H
     have c5b0 : (((rd_T48 l0 x5_1).f0) == x1_1) = false := beq_eq_false_iff_ne.mpr c5
     have c5b1 : (((rd_T48 l0 x5_1).f0) != x1_1) = true := bne_iff_ne.mpr c5
     obtain rfl := Option.some.inj H
     have p699 : 0 ≤ (x5_1 : Int) := of_decide_eq_true (by first | (with_reducible assumption) | assumption)
     have q13 : x5_1 < (l0.length : Int) := of_decide_eq_true (by first | (with_reducible assumption) | assumption)
     obtain ⟨ad13, e699, hx13_0, hx13_1, hx13_2, hx13_3, hx13_4, hx13_5, hx13_6, hx13_7⟩ := at_T48 HR0.out x5_1 p699 q13
     cases e699
     replace p699 := eq_true p699
     replace q13 := eq_true q13
     go_wp2
     go_ret
     exact ⟨by first | rfl | (simp; done) | (simp [*]; done), by repeat (first | exact Drawn0.refl _ | apply Drawn0.step)⟩
    rw [if_neg c4] at H
    exact absurd H (by simp)
   rw [if_neg c3] at H
   have c3b0 : decide (x5_1 < (l0.length : Int)) = false := decide_eq_false c3
   clear c3
   obtain rfl := Option.some.inj H
   go_wp2
   go_ret
   exact ⟨by first | rfl | (simp; done) | (simp [*]; done), by repeat (first | exact Drawn0.refl _ | apply Drawn0.step)⟩
set_option maxHeartbeats 8000000 in
set_option maxRecDepth 100000 in
theorem ZlheldRecsResult.calls (k : Nat) (a0_0 : Int) (a0_1 : Int) (A0_2 : Option Addr) (c0_2 : Nat) (l0_2 : List (S48)) (a1 : Int) (r : Int) (w : World) (hr0_2 : Kd.C k48 w A0_2 l0_2.length l0_2) (hc0_2 : l0_2.length ≤ c0_2) (h : ZlheldRecsResult.f k a0_0 a0_1 l0_2 a1 = some r) :
 Calls Try.prog 35 #[.agg #[.int .i64 a0_0, .int .i64 a0_1, .slice A0_2 l0_2.length c0_2], .int .i64 a1] w fun e w' => e = .returned (.int .i64 r) ∧ Below w.heap.size w w' := by
 have hu51 := Try.underlying51
 have HR0_2 := Qz.mk hr0_2
 have HC0_2 := Qz.mk hc0_2
 clear hr0_2 hc0_2
 have HB := Qz.mk (Below.refl w.heap.size w)
 have H : ((ZlheldRecS.f k l0_2 a1).bind fun t11 => (if t11 < 0 then (some (-1)) else (some t11))) = some r := h
 clear h
 replace H := Qj9 H
 obtain ⟨t11, A30, H⟩ := H
 replace H : (if t11 < 0 then (some (-1)) else (some t11)) = some r := H
 have A3 := Qz.mk A30
 clear A30
 by_cases c4 : t11 < 0
 ·rw [if_pos c4] at H
  have c4b0 : decide (t11 < 0) = true := decide_eq_true c4
  clear c4
  obtain rfl := Option.some.inj H
  go_enter Try.func35, Try.ntmps35
  go_wp2_with (first | ((with_reducible refine gate_dst (N := 2) rfl ?_); refine box_event ?hg (N := 2) ?hd (cs := #[.int .i64 a0_0, .int .i64 a0_1, .slice A0_2 l0_2.length c0_2]) (t := 51) ?hr ?_; (case hd => rfl); (case hg => rfl); (case hr => first | (go_simp; done) | (go_simp; rfl)); intro gb10 hg w5 hbox hb; have n0_ := Qz.mk (Qq (by apply_rules [HB.out, Qc, Qa, Qb]) hb); have n1_ := Qz.mk (hbox); have n2_ := Qz.mk ((by rw [hg]; exact (Qp (by apply_rules [HB.out, Qc, Qa, Qb])) : w.heap.size ≤ gb10)); have n3_ := n2_; clear HB; have HB := n0_; have BK10 := n1_; have GW10 := n2_; have GE10 := n3_; clear n0_ n1_ n2_ n3_; clear hb hbox hg; obtain ⟨z6_0, z6_1, z6_2, j6_0, j6_1, j6_2⟩ := Lv.blks3 BK10.out) | ((with_reducible refine gate_callee (f := 69) rfl ?_); refine Qat (some 8) rfl rfl Try.func69 (by kernel_rfl) rfl #[.slice A0_2 l0_2.length c0_2, .int .i64 a1] rfl (by (try simp only [Qj4, Qj5, Qj6]); first | done | rfl | (simp only [Qj7, Qj8]; rfl)) ?_; (with_reducible refine (ZlheldRecS.calls k _ _ l0_2 a1 t11 _ ?side1 ?side2 A3.out).mono ?_); (case side1 => repeat (first | exact (Kd.Qac HR0_2.out HB.out) | (with_reducible first | refine Kd.Qaa ?_ _ | refine Kd.Qz ?_ _ | refine Kd.Qab ?_))); (case side2 => exact HC0_2.out); rintro e w' ⟨rfl, ⟨nd, rfl⟩⟩; refine ⟨_, rfl, ?_⟩))
  go_ret
  exact ⟨by first | rfl | (simp [Qv, Qu] <;> rfl) | (simp [*, Qv, Qu] <;> rfl), by apply_rules [HB.out, Qc, Qa, Qb, Qd, GE10.out]⟩
 rw [if_neg c4] at H
 have c4b0 : decide (t11 < 0) = false := decide_eq_false c4
 clear c4
 obtain rfl := Option.some.inj H
 go_enter Try.func35, Try.ntmps35
 go_wp2_with (first | ((with_reducible refine gate_dst (N := 2) rfl ?_); refine box_event ?hg (N := 2) ?hd (cs := #[.int .i64 a0_0, .int .i64 a0_1, .slice A0_2 l0_2.length c0_2]) (t := 51) ?hr ?_; (case hd => rfl); (case hg => rfl); (case hr => first | (go_simp; done) | (go_simp; rfl)); intro gb10 hg w7 hbox hb; have n0_ := Qz.mk (Qq (by apply_rules [HB.out, Qc, Qa, Qb]) hb); have n1_ := Qz.mk (hbox); have n2_ := Qz.mk ((by rw [hg]; exact (Qp (by apply_rules [HB.out, Qc, Qa, Qb])) : w.heap.size ≤ gb10)); have n3_ := n2_; clear HB; have HB := n0_; have BK10 := n1_; have GW10 := n2_; have GE10 := n3_; clear n0_ n1_ n2_ n3_; clear hb hbox hg; obtain ⟨z8_0, z8_1, z8_2, j8_0, j8_1, j8_2⟩ := Lv.blks3 BK10.out) | ((with_reducible refine gate_callee (f := 69) rfl ?_); refine Qat (some 8) rfl rfl Try.func69 (by kernel_rfl) rfl #[.slice A0_2 l0_2.length c0_2, .int .i64 a1] rfl (by (try simp only [Qj4, Qj5, Qj6]); first | done | rfl | (simp only [Qj7, Qj8]; rfl)) ?_; (with_reducible refine (ZlheldRecS.calls k _ _ l0_2 a1 t11 _ ?side1 ?side2 A3.out).mono ?_); (case side1 => repeat (first | exact (Kd.Qac HR0_2.out HB.out) | (with_reducible first | refine Kd.Qaa ?_ _ | refine Kd.Qz ?_ _ | refine Kd.Qab ?_))); (case side2 => exact HC0_2.out); rintro e w' ⟨rfl, ⟨nd, rfl⟩⟩; refine ⟨_, rfl, ?_⟩))
 go_ret
 exact ⟨by first | rfl | (simp [Qv, Qu] <;> rfl) | (simp [*, Qv, Qu] <;> rfl), by apply_rules [HB.out, Qc, Qa, Qb, Qd, GE10.out]⟩
end Go.Proofs.Ythagppmaofcllaa.P
