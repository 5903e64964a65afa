import Derived.Test.YthagppmaofcllaaP0
import Derived.Test.YthagppmaofcllaaPDm0
import Derived.Test.YthagppmaofcllaaWRepsOne
import Derived.Test.YthagppmaofcllaaWTab
import Derived.Test.YthagppmaofcllaaLv
namespace Go.Proofs.Ythagppmaofcllaa.P
open Go.RowKit Go.Proofs.YthagppmaofcllaaW.PrintWords Go.Proofs.YthagppmaofcllaaW.PrintLast Go.Proofs.YthagppmaofcllaaW.PrintMore
attribute [local go_sem] max2_int min2_int max_two min_two max_three min_three max_four min_four   -- for this text's walks alone
set_option linter.unusedVariables false
set_option linter.unusedSimpArgs false
set_option maxHeartbeats 8000000 in
set_option maxRecDepth 100000 in
theorem ZleqRec.calls (a0_0 : Int) (a0_1 : Int) (a0_2 : Int) (a0_3 : Bool) (a0_4 : Int) (a0_5 : Bool) (a0_6 : Int) (a0_7 : Int) (a1_0 : Int) (a1_1 : Int) (a1_2 : Int) (a1_3 : Bool) (a1_4 : Int) (a1_5 : Bool) (a1_6 : Int) (a1_7 : Int) (r : Bool) (w : World) (h : ZleqRec.f a0_0 a0_1 a0_2 a0_3 a0_4 a0_5 a0_6 a0_7 a1_0 a1_1 a1_2 a1_3 a1_4 a1_5 a1_6 a1_7 = some r) :
 Calls Try.prog 60 #[.agg #[.int .i64 a0_0, .int .i64 a0_1, .int .i64 a0_2, .bool a0_3, .int .i64 a0_4, .bool a0_5, .int .i64 a0_6, .int .i64 a0_7], .agg #[.int .i64 a1_0, .int .i64 a1_1, .int .i64 a1_2, .bool a1_3, .int .i64 a1_4, .bool a1_5, .int .i64 a1_6, .int .i64 a1_7]] w fun e w' => e = .returned (.bool r) ∧ Below w.heap.size w w' := by
 have hu48 := Try.underlying48
 have HB := Qz.mk (Below.refl w.heap.size w)
 have H : (if a0_0 = a1_0 then (if a0_1 = a1_1 then (if a0_2 = a1_2 then (if (a0_3 != a1_3) = true then (some false) else (if a0_4 = a1_4 then (if (a0_5 != a1_5) = true then (some false) else (if a0_6 = a1_6 then (if a0_7 = a1_7 then (some true) else (some false)) else (some false))) else (some false))) else (some false)) else (some false)) else (some false)) = some r := h
 clear h
 by_cases c3 : a0_0 = a1_0
 ·rw [if_pos c3] at H
  have c3b0 : (a0_0 == a1_0) = true := beq_iff_eq.mpr c3
  have c3b1 : (a0_0 != a1_0) = false := bne_eq_false_iff_eq.mpr c3
  clear c3
  by_cases c4 : a0_1 = a1_1
  ·rw [if_pos c4] at H
   have c4b0 : (a0_1 == a1_1) = true := beq_iff_eq.mpr c4
   have c4b1 : (a0_1 != a1_1) = false := bne_eq_false_iff_eq.mpr c4
   clear c4
   by_cases c5 : a0_2 = a1_2
   ·rw [if_pos c5] at H
    have c5b0 : (a0_2 == a1_2) = true := beq_iff_eq.mpr c5
    have c5b1 : (a0_2 != a1_2) = false := bne_eq_false_iff_eq.mpr c5
    clear c5
    by_cases c6 : (a0_3 != a1_3) = true
    ·rw [if_pos c6] at H
     have c6b0 : (a0_3 != a1_3) = true := c6
     (try (have c6b1 : decide (a0_3 = a1_3) = false := by simpa using c6))
     (try (have c6b2 : (a0_3 == a1_3) = false := by simpa using c6))
     (try (have c6b3 : ¬ (a0_3 = a1_3) := by simpa using c6))
     clear c6
     obtain rfl := Option.some.inj H
     go_enter Try.func60, Try.ntmps60
     go_wp2_with (first | ((with_reducible refine gate_dst (N := 2) rfl ?_); refine box_event ?hg (N := 2) ?hd (cs := #[.int .i64 a0_0, .int .i64 a0_1, .int .i64 a0_2, .bool a0_3, .int .i64 a0_4, .bool a0_5, .int .i64 a0_6, .int .i64 a0_7]) (t := 48) ?hr ?_; (case hd => rfl); (case hg => rfl); (case hr => first | (go_simp; done) | (go_simp; rfl)); intro gb56 hg w7 hbox hb; have n0_ := Qz.mk (Qq (by apply_rules [HB.out, Qc, Qa, Qb]) hb); have n1_ := Qz.mk (hbox); have n2_ := Qz.mk ((by rw [hg]; exact (Qp (by apply_rules [HB.out, Qc, Qa, Qb])) : w.heap.size ≤ gb56)); have n3_ := n2_; clear HB; have HB := n0_; have BK56 := n1_; have GW56 := n2_; have GE56 := n3_; clear n0_ n1_ n2_ n3_; clear hb hbox hg) | ((with_reducible refine gate_dst (N := 3) rfl ?_); refine box_event ?hg (N := 3) ?hd (cs := #[.int .i64 a1_0, .int .i64 a1_1, .int .i64 a1_2, .bool a1_3, .int .i64 a1_4, .bool a1_5, .int .i64 a1_6, .int .i64 a1_7]) (t := 48) ?hr ?_; (case hd => rfl); (case hg => rfl); (case hr => first | (go_simp; done) | (go_simp; rfl)); intro gb57 hg w8 hbox hb; have n0_ := Qz.mk (Qi (g := gb56) (o := .cells #[.int .i64 a0_0, .int .i64 a0_1, .int .i64 a0_2, .bool a0_3, .int .i64 a0_4, .bool a0_5, .int .i64 a0_6, .int .i64 a0_7] 48 (0, 0)) (by apply_rules [BK56.out, Qe, Qg, Qf]) hb); have n1_ := Qz.mk (Qq (by apply_rules [HB.out, Qc, Qa, Qb, Qd, GE56.out]) hb); have n2_ := Qz.mk (hbox); have n3_ := Qz.mk ((by rw [hg]; exact (Qp (by apply_rules [HB.out, Qc, Qa, Qb, Qd, GE56.out])) : w.heap.size ≤ gb57)); have n4_ := n3_; have n5_ := Qz.mk ((by rw [hg]; exact Nat.ne_of_lt (Ql (g := gb56) (o := .cells #[.int .i64 a0_0, .int .i64 a0_1, .int .i64 a0_2, .bool a0_3, .int .i64 a0_4, .bool a0_5, .int .i64 a0_6, .int .i64 a0_7] 48 (0, 0)) (by apply_rules [BK56.out, Qe, Qg, Qf])) : gb56 ≠ gb57)); have n6_ := Qz.mk ((by rw [hg]; exact Nat.ne_of_gt (Ql (g := gb56) (o := .cells #[.int .i64 a0_0, .int .i64 a0_1, .int .i64 a0_2, .bool a0_3, .int .i64 a0_4, .bool a0_5, .int .i64 a0_6, .int .i64 a0_7] 48 (0, 0)) (by apply_rules [BK56.out, Qe, Qg, Qf])) : gb57 ≠ gb56)); clear BK56; clear HB; have BK56 := n0_; have HB := n1_; have BK57 := n2_; have GW57 := n3_; have GE57 := n4_; have NB435_436 := n5_; have NB436_435 := n6_; clear n0_ n1_ n2_ n3_ n4_ n5_ n6_; clear hb hbox hg; have hnb9 := NB435_436.out; have hnc9 := NB436_435.out; obtain ⟨z10_0, z10_1, z10_2, z10_3, z10_4, z10_5, z10_6, z10_7, j10_0, j10_1, j10_2, j10_3, j10_4, j10_5, j10_6, j10_7⟩ := Lv.blks8 BK56.out; obtain ⟨z11_0, z11_1, z11_2, z11_3, z11_4, z11_5, z11_6, z11_7, j11_0, j11_1, j11_2, j11_3, j11_4, j11_5, j11_6, j11_7⟩ := Lv.blks8 BK57.out))
     go_ret
     exact ⟨by first | rfl | (simp [Qv, Qu] <;> rfl) | (simp [*, Qv, Qu] <;> rfl), by apply_rules [HB.out, Qc, Qa, Qb, Qd, GE56.out, GE57.out]⟩
    rw [if_neg c6] at H
    have c6b0 : (a0_3 != a1_3) = false := by simpa using c6
    (try (have c6b1 : decide (a0_3 = a1_3) = true := by simpa using c6))
    (try (have c6b2 : (a0_3 == a1_3) = true := by simpa using c6))
    clear c6
    by_cases c12 : a0_4 = a1_4
    ·rw [if_pos c12] at H
     have c12b0 : (a0_4 == a1_4) = true := beq_iff_eq.mpr c12
     have c12b1 : (a0_4 != a1_4) = false := bne_eq_false_iff_eq.mpr c12
     clear c12
     by_cases c13 : (a0_5 != a1_5) = true
     ·rw [if_pos c13] at H
      have c13b0 : (a0_5 != a1_5) = true := c13
      (try (have c13b1 : decide (a0_5 = a1_5) = false := by simpa using c13))
      (try (have c13b2 : (a0_5 == a1_5) = false := by simpa using c13))
      (try (have c13b3 : ¬ (a0_5 = a1_5) := by simpa using c13))
      clear c13
      obtain rfl := Option.some.inj H
      go_enter Try.func60, Try.ntmps60
      go_wp2_with (first | ((with_reducible refine gate_dst (N := 2) rfl ?_); refine box_event ?hg (N := 2) ?hd (cs := #[.int .i64 a0_0, .int .i64 a0_1, .int .i64 a0_2, .bool a0_3, .int .i64 a0_4, .bool a0_5, .int .i64 a0_6, .int .i64 a0_7]) (t := 48) ?hr ?_; (case hd => rfl); (case hg => rfl); (case hr => first | (go_simp; done) | (go_simp; rfl)); intro gb56 hg w14 hbox hb; have n0_ := Qz.mk (Qq (by apply_rules [HB.out, Qc, Qa, Qb]) hb); have n1_ := Qz.mk (hbox); have n2_ := Qz.mk ((by rw [hg]; exact (Qp (by apply_rules [HB.out, Qc, Qa, Qb])) : w.heap.size ≤ gb56)); have n3_ := n2_; clear HB; have HB := n0_; have BK56 := n1_; have GW56 := n2_; have GE56 := n3_; clear n0_ n1_ n2_ n3_; clear hb hbox hg) | ((with_reducible refine gate_dst (N := 3) rfl ?_); refine box_event ?hg (N := 3) ?hd (cs := #[.int .i64 a1_0, .int .i64 a1_1, .int .i64 a1_2, .bool a1_3, .int .i64 a1_4, .bool a1_5, .int .i64 a1_6, .int .i64 a1_7]) (t := 48) ?hr ?_; (case hd => rfl); (case hg => rfl); (case hr => first | (go_simp; done) | (go_simp; rfl)); intro gb57 hg w15 hbox hb; have n0_ := Qz.mk (Qi (g := gb56) (o := .cells #[.int .i64 a0_0, .int .i64 a0_1, .int .i64 a0_2, .bool a0_3, .int .i64 a0_4, .bool a0_5, .int .i64 a0_6, .int .i64 a0_7] 48 (0, 0)) (by apply_rules [BK56.out, Qe, Qg, Qf]) hb); have n1_ := Qz.mk (Qq (by apply_rules [HB.out, Qc, Qa, Qb, Qd, GE56.out]) hb); have n2_ := Qz.mk (hbox); have n3_ := Qz.mk ((by rw [hg]; exact (Qp (by apply_rules [HB.out, Qc, Qa, Qb, Qd, GE56.out])) : w.heap.size ≤ gb57)); have n4_ := n3_; have n5_ := Qz.mk ((by rw [hg]; exact Nat.ne_of_lt (Ql (g := gb56) (o := .cells #[.int .i64 a0_0, .int .i64 a0_1, .int .i64 a0_2, .bool a0_3, .int .i64 a0_4, .bool a0_5, .int .i64 a0_6, .int .i64 a0_7] 48 (0, 0)) (by apply_rules [BK56.out, Qe, Qg, Qf])) : gb56 ≠ gb57)); have n6_ := Qz.mk ((by rw [hg]; exact Nat.ne_of_gt (Ql (g := gb56) (o := .cells #[.int .i64 a0_0, .int .i64 a0_1, .int .i64 a0_2, .bool a0_3, .int .i64 a0_4, .bool a0_5, .int .i64 a0_6, .int .i64 a0_7] 48 (0, 0)) (by apply_rules [BK56.out, Qe, Qg, Qf])) : gb57 ≠ gb56)); clear BK56; clear HB; have BK56 := n0_; have HB := n1_; have BK57 := n2_; have GW57 := n3_; have GE57 := n4_; have NB435_436 := n5_; have NB436_435 := n6_; clear n0_ n1_ n2_ n3_ n4_ n5_ n6_; clear hb hbox hg; have hnb16 := NB435_436.out; have hnc16 := NB436_435.out; obtain ⟨z17_0, z17_1, z17_2, z17_3, z17_4, z17_5, z17_6, z17_7, j17_0, j17_1, j17_2, j17_3, j17_4, j17_5, j17_6, j17_7⟩ := Lv.blks8 BK56.out; obtain ⟨z18_0, z18_1, z18_2, z18_3, z18_4, z18_5, z18_6, z18_7, j18_0, j18_1, j18_2, j18_3, j18_4, j18_5, j18_6, j18_7⟩ := Lv.blks8 BK57.out))
      go_ret
      exact ⟨by first | rfl | (simp [Qv, Qu] <;> rfl) | (simp [*, Qv, Qu] <;> rfl), by apply_rules [HB.out, Qc, Qa, Qb, Qd, GE56.out, GE57.out]⟩
     rw [if_neg c13] at H
     have c13b0 : (a0_5 != a1_5) = false := by simpa using c13
     (try (have c13b1 : decide (a0_5 = a1_5) = true := by simpa using c13))
     (try (have c13b2 : (a0_5 == a1_5) = true := by simpa using c13))
     clear c13
     by_cases c19 : a0_6 = a1_6
     ·rw [if_pos c19] at H
      have c19b0 : (a0_6 == a1_6) = true := beq_iff_eq.mpr c19
      have c19b1 : (a0_6 != a1_6) = false := bne_eq_false_iff_eq.mpr c19
      clear c19
      by_cases c20 : a0_7 = a1_7
      ·rw [if_pos c20] at H
       have c20b0 : (a0_7 == a1_7) = true := beq_iff_eq.mpr c20
       have c20b1 : (a0_7 != a1_7) = false := bne_eq_false_iff_eq.mpr c20
       clear c20
       obtain rfl := Option.some.inj H
       go_enter Try.func60, Try.ntmps60
       go_wp2_with (first | ((with_reducible refine gate_dst (N := 2) rfl ?_); refine box_event ?hg (N := 2) ?hd (cs := #[.int .i64 a0_0, .int .i64 a0_1, .int .i64 a0_2, .bool a0_3, .int .i64 a0_4, .bool a0_5, .int .i64 a0_6, .int .i64 a0_7]) (t := 48) ?hr ?_; (case hd => rfl); (case hg => rfl); (case hr => first | (go_simp; done) | (go_simp; rfl)); intro gb56 hg w21 hbox hb; have n0_ := Qz.mk (Qq (by apply_rules [HB.out, Qc, Qa, Qb]) hb); have n1_ := Qz.mk (hbox); have n2_ := Qz.mk ((by rw [hg]; exact (Qp (by apply_rules [HB.out, Qc, Qa, Qb])) : w.heap.size ≤ gb56)); have n3_ := n2_; clear HB; have HB := n0_; have BK56 := n1_; have GW56 := n2_; have GE56 := n3_; clear n0_ n1_ n2_ n3_; clear hb hbox hg) | ((with_reducible refine gate_dst (N := 3) rfl ?_); refine box_event ?hg (N := 3) ?hd (cs := #[.int .i64 a1_0, .int .i64 a1_1, .int .i64 a1_2, .bool a1_3, .int .i64 a1_4, .bool a1_5, .int .i64 a1_6, .int .i64 a1_7]) (t := 48) ?hr ?_; (case hd => rfl); (case hg => rfl); (case hr => first | (go_simp; done) | (go_simp; rfl)); intro gb57 hg w22 hbox hb; have n0_ := Qz.mk (Qi (g := gb56) (o := .cells #[.int .i64 a0_0, .int .i64 a0_1, .int .i64 a0_2, .bool a0_3, .int .i64 a0_4, .bool a0_5, .int .i64 a0_6, .int .i64 a0_7] 48 (0, 0)) (by apply_rules [BK56.out, Qe, Qg, Qf]) hb); have n1_ := Qz.mk (Qq (by apply_rules [HB.out, Qc, Qa, Qb, Qd, GE56.out]) hb); have n2_ := Qz.mk (hbox); have n3_ := Qz.mk ((by rw [hg]; exact (Qp (by apply_rules [HB.out, Qc, Qa, Qb, Qd, GE56.out])) : w.heap.size ≤ gb57)); have n4_ := n3_; have n5_ := Qz.mk ((by rw [hg]; exact Nat.ne_of_lt (Ql (g := gb56) (o := .cells #[.int .i64 a0_0, .int .i64 a0_1, .int .i64 a0_2, .bool a0_3, .int .i64 a0_4, .bool a0_5, .int .i64 a0_6, .int .i64 a0_7] 48 (0, 0)) (by apply_rules [BK56.out, Qe, Qg, Qf])) : gb56 ≠ gb57)); have n6_ := Qz.mk ((by rw [hg]; exact Nat.ne_of_gt (Ql (g := gb56) (o := .cells #[.int .i64 a0_0, .int .i64 a0_1, .int .i64 a0_2, .bool a0_3, .int .i64 a0_4, .bool a0_5, .int .i64 a0_6, .int .i64 a0_7] 48 (0, 0)) (by apply_rules [BK56.out, Qe, Qg, Qf])) : gb57 ≠ gb56)); clear BK56; clear HB; have BK56 := n0_; have HB := n1_; have BK57 := n2_; have GW57 := n3_; have GE57 := n4_; have NB435_436 := n5_; have NB436_435 := n6_; clear n0_ n1_ n2_ n3_ n4_ n5_ n6_; clear hb hbox hg; have hnb23 := NB435_436.out; have hnc23 := NB436_435.out; obtain ⟨z24_0, z24_1, z24_2, z24_3, z24_4, z24_5, z24_6, z24_7, j24_0, j24_1, j24_2, j24_3, j24_4, j24_5, j24_6, j24_7⟩ := Lv.blks8 BK56.out; obtain ⟨z25_0, z25_1, z25_2, z25_3, z25_4, z25_5, z25_6, z25_7, j25_0, j25_1, j25_2, j25_3, j25_4, j25_5, j25_6, j25_7⟩ := Lv.blks8 BK57.out))
       go_ret
       exact ⟨by first | rfl | (simp [Qv, Qu] <;> rfl) | (simp [*, Qv, Qu] <;> rfl), by apply_rules [HB.out, Qc, Qa, Qb, Qd, GE56.out, GE57.out]⟩
      rw [if_neg c20] at H
      have c20b0 : (a0_7 == a1_7) = false := beq_eq_false_iff_ne.mpr c20
      have c20b1 : (a0_7 != a1_7) = true := bne_iff_ne.mpr c20
      obtain rfl := Option.some.inj H
      go_enter Try.func60, Try.ntmps60
      go_wp2_with (first | ((with_reducible refine gate_dst (N := 2) rfl ?_); refine box_event ?hg (N := 2) ?hd (cs := #[.int .i64 a0_0, .int .i64 a0_1, .int .i64 a0_2, .bool a0_3, .int .i64 a0_4, .bool a0_5, .int .i64 a0_6, .int .i64 a0_7]) (t := 48) ?hr ?_; (case hd => rfl); (case hg => rfl); (case hr => first | (go_simp; done) | (go_simp; rfl)); intro gb56 hg w26 hbox hb; have n0_ := Qz.mk (Qq (by apply_rules [HB.out, Qc, Qa, Qb]) hb); have n1_ := Qz.mk (hbox); have n2_ := Qz.mk ((by rw [hg]; exact (Qp (by apply_rules [HB.out, Qc, Qa, Qb])) : w.heap.size ≤ gb56)); have n3_ := n2_; clear HB; have HB := n0_; have BK56 := n1_; have GW56 := n2_; have GE56 := n3_; clear n0_ n1_ n2_ n3_; clear hb hbox hg) | ((with_reducible refine gate_dst (N := 3) rfl ?_); refine box_event ?hg (N := 3) ?hd (cs := #[.int .i64 a1_0, .int .i64 a1_1, .int .i64 a1_2, .bool a1_3, .int .i64 a1_4, .bool a1_5, .int .i64 a1_6, .int .i64 a1_7]) (t := 48) ?hr ?_; (case hd => rfl); (case hg => rfl); (case hr => first | (go_simp; done) | (go_simp; rfl)); intro gb57 hg w27 hbox hb; have n0_ := Qz.mk (Qi (g := gb56) (o := .cells #[.int .i64 a0_0, .int .i64 a0_1, .int .i64 a0_2, .bool a0_3, .int .i64 a0_4, .bool a0_5, .int .i64 a0_6, .int .i64 a0_7] 48 (0, 0)) (by apply_rules [BK56.out, Qe, Qg, Qf]) hb); have n1_ := Qz.mk (Qq (by apply_rules [HB.out, Qc, Qa, Qb, Qd, GE56.out]) hb); have n2_ := Qz.mk (hbox); have n3_ := Qz.mk ((by rw [hg]; exact (Qp (by apply_rules [HB.out, Qc, Qa, Qb, Qd, GE56.out])) : w.heap.size ≤ gb57)); have n4_ := n3_; have n5_ := Qz.mk ((by rw [hg]; exact Nat.ne_of_lt (Ql (g := gb56) (o := .cells #[.int .i64 a0_0, .int .i64 a0_1, .int .i64 a0_2, .bool a0_3, .int .i64 a0_4, .bool a0_5, .int .i64 a0_6, .int .i64 a0_7] 48 (0, 0)) (by apply_rules [BK56.out, Qe, Qg, Qf])) : gb56 ≠ gb57)); have n6_ := Qz.mk ((by rw [hg]; exact Nat.ne_of_gt (Ql (g := gb56) (o := .cells #[.int .i64 a0_0, .int .i64 a0_1, .int .i64 a0_2, .bool a0_3, .int .i64 a0_4, .bool a0_5, .int .i64 a0_6, .int .i64 a0_7] 48 (0, 0)) (by apply_rules [BK56.out, Qe, Qg, Qf])) : gb57 ≠ gb56)); clear BK56; clear HB; have BK56 := n0_; have HB := n1_; have BK57 := n2_; have GW57 := n3_; have GE57 := n4_; have NB435_436 := n5_; have NB436_435 := n6_; clear n0_ n1_ n2_ n3_ n4_ n5_ n6_; clear hb hbox hg; have hnb28 := NB435_436.out; have hnc28 := NB436_435.out; obtain ⟨z29_0, z29_1, z29_2, z29_3, z29_4, z29_5, z29_6, z29_7, j29_0, j29_1, j29_2, j29_3, j29_4, j29_5, j29_6, j29_7⟩ := Lv.blks8 BK56.out; obtain ⟨z30_0, z30_1, z30_2, z30_3, z30_4, z30_5, z30_6, z30_7, j30_0, j30_1, j30_2, j30_3, j30_4, j30_5, j30_6, j30_7⟩ := Lv.blks8 BK57.out))
      go_ret
      exact ⟨by first | rfl | (simp [Qv, Qu] <;> rfl) | (simp [*, Qv, Qu] <;> rfl), by apply_rules [HB.out, Qc, Qa, Qb, Qd, GE56.out, GE57.out]⟩
     rw [if_neg c19] at H
     have c19b0 : (a0_6 == a1_6) = false := beq_eq_false_iff_ne.mpr c19
     have c19b1 : (a0_6 != a1_6) = true := bne_iff_ne.mpr c19
     obtain rfl := Option.some.inj H
     go_enter Try.func60, Try.ntmps60
     go_wp2_with (first | ((with_reducible refine gate_dst (N := 2) rfl ?_); refine box_event ?hg (N := 2) ?hd (cs := #[.int .i64 a0_0, .int .i64 a0_1, .int .i64 a0_2, .bool a0_3, .int .i64 a0_4, .bool a0_5, .int .i64 a0_6, .int .i64 a0_7]) (t := 48) ?hr ?_; (case hd => rfl); (case hg => rfl); (case hr => first | (go_simp; done) | (go_simp; rfl)); intro gb56 hg w31 hbox hb; have n0_ := Qz.mk (Qq (by apply_rules [HB.out, Qc, Qa, Qb]) hb); have n1_ := Qz.mk (hbox); have n2_ := Qz.mk ((by rw [hg]; exact (Qp (by apply_rules [HB.out, Qc, Qa, Qb])) : w.heap.size ≤ gb56)); have n3_ := n2_; clear HB; have HB := n0_; have BK56 := n1_; have GW56 := n2_; have GE56 := n3_; clear n0_ n1_ n2_ n3_; clear hb hbox hg) | ((with_reducible refine gate_dst (N := 3) rfl ?_); refine box_event ?hg (N := 3) ?hd (cs := #[.int .i64 a1_0, .int .i64 a1_1, .int .i64 a1_2, .bool a1_3, .int .i64 a1_4, .bool a1_5, .int .i64 a1_6, .int .i64 a1_7]) (t := 48) ?hr ?_; (case hd => rfl); (case hg => rfl); (case hr => first | (go_simp; done) | (go_simp; rfl)); intro gb57 hg w32 hbox hb; have n0_ := Qz.mk (Qi (g := gb56) (o := .cells #[.int .i64 a0_0, .int .i64 a0_1, .int .i64 a0_2, .bool a0_3, .int .i64 a0_4, .bool a0_5, .int .i64 a0_6, .int .i64 a0_7] 48 (0, 0)) (by apply_rules [BK56.out, Qe, Qg, Qf]) hb); have n1_ := Qz.mk (Qq (by apply_rules [HB.out, Qc, Qa, Qb, Qd, GE56.out]) hb); have n2_ := Qz.mk (hbox); have n3_ := Qz.mk ((by rw [hg]; exact (Qp (by apply_rules [HB.out, Qc, Qa, Qb, Qd, GE56.out])) : w.heap.size ≤ gb57)); have n4_ := n3_; have n5_ := Qz.mk ((by rw [hg]; exact Nat.ne_of_lt (Ql (g := gb56) (o := .cells #[.int .i64 a0_0, .int .i64 a0_1, .int .i64 a0_2, .bool a0_3, .int .i64 a0_4, .bool a0_5, .int .i64 a0_6, .int .i64 a0_7] 48 (0, 0)) (by apply_rules [BK56.out, Qe, Qg, Qf])) : gb56 ≠ gb57)); have n6_ := Qz.mk ((by rw [hg]; exact Nat.ne_of_gt (Ql (g := gb56) (o := .cells #[.int .i64 a0_0, .int .i64 a0_1, .int .i64 a0_2, .bool a0_3, .int .i64 a0_4, .bool a0_5, .int .i64 a0_6, .int .i64 a0_7] 48 (0, 0)) (by apply_rules [BK56.out, Qe, Qg, Qf])) : gb57 ≠ gb56)); clear BK56; clear HB; have BK56 := n0_; have HB := n1_; have BK57 := n2_; have GW57 := n3_; have GE57 := n4_; have NB435_436 := n5_; have NB436_435 := n6_; clear n0_ n1_ n2_ n3_ n4_ n5_ n6_; clear hb hbox hg; have hnb33 := NB435_436.out; have hnc33 := NB436_435.out; obtain ⟨z34_0, z34_1, z34_2, z34_3, z34_4, z34_5, z34_6, z34_7, j34_0, j34_1, j34_2, j34_3, j34_4, j34_5, j34_6, j34_7⟩ := Lv.blks8 BK56.out; obtain ⟨z35_0, z35_1, z35_2, z35_3, z35_4, z35_5, z35_6, z35_7, j35_0, j35_1, j35_2, j35_3, j35_4, j35_5, j35_6, j35_7⟩ := Lv.blks8 BK57.out))
     go_ret
     exact ⟨by first | rfl | (simp [Qv, Qu] <;> rfl) | (simp [*, Qv, Qu] <;> rfl), by apply_rules [HB.out, Qc, Qa, Qb, Qd, GE56.out, GE57.out]⟩
    rw [if_neg c12] at H
    have c12b0 : (a0_4 == a1_4) = false := beq_eq_false_iff_ne.mpr c12
    have c12b1 : (a0_4 != a1_4) = true := bne_iff_ne.mpr c12
    obtain rfl := Option.some.inj H
    go_enter Try.func60, Try.ntmps60
    go_wp2_with (first | ((with_reducible refine gate_dst (N := 2) rfl ?_); refine box_event ?hg (N := 2) ?hd (cs := #[.int .i64 a0_0, .int .i64 a0_1, .int .i64 a0_2, .bool a0_3, .int .i64 a0_4, .bool a0_5, .int .i64 a0_6, .int .i64 a0_7]) (t := 48) ?hr ?_; (case hd => rfl); (case hg => rfl); (case hr => first | (go_simp; done) | (go_simp; rfl)); intro gb56 hg w36 hbox hb; have n0_ := Qz.mk (Qq (by apply_rules [HB.out, Qc, Qa, Qb]) hb); have n1_ := Qz.mk (hbox); have n2_ := Qz.mk ((by rw [hg]; exact (Qp (by apply_rules [HB.out, Qc, Qa, Qb])) : w.heap.size ≤ gb56)); have n3_ := n2_; clear HB; have HB := n0_; have BK56 := n1_; have GW56 := n2_; have GE56 := n3_; clear n0_ n1_ n2_ n3_; clear hb hbox hg) | ((with_reducible refine gate_dst (N := 3) rfl ?_); refine box_event ?hg (N := 3) ?hd (cs := #[.int .i64 a1_0, .int .i64 a1_1, .int .i64 a1_2, .bool a1_3, .int .i64 a1_4, .bool a1_5, .int .i64 a1_6, .int .i64 a1_7]) (t := 48) ?hr ?_; (case hd => rfl); (case hg => rfl); (case hr => first | (go_simp; done) | (go_simp; rfl)); intro gb57 hg w37 hbox hb; have n0_ := Qz.mk (Qi (g := gb56) (o := .cells #[.int .i64 a0_0, .int .i64 a0_1, .int .i64 a0_2, .bool a0_3, .int .i64 a0_4, .bool a0_5, .int .i64 a0_6, .int .i64 a0_7] 48 (0, 0)) (by apply_rules [BK56.out, Qe, Qg, Qf]) hb); have n1_ := Qz.mk (Qq (by apply_rules [HB.out, Qc, Qa, Qb, Qd, GE56.out]) hb); have n2_ := Qz.mk (hbox); have n3_ := Qz.mk ((by rw [hg]; exact (Qp (by apply_rules [HB.out, Qc, Qa, Qb, Qd, GE56.out])) : w.heap.size ≤ gb57)); have n4_ := n3_; have n5_ := Qz.mk ((by rw [hg]; exact Nat.ne_of_lt (Ql (g := gb56) (o := .cells #[.int .i64 a0_0, .int .i64 a0_1, .int .i64 a0_2, .bool a0_3, .int .i64 a0_4, .bool a0_5, .int .i64 a0_6, .int .i64 a0_7] 48 (0, 0)) (by apply_rules [BK56.out, Qe, Qg, Qf])) : gb56 ≠ gb57)); have n6_ := Qz.mk ((by rw [hg]; exact Nat.ne_of_gt (Ql (g := gb56) (o := .cells #[.int .i64 a0_0, .int .i64 a0_1, .int .i64 a0_2, .bool a0_3, .int .i64 a0_4, .bool a0_5, .int .i64 a0_6, .int .i64 a0_7] 48 (0, 0)) (by apply_rules [BK56.out, Qe, Qg, Qf])) : gb57 ≠ gb56)); clear BK56; clear HB; have BK56 := n0_; have HB := n1_; have BK57 := n2_; have GW57 := n3_; have GE57 := n4_; have NB435_436 := n5_; have NB436_435 := n6_; clear n0_ n1_ n2_ n3_ n4_ n5_ n6_; clear hb hbox hg; have hnb38 := NB435_436.out; have hnc38 := NB436_435.out; obtain ⟨z39_0, z39_1, z39_2, z39_3, z39_4, z39_5, z39_6, z39_7, j39_0, j39_1, j39_2, j39_3, j39_4, j39_5, j39_6, j39_7⟩ := Lv.blks8 BK56.out; obtain ⟨z40_0, z40_1, z40_2, z40_3, z40_4, z40_5, z40_6, z40_7, j40_0, j40_1, j40_2, j40_3, j40_4, j40_5, j40_6, j40_7⟩ := Lv.blks8 BK57.out))
    go_ret
    exact ⟨by first | rfl | (simp [Qv, Qu] <;> rfl) | (simp [*, Qv, Qu] <;> rfl), by apply_rules [HB.out, Qc, Qa, Qb, Qd, GE56.out, GE57.out]⟩
   rw [if_neg c5] at H
   have c5b0 : (a0_2 == a1_2) = false := beq_eq_false_iff_ne.mpr c5
   have c5b1 : (a0_2 != a1_2) = true := bne_iff_ne.mpr c5
   obtain rfl := Option.some.inj H
   go_enter Try.func60, Try.ntmps60
   go_wp2_with (first | ((with_reducible refine gate_dst (N := 2) rfl ?_); refine box_event ?hg (N := 2) ?hd (cs := #[.int .i64 a0_0, .int .i64 a0_1, .int .i64 a0_2, .bool a0_3, .int .i64 a0_4, .bool a0_5, .int .i64 a0_6, .int .i64 a0_7]) (t := 48) ?hr ?_; (case hd => rfl); (case hg => rfl); (case hr => first | (go_simp; done) | (go_simp; rfl)); intro gb56 hg w41 hbox hb; have n0_ := Qz.mk (Qq (by apply_rules [HB.out, Qc, Qa, Qb]) hb); have n1_ := Qz.mk (hbox); have n2_ := Qz.mk ((by rw [hg]; exact (Qp (by apply_rules [HB.out, Qc, Qa, Qb])) : w.heap.size ≤ gb56)); have n3_ := n2_; clear HB; have HB := n0_; have BK56 := n1_; have GW56 := n2_; have GE56 := n3_; clear n0_ n1_ n2_ n3_; clear hb hbox hg) | ((with_reducible refine gate_dst (N := 3) rfl ?_); refine box_event ?hg (N := 3) ?hd (cs := #[.int .i64 a1_0, .int .i64 a1_1, .int .i64 a1_2, .bool a1_3, .int .i64 a1_4, .bool a1_5, .int .i64 a1_6, .int .i64 a1_7]) (t := 48) ?hr ?_; (case hd => rfl); (case hg => rfl); (case hr => first | (go_simp; done) | (go_simp; rfl)); intro gb57 hg w42 hbox hb; have n0_ := Qz.mk (Qi (g := gb56) (o := .cells #[.int .i64 a0_0, .int .i64 a0_1, .int .i64 a0_2, .bool a0_3, .int .i64 a0_4, .bool a0_5, .int .i64 a0_6, .int .i64 a0_7] 48 (0, 0)) (by apply_rules [BK56.out, Qe, Qg, Qf]) hb); have n1_ := Qz.mk (Qq (by apply_rules [HB.out, Qc, Qa, Qb, Qd, GE56.out]) hb); have n2_ := Qz.mk (hbox); have n3_ := Qz.mk ((by rw [hg]; exact (Qp (by apply_rules [HB.out, Qc, Qa, Qb, Qd, GE56.out])) : w.heap.size ≤ gb57)); have n4_ := n3_; have n5_ := Qz.mk ((by rw [hg]; exact Nat.ne_of_lt (Ql (g := gb56) (o := .cells #[.int .i64 a0_0, .int .i64 a0_1, .int .i64 a0_2, .bool a0_3, .int .i64 a0_4, .bool a0_5, .int .i64 a0_6, .int .i64 a0_7] 48 (0, 0)) (by apply_rules [BK56.out, Qe, Qg, Qf])) : gb56 ≠ gb57)); have n6_ := Qz.mk ((by rw [hg]; exact Nat.ne_of_gt (Ql (g := gb56) (o := .cells #[.int .i64 a0_0, .int .i64 a0_1, .int .i64 a0_2, .bool a0_3, .int .i64 a0_4, .bool a0_5, .int .i64 a0_6, .int .i64 a0_7] 48 (0, 0)) (by apply_rules [BK56.out, Qe, Qg, Qf])) : gb57 ≠ gb56)); clear BK56; clear HB; have BK56 := n0_; have HB := n1_; have BK57 := n2_; have GW57 := n3_; have GE57 := n4_; have NB435_436 := n5_; have NB436_435 := n6_; clear n0_ n1_ n2_ n3_ n4_ n5_ n6_; clear hb hbox hg; have hnb43 := NB435_436.out; have hnc43 := NB436_435.out; obtain ⟨z44_0, z44_1, z44_2, z44_3, z44_4, z44_5, z44_6, z44_7, j44_0, j44_1, j44_2, j44_3, j44_4, j44_5, j44_6, j44_7⟩ := Lv.blks8 BK56.out; obtain ⟨z45_0, z45_1, z45_2, z45_3, z45_4, z45_5, z45_6, z45_7, j45_0, j45_1, j45_2, j45_3, j45_4, j45_5, j45_6, j45_7⟩ := Lv.blks8 BK57.out))
   go_ret
   exact ⟨by first | rfl | (simp [Qv, Qu] <;> rfl) | (simp [*, Qv, Qu] <;> rfl), by apply_rules [HB.out, Qc, Qa, Qb, Qd, GE56.out, GE57.out]⟩
  rw [if_neg c4] at H
  have c4b0 : (a0_1 == a1_1) = false := beq_eq_false_iff_ne.mpr c4
  have c4b1 : (a0_1 != a1_1) = true := bne_iff_ne.mpr c4
  obtain rfl := Option.some.inj H
  go_enter Try.func60, Try.ntmps60
  go_wp2_with (first | ((with_reducible refine gate_dst (N := 2) rfl ?_); refine box_event ?hg (N := 2) ?hd (cs := #[.int .i64 a0_0, .int .i64 a0_1, .int .i64 a0_2, .bool a0_3, .int .i64 a0_4, .bool a0_5, .int .i64 a0_6, .int .i64 a0_7]) (t := 48) ?hr ?_; (case hd => rfl); (case hg => rfl); (case hr => first | (go_simp; done) | (go_simp; rfl)); intro gb56 hg w46 hbox hb; have n0_ := Qz.mk (Qq (by apply_rules [HB.out, Qc, Qa, Qb]) hb); have n1_ := Qz.mk (hbox); have n2_ := Qz.mk ((by rw [hg]; exact (Qp (by apply_rules [HB.out, Qc, Qa, Qb])) : w.heap.size ≤ gb56)); have n3_ := n2_; clear HB; have HB := n0_; have BK56 := n1_; have GW56 := n2_; have GE56 := n3_; clear n0_ n1_ n2_ n3_; clear hb hbox hg) | ((with_reducible refine gate_dst (N := 3) rfl ?_); refine box_event ?hg (N := 3) ?hd (cs := #[.int .i64 a1_0, .int .i64 a1_1, .int .i64 a1_2, .bool a1_3, .int .i64 a1_4, .bool a1_5, .int .i64 a1_6, .int .i64 a1_7]) (t := 48) ?hr ?_; (case hd => rfl); (case hg => rfl); (case hr => first | (go_simp; done) | (go_simp; rfl)); intro gb57 hg w47 hbox hb; have n0_ := Qz.mk (Qi (g := gb56) (o := .cells #[.int .i64 a0_0, .int .i64 a0_1, .int .i64 a0_2, .bool a0_3, .int .i64 a0_4, .bool a0_5, .int .i64 a0_6, .int .i64 a0_7] 48 (0, 0)) (by apply_rules [BK56.out, Qe, Qg, Qf]) hb); have n1_ := Qz.mk (Qq (by apply_rules [HB.out, Qc, Qa, Qb, Qd, GE56.out]) hb); have n2_ := Qz.mk (hbox); have n3_ := Qz.mk ((by rw [hg]; exact (Qp (by apply_rules [HB.out, Qc, Qa, Qb, Qd, GE56.out])) : w.heap.size ≤ gb57)); have n4_ := n3_; have n5_ := Qz.mk ((by rw [hg]; exact Nat.ne_of_lt (Ql (g := gb56) (o := .cells #[.int .i64 a0_0, .int .i64 a0_1, .int .i64 a0_2, .bool a0_3, .int .i64 a0_4, .bool a0_5, .int .i64 a0_6, .int .i64 a0_7] 48 (0, 0)) (by apply_rules [BK56.out, Qe, Qg, Qf])) : gb56 ≠ gb57)); have n6_ := Qz.mk ((by rw [hg]; exact Nat.ne_of_gt (Ql (g := gb56) (o := .cells #[.int .i64 a0_0, .int .i64 a0_1, .int .i64 a0_2, .bool a0_3, .int .i64 a0_4, .bool a0_5, .int .i64 a0_6, .int .i64 a0_7] 48 (0, 0)) (by apply_rules [BK56.out, Qe, Qg, Qf])) : gb57 ≠ gb56)); clear BK56; clear HB; have BK56 := n0_; have HB := n1_; have BK57 := n2_; have GW57 := n3_; have GE57 := n4_; have NB435_436 := n5_; have NB436_435 := n6_; clear n0_ n1_ n2_ n3_ n4_ n5_ n6_; clear hb hbox hg; have hnb48 := NB435_436.out; have hnc48 := NB436_435.out; obtain ⟨z49_0, z49_1, z49_2, z49_3, z49_4, z49_5, z49_6, z49_7, j49_0, j49_1, j49_2, j49_3, j49_4, j49_5, j49_6, j49_7⟩ := Lv.blks8 BK56.out; obtain ⟨z50_0, z50_1, z50_2, z50_3, z50_4, z50_5, z50_6, z50_7, j50_0, j50_1, j50_2, j50_3, j50_4, j50_5, j50_6, j50_7⟩ := Lv.blks8 BK57.out))
  go_ret
  exact ⟨by first | rfl | (simp [Qv, Qu] <;> rfl) | (simp [*, Qv, Qu] <;> rfl), by apply_rules [HB.out, Qc, Qa, Qb, Qd, GE56.out, GE57.out]⟩
 rw [if_neg c3] at H
 have c3b0 : (a0_0 == a1_0) = false := beq_eq_false_iff_ne.mpr c3
 have c3b1 : (a0_0 != a1_0) = true := bne_iff_ne.mpr c3
 obtain rfl := Option.some.inj H
 go_enter Try.func60, Try.ntmps60
 go_wp2_with (first | ((with_reducible refine gate_dst (N := 2) rfl ?_); refine box_event ?hg (N := 2) ?hd (cs := #[.int .i64 a0_0, .int .i64 a0_1, .int .i64 a0_2, .bool a0_3, .int .i64 a0_4, .bool a0_5, .int .i64 a0_6, .int .i64 a0_7]) (t := 48) ?hr ?_; (case hd => rfl); (case hg => rfl); (case hr => first | (go_simp; done) | (go_simp; rfl)); intro gb56 hg w51 hbox hb; have n0_ := Qz.mk (Qq (by apply_rules [HB.out, Qc, Qa, Qb]) hb); have n1_ := Qz.mk (hbox); have n2_ := Qz.mk ((by rw [hg]; exact (Qp (by apply_rules [HB.out, Qc, Qa, Qb])) : w.heap.size ≤ gb56)); have n3_ := n2_; clear HB; have HB := n0_; have BK56 := n1_; have GW56 := n2_; have GE56 := n3_; clear n0_ n1_ n2_ n3_; clear hb hbox hg) | ((with_reducible refine gate_dst (N := 3) rfl ?_); refine box_event ?hg (N := 3) ?hd (cs := #[.int .i64 a1_0, .int .i64 a1_1, .int .i64 a1_2, .bool a1_3, .int .i64 a1_4, .bool a1_5, .int .i64 a1_6, .int .i64 a1_7]) (t := 48) ?hr ?_; (case hd => rfl); (case hg => rfl); (case hr => first | (go_simp; done) | (go_simp; rfl)); intro gb57 hg w52 hbox hb; have n0_ := Qz.mk (Qi (g := gb56) (o := .cells #[.int .i64 a0_0, .int .i64 a0_1, .int .i64 a0_2, .bool a0_3, .int .i64 a0_4, .bool a0_5, .int .i64 a0_6, .int .i64 a0_7] 48 (0, 0)) (by apply_rules [BK56.out, Qe, Qg, Qf]) hb); have n1_ := Qz.mk (Qq (by apply_rules [HB.out, Qc, Qa, Qb, Qd, GE56.out]) hb); have n2_ := Qz.mk (hbox); have n3_ := Qz.mk ((by rw [hg]; exact (Qp (by apply_rules [HB.out, Qc, Qa, Qb, Qd, GE56.out])) : w.heap.size ≤ gb57)); have n4_ := n3_; have n5_ := Qz.mk ((by rw [hg]; exact Nat.ne_of_lt (Ql (g := gb56) (o := .cells #[.int .i64 a0_0, .int .i64 a0_1, .int .i64 a0_2, .bool a0_3, .int .i64 a0_4, .bool a0_5, .int .i64 a0_6, .int .i64 a0_7] 48 (0, 0)) (by apply_rules [BK56.out, Qe, Qg, Qf])) : gb56 ≠ gb57)); have n6_ := Qz.mk ((by rw [hg]; exact Nat.ne_of_gt (Ql (g := gb56) (o := .cells #[.int .i64 a0_0, .int .i64 a0_1, .int .i64 a0_2, .bool a0_3, .int .i64 a0_4, .bool a0_5, .int .i64 a0_6, .int .i64 a0_7] 48 (0, 0)) (by apply_rules [BK56.out, Qe, Qg, Qf])) : gb57 ≠ gb56)); clear BK56; clear HB; have BK56 := n0_; have HB := n1_; have BK57 := n2_; have GW57 := n3_; have GE57 := n4_; have NB435_436 := n5_; have NB436_435 := n6_; clear n0_ n1_ n2_ n3_ n4_ n5_ n6_; clear hb hbox hg; have hnb53 := NB435_436.out; have hnc53 := NB436_435.out; obtain ⟨z54_0, z54_1, z54_2, z54_3, z54_4, z54_5, z54_6, z54_7, j54_0, j54_1, j54_2, j54_3, j54_4, j54_5, j54_6, j54_7⟩ := Lv.blks8 BK56.out; obtain ⟨z55_0, z55_1, z55_2, z55_3, z55_4, z55_5, z55_6, z55_7, j55_0, j55_1, j55_2, j55_3, j55_4, j55_5, j55_6, j55_7⟩ := Lv.blks8 BK57.out))
 go_ret
 exact ⟨by first | rfl | (simp [Qv, Qu] <;> rfl) | (simp [*, Qv, Qu] <;> rfl), by apply_rules [HB.out, Qc, Qa, Qb, Qd, GE56.out, GE57.out]⟩
def ZleqRecS.T6 : Bool × List (List Nat × List Nat) := (true, [([], []), ([], []), ([0, 1], [0, 1]), ([2], [2]), ([], []), ([], []), ([4, 5], [4, 5]), ([6], [6]), ([3, 7], [3, 7]), ([8], [8])])
def ZleqRecS.B6 : List Nat := [0, 0, 3, 7, 0, 0, 48, 112, 255, 511]
theorem ZleqRecS.tab6 : rtab .any (opsOf Try.f21 6) = ZleqRecS.T6 := by kernel_rfl
theorem ZleqRecS.bits6 : waitsOk ZleqRecS.T6.2 ZleqRecS.B6 = true := by kernel_rfl
set_option maxHeartbeats 8000000 in
set_option maxRecDepth 100000 in
theorem ZleqRecS.calls (k : Nat) (A0 : Option Addr) (c0 : Nat) (l0 : List (S48)) (A1 : Option Addr) (c1 : Nat) (l1 : List (S48)) (r : Bool) (w : World) (hr0 : Kd.C k48 w A0 l0.length l0) (hc0 : l0.length ≤ c0) (hr1 : Kd.C k48 w A1 l1.length l1) (hc1 : l1.length ≤ c1) (h : ZleqRecS.f k l0 l1 = some r) :
 Calls Try.prog 21 #[.slice A0 l0.length c0, .slice A1 l1.length c1] w fun e w' => e = .returned (.bool r) ∧ Below w.heap.size w w' := by
 have hu48 := Try.underlying48
 have HR0 := Qz.mk hr0
 have HC0 := Qz.mk hc0
 clear hr0 hc0
 have HR1 := Qz.mk hr1
 have HC1 := Qz.mk hc1
 clear hr1 hc1
 have HB := Qz.mk (Below.refl w.heap.size w)
 have H : (if (l0.length : Int) = (l1.length : Int) then (ZleqRecS.l0 k l0 l1 0) else (some false)) = some r := h
 clear h
 by_cases c3 : (l0.length : Int) = (l1.length : Int)
 ·rw [if_pos c3] at H
  have c3b0 : ((l0.length : Int) == (l1.length : Int)) = true := beq_iff_eq.mpr c3
  have c3b1 : ((l0.length : Int) != (l1.length : Int)) = false := bne_eq_false_iff_eq.mpr c3
  have c3b2 : (l0.length == l1.length) = true := by first | simpa using c3 | (simp at c3 ⊢; omega)
  clear c3
  have H' := Qz.mk H
  clear H
  go_enter Try.func21, Try.ntmps21
  go_wp2
  go_loopg [5] k (fun kq v5 w' => ∃ (x5_1 : Int), v5 = .int .i64 x5_1 ∧ Qz (ZleqRecS.l0 kq l0 l1 x5_1 = some r) ∧ Qz (kq ≤ k) ∧ Qz (Below w.heap.size w w'))
  case atStart => exact ⟨(0), (by first | rfl | (simp; done) | (simp [*]; done)), H', ⟨Nat.le_refl _⟩, ⟨by apply_rules [HB.out, Qc, Qa, Qb]⟩⟩
  case round =>
   clear H'
   try clear c1
   try clear c2
   try clear p2
   try clear c3
   try clear c3b0
   try clear c3b1
   try clear c3b2
   obtain ⟨x5_1, rfl, HA, HK1, HB⟩ := hrel
   cases gk with
   | zero => exact absurd HA.out (by simp [ZleqRecS.l0])
   | succ k1 =>
    have H := HA.out
    clear HA
    simp only [ZleqRecS.l0] at H
    by_cases c4 : x5_1 < (l0.length : Int)
    ·rw [if_pos c4] at H
     have c4b0 : decide (x5_1 < (l0.length : Int)) = true := decide_eq_true c4
     clear c4
     by_cases c5 : 0 ≤ x5_1
     ·rw [if_pos c5] at H
      have c5b0 : decide (0 ≤ x5_1) = true := decide_eq_true c5
      clear c5
      by_cases c6 : x5_1 < (l1.length : Int)
      ·rw [if_pos c6] at H
       have c6b0 : decide (x5_1 < (l1.length : Int)) = true := decide_eq_true c6
       clear c6
       replace H := Qj9 H
       obtain ⟨t28, A70, H⟩ := H
       replace H : (if t28 = true then (ZleqRecS.l0 k1 l0 l1 (wrap64 (x5_1 + 1))) else (some false)) = some r := H
       have A7 := Qz.mk A70
       clear A70
       by_cases c8 : t28 = true
       ·subst c8
        have H1 : (ZleqRecS.l0 k1 l0 l1 (wrap64 (x5_1 + 1))) = some r := by rw [if_pos rfl] at H; exact H
        clear H
        have H := H1
        clear H1
        have H' := Qz.mk H
        clear H
        try go_wp2
        have n0_ := Qz.mk (Qb HB.out)
        clear HB
        have HB := n0_
        clear n0_
        have p437 : 0 ≤ (x5_1 : Int) := of_decide_eq_true (by first | (with_reducible assumption) | assumption)
        have q16 : x5_1 < (l0.length : Int) := of_decide_eq_true (by first | (with_reducible assumption) | assumption)
        obtain ⟨ad16, e437, hx16_0, hx16_1, hx16_2, hx16_3, hx16_4, hx16_5, hx16_6, hx16_7⟩ := at_T48 HR0.out x5_1 p437 q16
        have hw16_7 := hx16_7
        have hw16_6 := hx16_6
        have hw16_5 := hx16_5
        have hw16_4 := hx16_4
        have hw16_3 := hx16_3
        have hw16_2 := hx16_2
        have hw16_1 := hx16_1
        have hw16_0 := hx16_0
        cases e437
        replace hx16_0 := (HB.out.cell (World.block_lt_of_cell? w _ hx16_0)).trans hx16_0
        replace hx16_1 := (HB.out.cell (World.block_lt_of_cell? w _ hx16_1)).trans hx16_1
        replace hx16_2 := (HB.out.cell (World.block_lt_of_cell? w _ hx16_2)).trans hx16_2
        replace hx16_3 := (HB.out.cell (World.block_lt_of_cell? w _ hx16_3)).trans hx16_3
        replace hx16_4 := (HB.out.cell (World.block_lt_of_cell? w _ hx16_4)).trans hx16_4
        replace hx16_5 := (HB.out.cell (World.block_lt_of_cell? w _ hx16_5)).trans hx16_5
        replace hx16_6 := (HB.out.cell (World.block_lt_of_cell? w _ hx16_6)).trans hx16_6
        replace hx16_7 := (HB.out.cell (World.block_lt_of_cell? w _ hx16_7)).trans hx16_7
        replace p437 := eq_true p437
        replace q16 := eq_true q16
        have p438 : 0 ≤ (x5_1 : Int) := of_decide_eq_true (by first | (with_reducible assumption) | assumption)
        have q27 : x5_1 < (l1.length : Int) := of_decide_eq_true (by first | (with_reducible assumption) | assumption)
        obtain ⟨ad27, e438, hx27_0, hx27_1, hx27_2, hx27_3, hx27_4, hx27_5, hx27_6, hx27_7⟩ := at_T48 HR1.out x5_1 p438 q27
        have hw27_7 := hx27_7
        have hw27_6 := hx27_6
        have hw27_5 := hx27_5
        have hw27_4 := hx27_4
        have hw27_3 := hx27_3
        have hw27_2 := hx27_2
        have hw27_1 := hx27_1
        have hw27_0 := hx27_0
        cases e438
        replace hx27_0 := (HB.out.cell (World.block_lt_of_cell? w _ hx27_0)).trans hx27_0
        replace hx27_1 := (HB.out.cell (World.block_lt_of_cell? w _ hx27_1)).trans hx27_1
        replace hx27_2 := (HB.out.cell (World.block_lt_of_cell? w _ hx27_2)).trans hx27_2
        replace hx27_3 := (HB.out.cell (World.block_lt_of_cell? w _ hx27_3)).trans hx27_3
        replace hx27_4 := (HB.out.cell (World.block_lt_of_cell? w _ hx27_4)).trans hx27_4
        replace hx27_5 := (HB.out.cell (World.block_lt_of_cell? w _ hx27_5)).trans hx27_5
        replace hx27_6 := (HB.out.cell (World.block_lt_of_cell? w _ hx27_6)).trans hx27_6
        replace hx27_7 := (HB.out.cell (World.block_lt_of_cell? w _ hx27_7)).trans hx27_7
        replace p438 := eq_true p438
        replace q27 := eq_true q27
        refine start_ (n := 10) (S := fun w' => w'.cell? (ad16.add ((x5_1).toNat * 8)) = some (.int .i64 ((rd_T48 l0 x5_1).f0)) ∧ w'.cell? ⟨(ad16.add ((x5_1).toNat * 8)).block, (ad16.add ((x5_1).toNat * 8)).off + 1, none⟩ = some (.int .i64 ((rd_T48 l0 x5_1).f1)) ∧ w'.cell? ⟨(ad16.add ((x5_1).toNat * 8)).block, (ad16.add ((x5_1).toNat * 8)).off + 2, none⟩ = some (.int .i64 ((rd_T48 l0 x5_1).f2)) ∧ w'.cell? ⟨(ad16.add ((x5_1).toNat * 8)).block, (ad16.add ((x5_1).toNat * 8)).off + 3, none⟩ = some (.bool ((rd_T48 l0 x5_1).f3)) ∧ w'.cell? ⟨(ad16.add ((x5_1).toNat * 8)).block, (ad16.add ((x5_1).toNat * 8)).off + 4, none⟩ = some (.int .i64 ((rd_T48 l0 x5_1).f4)) ∧ w'.cell? ⟨(ad16.add ((x5_1).toNat * 8)).block, (ad16.add ((x5_1).toNat * 8)).off + 5, none⟩ = some (.bool ((rd_T48 l0 x5_1).f5)) ∧ w'.cell? ⟨(ad16.add ((x5_1).toNat * 8)).block, (ad16.add ((x5_1).toNat * 8)).off + 6, none⟩ = some (.int .i64 ((rd_T48 l0 x5_1).f6)) ∧ w'.cell? ⟨(ad16.add ((x5_1).toNat * 8)).block, (ad16.add ((x5_1).toNat * 8)).off + 7, none⟩ = some (.int .i64 ((rd_T48 l0 x5_1).f7)) ∧ w'.cell? (ad27.add ((x5_1).toNat * 8)) = some (.int .i64 ((rd_T48 l1 x5_1).f0)) ∧ w'.cell? ⟨(ad27.add ((x5_1).toNat * 8)).block, (ad27.add ((x5_1).toNat * 8)).off + 1, none⟩ = some (.int .i64 ((rd_T48 l1 x5_1).f1)) ∧ w'.cell? ⟨(ad27.add ((x5_1).toNat * 8)).block, (ad27.add ((x5_1).toNat * 8)).off + 2, none⟩ = some (.int .i64 ((rd_T48 l1 x5_1).f2)) ∧ w'.cell? ⟨(ad27.add ((x5_1).toNat * 8)).block, (ad27.add ((x5_1).toNat * 8)).off + 3, none⟩ = some (.bool ((rd_T48 l1 x5_1).f3)) ∧ w'.cell? ⟨(ad27.add ((x5_1).toNat * 8)).block, (ad27.add ((x5_1).toNat * 8)).off + 4, none⟩ = some (.int .i64 ((rd_T48 l1 x5_1).f4)) ∧ w'.cell? ⟨(ad27.add ((x5_1).toNat * 8)).block, (ad27.add ((x5_1).toNat * 8)).off + 5, none⟩ = some (.bool ((rd_T48 l1 x5_1).f5)) ∧ w'.cell? ⟨(ad27.add ((x5_1).toNat * 8)).block, (ad27.add ((x5_1).toNat * 8)).off + 6, none⟩ = some (.int .i64 ((rd_T48 l1 x5_1).f6)) ∧ w'.cell? ⟨(ad27.add ((x5_1).toNat * 8)).block, (ad27.add ((x5_1).toNat * 8)).off + 7, none⟩ = some (.int .i64 ((rd_T48 l1 x5_1).f7))) (ds := []) #[Z, Z, Z, Z, Z, Z, Z, Z, Z, Z] (by kernel_rfl) rfl rfl ⟨((HB.out.cell (World.block_lt_of_cell? w _ hw16_0)).trans hw16_0), ((HB.out.cell (World.block_lt_of_cell? w _ hw16_1)).trans hw16_1), ((HB.out.cell (World.block_lt_of_cell? w _ hw16_2)).trans hw16_2), ((HB.out.cell (World.block_lt_of_cell? w _ hw16_3)).trans hw16_3), ((HB.out.cell (World.block_lt_of_cell? w _ hw16_4)).trans hw16_4), ((HB.out.cell (World.block_lt_of_cell? w _ hw16_5)).trans hw16_5), ((HB.out.cell (World.block_lt_of_cell? w _ hw16_6)).trans hw16_6), ((HB.out.cell (World.block_lt_of_cell? w _ hw16_7)).trans hw16_7), ((HB.out.cell (World.block_lt_of_cell? w _ hw27_0)).trans hw27_0), ((HB.out.cell (World.block_lt_of_cell? w _ hw27_1)).trans hw27_1), ((HB.out.cell (World.block_lt_of_cell? w _ hw27_2)).trans hw27_2), ((HB.out.cell (World.block_lt_of_cell? w _ hw27_3)).trans hw27_3), ((HB.out.cell (World.block_lt_of_cell? w _ hw27_4)).trans hw27_4), ((HB.out.cell (World.block_lt_of_cell? w _ hw27_5)).trans hw27_5), ((HB.out.cell (World.block_lt_of_cell? w _ hw27_6)).trans hw27_6), ((HB.out.cell (World.block_lt_of_cell? w _ hw27_7)).trans hw27_7)⟩ (fun hHeld => ?_); refine with_tabW ZleqRecS.tab6 ZleqRecS.bits6 (fun HT_ HW_ => ?_)
        generalize wr.drew = w9 at HB hx16_0 hx16_1 hx16_2 hx16_3 hx16_4 hx16_5 hx16_6 hx16_7 hx27_0 hx27_1 hx27_2 hx27_3 hx27_4 hx27_5 hx27_6 hx27_7 hHeld ⊢
        refine pure_ (i := 0) (N := some 17) (v := ?_) (a' := ?_) #[Y, Z, Z, Z, Z, Z, Z, Z, Z, Z] rfl rfl (any_of HT_.out (by kernel_rfl)) (fun _ _ _ h => h) (Or.inl ⟨by rfl, ?_⟩) ?_ ?_
        rotate_left
        ·intro w'
         go_simp
         with_reducible rfl
        rotate_left
        ·simp only [Act.put, Qj1, Qj2, Qj3, Qar, Qas]
         rfl
        refine pure_ (i := 1) (N := some 18) (v := ?_) (a' := ?_) #[Y, Y, Z, Z, Z, Z, Z, Z, Z, Z] rfl rfl (any_of HT_.out (by kernel_rfl)) (fun _ _ _ h => h) (Or.inl ⟨by rfl, ?_⟩) ?_ ?_
        rotate_left
        ·intro w'
         go_simp
         with_reducible rfl
        rotate_left
        ·simp only [Act.put, Qj1, Qj2, Qj3, Qar, Qas]
         rfl
        refine pure_ (i := 2) (N := some 19) (v := ?_) (a' := ?_) #[Y, Y, Y, Z, Z, Z, Z, Z, Z, Z] rfl rfl (any_of HT_.out (by kernel_rfl)) (fun _ _ _ h => h) (Or.inl ⟨by rfl, ?_⟩) ?_ ?_
        rotate_left
        ·intro w'
         go_simp
         with_reducible rfl
        rotate_left
        ·simp only [Act.put, Qj1, Qj2, Qj3, Qar, Qas]
         rfl
        refine pure_ (i := 4) (N := some 21) (v := ?_) (a' := ?_) #[Y, Y, Y, Z, Y, Z, Z, Z, Z, Z] rfl rfl (any_of HT_.out (by kernel_rfl)) (fun _ _ _ h => h) (Or.inl ⟨by rfl, ?_⟩) ?_ ?_
        rotate_left
        ·intro w'
         go_simp
         with_reducible rfl
        rotate_left
        ·simp only [Act.put, Qj1, Qj2, Qj3, Qar, Qas]
         rfl
        refine pure_ (i := 5) (N := some 22) (v := ?_) (a' := ?_) #[Y, Y, Y, Z, Y, Y, Z, Z, Z, Z] rfl rfl (any_of HT_.out (by kernel_rfl)) (fun _ _ _ h => h) (Or.inl ⟨by rfl, ?_⟩) ?_ ?_
        rotate_left
        ·intro w'
         go_simp
         with_reducible rfl
        rotate_left
        ·simp only [Act.put, Qj1, Qj2, Qj3, Qar, Qas]
         rfl
        refine pure_ (i := 6) (N := some 23) (v := ?_) (a' := ?_) #[Y, Y, Y, Z, Y, Y, Y, Z, Z, Z] rfl rfl (any_of HT_.out (by kernel_rfl)) (fun _ _ _ h => h) (Or.inl ⟨by rfl, ?_⟩) ?_ ?_
        rotate_left
        ·intro w'
         go_simp
         with_reducible rfl
        rotate_left
        ·simp only [Act.put, Qj1, Qj2, Qj3, Qar, Qas]
         rfl
        refine take_ (i := 3) (N := some 20) (v := ?_) (a' := ?_) #[Y, Y, Y, Y, Y, Y, Y, Z, Z, Z] rfl rfl (take_ofW HT_.out HW_.out (by kernel_rfl)) (fun _ _ _ h => h) (Or.inl ⟨by rfl, ?_⟩) hHeld ?_ ?_
        rotate_left
        ·rintro w' ⟨s0, s1, s2, s3, s4, s5, s6, s7, s8, s9, s10, s11, s12, s13, s14, s15⟩
         go_simp
         with_reducible rfl
        rotate_left
        ·simp only [Act.put, Qj1, Qj2, Qj3, Qar, Qas]
         rfl
        refine take_ (i := 7) (N := some 24) (v := ?_) (a' := ?_) #[Y, Y, Y, Y, Y, Y, Y, Y, Z, Z] rfl rfl (take_ofW HT_.out HW_.out (by kernel_rfl)) (fun _ _ _ h => h) (Or.inl ⟨by rfl, ?_⟩) hHeld ?_ ?_
        rotate_left
        ·rintro w' ⟨s0, s1, s2, s3, s4, s5, s6, s7, s8, s9, s10, s11, s12, s13, s14, s15⟩
         go_simp
         with_reducible rfl
        rotate_left
        ·simp only [Act.put, Qj1, Qj2, Qj3, Qar, Qas]
         rfl
        refine one_ (i := 8) (N := some 25) #[Y, Y, Y, Y, Y, Y, Y, Y, Y, Z] rfl rfl (one_of HT_.out (by kernel_rfl)) (by decide) (fun K hK => ?_)
        refine goes_ Try.func60 (by kernel_rfl) rfl #[.agg #[.int .i64 ((rd_T48 l0 x5_1).f0), .int .i64 ((rd_T48 l0 x5_1).f1), .int .i64 ((rd_T48 l0 x5_1).f2), .bool ((rd_T48 l0 x5_1).f3), .int .i64 ((rd_T48 l0 x5_1).f4), .bool ((rd_T48 l0 x5_1).f5), .int .i64 ((rd_T48 l0 x5_1).f6), .int .i64 ((rd_T48 l0 x5_1).f7)], .agg #[.int .i64 ((rd_T48 l1 x5_1).f0), .int .i64 ((rd_T48 l1 x5_1).f1), .int .i64 ((rd_T48 l1 x5_1).f2), .bool ((rd_T48 l1 x5_1).f3), .int .i64 ((rd_T48 l1 x5_1).f4), .bool ((rd_T48 l1 x5_1).f5), .int .i64 ((rd_T48 l1 x5_1).f6), .int .i64 ((rd_T48 l1 x5_1).f7)]] (by rfl) rfl rfl (by (try simp only [Qj4, Qj5, Qj6]); first | done | rfl | (simp only [Qj7, Qj8]; rfl)) ?_
        with_reducible refine (ZleqRec.calls ((rd_T48 l0 x5_1).f0) ((rd_T48 l0 x5_1).f1) ((rd_T48 l0 x5_1).f2) ((rd_T48 l0 x5_1).f3) ((rd_T48 l0 x5_1).f4) ((rd_T48 l0 x5_1).f5) ((rd_T48 l0 x5_1).f6) ((rd_T48 l0 x5_1).f7) ((rd_T48 l1 x5_1).f0) ((rd_T48 l1 x5_1).f1) ((rd_T48 l1 x5_1).f2) ((rd_T48 l1 x5_1).f3) ((rd_T48 l1 x5_1).f4) ((rd_T48 l1 x5_1).f5) ((rd_T48 l1 x5_1).f6) ((rd_T48 l1 x5_1).f7) true _ A7.out).mono ?_
        rintro e w10 ⟨rfl, hb⟩
        refine ⟨_, rfl, ?_⟩
        have n0_ := Qz.mk (Qq (by apply_rules [HB.out, Qc, Qa, Qb]) hb)
        clear HB
        have HB := n0_
        clear n0_
        (try clear hb)
        (try clear hb2)
        (try clear hk)
        (try clear hi)
        refine hK.out _ _ ⟨((HB.out.cell (World.block_lt_of_cell? w _ hw16_0)).trans hw16_0), ((HB.out.cell (World.block_lt_of_cell? w _ hw16_1)).trans hw16_1), ((HB.out.cell (World.block_lt_of_cell? w _ hw16_2)).trans hw16_2), ((HB.out.cell (World.block_lt_of_cell? w _ hw16_3)).trans hw16_3), ((HB.out.cell (World.block_lt_of_cell? w _ hw16_4)).trans hw16_4), ((HB.out.cell (World.block_lt_of_cell? w _ hw16_5)).trans hw16_5), ((HB.out.cell (World.block_lt_of_cell? w _ hw16_6)).trans hw16_6), ((HB.out.cell (World.block_lt_of_cell? w _ hw16_7)).trans hw16_7), ((HB.out.cell (World.block_lt_of_cell? w _ hw27_0)).trans hw27_0), ((HB.out.cell (World.block_lt_of_cell? w _ hw27_1)).trans hw27_1), ((HB.out.cell (World.block_lt_of_cell? w _ hw27_2)).trans hw27_2), ((HB.out.cell (World.block_lt_of_cell? w _ hw27_3)).trans hw27_3), ((HB.out.cell (World.block_lt_of_cell? w _ hw27_4)).trans hw27_4), ((HB.out.cell (World.block_lt_of_cell? w _ hw27_5)).trans hw27_5), ((HB.out.cell (World.block_lt_of_cell? w _ hw27_6)).trans hw27_6), ((HB.out.cell (World.block_lt_of_cell? w _ hw27_7)).trans hw27_7)⟩ (fun hHeld => ?_)
        clear hK K
        refine norm_ (a' := ?_) ?_ ?_
        rotate_left
        ·show Act.put _ (some 25) _ = _
         simp only [Act.put, Qj1, Qj2, Qj3, Qar, Qas]
         rfl
        refine pure_ (i := 9) (N := some 26) (v := ?_) (a' := ?_) #[Y, Y, Y, Y, Y, Y, Y, Y, Y, Y] rfl rfl (any_of HT_.out (by kernel_rfl)) (fun _ _ _ h => h) (Or.inl ⟨by rfl, ?_⟩) ?_ ?_
        rotate_left
        ·intro w'
         go_simp
         with_reducible rfl
        rotate_left
        ·simp only [Act.put, Qj1, Qj2, Qj3, Qar, Qas]
         rfl
        refine done_ (done_of HT_.out (by kernel_rfl)) ?_
        try go_wp2
        go_roundg k1
        case measure => have := HK1.out; omega
        case rel => exact ⟨(wrap64 (x5_1 + 1)), (by first | rfl | (simp; done) | (simp [*]; done)), H', ⟨by have := HK1.out; omega⟩, ⟨by apply_rules [HB.out, Qc, Qa, Qb]⟩⟩
       replace c8 := Bool.eq_false_iff.mpr c8
       subst c8
       have H1 : (some false) = some r := by rw [if_neg (show ¬ (false = true) by decide)] at H; exact H
       clear H
       have H := H1
       clear H1
       obtain rfl := Option.some.inj H
       try go_wp2
       have n0_ := Qz.mk (Qb HB.out)
       clear HB
       have HB := n0_
       clear n0_
       have p437 : 0 ≤ (x5_1 : Int) := of_decide_eq_true (by first | (with_reducible assumption) | assumption)
       have q16 : x5_1 < (l0.length : Int) := of_decide_eq_true (by first | (with_reducible assumption) | assumption)
       obtain ⟨ad16, e437, hx16_0, hx16_1, hx16_2, hx16_3, hx16_4, hx16_5, hx16_6, hx16_7⟩ := at_T48 HR0.out x5_1 p437 q16
       have hw16_7 := hx16_7
       have hw16_6 := hx16_6
       have hw16_5 := hx16_5
       have hw16_4 := hx16_4
       have hw16_3 := hx16_3
       have hw16_2 := hx16_2
       have hw16_1 := hx16_1
       have hw16_0 := hx16_0
       cases e437
       replace hx16_0 := (HB.out.cell (World.block_lt_of_cell? w _ hx16_0)).trans hx16_0
       replace hx16_1 := (HB.out.cell (World.block_lt_of_cell? w _ hx16_1)).trans hx16_1
       replace hx16_2 := (HB.out.cell (World.block_lt_of_cell? w _ hx16_2)).trans hx16_2
       replace hx16_3 := (HB.out.cell (World.block_lt_of_cell? w _ hx16_3)).trans hx16_3
       replace hx16_4 := (HB.out.cell (World.block_lt_of_cell? w _ hx16_4)).trans hx16_4
       replace hx16_5 := (HB.out.cell (World.block_lt_of_cell? w _ hx16_5)).trans hx16_5
       replace hx16_6 := (HB.out.cell (World.block_lt_of_cell? w _ hx16_6)).trans hx16_6
       replace hx16_7 := (HB.out.cell (World.block_lt_of_cell? w _ hx16_7)).trans hx16_7
       replace p437 := eq_true p437
       replace q16 := eq_true q16
       have p438 : 0 ≤ (x5_1 : Int) := of_decide_eq_true (by first | (with_reducible assumption) | assumption)
       have q27 : x5_1 < (l1.length : Int) := of_decide_eq_true (by first | (with_reducible assumption) | assumption)
       obtain ⟨ad27, e438, hx27_0, hx27_1, hx27_2, hx27_3, hx27_4, hx27_5, hx27_6, hx27_7⟩ := at_T48 HR1.out x5_1 p438 q27
       have hw27_7 := hx27_7
       have hw27_6 := hx27_6
       have hw27_5 := hx27_5
       have hw27_4 := hx27_4
       have hw27_3 := hx27_3
       have hw27_2 := hx27_2
       have hw27_1 := hx27_1
       have hw27_0 := hx27_0
       cases e438
       replace hx27_0 := (HB.out.cell (World.block_lt_of_cell? w _ hx27_0)).trans hx27_0
       replace hx27_1 := (HB.out.cell (World.block_lt_of_cell? w _ hx27_1)).trans hx27_1
       replace hx27_2 := (HB.out.cell (World.block_lt_of_cell? w _ hx27_2)).trans hx27_2
       replace hx27_3 := (HB.out.cell (World.block_lt_of_cell? w _ hx27_3)).trans hx27_3
       replace hx27_4 := (HB.out.cell (World.block_lt_of_cell? w _ hx27_4)).trans hx27_4
       replace hx27_5 := (HB.out.cell (World.block_lt_of_cell? w _ hx27_5)).trans hx27_5
       replace hx27_6 := (HB.out.cell (World.block_lt_of_cell? w _ hx27_6)).trans hx27_6
       replace hx27_7 := (HB.out.cell (World.block_lt_of_cell? w _ hx27_7)).trans hx27_7
       replace p438 := eq_true p438
       replace q27 := eq_true q27
       refine start_ (n := 10) (S := fun w' => w'.cell? (ad16.add ((x5_1).toNat * 8)) = some (.int .i64 ((rd_T48 l0 x5_1).f0)) ∧ w'.cell? ⟨(ad16.add ((x5_1).toNat * 8)).block, (ad16.add ((x5_1).toNat * 8)).off + 1, none⟩ = some (.int .i64 ((rd_T48 l0 x5_1).f1)) ∧ w'.cell? ⟨(ad16.add ((x5_1).toNat * 8)).block, (ad16.add ((x5_1).toNat * 8)).off + 2, none⟩ = some (.int .i64 ((rd_T48 l0 x5_1).f2)) ∧ w'.cell? ⟨(ad16.add ((x5_1).toNat * 8)).block, (ad16.add ((x5_1).toNat * 8)).off + 3, none⟩ = some (.bool ((rd_T48 l0 x5_1).f3)) ∧ w'.cell? ⟨(ad16.add ((x5_1).toNat * 8)).block, (ad16.add ((x5_1).toNat * 8)).off + 4, none⟩ = some (.int .i64 ((rd_T48 l0 x5_1).f4)) ∧ w'.cell? ⟨(ad16.add ((x5_1).toNat * 8)).block, (ad16.add ((x5_1).toNat * 8)).off + 5, none⟩ = some (.bool ((rd_T48 l0 x5_1).f5)) ∧ w'.cell? ⟨(ad16.add ((x5_1).toNat * 8)).block, (ad16.add ((x5_1).toNat * 8)).off + 6, none⟩ = some (.int .i64 ((rd_T48 l0 x5_1).f6)) ∧ w'.cell? ⟨(ad16.add ((x5_1).toNat * 8)).block, (ad16.add ((x5_1).toNat * 8)).off + 7, none⟩ = some (.int .i64 ((rd_T48 l0 x5_1).f7)) ∧ w'.cell? (ad27.add ((x5_1).toNat * 8)) = some (.int .i64 ((rd_T48 l1 x5_1).f0)) ∧ w'.cell? ⟨(ad27.add ((x5_1).toNat * 8)).block, (ad27.add ((x5_1).toNat * 8)).off + 1, none⟩ = some (.int .i64 ((rd_T48 l1 x5_1).f1)) ∧ w'.cell? ⟨(ad27.add ((x5_1).toNat * 8)).block, (ad27.add ((x5_1).toNat * 8)).off + 2, none⟩ = some (.int .i64 ((rd_T48 l1 x5_1).f2)) ∧ w'.cell? ⟨(ad27.add ((x5_1).toNat * 8)).block, (ad27.add ((x5_1).toNat * 8)).off + 3, none⟩ = some (.bool ((rd_T48 l1 x5_1).f3)) ∧ w'.cell? ⟨(ad27.add ((x5_1).toNat * 8)).block, (ad27.add ((x5_1).toNat * 8)).off + 4, none⟩ = some (.int .i64 ((rd_T48 l1 x5_1).f4)) ∧ w'.cell? ⟨(ad27.add ((x5_1).toNat * 8)).block, (ad27.add ((x5_1).toNat * 8)).off + 5, none⟩ = some (.bool ((rd_T48 l1 x5_1).f5)) ∧ w'.cell? ⟨(ad27.add ((x5_1).toNat * 8)).block, (ad27.add ((x5_1).toNat * 8)).off + 6, none⟩ = some (.int .i64 ((rd_T48 l1 x5_1).f6)) ∧ w'.cell? ⟨(ad27.add ((x5_1).toNat * 8)).block, (ad27.add ((x5_1).toNat * 8)).off + 7, none⟩ = some (.int .i64 ((rd_T48 l1 x5_1).f7))) (ds := []) #[Z, Z, Z, Z, Z, Z, Z, Z, Z, Z] (by kernel_rfl) rfl rfl ⟨((HB.out.cell (World.block_lt_of_cell? w _ hw16_0)).trans hw16_0), ((HB.out.cell (World.block_lt_of_cell? w _ hw16_1)).trans hw16_1), ((HB.out.cell (World.block_lt_of_cell? w _ hw16_2)).trans hw16_2), ((HB.out.cell (World.block_lt_of_cell? w _ hw16_3)).trans hw16_3), ((HB.out.cell (World.block_lt_of_cell? w _ hw16_4)).trans hw16_4), ((HB.out.cell (World.block_lt_of_cell? w _ hw16_5)).trans hw16_5), ((HB.out.cell (World.block_lt_of_cell? w _ hw16_6)).trans hw16_6), ((HB.out.cell (World.block_lt_of_cell? w _ hw16_7)).trans hw16_7), ((HB.out.cell (World.block_lt_of_cell? w _ hw27_0)).trans hw27_0), ((HB.out.cell (World.block_lt_of_cell? w _ hw27_1)).trans hw27_1), ((HB.out.cell (World.block_lt_of_cell? w _ hw27_2)).trans hw27_2), ((HB.out.cell (World.block_lt_of_cell? w _ hw27_3)).trans hw27_3), ((HB.out.cell (World.block_lt_of_cell? w _ hw27_4)).trans hw27_4), ((HB.out.cell (World.block_lt_of_cell? w _ hw27_5)).trans hw27_5), ((HB.out.cell (World.block_lt_of_cell? w _ hw27_6)).trans hw27_6), ((HB.out.cell (World.block_lt_of_cell? w _ hw27_7)).trans hw27_7)⟩ (fun hHeld => ?_); refine with_tabW ZleqRecS.tab6 ZleqRecS.bits6 (fun HT_ HW_ => ?_)
       generalize wr.drew = w11 at HB hx16_0 hx16_1 hx16_2 hx16_3 hx16_4 hx16_5 hx16_6 hx16_7 hx27_0 hx27_1 hx27_2 hx27_3 hx27_4 hx27_5 hx27_6 hx27_7 hHeld ⊢
       refine pure_ (i := 0) (N := some 17) (v := ?_) (a' := ?_) #[Y, Z, Z, Z, Z, Z, Z, Z, Z, Z] rfl rfl (any_of HT_.out (by kernel_rfl)) (fun _ _ _ h => h) (Or.inl ⟨by rfl, ?_⟩) ?_ ?_
       rotate_left
       ·intro w'
        go_simp
        with_reducible rfl
       rotate_left
       ·simp only [Act.put, Qj1, Qj2, Qj3, Qar, Qas]
        rfl
       refine pure_ (i := 1) (N := some 18) (v := ?_) (a' := ?_) #[Y, Y, Z, Z, Z, Z, Z, Z, Z, Z] rfl rfl (any_of HT_.out (by kernel_rfl)) (fun _ _ _ h => h) (Or.inl ⟨by rfl, ?_⟩) ?_ ?_
       rotate_left
       ·intro w'
        go_simp
        with_reducible rfl
       rotate_left
       ·simp only [Act.put, Qj1, Qj2, Qj3, Qar, Qas]
        rfl
       refine pure_ (i := 2) (N := some 19) (v := ?_) (a' := ?_) #[Y, Y, Y, Z, Z, Z, Z, Z, Z, Z] rfl rfl (any_of HT_.out (by kernel_rfl)) (fun _ _ _ h => h) (Or.inl ⟨by rfl, ?_⟩) ?_ ?_
       rotate_left
       ·intro w'
        go_simp
        with_reducible rfl
       rotate_left
       ·simp only [Act.put, Qj1, Qj2, Qj3, Qar, Qas]
        rfl
       refine pure_ (i := 4) (N := some 21) (v := ?_) (a' := ?_) #[Y, Y, Y, Z, Y, Z, Z, Z, Z, Z] rfl rfl (any_of HT_.out (by kernel_rfl)) (fun _ _ _ h => h) (Or.inl ⟨by rfl, ?_⟩) ?_ ?_
       rotate_left
       ·intro w'
        go_simp
        with_reducible rfl
       rotate_left
       ·simp only [Act.put, Qj1, Qj2, Qj3, Qar, Qas]
        rfl
       refine pure_ (i := 5) (N := some 22) (v := ?_) (a' := ?_) #[Y, Y, Y, Z, Y, Y, Z, Z, Z, Z] rfl rfl (any_of HT_.out (by kernel_rfl)) (fun _ _ _ h => h) (Or.inl ⟨by rfl, ?_⟩) ?_ ?_
       rotate_left
       ·intro w'
        go_simp
        with_reducible rfl
       rotate_left
       ·simp only [Act.put, Qj1, Qj2, Qj3, Qar, Qas]
        rfl
       refine pure_ (i := 6) (N := some 23) (v := ?_) (a' := ?_) #[Y, Y, Y, Z, Y, Y, Y, Z, Z, Z] rfl rfl (any_of HT_.out (by kernel_rfl)) (fun _ _ _ h => h) (Or.inl ⟨by rfl, ?_⟩) ?_ ?_
       rotate_left
       ·intro w'
        go_simp
        with_reducible rfl
       rotate_left
       ·simp only [Act.put, Qj1, Qj2, Qj3, Qar, Qas]
        rfl
       refine take_ (i := 3) (N := some 20) (v := ?_) (a' := ?_) #[Y, Y, Y, Y, Y, Y, Y, Z, Z, Z] rfl rfl (take_ofW HT_.out HW_.out (by kernel_rfl)) (fun _ _ _ h => h) (Or.inl ⟨by rfl, ?_⟩) hHeld ?_ ?_
       rotate_left
       ·rintro w' ⟨s0, s1, s2, s3, s4, s5, s6, s7, s8, s9, s10, s11, s12, s13, s14, s15⟩
        go_simp
        with_reducible rfl
       rotate_left
       ·simp only [Act.put, Qj1, Qj2, Qj3, Qar, Qas]
        rfl
       refine take_ (i := 7) (N := some 24) (v := ?_) (a' := ?_) #[Y, Y, Y, Y, Y, Y, Y, Y, Z, Z] rfl rfl (take_ofW HT_.out HW_.out (by kernel_rfl)) (fun _ _ _ h => h) (Or.inl ⟨by rfl, ?_⟩) hHeld ?_ ?_
       rotate_left
       ·rintro w' ⟨s0, s1, s2, s3, s4, s5, s6, s7, s8, s9, s10, s11, s12, s13, s14, s15⟩
        go_simp
        with_reducible rfl
       rotate_left
       ·simp only [Act.put, Qj1, Qj2, Qj3, Qar, Qas]
        rfl
       refine one_ (i := 8) (N := some 25) #[Y, Y, Y, Y, Y, Y, Y, Y, Y, Z] rfl rfl (one_of HT_.out (by kernel_rfl)) (by decide) (fun K hK => ?_)
       refine goes_ Try.func60 (by kernel_rfl) rfl #[.agg #[.int .i64 ((rd_T48 l0 x5_1).f0), .int .i64 ((rd_T48 l0 x5_1).f1), .int .i64 ((rd_T48 l0 x5_1).f2), .bool ((rd_T48 l0 x5_1).f3), .int .i64 ((rd_T48 l0 x5_1).f4), .bool ((rd_T48 l0 x5_1).f5), .int .i64 ((rd_T48 l0 x5_1).f6), .int .i64 ((rd_T48 l0 x5_1).f7)], .agg #[.int .i64 ((rd_T48 l1 x5_1).f0), .int .i64 ((rd_T48 l1 x5_1).f1), .int .i64 ((rd_T48 l1 x5_1).f2), .bool ((rd_T48 l1 x5_1).f3), .int .i64 ((rd_T48 l1 x5_1).f4), .bool ((rd_T48 l1 x5_1).f5), .int .i64 ((rd_T48 l1 x5_1).f6), .int .i64 ((rd_T48 l1 x5_1).f7)]] (by rfl) rfl rfl (by (try simp only [Qj4, Qj5, Qj6]); first | done | rfl | (simp only [Qj7, Qj8]; rfl)) ?_
       with_reducible refine (ZleqRec.calls ((rd_T48 l0 x5_1).f0) ((rd_T48 l0 x5_1).f1) ((rd_T48 l0 x5_1).f2) ((rd_T48 l0 x5_1).f3) ((rd_T48 l0 x5_1).f4) ((rd_T48 l0 x5_1).f5) ((rd_T48 l0 x5_1).f6) ((rd_T48 l0 x5_1).f7) ((rd_T48 l1 x5_1).f0) ((rd_T48 l1 x5_1).f1) ((rd_T48 l1 x5_1).f2) ((rd_T48 l1 x5_1).f3) ((rd_T48 l1 x5_1).f4) ((rd_T48 l1 x5_1).f5) ((rd_T48 l1 x5_1).f6) ((rd_T48 l1 x5_1).f7) false _ A7.out).mono ?_
       rintro e w12 ⟨rfl, hb⟩
       refine ⟨_, rfl, ?_⟩
       have n0_ := Qz.mk (Qq (by apply_rules [HB.out, Qc, Qa, Qb]) hb)
       clear HB
       have HB := n0_
       clear n0_
       (try clear hb)
       (try clear hb2)
       (try clear hk)
       (try clear hi)
       refine hK.out _ _ ⟨((HB.out.cell (World.block_lt_of_cell? w _ hw16_0)).trans hw16_0), ((HB.out.cell (World.block_lt_of_cell? w _ hw16_1)).trans hw16_1), ((HB.out.cell (World.block_lt_of_cell? w _ hw16_2)).trans hw16_2), ((HB.out.cell (World.block_lt_of_cell? w _ hw16_3)).trans hw16_3), ((HB.out.cell (World.block_lt_of_cell? w _ hw16_4)).trans hw16_4), ((HB.out.cell (World.block_lt_of_cell? w _ hw16_5)).trans hw16_5), ((HB.out.cell (World.block_lt_of_cell? w _ hw16_6)).trans hw16_6), ((HB.out.cell (World.block_lt_of_cell? w _ hw16_7)).trans hw16_7), ((HB.out.cell (World.block_lt_of_cell? w _ hw27_0)).trans hw27_0), ((HB.out.cell (World.block_lt_of_cell? w _ hw27_1)).trans hw27_1), ((HB.out.cell (World.block_lt_of_cell? w _ hw27_2)).trans hw27_2), ((HB.out.cell (World.block_lt_of_cell? w _ hw27_3)).trans hw27_3), ((HB.out.cell (World.block_lt_of_cell? w _ hw27_4)).trans hw27_4), ((HB.out.cell (World.block_lt_of_cell? w _ hw27_5)).trans hw27_5), ((HB.out.cell (World.block_lt_of_cell? w _ hw27_6)).trans hw27_6), ((HB.out.cell (World.block_lt_of_cell? w _ hw27_7)).trans hw27_7)⟩ (fun hHeld => ?_)
       clear hK K
       refine norm_ (a' := ?_) ?_ ?_
       rotate_left
       ·show Act.put _ (some 25) _ = _
        simp only [Act.put, Qj1, Qj2, Qj3, Qar, Qas]
        rfl
       refine pure_ (i := 9) (N := some 26) (v := ?_) (a' := ?_) #[Y, Y, Y, Y, Y, Y, Y, Y, Y, Y] rfl rfl (any_of HT_.out (by kernel_rfl)) (fun _ _ _ h => h) (Or.inl ⟨by rfl, ?_⟩) ?_ ?_
       rotate_left
       ·intro w'
        go_simp
        with_reducible rfl
       rotate_left
       ·simp only [Act.put, Qj1, Qj2, Qj3, Qar, Qas]
        rfl
       refine done_ (done_of HT_.out (by kernel_rfl)) ?_
       try go_wp2
       go_ret
       exact ⟨by first | rfl | (simp [Qv, Qu] <;> rfl) | (simp [*, Qv, Qu] <;> rfl), by apply_rules [HB.out, Qc, Qa, Qb]⟩
      rw [if_neg c6] at H
      exact absurd H (by simp)
     rw [if_neg c5] at H
     exact absurd H (by simp)
    rw [if_neg c4] at H
    have c4b0 : decide (x5_1 < (l0.length : Int)) = false := decide_eq_false c4
    clear c4
    obtain rfl := Option.some.inj H
    go_wp2
    go_ret
    exact ⟨by first | rfl | (simp [Qv, Qu] <;> rfl) | (simp [*, Qv, Qu] <;> rfl), by apply_rules [HB.out, Qc, Qa, Qb]⟩
 rw [if_neg c3] at H
 have c3b0 : ((l0.length : Int) == (l1.length : Int)) = false := beq_eq_false_iff_ne.mpr c3
 have c3b1 : ((l0.length : Int) != (l1.length : Int)) = true := bne_iff_ne.mpr c3
 have c3b2 : (l0.length == l1.length) = false := by first | simpa using c3 | (simp at c3 ⊢; omega)
 obtain rfl := Option.some.inj H
 go_enter Try.func21, Try.ntmps21
 go_wp2
 go_ret
 exact ⟨by first | rfl | (simp [Qv, Qu] <;> rfl) | (simp [*, Qv, Qu] <;> rfl), by apply_rules [HB.out, Qc, Qa, Qb]⟩
set_option maxHeartbeats 8000000 in
set_option maxRecDepth 100000 in
theorem ZlmarkRecS.calls (k : Nat) (P0_ : Nat → Prop) (u9000_ : Value) (l0 : List (S48)) (a1 : Int) (r1 : Int) (r2 : List (S48)) (w0 w : World) (hB : Below w0.heap.size w0 w) (ho0 : Kd.R k48 48 w w0.heap.size P0_ u9000_ l0) (h : ZlmarkRecS.f k l0 a1 = some (r1, r2)) :
 Calls Try.prog 22 #[u9000_, .int .i64 a1] w fun e w' => e = .returned (.int .i64 r1) ∧ Kd.R k48 48 w' w0.heap.size (fun k_ => (P0_ k_ ∨ w.heap.size ≤ k_)) u9000_ r2 ∧ Below w0.heap.size w0 w' ∧ Kept w w' (fun k_ => P0_ k_) := by
 have HO0 := Qz.mk (show Kd.R k48 48 w w0.heap.size (fun k_ => (P0_ k_ ∨ w.heap.size ≤ k_)) u9000_ l0 from Kd.Qw ho0 (fun k_ hk => (.inl hk)))
 have HK := Qz.mk (Kept.refl w (fun k_ => P0_ k_))
 have HW0 := Qz.mk hB.size
 have HB := Qz.mk hB
 clear hB
 have H : (ZlmarkRecS.l0 k l0 a1 0) = some (r1, r2) := h
 clear h
 have H' := Qz.mk H
 clear H
 go_enter Try.func22, Try.ntmps22
 go_wp2
 go_loopg [1, 5] k (fun kq v1 v5 w' => ∃ (x0_1 : List (S48)) (x1_1 : Int) (x5_1 : Int), v1 = .int .i64 x1_1 ∧ v5 = .int .i64 x5_1 ∧ Qz (ZlmarkRecS.l0 kq x0_1 x1_1 x5_1 = some (r1, r2)) ∧ Qz (kq ≤ k) ∧ Qz (Kd.R k48 48 w' w0.heap.size (fun k_ => (P0_ k_ ∨ w.heap.size ≤ k_)) u9000_ x0_1) ∧ Qz (Kept w w' (fun k_ => P0_ k_)) ∧ Qz (Below w0.heap.size w0 w'))
 case atStart => exact ⟨(l0), (a1), (0), (by first | rfl | (simp; done) | (simp [*]; done)), (by first | rfl | (simp; done) | (simp [*]; done)), H', ⟨Nat.le_refl _⟩, ⟨by (with_reducible repeat (first | apply Kd.Qn | apply Kd.Qm | apply Kd.Qo)); exact HO0.out⟩, ⟨by repeat (first | (with_reducible first | exact HK.out | apply Kept.alloc | apply Kept.drewN | apply Kept.drew) | exact HK.out)⟩, ⟨by apply_rules [HB.out, Qc, Qa, Qb]⟩⟩
 case round =>
  clear H'
  try clear c2
  try clear p2
  obtain ⟨x0_1, x1_1, x5_1, rfl, rfl, HA, HK1, HO_0, HK, HB⟩ := hrel
  cases gk with
  | zero => exact absurd HA.out (by simp [ZlmarkRecS.l0])
  | succ k1 =>
   have H := HA.out
   clear HA
   simp only [ZlmarkRecS.l0] at H
   by_cases c3 : x5_1 < (x0_1.length : Int)
   ·rw [if_pos c3] at H
    have c3b0 : decide (x5_1 < (x0_1.length : Int)) = true := decide_eq_true c3
    clear c3
    by_cases c4 : 0 ≤ x5_1
    ·rw [if_pos c4] at H
     have c4b0 : decide (0 ≤ x5_1) = true := decide_eq_true c4
     clear c4
     obtain ⟨y37, hy37⟩ : ∃ y_ : List (S48), y_ = (x0_1.set (x5_1 : Int).toNat (⟨x1_1, (rd_T48 x0_1 x5_1).f1, (rd_T48 x0_1 x5_1).f2, (rd_T48 x0_1 x5_1).f3, (rd_T48 x0_1 x5_1).f4, (rd_T48 x0_1 x5_1).f5, (rd_T48 x0_1 x5_1).f6, (rd_T48 x0_1 x5_1).f7⟩ : S48)) := ⟨_, rfl⟩
     replace H : ((some (y37.set (x5_1 : Int).toNat (⟨(rd_T48 y37 x5_1).f0, wrap64 (x1_1 + 1), (rd_T48 y37 x5_1).f2, (rd_T48 y37 x5_1).f3, (rd_T48 y37 x5_1).f4, (rd_T48 y37 x5_1).f5, (rd_T48 y37 x5_1).f6, (rd_T48 y37 x5_1).f7⟩ : S48) : List (S48))).bind fun y36 => ((some (y36.set (x5_1 : Int).toNat (⟨(rd_T48 y36 x5_1).f0, (rd_T48 y36 x5_1).f1, wrap64 ((wrap64 (x1_1 + 1)) + 1), (rd_T48 y36 x5_1).f3, (rd_T48 y36 x5_1).f4, (rd_T48 y36 x5_1).f5, (rd_T48 y36 x5_1).f6, (rd_T48 y36 x5_1).f7⟩ : S48) : List (S48))).bind fun y35 => ((some (y35.set (x5_1 : Int).toNat (⟨(rd_T48 y35 x5_1).f0, (rd_T48 y35 x5_1).f1, (rd_T48 y35 x5_1).f2, ((Int.tmod (wrap64 ((wrap64 ((wrap64 (x1_1 + 1)) + 1)) + 1)) 3) == 0), (rd_T48 y35 x5_1).f4, (rd_T48 y35 x5_1).f5, (rd_T48 y35 x5_1).f6, (rd_T48 y35 x5_1).f7⟩ : S48) : List (S48))).bind fun y34 => ((some (y34.set (x5_1 : Int).toNat (⟨(rd_T48 y34 x5_1).f0, (rd_T48 y34 x5_1).f1, (rd_T48 y34 x5_1).f2, (rd_T48 y34 x5_1).f3, wrap64 ((wrap64 ((wrap64 ((wrap64 (x1_1 + 1)) + 1)) + 1)) + 1), (rd_T48 y34 x5_1).f5, (rd_T48 y34 x5_1).f6, (rd_T48 y34 x5_1).f7⟩ : S48) : List (S48))).bind fun y33 => ((some (y33.set (x5_1 : Int).toNat (⟨(rd_T48 y33 x5_1).f0, (rd_T48 y33 x5_1).f1, (rd_T48 y33 x5_1).f2, (rd_T48 y33 x5_1).f3, (rd_T48 y33 x5_1).f4, ((Int.tmod (wrap64 ((wrap64 ((wrap64 ((wrap64 ((wrap64 (x1_1 + 1)) + 1)) + 1)) + 1)) + 1)) 3) == 0), (rd_T48 y33 x5_1).f6, (rd_T48 y33 x5_1).f7⟩ : S48) : List (S48))).bind fun y32 => ((some (y32.set (x5_1 : Int).toNat (⟨(rd_T48 y32 x5_1).f0, (rd_T48 y32 x5_1).f1, (rd_T48 y32 x5_1).f2, (rd_T48 y32 x5_1).f3, (rd_T48 y32 x5_1).f4, (rd_T48 y32 x5_1).f5, wrap64 ((wrap64 ((wrap64 ((wrap64 ((wrap64 ((wrap64 (x1_1 + 1)) + 1)) + 1)) + 1)) + 1)) + 1), (rd_T48 y32 x5_1).f7⟩ : S48) : List (S48))).bind fun y31 => (ZlmarkRecS.l0 k1 (y31.set (x5_1 : Int).toNat (⟨(rd_T48 y31 x5_1).f0, (rd_T48 y31 x5_1).f1, (rd_T48 y31 x5_1).f2, (rd_T48 y31 x5_1).f3, (rd_T48 y31 x5_1).f4, (rd_T48 y31 x5_1).f5, (rd_T48 y31 x5_1).f6, wrap64 ((wrap64 ((wrap64 ((wrap64 ((wrap64 ((wrap64 ((wrap64 (x1_1 + 1)) + 1)) + 1)) + 1)) + 1)) + 1)) + 1)⟩ : S48)) (wrap64 ((wrap64 ((wrap64 ((wrap64 ((wrap64 ((wrap64 ((wrap64 ((wrap64 (x1_1 + 1)) + 1)) + 1)) + 1)) + 1)) + 1)) + 1)) + 1)) (wrap64 (x5_1 + 1))))))))) = some (r1, r2) := by first | (rw [hy37]; with_reducible exact H) | (have H2_ := (Option.bind_some _ _).symm.trans H; rw [hy37]; with_reducible exact H2_) | (have H2_ := (Option.bind_some _ _).symm.trans H; with_reducible exact H2_) | with_reducible exact H | (rw [hy37]; exact H) | exact H
     have Ny37 := Qz.mk hy37
     clear hy37
     obtain ⟨y36, hy36⟩ : ∃ y_ : List (S48), y_ = (y37.set (x5_1 : Int).toNat (⟨(rd_T48 y37 x5_1).f0, wrap64 (x1_1 + 1), (rd_T48 y37 x5_1).f2, (rd_T48 y37 x5_1).f3, (rd_T48 y37 x5_1).f4, (rd_T48 y37 x5_1).f5, (rd_T48 y37 x5_1).f6, (rd_T48 y37 x5_1).f7⟩ : S48)) := ⟨_, rfl⟩
     replace H : ((some (y36.set (x5_1 : Int).toNat (⟨(rd_T48 y36 x5_1).f0, (rd_T48 y36 x5_1).f1, wrap64 ((wrap64 (x1_1 + 1)) + 1), (rd_T48 y36 x5_1).f3, (rd_T48 y36 x5_1).f4, (rd_T48 y36 x5_1).f5, (rd_T48 y36 x5_1).f6, (rd_T48 y36 x5_1).f7⟩ : S48) : List (S48))).bind fun y35 => ((some (y35.set (x5_1 : Int).toNat (⟨(rd_T48 y35 x5_1).f0, (rd_T48 y35 x5_1).f1, (rd_T48 y35 x5_1).f2, ((Int.tmod (wrap64 ((wrap64 ((wrap64 (x1_1 + 1)) + 1)) + 1)) 3) == 0), (rd_T48 y35 x5_1).f4, (rd_T48 y35 x5_1).f5, (rd_T48 y35 x5_1).f6, (rd_T48 y35 x5_1).f7⟩ : S48) : List (S48))).bind fun y34 => ((some (y34.set (x5_1 : Int).toNat (⟨(rd_T48 y34 x5_1).f0, (rd_T48 y34 x5_1).f1, (rd_T48 y34 x5_1).f2, (rd_T48 y34 x5_1).f3, wrap64 ((wrap64 ((wrap64 ((wrap64 (x1_1 + 1)) + 1)) + 1)) + 1), (rd_T48 y34 x5_1).f5, (rd_T48 y34 x5_1).f6, (rd_T48 y34 x5_1).f7⟩ : S48) : List (S48))).bind fun y33 => ((some (y33.set (x5_1 : Int).toNat (⟨(rd_T48 y33 x5_1).f0, (rd_T48 y33 x5_1).f1, (rd_T48 y33 x5_1).f2, (rd_T48 y33 x5_1).f3, (rd_T48 y33 x5_1).f4, ((Int.tmod (wrap64 ((wrap64 ((wrap64 ((wrap64 ((wrap64 (x1_1 + 1)) + 1)) + 1)) + 1)) + 1)) 3) == 0), (rd_T48 y33 x5_1).f6, (rd_T48 y33 x5_1).f7⟩ : S48) : List (S48))).bind fun y32 => ((some (y32.set (x5_1 : Int).toNat (⟨(rd_T48 y32 x5_1).f0, (rd_T48 y32 x5_1).f1, (rd_T48 y32 x5_1).f2, (rd_T48 y32 x5_1).f3, (rd_T48 y32 x5_1).f4, (rd_T48 y32 x5_1).f5, wrap64 ((wrap64 ((wrap64 ((wrap64 ((wrap64 ((wrap64 (x1_1 + 1)) + 1)) + 1)) + 1)) + 1)) + 1), (rd_T48 y32 x5_1).f7⟩ : S48) : List (S48))).bind fun y31 => (ZlmarkRecS.l0 k1 (y31.set (x5_1 : Int).toNat (⟨(rd_T48 y31 x5_1).f0, (rd_T48 y31 x5_1).f1, (rd_T48 y31 x5_1).f2, (rd_T48 y31 x5_1).f3, (rd_T48 y31 x5_1).f4, (rd_T48 y31 x5_1).f5, (rd_T48 y31 x5_1).f6, wrap64 ((wrap64 ((wrap64 ((wrap64 ((wrap64 ((wrap64 ((wrap64 (x1_1 + 1)) + 1)) + 1)) + 1)) + 1)) + 1)) + 1)⟩ : S48)) (wrap64 ((wrap64 ((wrap64 ((wrap64 ((wrap64 ((wrap64 ((wrap64 ((wrap64 (x1_1 + 1)) + 1)) + 1)) + 1)) + 1)) + 1)) + 1)) + 1)) (wrap64 (x5_1 + 1)))))))) = some (r1, r2) := by first | (rw [hy36]; with_reducible exact H) | (have H2_ := (Option.bind_some _ _).symm.trans H; rw [hy36]; with_reducible exact H2_) | (have H2_ := (Option.bind_some _ _).symm.trans H; with_reducible exact H2_) | with_reducible exact H | (rw [hy36]; exact H) | exact H
     have Ny36 := Qz.mk hy36
     clear hy36
     obtain ⟨y35, hy35⟩ : ∃ y_ : List (S48), y_ = (y36.set (x5_1 : Int).toNat (⟨(rd_T48 y36 x5_1).f0, (rd_T48 y36 x5_1).f1, wrap64 ((wrap64 (x1_1 + 1)) + 1), (rd_T48 y36 x5_1).f3, (rd_T48 y36 x5_1).f4, (rd_T48 y36 x5_1).f5, (rd_T48 y36 x5_1).f6, (rd_T48 y36 x5_1).f7⟩ : S48)) := ⟨_, rfl⟩
     replace H : ((some (y35.set (x5_1 : Int).toNat (⟨(rd_T48 y35 x5_1).f0, (rd_T48 y35 x5_1).f1, (rd_T48 y35 x5_1).f2, ((Int.tmod (wrap64 ((wrap64 ((wrap64 (x1_1 + 1)) + 1)) + 1)) 3) == 0), (rd_T48 y35 x5_1).f4, (rd_T48 y35 x5_1).f5, (rd_T48 y35 x5_1).f6, (rd_T48 y35 x5_1).f7⟩ : S48) : List (S48))).bind fun y34 => ((some (y34.set (x5_1 : Int).toNat (⟨(rd_T48 y34 x5_1).f0, (rd_T48 y34 x5_1).f1, (rd_T48 y34 x5_1).f2, (rd_T48 y34 x5_1).f3, wrap64 ((wrap64 ((wrap64 ((wrap64 (x1_1 + 1)) + 1)) + 1)) + 1), (rd_T48 y34 x5_1).f5, (rd_T48 y34 x5_1).f6, (rd_T48 y34 x5_1).f7⟩ : S48) : List (S48))).bind fun y33 => ((some (y33.set (x5_1 : Int).toNat (⟨(rd_T48 y33 x5_1).f0, (rd_T48 y33 x5_1).f1, (rd_T48 y33 x5_1).f2, (rd_T48 y33 x5_1).f3, (rd_T48 y33 x5_1).f4, ((Int.tmod (wrap64 ((wrap64 ((wrap64 ((wrap64 ((wrap64 (x1_1 + 1)) + 1)) + 1)) + 1)) + 1)) 3) == 0), (rd_T48 y33 x5_1).f6, (rd_T48 y33 x5_1).f7⟩ : S48) : List (S48))).bind fun y32 => ((some (y32.set (x5_1 : Int).toNat (⟨(rd_T48 y32 x5_1).f0, (rd_T48 y32 x5_1).f1, (rd_T48 y32 x5_1).f2, (rd_T48 y32 x5_1).f3, (rd_T48 y32 x5_1).f4, (rd_T48 y32 x5_1).f5, wrap64 ((wrap64 ((wrap64 ((wrap64 ((wrap64 ((wrap64 (x1_1 + 1)) + 1)) + 1)) + 1)) + 1)) + 1), (rd_T48 y32 x5_1).f7⟩ : S48) : List (S48))).bind fun y31 => (ZlmarkRecS.l0 k1 (y31.set (x5_1 : Int).toNat (⟨(rd_T48 y31 x5_1).f0, (rd_T48 y31 x5_1).f1, (rd_T48 y31 x5_1).f2, (rd_T48 y31 x5_1).f3, (rd_T48 y31 x5_1).f4, (rd_T48 y31 x5_1).f5, (rd_T48 y31 x5_1).f6, wrap64 ((wrap64 ((wrap64 ((wrap64 ((wrap64 ((wrap64 ((wrap64 (x1_1 + 1)) + 1)) + 1)) + 1)) + 1)) + 1)) + 1)⟩ : S48)) (wrap64 ((wrap64 ((wrap64 ((wrap64 ((wrap64 ((wrap64 ((wrap64 ((wrap64 (x1_1 + 1)) + 1)) + 1)) + 1)) + 1)) + 1)) + 1)) + 1)) (wrap64 (x5_1 + 1))))))) = some (r1, r2) := by first | (rw [hy35]; with_reducible exact H) | (have H2_ := (Option.bind_some _ _).symm.trans H; rw [hy35]; with_reducible exact H2_) | (have H2_ := (Option.bind_some _ _).symm.trans H; with_reducible exact H2_) | with_reducible exact H | (rw [hy35]; exact H) | exact H
     have Ny35 := Qz.mk hy35
     clear hy35
     obtain ⟨y34, hy34⟩ : ∃ y_ : List (S48), y_ = (y35.set (x5_1 : Int).toNat (⟨(rd_T48 y35 x5_1).f0, (rd_T48 y35 x5_1).f1, (rd_T48 y35 x5_1).f2, ((Int.tmod (wrap64 ((wrap64 ((wrap64 (x1_1 + 1)) + 1)) + 1)) 3) == 0), (rd_T48 y35 x5_1).f4, (rd_T48 y35 x5_1).f5, (rd_T48 y35 x5_1).f6, (rd_T48 y35 x5_1).f7⟩ : S48)) := ⟨_, rfl⟩
     replace H : ((some (y34.set (x5_1 : Int).toNat (⟨(rd_T48 y34 x5_1).f0, (rd_T48 y34 x5_1).f1, (rd_T48 y34 x5_1).f2, (rd_T48 y34 x5_1).f3, wrap64 ((wrap64 ((wrap64 ((wrap64 (x1_1 + 1)) + 1)) + 1)) + 1), (rd_T48 y34 x5_1).f5, (rd_T48 y34 x5_1).f6, (rd_T48 y34 x5_1).f7⟩ : S48) : List (S48))).bind fun y33 => ((some (y33.set (x5_1 : Int).toNat (⟨(rd_T48 y33 x5_1).f0, (rd_T48 y33 x5_1).f1, (rd_T48 y33 x5_1).f2, (rd_T48 y33 x5_1).f3, (rd_T48 y33 x5_1).f4, ((Int.tmod (wrap64 ((wrap64 ((wrap64 ((wrap64 ((wrap64 (x1_1 + 1)) + 1)) + 1)) + 1)) + 1)) 3) == 0), (rd_T48 y33 x5_1).f6, (rd_T48 y33 x5_1).f7⟩ : S48) : List (S48))).bind fun y32 => ((some (y32.set (x5_1 : Int).toNat (⟨(rd_T48 y32 x5_1).f0, (rd_T48 y32 x5_1).f1, (rd_T48 y32 x5_1).f2, (rd_T48 y32 x5_1).f3, (rd_T48 y32 x5_1).f4, (rd_T48 y32 x5_1).f5, wrap64 ((wrap64 ((wrap64 ((wrap64 ((wrap64 ((wrap64 (x1_1 + 1)) + 1)) + 1)) + 1)) + 1)) + 1), (rd_T48 y32 x5_1).f7⟩ : S48) : List (S48))).bind fun y31 => (ZlmarkRecS.l0 k1 (y31.set (x5_1 : Int).toNat (⟨(rd_T48 y31 x5_1).f0, (rd_T48 y31 x5_1).f1, (rd_T48 y31 x5_1).f2, (rd_T48 y31 x5_1).f3, (rd_T48 y31 x5_1).f4, (rd_T48 y31 x5_1).f5, (rd_T48 y31 x5_1).f6, wrap64 ((wrap64 ((wrap64 ((wrap64 ((wrap64 ((wrap64 ((wrap64 (x1_1 + 1)) + 1)) + 1)) + 1)) + 1)) + 1)) + 1)⟩ : S48)) (wrap64 ((wrap64 ((wrap64 ((wrap64 ((wrap64 ((wrap64 ((wrap64 ((wrap64 (x1_1 + 1)) + 1)) + 1)) + 1)) + 1)) + 1)) + 1)) + 1)) (wrap64 (x5_1 + 1)))))) = some (r1, r2) := by first | (rw [hy34]; with_reducible exact H) | (have H2_ := (Option.bind_some _ _).symm.trans H; rw [hy34]; with_reducible exact H2_) | (have H2_ := (Option.bind_some _ _).symm.trans H; with_reducible exact H2_) | with_reducible exact H | (rw [hy34]; exact H) | exact H
     have Ny34 := Qz.mk hy34
     clear hy34
     obtain ⟨y33, hy33⟩ : ∃ y_ : List (S48), y_ = (y34.set (x5_1 : Int).toNat (⟨(rd_T48 y34 x5_1).f0, (rd_T48 y34 x5_1).f1, (rd_T48 y34 x5_1).f2, (rd_T48 y34 x5_1).f3, wrap64 ((wrap64 ((wrap64 ((wrap64 (x1_1 + 1)) + 1)) + 1)) + 1), (rd_T48 y34 x5_1).f5, (rd_T48 y34 x5_1).f6, (rd_T48 y34 x5_1).f7⟩ : S48)) := ⟨_, rfl⟩
     replace H : ((some (y33.set (x5_1 : Int).toNat (⟨(rd_T48 y33 x5_1).f0, (rd_T48 y33 x5_1).f1, (rd_T48 y33 x5_1).f2, (rd_T48 y33 x5_1).f3, (rd_T48 y33 x5_1).f4, ((Int.tmod (wrap64 ((wrap64 ((wrap64 ((wrap64 ((wrap64 (x1_1 + 1)) + 1)) + 1)) + 1)) + 1)) 3) == 0), (rd_T48 y33 x5_1).f6, (rd_T48 y33 x5_1).f7⟩ : S48) : List (S48))).bind fun y32 => ((some (y32.set (x5_1 : Int).toNat (⟨(rd_T48 y32 x5_1).f0, (rd_T48 y32 x5_1).f1, (rd_T48 y32 x5_1).f2, (rd_T48 y32 x5_1).f3, (rd_T48 y32 x5_1).f4, (rd_T48 y32 x5_1).f5, wrap64 ((wrap64 ((wrap64 ((wrap64 ((wrap64 ((wrap64 (x1_1 + 1)) + 1)) + 1)) + 1)) + 1)) + 1), (rd_T48 y32 x5_1).f7⟩ : S48) : List (S48))).bind fun y31 => (ZlmarkRecS.l0 k1 (y31.set (x5_1 : Int).toNat (⟨(rd_T48 y31 x5_1).f0, (rd_T48 y31 x5_1).f1, (rd_T48 y31 x5_1).f2, (rd_T48 y31 x5_1).f3, (rd_T48 y31 x5_1).f4, (rd_T48 y31 x5_1).f5, (rd_T48 y31 x5_1).f6, wrap64 ((wrap64 ((wrap64 ((wrap64 ((wrap64 ((wrap64 ((wrap64 (x1_1 + 1)) + 1)) + 1)) + 1)) + 1)) + 1)) + 1)⟩ : S48)) (wrap64 ((wrap64 ((wrap64 ((wrap64 ((wrap64 ((wrap64 ((wrap64 ((wrap64 (x1_1 + 1)) + 1)) + 1)) + 1)) + 1)) + 1)) + 1)) + 1)) (wrap64 (x5_1 + 1))))) = some (r1, r2) := by first | (rw [hy33]; with_reducible exact H) | (have H2_ := (Option.bind_some _ _).symm.trans H; rw [hy33]; with_reducible exact H2_) | (have H2_ := (Option.bind_some _ _).symm.trans H; with_reducible exact H2_) | with_reducible exact H | (rw [hy33]; exact H) | exact H
     have Ny33 := Qz.mk hy33
     clear hy33
     obtain ⟨y32, hy32⟩ : ∃ y_ : List (S48), y_ = (y33.set (x5_1 : Int).toNat (⟨(rd_T48 y33 x5_1).f0, (rd_T48 y33 x5_1).f1, (rd_T48 y33 x5_1).f2, (rd_T48 y33 x5_1).f3, (rd_T48 y33 x5_1).f4, ((Int.tmod (wrap64 ((wrap64 ((wrap64 ((wrap64 ((wrap64 (x1_1 + 1)) + 1)) + 1)) + 1)) + 1)) 3) == 0), (rd_T48 y33 x5_1).f6, (rd_T48 y33 x5_1).f7⟩ : S48)) := ⟨_, rfl⟩
     replace H : ((some (y32.set (x5_1 : Int).toNat (⟨(rd_T48 y32 x5_1).f0, (rd_T48 y32 x5_1).f1, (rd_T48 y32 x5_1).f2, (rd_T48 y32 x5_1).f3, (rd_T48 y32 x5_1).f4, (rd_T48 y32 x5_1).f5, wrap64 ((wrap64 ((wrap64 ((wrap64 ((wrap64 ((wrap64 (x1_1 + 1)) + 1)) + 1)) + 1)) + 1)) + 1), (rd_T48 y32 x5_1).f7⟩ : S48) : List (S48))).bind fun y31 => (ZlmarkRecS.l0 k1 (y31.set (x5_1 : Int).toNat (⟨(rd_T48 y31 x5_1).f0, (rd_T48 y31 x5_1).f1, (rd_T48 y31 x5_1).f2, (rd_T48 y31 x5_1).f3, (rd_T48 y31 x5_1).f4, (rd_T48 y31 x5_1).f5, (rd_T48 y31 x5_1).f6, wrap64 ((wrap64 ((wrap64 ((wrap64 ((wrap64 ((wrap64 ((wrap64 (x1_1 + 1)) + 1)) + 1)) + 1)) + 1)) + 1)) + 1)⟩ : S48)) (wrap64 ((wrap64 ((wrap64 ((wrap64 ((wrap64 ((wrap64 ((wrap64 ((wrap64 (x1_1 + 1)) + 1)) + 1)) + 1)) + 1)) + 1)) + 1)) + 1)) (wrap64 (x5_1 + 1)))) = some (r1, r2) := by first | (rw [hy32]; with_reducible exact H) | (have H2_ := (Option.bind_some _ _).symm.trans H; rw [hy32]; with_reducible exact H2_) | (have H2_ := (Option.bind_some _ _).symm.trans H; with_reducible exact H2_) | with_reducible exact H | (rw [hy32]; exact H) | exact H
     have Ny32 := Qz.mk hy32
     clear hy32
     obtain ⟨y31, hy31⟩ : ∃ y_ : List (S48), y_ = (y32.set (x5_1 : Int).toNat (⟨(rd_T48 y32 x5_1).f0, (rd_T48 y32 x5_1).f1, (rd_T48 y32 x5_1).f2, (rd_T48 y32 x5_1).f3, (rd_T48 y32 x5_1).f4, (rd_T48 y32 x5_1).f5, wrap64 ((wrap64 ((wrap64 ((wrap64 ((wrap64 ((wrap64 (x1_1 + 1)) + 1)) + 1)) + 1)) + 1)) + 1), (rd_T48 y32 x5_1).f7⟩ : S48)) := ⟨_, rfl⟩
     replace H : (ZlmarkRecS.l0 k1 (y31.set (x5_1 : Int).toNat (⟨(rd_T48 y31 x5_1).f0, (rd_T48 y31 x5_1).f1, (rd_T48 y31 x5_1).f2, (rd_T48 y31 x5_1).f3, (rd_T48 y31 x5_1).f4, (rd_T48 y31 x5_1).f5, (rd_T48 y31 x5_1).f6, wrap64 ((wrap64 ((wrap64 ((wrap64 ((wrap64 ((wrap64 ((wrap64 (x1_1 + 1)) + 1)) + 1)) + 1)) + 1)) + 1)) + 1)⟩ : S48)) (wrap64 ((wrap64 ((wrap64 ((wrap64 ((wrap64 ((wrap64 ((wrap64 ((wrap64 (x1_1 + 1)) + 1)) + 1)) + 1)) + 1)) + 1)) + 1)) + 1)) (wrap64 (x5_1 + 1))) = some (r1, r2) := by first | (rw [hy31]; with_reducible exact H) | (have H2_ := (Option.bind_some _ _).symm.trans H; rw [hy31]; with_reducible exact H2_) | (have H2_ := (Option.bind_some _ _).symm.trans H; with_reducible exact H2_) | with_reducible exact H | (rw [hy31]; exact H) | exact H
     have Ny31 := Qz.mk hy31
     clear hy31
     obtain ⟨y38, hy38⟩ : ∃ y_ : List (S48), y_ = (y31.set (x5_1 : Int).toNat (⟨(rd_T48 y31 x5_1).f0, (rd_T48 y31 x5_1).f1, (rd_T48 y31 x5_1).f2, (rd_T48 y31 x5_1).f3, (rd_T48 y31 x5_1).f4, (rd_T48 y31 x5_1).f5, (rd_T48 y31 x5_1).f6, wrap64 ((wrap64 ((wrap64 ((wrap64 ((wrap64 ((wrap64 ((wrap64 (x1_1 + 1)) + 1)) + 1)) + 1)) + 1)) + 1)) + 1)⟩ : S48)) := ⟨_, rfl⟩
     replace H : (ZlmarkRecS.l0 k1 y38 (wrap64 ((wrap64 ((wrap64 ((wrap64 ((wrap64 ((wrap64 ((wrap64 ((wrap64 (x1_1 + 1)) + 1)) + 1)) + 1)) + 1)) + 1)) + 1)) + 1)) (wrap64 (x5_1 + 1))) = some (r1, r2) := by first | (rw [hy38]; with_reducible exact H) | (have H2_ := (Option.bind_some _ _).symm.trans H; rw [hy38]; with_reducible exact H2_) | (have H2_ := (Option.bind_some _ _).symm.trans H; with_reducible exact H2_) | with_reducible exact H | (rw [hy38]; exact H) | exact H
     have Ny38 := Qz.mk hy38
     clear hy38
     have H' := Qz.mk H
     clear H
     obtain ⟨Ao13, co13, eo13⟩ := Kd.R_slice HO_0.out
     subst eo13
     have p5 : 0 ≤ (x5_1 : Int) := of_decide_eq_true (by first | (with_reducible assumption) | assumption)
     have q5 : (x5_1 : Int) < ((x0_1.length : Int) : Int) := of_decide_eq_true (by first | (with_reducible assumption) | assumption)
     obtain ⟨go5, co5, eo5, gb5, gl5, cl5, HG5⟩ := Kd.R_form HO_0.out (by omega)
     (first | cases eo5 | (injection eo5 with ea_ en_ ec_; (first | subst ea_ | (injection ea_ with ea_; subst ea_)); subst ec_; clear en_))
     have GB5 := Qz.mk gb5
     have GG5 := Qz.mk HG5
     clear gb5 gl5 HG5
     have HMgo5 := Qz.mk (show (P0_ go5 ∨ w.heap.size ≤ go5) from (HO_0.out.1 _ rfl))
     obtain ⟨ce5, hcl5, hM5, hcc5, hfr5⟩ := Kd.R_elem HO_0.out z48 (x5_1 : Int) p5 q5
     obtain rfl := k48_openM hM5
     have hx5_0 : wr.cell? ⟨go5, (x5_1 : Int).toNat * 8, none⟩ = some (.int .i64 ((rd_T48 x0_1 x5_1).f0)) := hcc5 0 _ rfl
     have hx5_1 : wr.cell? ⟨go5, (x5_1 : Int).toNat * 8 + 1, none⟩ = some (.int .i64 ((rd_T48 x0_1 x5_1).f1)) := hcc5 1 _ rfl
     have hx5_2 : wr.cell? ⟨go5, (x5_1 : Int).toNat * 8 + 2, none⟩ = some (.int .i64 ((rd_T48 x0_1 x5_1).f2)) := hcc5 2 _ rfl
     have hx5_3 : wr.cell? ⟨go5, (x5_1 : Int).toNat * 8 + 3, none⟩ = some (.bool ((rd_T48 x0_1 x5_1).f3)) := hcc5 3 _ rfl
     have hx5_4 : wr.cell? ⟨go5, (x5_1 : Int).toNat * 8 + 4, none⟩ = some (.int .i64 ((rd_T48 x0_1 x5_1).f4)) := hcc5 4 _ rfl
     have hx5_5 : wr.cell? ⟨go5, (x5_1 : Int).toNat * 8 + 5, none⟩ = some (.bool ((rd_T48 x0_1 x5_1).f5)) := hcc5 5 _ rfl
     have hx5_6 : wr.cell? ⟨go5, (x5_1 : Int).toNat * 8 + 6, none⟩ = some (.int .i64 ((rd_T48 x0_1 x5_1).f6)) := hcc5 6 _ rfl
     have hx5_7 : wr.cell? ⟨go5, (x5_1 : Int).toNat * 8 + 7, none⟩ = some (.int .i64 ((rd_T48 x0_1 x5_1).f7)) := hcc5 7 _ rfl
     have hf5_0 : wr.frozen? ⟨go5, (x5_1 : Int).toNat * 8, none⟩ = false := hfr5 0
     have hf5_1 : wr.frozen? ⟨go5, (x5_1 : Int).toNat * 8 + 1, none⟩ = false := hfr5 1
     have hf5_2 : wr.frozen? ⟨go5, (x5_1 : Int).toNat * 8 + 2, none⟩ = false := hfr5 2
     have hf5_3 : wr.frozen? ⟨go5, (x5_1 : Int).toNat * 8 + 3, none⟩ = false := hfr5 3
     have hf5_4 : wr.frozen? ⟨go5, (x5_1 : Int).toNat * 8 + 4, none⟩ = false := hfr5 4
     have hf5_5 : wr.frozen? ⟨go5, (x5_1 : Int).toNat * 8 + 5, none⟩ = false := hfr5 5
     have hf5_6 : wr.frozen? ⟨go5, (x5_1 : Int).toNat * 8 + 6, none⟩ = false := hfr5 6
     have hf5_7 : wr.frozen? ⟨go5, (x5_1 : Int).toNat * 8 + 7, none⟩ = false := hfr5 7
     clear hcl5 hcc5 hfr5; (try clear hM5)
     replace p5 := eq_true p5
     replace q5 := eq_true q5
     have HX14 := Qz.mk (show Kd.R k48 48 wr w0.heap.size (fun k_ => (P0_ k_ ∨ w.heap.size ≤ k_)) (.slice (some ⟨go5, 0, none⟩) x0_1.length co13) x0_1 from (by (with_reducible repeat (first | apply Kd.Qn | apply Kd.Qm | apply Kd.Qo)); exact HO_0.out))
     obtain ⟨ce14, hcl14, hM14, hcc14, hfr14⟩ := Kd.R_elem HX14.out z48 (x5_1 : Int) (of_decide_eq_true (by first | (with_reducible assumption) | assumption)) (by have h_ : (x5_1 : Int) < ((x0_1.length : Int) : Int) := of_decide_eq_true (by first | (with_reducible assumption) | assumption); first | exact h_ | (have e_ := (Kd.Qaj HO_0.out).1; omega) | simpa using h_)
     obtain rfl := k48_openM hM14
     have HP14 := Kd.R_seg HX14.out (x5_1 : Int) (of_decide_eq_true (by first | (with_reducible assumption) | assumption)) (by have h_ : (x5_1 : Int) < ((x0_1.length : Int) : Int) := of_decide_eq_true (by first | (with_reducible assumption) | assumption); first | exact h_ | (have e_ := (Kd.Qaj HO_0.out).1; omega) | simpa using h_) (seg := [.int .i64 x1_1]) (j := 0) hcl14 hcc14 (show 1 ≤ 8 from by decide) (x' := (⟨x1_1, (rd_T48 x0_1 x5_1).f1, (rd_T48 x0_1 x5_1).f2, (rd_T48 x0_1 x5_1).f3, (rd_T48 x0_1 x5_1).f4, (rd_T48 x0_1 x5_1).f5, (rd_T48 x0_1 x5_1).f6, (rd_T48 x0_1 x5_1).f7⟩ : S48)) (k48_mkM _ _ _ (⟨x1_1, (rd_T48 x0_1 x5_1).f1, (rd_T48 x0_1 x5_1).f2, (rd_T48 x0_1 x5_1).f3, (rd_T48 x0_1 x5_1).f4, (rd_T48 x0_1 x5_1).f5, (rd_T48 x0_1 x5_1).f6, (rd_T48 x0_1 x5_1).f7⟩ : S48) ) (fun _ hk => hk)
     have hx14_0 := hcc14 0 _ rfl
     (try simp only [show (k48).sz = 8 from rfl, Nat.mul_one, Nat.add_zero] at hx14_0)
     have hf14_0 := hfr14 0
     (try simp only [show (k48).sz = 8 from rfl, Nat.mul_one, Nat.add_zero] at hf14_0)
     clear hcl14 hcc14 hfr14; (try clear hM14)
     go_wp2_with (first | ((with_reducible refine gate_store (t := 2) (p := 16) rfl ?_); refine store_event (t := 2) (p := 16) (v := ?vo_w15) (w1 := (wr.setCell ⟨go5, (x5_1 : Int).toNat * 8, none⟩ (.int .i64 x1_1))) ?hg ?ho ?hn ?hr ?_; (case ho => rfl); (case hg => rfl); (case hn => rfl); (case hr => first | (go_simp; done) | (go_simp; rfl)); intro w15 hw; have hg : wr.grownBy w15 (some go5) := (by rw [hw]; exact HP14.2); have hp_ : Kd.R k48 48 w15 w0.heap.size (fun k_ => (P0_ k_ ∨ w.heap.size ≤ k_)) (.slice (some ⟨go5, 0, none⟩) x0_1.length co13) y37 := (by rw [hw, Ny37.out]; exact HP14.1); clear HP14; have n0_ := Qz.mk (hp_); have n1_ := Qz.mk ((by rw [hw]; exact Qd (HB.out) GB5.out : Below w0.heap.size w0 w15)); have n2_ := Qz.mk (Kept.of_grown (S := (fun k_ => P0_ k_)) hg (by repeat (first | (with_reducible first | exact HK.out | apply Kept.alloc | apply Kept.drewN | apply Kept.drew) | exact HK.out)) (fun k_ e_ => (HO_0.out.1 k_ e_))); clear HO_0; clear HB; clear HK; have HO_0 := n0_; have HB := n1_; have HK := n2_; clear n0_ n1_ n2_; clear hg hw hp_; have p6 : 0 ≤ (x5_1 : Int) := of_decide_eq_true (by first | (with_reducible assumption) | assumption); have q6 : (x5_1 : Int) < ((x0_1.length : Int) : Int) := of_decide_eq_true (by first | (with_reducible assumption) | assumption); obtain ⟨ce6, hcl6, hM6, hcc6, hfr6⟩ := Kd.R_elem HO_0.out z48 (x5_1 : Int) p6 q6; obtain rfl := k48_openM hM6; have hx6_0 : w15.cell? ⟨go5, (x5_1 : Int).toNat * 8, none⟩ = some (.int .i64 ((rd_T48 y37 x5_1).f0)) := hcc6 0 _ rfl; have hx6_1 : w15.cell? ⟨go5, (x5_1 : Int).toNat * 8 + 1, none⟩ = some (.int .i64 ((rd_T48 y37 x5_1).f1)) := hcc6 1 _ rfl; have hx6_2 : w15.cell? ⟨go5, (x5_1 : Int).toNat * 8 + 2, none⟩ = some (.int .i64 ((rd_T48 y37 x5_1).f2)) := hcc6 2 _ rfl; have hx6_3 : w15.cell? ⟨go5, (x5_1 : Int).toNat * 8 + 3, none⟩ = some (.bool ((rd_T48 y37 x5_1).f3)) := hcc6 3 _ rfl; have hx6_4 : w15.cell? ⟨go5, (x5_1 : Int).toNat * 8 + 4, none⟩ = some (.int .i64 ((rd_T48 y37 x5_1).f4)) := hcc6 4 _ rfl; have hx6_5 : w15.cell? ⟨go5, (x5_1 : Int).toNat * 8 + 5, none⟩ = some (.bool ((rd_T48 y37 x5_1).f5)) := hcc6 5 _ rfl; have hx6_6 : w15.cell? ⟨go5, (x5_1 : Int).toNat * 8 + 6, none⟩ = some (.int .i64 ((rd_T48 y37 x5_1).f6)) := hcc6 6 _ rfl; have hx6_7 : w15.cell? ⟨go5, (x5_1 : Int).toNat * 8 + 7, none⟩ = some (.int .i64 ((rd_T48 y37 x5_1).f7)) := hcc6 7 _ rfl; have hf6_0 : w15.frozen? ⟨go5, (x5_1 : Int).toNat * 8, none⟩ = false := hfr6 0; have hf6_1 : w15.frozen? ⟨go5, (x5_1 : Int).toNat * 8 + 1, none⟩ = false := hfr6 1; have hf6_2 : w15.frozen? ⟨go5, (x5_1 : Int).toNat * 8 + 2, none⟩ = false := hfr6 2; have hf6_3 : w15.frozen? ⟨go5, (x5_1 : Int).toNat * 8 + 3, none⟩ = false := hfr6 3; have hf6_4 : w15.frozen? ⟨go5, (x5_1 : Int).toNat * 8 + 4, none⟩ = false := hfr6 4; have hf6_5 : w15.frozen? ⟨go5, (x5_1 : Int).toNat * 8 + 5, none⟩ = false := hfr6 5; have hf6_6 : w15.frozen? ⟨go5, (x5_1 : Int).toNat * 8 + 6, none⟩ = false := hfr6 6; have hf6_7 : w15.frozen? ⟨go5, (x5_1 : Int).toNat * 8 + 7, none⟩ = false := hfr6 7; clear hcl6 hcc6 hfr6; (try clear hM6); replace p6 := eq_true p6; replace q6 := eq_true q6; have HX16 := Qz.mk (show Kd.R k48 48 w15 w0.heap.size (fun k_ => (P0_ k_ ∨ w.heap.size ≤ k_)) (.slice (some ⟨go5, 0, none⟩) x0_1.length co13) y37 from (by (with_reducible repeat (first | apply Kd.Qn | apply Kd.Qm | apply Kd.Qo)); exact HO_0.out)); obtain ⟨ce16, hcl16, hM16, hcc16, hfr16⟩ := Kd.R_elem HX16.out z48 (x5_1 : Int) (of_decide_eq_true (by first | (with_reducible assumption) | assumption)) (by have h_ : (x5_1 : Int) < ((x0_1.length : Int) : Int) := of_decide_eq_true (by first | (with_reducible assumption) | assumption); first | exact h_ | (have e_ := (Kd.Qaj HO_0.out).1; omega) | simpa using h_); obtain rfl := k48_openM hM16; have HP16 := Kd.R_seg HX16.out (x5_1 : Int) (of_decide_eq_true (by first | (with_reducible assumption) | assumption)) (by have h_ : (x5_1 : Int) < ((x0_1.length : Int) : Int) := of_decide_eq_true (by first | (with_reducible assumption) | assumption); first | exact h_ | (have e_ := (Kd.Qaj HO_0.out).1; omega) | simpa using h_) (seg := [.int .i64 (wrap64 (x1_1 + 1))]) (j := 1) hcl16 hcc16 (show 2 ≤ 8 from by decide) (x' := (⟨(rd_T48 y37 x5_1).f0, wrap64 (x1_1 + 1), (rd_T48 y37 x5_1).f2, (rd_T48 y37 x5_1).f3, (rd_T48 y37 x5_1).f4, (rd_T48 y37 x5_1).f5, (rd_T48 y37 x5_1).f6, (rd_T48 y37 x5_1).f7⟩ : S48)) (k48_mkM _ _ _ (⟨(rd_T48 y37 x5_1).f0, wrap64 (x1_1 + 1), (rd_T48 y37 x5_1).f2, (rd_T48 y37 x5_1).f3, (rd_T48 y37 x5_1).f4, (rd_T48 y37 x5_1).f5, (rd_T48 y37 x5_1).f6, (rd_T48 y37 x5_1).f7⟩ : S48) ) (fun _ hk => hk); have hx16_1 := hcc16 1 _ rfl; (try simp only [show (k48).sz = 8 from rfl, Nat.mul_one, Nat.add_zero] at hx16_1); have hf16_1 := hfr16 1; (try simp only [show (k48).sz = 8 from rfl, Nat.mul_one, Nat.add_zero] at hf16_1); clear hcl16 hcc16 hfr16; (try clear hM16)) | ((with_reducible refine gate_store (t := 2) (p := 23) rfl ?_); refine store_event (t := 2) (p := 23) (v := ?vo_w17) (w1 := (w15.setCell ⟨go5, (x5_1 : Int).toNat * 8 + 1, none⟩ (.int .i64 (wrap64 (x1_1 + 1))))) ?hg ?ho ?hn ?hr ?_; (case ho => rfl); (case hg => rfl); (case hn => rfl); (case hr => first | (go_simp; done) | (go_simp; rfl)); intro w17 hw; have hg : w15.grownBy w17 (some go5) := (by rw [hw]; exact HP16.2); have hp_ : Kd.R k48 48 w17 w0.heap.size (fun k_ => (P0_ k_ ∨ w.heap.size ≤ k_)) (.slice (some ⟨go5, 0, none⟩) x0_1.length co13) y36 := (by rw [hw, Ny36.out]; exact HP16.1); clear HP16; have n0_ := Qz.mk (hp_); have n1_ := Qz.mk ((by rw [hw]; exact Qd (HB.out) GB5.out : Below w0.heap.size w0 w17)); have n2_ := Qz.mk (Kept.of_grown (S := (fun k_ => P0_ k_)) hg (by repeat (first | (with_reducible first | exact HK.out | apply Kept.alloc | apply Kept.drewN | apply Kept.drew) | exact HK.out)) (fun k_ e_ => (HO_0.out.1 k_ e_))); clear HO_0; clear HB; clear HK; have HO_0 := n0_; have HB := n1_; have HK := n2_; clear n0_ n1_ n2_; clear hg hw hp_; have p7 : 0 ≤ (x5_1 : Int) := of_decide_eq_true (by first | (with_reducible assumption) | assumption); have q7 : (x5_1 : Int) < ((x0_1.length : Int) : Int) := of_decide_eq_true (by first | (with_reducible assumption) | assumption); obtain ⟨ce7, hcl7, hM7, hcc7, hfr7⟩ := Kd.R_elem HO_0.out z48 (x5_1 : Int) p7 q7; obtain rfl := k48_openM hM7; have hx7_0 : w17.cell? ⟨go5, (x5_1 : Int).toNat * 8, none⟩ = some (.int .i64 ((rd_T48 y36 x5_1).f0)) := hcc7 0 _ rfl; have hx7_1 : w17.cell? ⟨go5, (x5_1 : Int).toNat * 8 + 1, none⟩ = some (.int .i64 ((rd_T48 y36 x5_1).f1)) := hcc7 1 _ rfl; have hx7_2 : w17.cell? ⟨go5, (x5_1 : Int).toNat * 8 + 2, none⟩ = some (.int .i64 ((rd_T48 y36 x5_1).f2)) := hcc7 2 _ rfl; have hx7_3 : w17.cell? ⟨go5, (x5_1 : Int).toNat * 8 + 3, none⟩ = some (.bool ((rd_T48 y36 x5_1).f3)) := hcc7 3 _ rfl; have hx7_4 : w17.cell? ⟨go5, (x5_1 : Int).toNat * 8 + 4, none⟩ = some (.int .i64 ((rd_T48 y36 x5_1).f4)) := hcc7 4 _ rfl; have hx7_5 : w17.cell? ⟨go5, (x5_1 : Int).toNat * 8 + 5, none⟩ = some (.bool ((rd_T48 y36 x5_1).f5)) := hcc7 5 _ rfl; have hx7_6 : w17.cell? ⟨go5, (x5_1 : Int).toNat * 8 + 6, none⟩ = some (.int .i64 ((rd_T48 y36 x5_1).f6)) := hcc7 6 _ rfl; have hx7_7 : w17.cell? ⟨go5, (x5_1 : Int).toNat * 8 + 7, none⟩ = some (.int .i64 ((rd_T48 y36 x5_1).f7)) := hcc7 7 _ rfl; have hf7_0 : w17.frozen? ⟨go5, (x5_1 : Int).toNat * 8, none⟩ = false := hfr7 0; have hf7_1 : w17.frozen? ⟨go5, (x5_1 : Int).toNat * 8 + 1, none⟩ = false := hfr7 1; have hf7_2 : w17.frozen? ⟨go5, (x5_1 : Int).toNat * 8 + 2, none⟩ = false := hfr7 2; have hf7_3 : w17.frozen? ⟨go5, (x5_1 : Int).toNat * 8 + 3, none⟩ = false := hfr7 3; have hf7_4 : w17.frozen? ⟨go5, (x5_1 : Int).toNat * 8 + 4, none⟩ = false := hfr7 4; have hf7_5 : w17.frozen? ⟨go5, (x5_1 : Int).toNat * 8 + 5, none⟩ = false := hfr7 5; have hf7_6 : w17.frozen? ⟨go5, (x5_1 : Int).toNat * 8 + 6, none⟩ = false := hfr7 6; have hf7_7 : w17.frozen? ⟨go5, (x5_1 : Int).toNat * 8 + 7, none⟩ = false := hfr7 7; clear hcl7 hcc7 hfr7; (try clear hM7); replace p7 := eq_true p7; replace q7 := eq_true q7; have HX18 := Qz.mk (show Kd.R k48 48 w17 w0.heap.size (fun k_ => (P0_ k_ ∨ w.heap.size ≤ k_)) (.slice (some ⟨go5, 0, none⟩) x0_1.length co13) y36 from (by (with_reducible repeat (first | apply Kd.Qn | apply Kd.Qm | apply Kd.Qo)); exact HO_0.out)); obtain ⟨ce18, hcl18, hM18, hcc18, hfr18⟩ := Kd.R_elem HX18.out z48 (x5_1 : Int) (of_decide_eq_true (by first | (with_reducible assumption) | assumption)) (by have h_ : (x5_1 : Int) < ((x0_1.length : Int) : Int) := of_decide_eq_true (by first | (with_reducible assumption) | assumption); first | exact h_ | (have e_ := (Kd.Qaj HO_0.out).1; omega) | simpa using h_); obtain rfl := k48_openM hM18; have HP18 := Kd.R_seg HX18.out (x5_1 : Int) (of_decide_eq_true (by first | (with_reducible assumption) | assumption)) (by have h_ : (x5_1 : Int) < ((x0_1.length : Int) : Int) := of_decide_eq_true (by first | (with_reducible assumption) | assumption); first | exact h_ | (have e_ := (Kd.Qaj HO_0.out).1; omega) | simpa using h_) (seg := [.int .i64 (wrap64 ((wrap64 (x1_1 + 1)) + 1))]) (j := 2) hcl18 hcc18 (show 3 ≤ 8 from by decide) (x' := (⟨(rd_T48 y36 x5_1).f0, (rd_T48 y36 x5_1).f1, wrap64 ((wrap64 (x1_1 + 1)) + 1), (rd_T48 y36 x5_1).f3, (rd_T48 y36 x5_1).f4, (rd_T48 y36 x5_1).f5, (rd_T48 y36 x5_1).f6, (rd_T48 y36 x5_1).f7⟩ : S48)) (k48_mkM _ _ _ (⟨(rd_T48 y36 x5_1).f0, (rd_T48 y36 x5_1).f1, wrap64 ((wrap64 (x1_1 + 1)) + 1), (rd_T48 y36 x5_1).f3, (rd_T48 y36 x5_1).f4, (rd_T48 y36 x5_1).f5, (rd_T48 y36 x5_1).f6, (rd_T48 y36 x5_1).f7⟩ : S48) ) (fun _ hk => hk); have hx18_2 := hcc18 2 _ rfl; (try simp only [show (k48).sz = 8 from rfl, Nat.mul_one, Nat.add_zero] at hx18_2); have hf18_2 := hfr18 2; (try simp only [show (k48).sz = 8 from rfl, Nat.mul_one, Nat.add_zero] at hf18_2); clear hcl18 hcc18 hfr18; (try clear hM18)) | ((with_reducible refine gate_store (t := 2) (p := 30) rfl ?_); refine store_event (t := 2) (p := 30) (v := ?vo_w19) (w1 := (w17.setCell ⟨go5, (x5_1 : Int).toNat * 8 + 2, none⟩ (.int .i64 (wrap64 ((wrap64 (x1_1 + 1)) + 1))))) ?hg ?ho ?hn ?hr ?_; (case ho => rfl); (case hg => rfl); (case hn => rfl); (case hr => first | (go_simp; done) | (go_simp; rfl)); intro w19 hw; have hg : w17.grownBy w19 (some go5) := (by rw [hw]; exact HP18.2); have hp_ : Kd.R k48 48 w19 w0.heap.size (fun k_ => (P0_ k_ ∨ w.heap.size ≤ k_)) (.slice (some ⟨go5, 0, none⟩) x0_1.length co13) y35 := (by rw [hw, Ny35.out]; exact HP18.1); clear HP18; have n0_ := Qz.mk (hp_); have n1_ := Qz.mk ((by rw [hw]; exact Qd (HB.out) GB5.out : Below w0.heap.size w0 w19)); have n2_ := Qz.mk (Kept.of_grown (S := (fun k_ => P0_ k_)) hg (by repeat (first | (with_reducible first | exact HK.out | apply Kept.alloc | apply Kept.drewN | apply Kept.drew) | exact HK.out)) (fun k_ e_ => (HO_0.out.1 k_ e_))); clear HO_0; clear HB; clear HK; have HO_0 := n0_; have HB := n1_; have HK := n2_; clear n0_ n1_ n2_; clear hg hw hp_; have p8 : 0 ≤ (x5_1 : Int) := of_decide_eq_true (by first | (with_reducible assumption) | assumption); have q8 : (x5_1 : Int) < ((x0_1.length : Int) : Int) := of_decide_eq_true (by first | (with_reducible assumption) | assumption); obtain ⟨ce8, hcl8, hM8, hcc8, hfr8⟩ := Kd.R_elem HO_0.out z48 (x5_1 : Int) p8 q8; obtain rfl := k48_openM hM8; have hx8_0 : w19.cell? ⟨go5, (x5_1 : Int).toNat * 8, none⟩ = some (.int .i64 ((rd_T48 y35 x5_1).f0)) := hcc8 0 _ rfl; have hx8_1 : w19.cell? ⟨go5, (x5_1 : Int).toNat * 8 + 1, none⟩ = some (.int .i64 ((rd_T48 y35 x5_1).f1)) := hcc8 1 _ rfl; have hx8_2 : w19.cell? ⟨go5, (x5_1 : Int).toNat * 8 + 2, none⟩ = some (.int .i64 ((rd_T48 y35 x5_1).f2)) := hcc8 2 _ rfl; have hx8_3 : w19.cell? ⟨go5, (x5_1 : Int).toNat * 8 + 3, none⟩ = some (.bool ((rd_T48 y35 x5_1).f3)) := hcc8 3 _ rfl; have hx8_4 : w19.cell? ⟨go5, (x5_1 : Int).toNat * 8 + 4, none⟩ = some (.int .i64 ((rd_T48 y35 x5_1).f4)) := hcc8 4 _ rfl; have hx8_5 : w19.cell? ⟨go5, (x5_1 : Int).toNat * 8 + 5, none⟩ = some (.bool ((rd_T48 y35 x5_1).f5)) := hcc8 5 _ rfl; have hx8_6 : w19.cell? ⟨go5, (x5_1 : Int).toNat * 8 + 6, none⟩ = some (.int .i64 ((rd_T48 y35 x5_1).f6)) := hcc8 6 _ rfl; have hx8_7 : w19.cell? ⟨go5, (x5_1 : Int).toNat * 8 + 7, none⟩ = some (.int .i64 ((rd_T48 y35 x5_1).f7)) := hcc8 7 _ rfl; have hf8_0 : w19.frozen? ⟨go5, (x5_1 : Int).toNat * 8, none⟩ = false := hfr8 0; have hf8_1 : w19.frozen? ⟨go5, (x5_1 : Int).toNat * 8 + 1, none⟩ = false := hfr8 1; have hf8_2 : w19.frozen? ⟨go5, (x5_1 : Int).toNat * 8 + 2, none⟩ = false := hfr8 2; have hf8_3 : w19.frozen? ⟨go5, (x5_1 : Int).toNat * 8 + 3, none⟩ = false := hfr8 3; have hf8_4 : w19.frozen? ⟨go5, (x5_1 : Int).toNat * 8 + 4, none⟩ = false := hfr8 4; have hf8_5 : w19.frozen? ⟨go5, (x5_1 : Int).toNat * 8 + 5, none⟩ = false := hfr8 5; have hf8_6 : w19.frozen? ⟨go5, (x5_1 : Int).toNat * 8 + 6, none⟩ = false := hfr8 6; have hf8_7 : w19.frozen? ⟨go5, (x5_1 : Int).toNat * 8 + 7, none⟩ = false := hfr8 7; clear hcl8 hcc8 hfr8; (try clear hM8); replace p8 := eq_true p8; replace q8 := eq_true q8; have HX20 := Qz.mk (show Kd.R k48 48 w19 w0.heap.size (fun k_ => (P0_ k_ ∨ w.heap.size ≤ k_)) (.slice (some ⟨go5, 0, none⟩) x0_1.length co13) y35 from (by (with_reducible repeat (first | apply Kd.Qn | apply Kd.Qm | apply Kd.Qo)); exact HO_0.out)); obtain ⟨ce20, hcl20, hM20, hcc20, hfr20⟩ := Kd.R_elem HX20.out z48 (x5_1 : Int) (of_decide_eq_true (by first | (with_reducible assumption) | assumption)) (by have h_ : (x5_1 : Int) < ((x0_1.length : Int) : Int) := of_decide_eq_true (by first | (with_reducible assumption) | assumption); first | exact h_ | (have e_ := (Kd.Qaj HO_0.out).1; omega) | simpa using h_); obtain rfl := k48_openM hM20; have HP20 := Kd.R_seg HX20.out (x5_1 : Int) (of_decide_eq_true (by first | (with_reducible assumption) | assumption)) (by have h_ : (x5_1 : Int) < ((x0_1.length : Int) : Int) := of_decide_eq_true (by first | (with_reducible assumption) | assumption); first | exact h_ | (have e_ := (Kd.Qaj HO_0.out).1; omega) | simpa using h_) (seg := [.bool ((Int.tmod (wrap64 ((wrap64 ((wrap64 (x1_1 + 1)) + 1)) + 1)) 3) == 0)]) (j := 3) hcl20 hcc20 (show 4 ≤ 8 from by decide) (x' := (⟨(rd_T48 y35 x5_1).f0, (rd_T48 y35 x5_1).f1, (rd_T48 y35 x5_1).f2, ((Int.tmod (wrap64 ((wrap64 ((wrap64 (x1_1 + 1)) + 1)) + 1)) 3) == 0), (rd_T48 y35 x5_1).f4, (rd_T48 y35 x5_1).f5, (rd_T48 y35 x5_1).f6, (rd_T48 y35 x5_1).f7⟩ : S48)) (k48_mkM _ _ _ (⟨(rd_T48 y35 x5_1).f0, (rd_T48 y35 x5_1).f1, (rd_T48 y35 x5_1).f2, ((Int.tmod (wrap64 ((wrap64 ((wrap64 (x1_1 + 1)) + 1)) + 1)) 3) == 0), (rd_T48 y35 x5_1).f4, (rd_T48 y35 x5_1).f5, (rd_T48 y35 x5_1).f6, (rd_T48 y35 x5_1).f7⟩ : S48) ) (fun _ hk => hk); have hx20_3 := hcc20 3 _ rfl; (try simp only [show (k48).sz = 8 from rfl, Nat.mul_one, Nat.add_zero] at hx20_3); have hf20_3 := hfr20 3; (try simp only [show (k48).sz = 8 from rfl, Nat.mul_one, Nat.add_zero] at hf20_3); clear hcl20 hcc20 hfr20; (try clear hM20)) | ((with_reducible refine gate_store (t := 4) (p := 39) rfl ?_); refine store_event (t := 4) (p := 39) (v := ?vo_w21) (w1 := (w19.setCell ⟨go5, (x5_1 : Int).toNat * 8 + 3, none⟩ (.bool ((Int.tmod (wrap64 ((wrap64 ((wrap64 (x1_1 + 1)) + 1)) + 1)) 3) == 0)))) ?hg ?ho ?hn ?hr ?_; (case ho => rfl); (case hg => rfl); (case hn => rfl); (case hr => first | (go_simp; done) | (go_simp; rfl)); intro w21 hw; have hg : w19.grownBy w21 (some go5) := (by rw [hw]; exact HP20.2); have hp_ : Kd.R k48 48 w21 w0.heap.size (fun k_ => (P0_ k_ ∨ w.heap.size ≤ k_)) (.slice (some ⟨go5, 0, none⟩) x0_1.length co13) y34 := (by rw [hw, Ny34.out]; exact HP20.1); clear HP20; have n0_ := Qz.mk (hp_); have n1_ := Qz.mk ((by rw [hw]; exact Qd (HB.out) GB5.out : Below w0.heap.size w0 w21)); have n2_ := Qz.mk (Kept.of_grown (S := (fun k_ => P0_ k_)) hg (by repeat (first | (with_reducible first | exact HK.out | apply Kept.alloc | apply Kept.drewN | apply Kept.drew) | exact HK.out)) (fun k_ e_ => (HO_0.out.1 k_ e_))); clear HO_0; clear HB; clear HK; have HO_0 := n0_; have HB := n1_; have HK := n2_; clear n0_ n1_ n2_; clear hg hw hp_; have p9 : 0 ≤ (x5_1 : Int) := of_decide_eq_true (by first | (with_reducible assumption) | assumption); have q9 : (x5_1 : Int) < ((x0_1.length : Int) : Int) := of_decide_eq_true (by first | (with_reducible assumption) | assumption); obtain ⟨ce9, hcl9, hM9, hcc9, hfr9⟩ := Kd.R_elem HO_0.out z48 (x5_1 : Int) p9 q9; obtain rfl := k48_openM hM9; have hx9_0 : w21.cell? ⟨go5, (x5_1 : Int).toNat * 8, none⟩ = some (.int .i64 ((rd_T48 y34 x5_1).f0)) := hcc9 0 _ rfl; have hx9_1 : w21.cell? ⟨go5, (x5_1 : Int).toNat * 8 + 1, none⟩ = some (.int .i64 ((rd_T48 y34 x5_1).f1)) := hcc9 1 _ rfl; have hx9_2 : w21.cell? ⟨go5, (x5_1 : Int).toNat * 8 + 2, none⟩ = some (.int .i64 ((rd_T48 y34 x5_1).f2)) := hcc9 2 _ rfl; have hx9_3 : w21.cell? ⟨go5, (x5_1 : Int).toNat * 8 + 3, none⟩ = some (.bool ((rd_T48 y34 x5_1).f3)) := hcc9 3 _ rfl; have hx9_4 : w21.cell? ⟨go5, (x5_1 : Int).toNat * 8 + 4, none⟩ = some (.int .i64 ((rd_T48 y34 x5_1).f4)) := hcc9 4 _ rfl; have hx9_5 : w21.cell? ⟨go5, (x5_1 : Int).toNat * 8 + 5, none⟩ = some (.bool ((rd_T48 y34 x5_1).f5)) := hcc9 5 _ rfl; have hx9_6 : w21.cell? ⟨go5, (x5_1 : Int).toNat * 8 + 6, none⟩ = some (.int .i64 ((rd_T48 y34 x5_1).f6)) := hcc9 6 _ rfl; have hx9_7 : w21.cell? ⟨go5, (x5_1 : Int).toNat * 8 + 7, none⟩ = some (.int .i64 ((rd_T48 y34 x5_1).f7)) := hcc9 7 _ rfl; have hf9_0 : w21.frozen? ⟨go5, (x5_1 : Int).toNat * 8, none⟩ = false := hfr9 0; have hf9_1 : w21.frozen? ⟨go5, (x5_1 : Int).toNat * 8 + 1, none⟩ = false := hfr9 1; have hf9_2 : w21.frozen? ⟨go5, (x5_1 : Int).toNat * 8 + 2, none⟩ = false := hfr9 2; have hf9_3 : w21.frozen? ⟨go5, (x5_1 : Int).toNat * 8 + 3, none⟩ = false := hfr9 3; have hf9_4 : w21.frozen? ⟨go5, (x5_1 : Int).toNat * 8 + 4, none⟩ = false := hfr9 4; have hf9_5 : w21.frozen? ⟨go5, (x5_1 : Int).toNat * 8 + 5, none⟩ = false := hfr9 5; have hf9_6 : w21.frozen? ⟨go5, (x5_1 : Int).toNat * 8 + 6, none⟩ = false := hfr9 6; have hf9_7 : w21.frozen? ⟨go5, (x5_1 : Int).toNat * 8 + 7, none⟩ = false := hfr9 7; clear hcl9 hcc9 hfr9; (try clear hM9); replace p9 := eq_true p9; replace q9 := eq_true q9; have HX22 := Qz.mk (show Kd.R k48 48 w21 w0.heap.size (fun k_ => (P0_ k_ ∨ w.heap.size ≤ k_)) (.slice (some ⟨go5, 0, none⟩) x0_1.length co13) y34 from (by (with_reducible repeat (first | apply Kd.Qn | apply Kd.Qm | apply Kd.Qo)); exact HO_0.out)); obtain ⟨ce22, hcl22, hM22, hcc22, hfr22⟩ := Kd.R_elem HX22.out z48 (x5_1 : Int) (of_decide_eq_true (by first | (with_reducible assumption) | assumption)) (by have h_ : (x5_1 : Int) < ((x0_1.length : Int) : Int) := of_decide_eq_true (by first | (with_reducible assumption) | assumption); first | exact h_ | (have e_ := (Kd.Qaj HO_0.out).1; omega) | simpa using h_); obtain rfl := k48_openM hM22; have HP22 := Kd.R_seg HX22.out (x5_1 : Int) (of_decide_eq_true (by first | (with_reducible assumption) | assumption)) (by have h_ : (x5_1 : Int) < ((x0_1.length : Int) : Int) := of_decide_eq_true (by first | (with_reducible assumption) | assumption); first | exact h_ | (have e_ := (Kd.Qaj HO_0.out).1; omega) | simpa using h_) (seg := [.int .i64 (wrap64 ((wrap64 ((wrap64 ((wrap64 (x1_1 + 1)) + 1)) + 1)) + 1))]) (j := 4) hcl22 hcc22 (show 5 ≤ 8 from by decide) (x' := (⟨(rd_T48 y34 x5_1).f0, (rd_T48 y34 x5_1).f1, (rd_T48 y34 x5_1).f2, (rd_T48 y34 x5_1).f3, wrap64 ((wrap64 ((wrap64 ((wrap64 (x1_1 + 1)) + 1)) + 1)) + 1), (rd_T48 y34 x5_1).f5, (rd_T48 y34 x5_1).f6, (rd_T48 y34 x5_1).f7⟩ : S48)) (k48_mkM _ _ _ (⟨(rd_T48 y34 x5_1).f0, (rd_T48 y34 x5_1).f1, (rd_T48 y34 x5_1).f2, (rd_T48 y34 x5_1).f3, wrap64 ((wrap64 ((wrap64 ((wrap64 (x1_1 + 1)) + 1)) + 1)) + 1), (rd_T48 y34 x5_1).f5, (rd_T48 y34 x5_1).f6, (rd_T48 y34 x5_1).f7⟩ : S48) ) (fun _ hk => hk); have hx22_4 := hcc22 4 _ rfl; (try simp only [show (k48).sz = 8 from rfl, Nat.mul_one, Nat.add_zero] at hx22_4); have hf22_4 := hfr22 4; (try simp only [show (k48).sz = 8 from rfl, Nat.mul_one, Nat.add_zero] at hf22_4); clear hcl22 hcc22 hfr22; (try clear hM22)) | ((with_reducible refine gate_store (t := 2) (p := 46) rfl ?_); refine store_event (t := 2) (p := 46) (v := ?vo_w23) (w1 := (w21.setCell ⟨go5, (x5_1 : Int).toNat * 8 + 4, none⟩ (.int .i64 (wrap64 ((wrap64 ((wrap64 ((wrap64 (x1_1 + 1)) + 1)) + 1)) + 1))))) ?hg ?ho ?hn ?hr ?_; (case ho => rfl); (case hg => rfl); (case hn => rfl); (case hr => first | (go_simp; done) | (go_simp; rfl)); intro w23 hw; have hg : w21.grownBy w23 (some go5) := (by rw [hw]; exact HP22.2); have hp_ : Kd.R k48 48 w23 w0.heap.size (fun k_ => (P0_ k_ ∨ w.heap.size ≤ k_)) (.slice (some ⟨go5, 0, none⟩) x0_1.length co13) y33 := (by rw [hw, Ny33.out]; exact HP22.1); clear HP22; have n0_ := Qz.mk (hp_); have n1_ := Qz.mk ((by rw [hw]; exact Qd (HB.out) GB5.out : Below w0.heap.size w0 w23)); have n2_ := Qz.mk (Kept.of_grown (S := (fun k_ => P0_ k_)) hg (by repeat (first | (with_reducible first | exact HK.out | apply Kept.alloc | apply Kept.drewN | apply Kept.drew) | exact HK.out)) (fun k_ e_ => (HO_0.out.1 k_ e_))); clear HO_0; clear HB; clear HK; have HO_0 := n0_; have HB := n1_; have HK := n2_; clear n0_ n1_ n2_; clear hg hw hp_; have p10 : 0 ≤ (x5_1 : Int) := of_decide_eq_true (by first | (with_reducible assumption) | assumption); have q10 : (x5_1 : Int) < ((x0_1.length : Int) : Int) := of_decide_eq_true (by first | (with_reducible assumption) | assumption); obtain ⟨ce10, hcl10, hM10, hcc10, hfr10⟩ := Kd.R_elem HO_0.out z48 (x5_1 : Int) p10 q10; obtain rfl := k48_openM hM10; have hx10_0 : w23.cell? ⟨go5, (x5_1 : Int).toNat * 8, none⟩ = some (.int .i64 ((rd_T48 y33 x5_1).f0)) := hcc10 0 _ rfl; have hx10_1 : w23.cell? ⟨go5, (x5_1 : Int).toNat * 8 + 1, none⟩ = some (.int .i64 ((rd_T48 y33 x5_1).f1)) := hcc10 1 _ rfl; have hx10_2 : w23.cell? ⟨go5, (x5_1 : Int).toNat * 8 + 2, none⟩ = some (.int .i64 ((rd_T48 y33 x5_1).f2)) := hcc10 2 _ rfl; have hx10_3 : w23.cell? ⟨go5, (x5_1 : Int).toNat * 8 + 3, none⟩ = some (.bool ((rd_T48 y33 x5_1).f3)) := hcc10 3 _ rfl; have hx10_4 : w23.cell? ⟨go5, (x5_1 : Int).toNat * 8 + 4, none⟩ = some (.int .i64 ((rd_T48 y33 x5_1).f4)) := hcc10 4 _ rfl; have hx10_5 : w23.cell? ⟨go5, (x5_1 : Int).toNat * 8 + 5, none⟩ = some (.bool ((rd_T48 y33 x5_1).f5)) := hcc10 5 _ rfl; have hx10_6 : w23.cell? ⟨go5, (x5_1 : Int).toNat * 8 + 6, none⟩ = some (.int .i64 ((rd_T48 y33 x5_1).f6)) := hcc10 6 _ rfl; have hx10_7 : w23.cell? ⟨go5, (x5_1 : Int).toNat * 8 + 7, none⟩ = some (.int .i64 ((rd_T48 y33 x5_1).f7)) := hcc10 7 _ rfl; have hf10_0 : w23.frozen? ⟨go5, (x5_1 : Int).toNat * 8, none⟩ = false := hfr10 0; have hf10_1 : w23.frozen? ⟨go5, (x5_1 : Int).toNat * 8 + 1, none⟩ = false := hfr10 1; have hf10_2 : w23.frozen? ⟨go5, (x5_1 : Int).toNat * 8 + 2, none⟩ = false := hfr10 2; have hf10_3 : w23.frozen? ⟨go5, (x5_1 : Int).toNat * 8 + 3, none⟩ = false := hfr10 3; have hf10_4 : w23.frozen? ⟨go5, (x5_1 : Int).toNat * 8 + 4, none⟩ = false := hfr10 4; have hf10_5 : w23.frozen? ⟨go5, (x5_1 : Int).toNat * 8 + 5, none⟩ = false := hfr10 5; have hf10_6 : w23.frozen? ⟨go5, (x5_1 : Int).toNat * 8 + 6, none⟩ = false := hfr10 6; have hf10_7 : w23.frozen? ⟨go5, (x5_1 : Int).toNat * 8 + 7, none⟩ = false := hfr10 7; clear hcl10 hcc10 hfr10; (try clear hM10); replace p10 := eq_true p10; replace q10 := eq_true q10; have HX24 := Qz.mk (show Kd.R k48 48 w23 w0.heap.size (fun k_ => (P0_ k_ ∨ w.heap.size ≤ k_)) (.slice (some ⟨go5, 0, none⟩) x0_1.length co13) y33 from (by (with_reducible repeat (first | apply Kd.Qn | apply Kd.Qm | apply Kd.Qo)); exact HO_0.out)); obtain ⟨ce24, hcl24, hM24, hcc24, hfr24⟩ := Kd.R_elem HX24.out z48 (x5_1 : Int) (of_decide_eq_true (by first | (with_reducible assumption) | assumption)) (by have h_ : (x5_1 : Int) < ((x0_1.length : Int) : Int) := of_decide_eq_true (by first | (with_reducible assumption) | assumption); first | exact h_ | (have e_ := (Kd.Qaj HO_0.out).1; omega) | simpa using h_); obtain rfl := k48_openM hM24; have HP24 := Kd.R_seg HX24.out (x5_1 : Int) (of_decide_eq_true (by first | (with_reducible assumption) | assumption)) (by have h_ : (x5_1 : Int) < ((x0_1.length : Int) : Int) := of_decide_eq_true (by first | (with_reducible assumption) | assumption); first | exact h_ | (have e_ := (Kd.Qaj HO_0.out).1; omega) | simpa using h_) (seg := [.bool ((Int.tmod (wrap64 ((wrap64 ((wrap64 ((wrap64 ((wrap64 (x1_1 + 1)) + 1)) + 1)) + 1)) + 1)) 3) == 0)]) (j := 5) hcl24 hcc24 (show 6 ≤ 8 from by decide) (x' := (⟨(rd_T48 y33 x5_1).f0, (rd_T48 y33 x5_1).f1, (rd_T48 y33 x5_1).f2, (rd_T48 y33 x5_1).f3, (rd_T48 y33 x5_1).f4, ((Int.tmod (wrap64 ((wrap64 ((wrap64 ((wrap64 ((wrap64 (x1_1 + 1)) + 1)) + 1)) + 1)) + 1)) 3) == 0), (rd_T48 y33 x5_1).f6, (rd_T48 y33 x5_1).f7⟩ : S48)) (k48_mkM _ _ _ (⟨(rd_T48 y33 x5_1).f0, (rd_T48 y33 x5_1).f1, (rd_T48 y33 x5_1).f2, (rd_T48 y33 x5_1).f3, (rd_T48 y33 x5_1).f4, ((Int.tmod (wrap64 ((wrap64 ((wrap64 ((wrap64 ((wrap64 (x1_1 + 1)) + 1)) + 1)) + 1)) + 1)) 3) == 0), (rd_T48 y33 x5_1).f6, (rd_T48 y33 x5_1).f7⟩ : S48) ) (fun _ hk => hk); have hx24_5 := hcc24 5 _ rfl; (try simp only [show (k48).sz = 8 from rfl, Nat.mul_one, Nat.add_zero] at hx24_5); have hf24_5 := hfr24 5; (try simp only [show (k48).sz = 8 from rfl, Nat.mul_one, Nat.add_zero] at hf24_5); clear hcl24 hcc24 hfr24; (try clear hM24)) | ((with_reducible refine gate_store (t := 4) (p := 55) rfl ?_); refine store_event (t := 4) (p := 55) (v := ?vo_w25) (w1 := (w23.setCell ⟨go5, (x5_1 : Int).toNat * 8 + 5, none⟩ (.bool ((Int.tmod (wrap64 ((wrap64 ((wrap64 ((wrap64 ((wrap64 (x1_1 + 1)) + 1)) + 1)) + 1)) + 1)) 3) == 0)))) ?hg ?ho ?hn ?hr ?_; (case ho => rfl); (case hg => rfl); (case hn => rfl); (case hr => first | (go_simp; done) | (go_simp; rfl)); intro w25 hw; have hg : w23.grownBy w25 (some go5) := (by rw [hw]; exact HP24.2); have hp_ : Kd.R k48 48 w25 w0.heap.size (fun k_ => (P0_ k_ ∨ w.heap.size ≤ k_)) (.slice (some ⟨go5, 0, none⟩) x0_1.length co13) y32 := (by rw [hw, Ny32.out]; exact HP24.1); clear HP24; have n0_ := Qz.mk (hp_); have n1_ := Qz.mk ((by rw [hw]; exact Qd (HB.out) GB5.out : Below w0.heap.size w0 w25)); have n2_ := Qz.mk (Kept.of_grown (S := (fun k_ => P0_ k_)) hg (by repeat (first | (with_reducible first | exact HK.out | apply Kept.alloc | apply Kept.drewN | apply Kept.drew) | exact HK.out)) (fun k_ e_ => (HO_0.out.1 k_ e_))); clear HO_0; clear HB; clear HK; have HO_0 := n0_; have HB := n1_; have HK := n2_; clear n0_ n1_ n2_; clear hg hw hp_; have p11 : 0 ≤ (x5_1 : Int) := of_decide_eq_true (by first | (with_reducible assumption) | assumption); have q11 : (x5_1 : Int) < ((x0_1.length : Int) : Int) := of_decide_eq_true (by first | (with_reducible assumption) | assumption); obtain ⟨ce11, hcl11, hM11, hcc11, hfr11⟩ := Kd.R_elem HO_0.out z48 (x5_1 : Int) p11 q11; obtain rfl := k48_openM hM11; have hx11_0 : w25.cell? ⟨go5, (x5_1 : Int).toNat * 8, none⟩ = some (.int .i64 ((rd_T48 y32 x5_1).f0)) := hcc11 0 _ rfl; have hx11_1 : w25.cell? ⟨go5, (x5_1 : Int).toNat * 8 + 1, none⟩ = some (.int .i64 ((rd_T48 y32 x5_1).f1)) := hcc11 1 _ rfl; have hx11_2 : w25.cell? ⟨go5, (x5_1 : Int).toNat * 8 + 2, none⟩ = some (.int .i64 ((rd_T48 y32 x5_1).f2)) := hcc11 2 _ rfl; have hx11_3 : w25.cell? ⟨go5, (x5_1 : Int).toNat * 8 + 3, none⟩ = some (.bool ((rd_T48 y32 x5_1).f3)) := hcc11 3 _ rfl; have hx11_4 : w25.cell? ⟨go5, (x5_1 : Int).toNat * 8 + 4, none⟩ = some (.int .i64 ((rd_T48 y32 x5_1).f4)) := hcc11 4 _ rfl; have hx11_5 : w25.cell? ⟨go5, (x5_1 : Int).toNat * 8 + 5, none⟩ = some (.bool ((rd_T48 y32 x5_1).f5)) := hcc11 5 _ rfl; have hx11_6 : w25.cell? ⟨go5, (x5_1 : Int).toNat * 8 + 6, none⟩ = some (.int .i64 ((rd_T48 y32 x5_1).f6)) := hcc11 6 _ rfl; have hx11_7 : w25.cell? ⟨go5, (x5_1 : Int).toNat * 8 + 7, none⟩ = some (.int .i64 ((rd_T48 y32 x5_1).f7)) := hcc11 7 _ rfl; have hf11_0 : w25.frozen? ⟨go5, (x5_1 : Int).toNat * 8, none⟩ = false := hfr11 0; have hf11_1 : w25.frozen? ⟨go5, (x5_1 : Int).toNat * 8 + 1, none⟩ = false := hfr11 1; have hf11_2 : w25.frozen? ⟨go5, (x5_1 : Int).toNat * 8 + 2, none⟩ = false := hfr11 2; have hf11_3 : w25.frozen? ⟨go5, (x5_1 : Int).toNat * 8 + 3, none⟩ = false := hfr11 3; have hf11_4 : w25.frozen? ⟨go5, (x5_1 : Int).toNat * 8 + 4, none⟩ = false := hfr11 4; have hf11_5 : w25.frozen? ⟨go5, (x5_1 : Int).toNat * 8 + 5, none⟩ = false := hfr11 5; have hf11_6 : w25.frozen? ⟨go5, (x5_1 : Int).toNat * 8 + 6, none⟩ = false := hfr11 6; have hf11_7 : w25.frozen? ⟨go5, (x5_1 : Int).toNat * 8 + 7, none⟩ = false := hfr11 7; clear hcl11 hcc11 hfr11; (try clear hM11); replace p11 := eq_true p11; replace q11 := eq_true q11; have HX26 := Qz.mk (show Kd.R k48 48 w25 w0.heap.size (fun k_ => (P0_ k_ ∨ w.heap.size ≤ k_)) (.slice (some ⟨go5, 0, none⟩) x0_1.length co13) y32 from (by (with_reducible repeat (first | apply Kd.Qn | apply Kd.Qm | apply Kd.Qo)); exact HO_0.out)); obtain ⟨ce26, hcl26, hM26, hcc26, hfr26⟩ := Kd.R_elem HX26.out z48 (x5_1 : Int) (of_decide_eq_true (by first | (with_reducible assumption) | assumption)) (by have h_ : (x5_1 : Int) < ((x0_1.length : Int) : Int) := of_decide_eq_true (by first | (with_reducible assumption) | assumption); first | exact h_ | (have e_ := (Kd.Qaj HO_0.out).1; omega) | simpa using h_); obtain rfl := k48_openM hM26; have HP26 := Kd.R_seg HX26.out (x5_1 : Int) (of_decide_eq_true (by first | (with_reducible assumption) | assumption)) (by have h_ : (x5_1 : Int) < ((x0_1.length : Int) : Int) := of_decide_eq_true (by first | (with_reducible assumption) | assumption); first | exact h_ | (have e_ := (Kd.Qaj HO_0.out).1; omega) | simpa using h_) (seg := [.int .i64 (wrap64 ((wrap64 ((wrap64 ((wrap64 ((wrap64 ((wrap64 (x1_1 + 1)) + 1)) + 1)) + 1)) + 1)) + 1))]) (j := 6) hcl26 hcc26 (show 7 ≤ 8 from by decide) (x' := (⟨(rd_T48 y32 x5_1).f0, (rd_T48 y32 x5_1).f1, (rd_T48 y32 x5_1).f2, (rd_T48 y32 x5_1).f3, (rd_T48 y32 x5_1).f4, (rd_T48 y32 x5_1).f5, wrap64 ((wrap64 ((wrap64 ((wrap64 ((wrap64 ((wrap64 (x1_1 + 1)) + 1)) + 1)) + 1)) + 1)) + 1), (rd_T48 y32 x5_1).f7⟩ : S48)) (k48_mkM _ _ _ (⟨(rd_T48 y32 x5_1).f0, (rd_T48 y32 x5_1).f1, (rd_T48 y32 x5_1).f2, (rd_T48 y32 x5_1).f3, (rd_T48 y32 x5_1).f4, (rd_T48 y32 x5_1).f5, wrap64 ((wrap64 ((wrap64 ((wrap64 ((wrap64 ((wrap64 (x1_1 + 1)) + 1)) + 1)) + 1)) + 1)) + 1), (rd_T48 y32 x5_1).f7⟩ : S48) ) (fun _ hk => hk); have hx26_6 := hcc26 6 _ rfl; (try simp only [show (k48).sz = 8 from rfl, Nat.mul_one, Nat.add_zero] at hx26_6); have hf26_6 := hfr26 6; (try simp only [show (k48).sz = 8 from rfl, Nat.mul_one, Nat.add_zero] at hf26_6); clear hcl26 hcc26 hfr26; (try clear hM26)) | ((with_reducible refine gate_store (t := 2) (p := 62) rfl ?_); refine store_event (t := 2) (p := 62) (v := ?vo_w27) (w1 := (w25.setCell ⟨go5, (x5_1 : Int).toNat * 8 + 6, none⟩ (.int .i64 (wrap64 ((wrap64 ((wrap64 ((wrap64 ((wrap64 ((wrap64 (x1_1 + 1)) + 1)) + 1)) + 1)) + 1)) + 1))))) ?hg ?ho ?hn ?hr ?_; (case ho => rfl); (case hg => rfl); (case hn => rfl); (case hr => first | (go_simp; done) | (go_simp; rfl)); intro w27 hw; have hg : w25.grownBy w27 (some go5) := (by rw [hw]; exact HP26.2); have hp_ : Kd.R k48 48 w27 w0.heap.size (fun k_ => (P0_ k_ ∨ w.heap.size ≤ k_)) (.slice (some ⟨go5, 0, none⟩) x0_1.length co13) y31 := (by rw [hw, Ny31.out]; exact HP26.1); clear HP26; have n0_ := Qz.mk (hp_); have n1_ := Qz.mk ((by rw [hw]; exact Qd (HB.out) GB5.out : Below w0.heap.size w0 w27)); have n2_ := Qz.mk (Kept.of_grown (S := (fun k_ => P0_ k_)) hg (by repeat (first | (with_reducible first | exact HK.out | apply Kept.alloc | apply Kept.drewN | apply Kept.drew) | exact HK.out)) (fun k_ e_ => (HO_0.out.1 k_ e_))); clear HO_0; clear HB; clear HK; have HO_0 := n0_; have HB := n1_; have HK := n2_; clear n0_ n1_ n2_; clear hg hw hp_; have p12 : 0 ≤ (x5_1 : Int) := of_decide_eq_true (by first | (with_reducible assumption) | assumption); have q12 : (x5_1 : Int) < ((x0_1.length : Int) : Int) := of_decide_eq_true (by first | (with_reducible assumption) | assumption); obtain ⟨ce12, hcl12, hM12, hcc12, hfr12⟩ := Kd.R_elem HO_0.out z48 (x5_1 : Int) p12 q12; obtain rfl := k48_openM hM12; have hx12_0 : w27.cell? ⟨go5, (x5_1 : Int).toNat * 8, none⟩ = some (.int .i64 ((rd_T48 y31 x5_1).f0)) := hcc12 0 _ rfl; have hx12_1 : w27.cell? ⟨go5, (x5_1 : Int).toNat * 8 + 1, none⟩ = some (.int .i64 ((rd_T48 y31 x5_1).f1)) := hcc12 1 _ rfl; have hx12_2 : w27.cell? ⟨go5, (x5_1 : Int).toNat * 8 + 2, none⟩ = some (.int .i64 ((rd_T48 y31 x5_1).f2)) := hcc12 2 _ rfl; have hx12_3 : w27.cell? ⟨go5, (x5_1 : Int).toNat * 8 + 3, none⟩ = some (.bool ((rd_T48 y31 x5_1).f3)) := hcc12 3 _ rfl; have hx12_4 : w27.cell? ⟨go5, (x5_1 : Int).toNat * 8 + 4, none⟩ = some (.int .i64 ((rd_T48 y31 x5_1).f4)) := hcc12 4 _ rfl; have hx12_5 : w27.cell? ⟨go5, (x5_1 : Int).toNat * 8 + 5, none⟩ = some (.bool ((rd_T48 y31 x5_1).f5)) := hcc12 5 _ rfl; have hx12_6 : w27.cell? ⟨go5, (x5_1 : Int).toNat * 8 + 6, none⟩ = some (.int .i64 ((rd_T48 y31 x5_1).f6)) := hcc12 6 _ rfl; have hx12_7 : w27.cell? ⟨go5, (x5_1 : Int).toNat * 8 + 7, none⟩ = some (.int .i64 ((rd_T48 y31 x5_1).f7)) := hcc12 7 _ rfl; have hf12_0 : w27.frozen? ⟨go5, (x5_1 : Int).toNat * 8, none⟩ = false := hfr12 0; have hf12_1 : w27.frozen? ⟨go5, (x5_1 : Int).toNat * 8 + 1, none⟩ = false := hfr12 1; have hf12_2 : w27.frozen? ⟨go5, (x5_1 : Int).toNat * 8 + 2, none⟩ = false := hfr12 2; have hf12_3 : w27.frozen? ⟨go5, (x5_1 : Int).toNat * 8 + 3, none⟩ = false := hfr12 3; have hf12_4 : w27.frozen? ⟨go5, (x5_1 : Int).toNat * 8 + 4, none⟩ = false := hfr12 4; have hf12_5 : w27.frozen? ⟨go5, (x5_1 : Int).toNat * 8 + 5, none⟩ = false := hfr12 5; have hf12_6 : w27.frozen? ⟨go5, (x5_1 : Int).toNat * 8 + 6, none⟩ = false := hfr12 6; have hf12_7 : w27.frozen? ⟨go5, (x5_1 : Int).toNat * 8 + 7, none⟩ = false := hfr12 7; clear hcl12 hcc12 hfr12; (try clear hM12); replace p12 := eq_true p12; replace q12 := eq_true q12; have HX28 := Qz.mk (show Kd.R k48 48 w27 w0.heap.size (fun k_ => (P0_ k_ ∨ w.heap.size ≤ k_)) (.slice (some ⟨go5, 0, none⟩) x0_1.length co13) y31 from (by (with_reducible repeat (first | apply Kd.Qn | apply Kd.Qm | apply Kd.Qo)); exact HO_0.out)); obtain ⟨ce28, hcl28, hM28, hcc28, hfr28⟩ := Kd.R_elem HX28.out z48 (x5_1 : Int) (of_decide_eq_true (by first | (with_reducible assumption) | assumption)) (by have h_ : (x5_1 : Int) < ((x0_1.length : Int) : Int) := of_decide_eq_true (by first | (with_reducible assumption) | assumption); first | exact h_ | (have e_ := (Kd.Qaj HO_0.out).1; omega) | simpa using h_); obtain rfl := k48_openM hM28; have HP28 := Kd.R_seg HX28.out (x5_1 : Int) (of_decide_eq_true (by first | (with_reducible assumption) | assumption)) (by have h_ : (x5_1 : Int) < ((x0_1.length : Int) : Int) := of_decide_eq_true (by first | (with_reducible assumption) | assumption); first | exact h_ | (have e_ := (Kd.Qaj HO_0.out).1; omega) | simpa using h_) (seg := [.int .i64 (wrap64 ((wrap64 ((wrap64 ((wrap64 ((wrap64 ((wrap64 ((wrap64 (x1_1 + 1)) + 1)) + 1)) + 1)) + 1)) + 1)) + 1))]) (j := 7) hcl28 hcc28 (show 8 ≤ 8 from by decide) (x' := (⟨(rd_T48 y31 x5_1).f0, (rd_T48 y31 x5_1).f1, (rd_T48 y31 x5_1).f2, (rd_T48 y31 x5_1).f3, (rd_T48 y31 x5_1).f4, (rd_T48 y31 x5_1).f5, (rd_T48 y31 x5_1).f6, wrap64 ((wrap64 ((wrap64 ((wrap64 ((wrap64 ((wrap64 ((wrap64 (x1_1 + 1)) + 1)) + 1)) + 1)) + 1)) + 1)) + 1)⟩ : S48)) (k48_mkM _ _ _ (⟨(rd_T48 y31 x5_1).f0, (rd_T48 y31 x5_1).f1, (rd_T48 y31 x5_1).f2, (rd_T48 y31 x5_1).f3, (rd_T48 y31 x5_1).f4, (rd_T48 y31 x5_1).f5, (rd_T48 y31 x5_1).f6, wrap64 ((wrap64 ((wrap64 ((wrap64 ((wrap64 ((wrap64 ((wrap64 (x1_1 + 1)) + 1)) + 1)) + 1)) + 1)) + 1)) + 1)⟩ : S48) ) (fun _ hk => hk); have hx28_7 := hcc28 7 _ rfl; (try simp only [show (k48).sz = 8 from rfl, Nat.mul_one, Nat.add_zero] at hx28_7); have hf28_7 := hfr28 7; (try simp only [show (k48).sz = 8 from rfl, Nat.mul_one, Nat.add_zero] at hf28_7); clear hcl28 hcc28 hfr28; (try clear hM28)) | ((with_reducible refine gate_store (t := 2) (p := 69) rfl ?_); refine store_event (t := 2) (p := 69) (v := ?vo_w29) (w1 := (w27.setCell ⟨go5, (x5_1 : Int).toNat * 8 + 7, none⟩ (.int .i64 (wrap64 ((wrap64 ((wrap64 ((wrap64 ((wrap64 ((wrap64 ((wrap64 (x1_1 + 1)) + 1)) + 1)) + 1)) + 1)) + 1)) + 1))))) ?hg ?ho ?hn ?hr ?_; (case ho => rfl); (case hg => rfl); (case hn => rfl); (case hr => first | (go_simp; done) | (go_simp; rfl)); intro w29 hw; have hg : w27.grownBy w29 (some go5) := (by rw [hw]; exact HP28.2); have hp_ : Kd.R k48 48 w29 w0.heap.size (fun k_ => (P0_ k_ ∨ w.heap.size ≤ k_)) (.slice (some ⟨go5, 0, none⟩) x0_1.length co13) y38 := (by rw [hw, Ny38.out]; exact HP28.1); clear HP28; have n0_ := Qz.mk (hp_); have n1_ := Qz.mk ((by rw [hw]; exact Qd (HB.out) GB5.out : Below w0.heap.size w0 w29)); have n2_ := Qz.mk (Kept.of_grown (S := (fun k_ => P0_ k_)) hg (by repeat (first | (with_reducible first | exact HK.out | apply Kept.alloc | apply Kept.drewN | apply Kept.drew) | exact HK.out)) (fun k_ e_ => (HO_0.out.1 k_ e_))); clear HO_0; clear HB; clear HK; have HO_0 := n0_; have HB := n1_; have HK := n2_; clear n0_ n1_ n2_; clear hg hw hp_))
     go_roundg k1
     case measure => have := HK1.out; omega
     case rel => exact ⟨(y38), (wrap64 ((wrap64 ((wrap64 ((wrap64 ((wrap64 ((wrap64 ((wrap64 ((wrap64 (x1_1 + 1)) + 1)) + 1)) + 1)) + 1)) + 1)) + 1)) + 1)), (wrap64 (x5_1 + 1)), (by first | rfl | (simp; done) | (simp [*]; done)), (by first | rfl | (simp; done) | (simp [*]; done)), H', ⟨by have := HK1.out; omega⟩, ⟨by (with_reducible repeat (first | apply Kd.Qn | apply Kd.Qm | apply Kd.Qo)); exact HO_0.out⟩, ⟨by repeat (first | (with_reducible first | exact HK.out | apply Kept.alloc | apply Kept.drewN | apply Kept.drew) | exact HK.out)⟩, ⟨by apply_rules [HB.out, Qc, Qa, Qb]⟩⟩
    rw [if_neg c4] at H
    exact absurd H (by simp)
   rw [if_neg c3] at H
   have c3b0 : decide (x5_1 < (x0_1.length : Int)) = false := decide_eq_false c3
   clear c3
   simp only [Option.some.injEq, Prod.mk.injEq] at H
   obtain ⟨rfl, rfl⟩ := H
   obtain ⟨Ao30, co30, eo30⟩ := Kd.R_slice HO_0.out
   subst eo30
   go_wp2
   go_ret
   exact ⟨by first | rfl | (simp [Qv, Qu] <;> rfl) | (simp [*, Qv, Qu] <;> rfl), by (with_reducible repeat (first | apply Kd.Qn | apply Kd.Qm | apply Kd.Qo)); exact HO_0.out, by apply_rules [HB.out, Qc, Qa, Qb], by repeat (first | (with_reducible first | exact HK.out | apply Kept.alloc | apply Kept.drewN | apply Kept.drew) | exact HK.out)⟩
end Go.Proofs.Ythagppmaofcllaa.P
