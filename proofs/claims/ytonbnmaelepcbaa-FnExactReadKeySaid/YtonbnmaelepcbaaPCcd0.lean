import Derived.Test.YtonbnmaelepcbaaP0
import Derived.Test.YtonbnmaelepcbaaPDm1
import Derived.Test.YtonbnmaelepcbaaWRepsOne
import Derived.Test.YtonbnmaelepcbaaLv
namespace Go.Proofs.Ytonbnmaelepcbaa.P
open Go.RowKit Go.Proofs.YtonbnmaelepcbaaW.PrintWords Go.Proofs.YtonbnmaelepcbaaW.PrintLast Go.Proofs.YtonbnmaelepcbaaW.PrintMore
attribute [local go_sem] max2_int min2_int max_two min_two max_three min_three max_four min_four   -- for this text's walks alone
set_option linter.unusedVariables false
set_option linter.unusedSimpArgs false
set_option maxHeartbeats 8000000 in
set_option maxRecDepth 100000 in
theorem laws_eqIntResult.calls (a0_0 : Int) (a0_1 : Int) (a1_0 : Int) (a1_1 : Int) (r : Bool) (w : World) (h : laws_eqIntResult.f a0_0 a0_1 a1_0 a1_1 = some r) :
 Calls Try.prog 27 #[.agg #[.int .i64 a0_0, .int .i64 a0_1], .agg #[.int .i64 a1_0, .int .i64 a1_1]] w fun e w' => e = .returned (.bool r) ∧ Below w.heap.size w w' := by
 have hu48 := Try.underlying48
 have HB := Aside0.mk (Below.refl w.heap.size w)
 have H : (if a0_0 = a1_0 then (if a0_1 = a1_1 then (some true) else (some false)) else (some false)) = some r := h
 clear h
 by_cases c3 : a0_0 = a1_0
 ·rw [if_pos c3] at H
  have c3b0 : (a0_0 == a1_0) = true := beq_iff_eq.mpr c3
  have c3b1 : (a0_0 != a1_0) = false := bne_eq_false_iff_eq.mpr c3
  clear c3
  by_cases c4 : a0_1 = a1_1
  ·rw [if_pos c4] at H
   have c4b0 : (a0_1 == a1_1) = true := beq_iff_eq.mpr c4
   have c4b1 : (a0_1 != a1_1) = false := bne_eq_false_iff_eq.mpr c4
   clear c4
   obtain rfl := Option.some.inj H
   go_enter Try.func27, Try.ntmps27
   go_wp2_with (first | ((with_reducible refine gate_dst (N := 2) rfl ?_); refine box_event ?hg (N := 2) ?hd (cs := #[.int .i64 a0_0, .int .i64 a0_1]) (t := 48) ?hr ?_; (case hd => rfl); (case hg => rfl); (case hr => first | (go_simp; done) | (go_simp; rfl)); intro gb20 hg w5 hbox hb; have n0_ := Aside0.mk (below_step (by apply_rules [HB.out, below_alloc, pw_below_drewN, below_drew1]) hb); have n1_ := Aside0.mk (hbox); have n2_ := Aside0.mk ((by rw [hg]; exact (below_size (by apply_rules [HB.out, below_alloc, pw_below_drewN, below_drew1])) : w.heap.size ≤ gb20)); have n3_ := n2_; clear HB; have HB := n0_; have BK20 := n1_; have GW20 := n2_; have GE20 := n3_; clear n0_ n1_ n2_ n3_; clear hb hbox hg) | ((with_reducible refine gate_dst (N := 3) rfl ?_); refine box_event ?hg (N := 3) ?hd (cs := #[.int .i64 a1_0, .int .i64 a1_1]) (t := 48) ?hr ?_; (case hd => rfl); (case hg => rfl); (case hr => first | (go_simp; done) | (go_simp; rfl)); intro gb21 hg w6 hbox hb; have n0_ := Aside0.mk (blk_below (g := gb20) (o := .cells #[.int .i64 a0_0, .int .i64 a0_1] 48 (0, 0)) (by apply_rules [BK20.out, blk_drewN, blk_drew, blk_alloc]) hb); have n1_ := Aside0.mk (below_step (by apply_rules [HB.out, below_alloc, pw_below_drewN, below_drew1, below_set, GE20.out]) hb); have n2_ := Aside0.mk (hbox); have n3_ := Aside0.mk ((by rw [hg]; exact (below_size (by apply_rules [HB.out, below_alloc, pw_below_drewN, below_drew1, below_set, GE20.out])) : w.heap.size ≤ gb21)); have n4_ := n3_; have n5_ := Aside0.mk ((by rw [hg]; exact Nat.ne_of_lt (blk_lt (g := gb20) (o := .cells #[.int .i64 a0_0, .int .i64 a0_1] 48 (0, 0)) (by apply_rules [BK20.out, blk_drewN, blk_drew, blk_alloc])) : gb20 ≠ gb21)); have n6_ := Aside0.mk ((by rw [hg]; exact Nat.ne_of_gt (blk_lt (g := gb20) (o := .cells #[.int .i64 a0_0, .int .i64 a0_1] 48 (0, 0)) (by apply_rules [BK20.out, blk_drewN, blk_drew, blk_alloc])) : gb21 ≠ gb20)); clear BK20; clear HB; have BK20 := n0_; have HB := n1_; have BK21 := n2_; have GW21 := n3_; have GE21 := n4_; have NB441_442 := n5_; have NB442_441 := n6_; clear n0_ n1_ n2_ n3_ n4_ n5_ n6_; clear hb hbox hg; have hnb7 := NB441_442.out; have hnc7 := NB442_441.out; obtain ⟨hcz8_0, hcz8_1, hfz8_0, hfz8_1⟩ := Lv.blks2 BK20.out; obtain ⟨hcz9_0, hcz9_1, hfz9_0, hfz9_1⟩ := Lv.blks2 BK21.out))
   go_ret
   exact ⟨by first | rfl | (simp [errW_none, errW_some] <;> rfl) | (simp [*, errW_none, errW_some] <;> rfl), by apply_rules [HB.out, below_alloc, pw_below_drewN, below_drew1, below_set, GE20.out, GE21.out]⟩
  rw [if_neg c4] at H
  have c4b0 : (a0_1 == a1_1) = false := beq_eq_false_iff_ne.mpr c4
  have c4b1 : (a0_1 != a1_1) = true := bne_iff_ne.mpr c4
  obtain rfl := Option.some.inj H
  go_enter Try.func27, Try.ntmps27
  go_wp2_with (first | ((with_reducible refine gate_dst (N := 2) rfl ?_); refine box_event ?hg (N := 2) ?hd (cs := #[.int .i64 a0_0, .int .i64 a0_1]) (t := 48) ?hr ?_; (case hd => rfl); (case hg => rfl); (case hr => first | (go_simp; done) | (go_simp; rfl)); intro gb20 hg w10 hbox hb; have n0_ := Aside0.mk (below_step (by apply_rules [HB.out, below_alloc, pw_below_drewN, below_drew1]) hb); have n1_ := Aside0.mk (hbox); have n2_ := Aside0.mk ((by rw [hg]; exact (below_size (by apply_rules [HB.out, below_alloc, pw_below_drewN, below_drew1])) : w.heap.size ≤ gb20)); have n3_ := n2_; clear HB; have HB := n0_; have BK20 := n1_; have GW20 := n2_; have GE20 := n3_; clear n0_ n1_ n2_ n3_; clear hb hbox hg) | ((with_reducible refine gate_dst (N := 3) rfl ?_); refine box_event ?hg (N := 3) ?hd (cs := #[.int .i64 a1_0, .int .i64 a1_1]) (t := 48) ?hr ?_; (case hd => rfl); (case hg => rfl); (case hr => first | (go_simp; done) | (go_simp; rfl)); intro gb21 hg w11 hbox hb; have n0_ := Aside0.mk (blk_below (g := gb20) (o := .cells #[.int .i64 a0_0, .int .i64 a0_1] 48 (0, 0)) (by apply_rules [BK20.out, blk_drewN, blk_drew, blk_alloc]) hb); have n1_ := Aside0.mk (below_step (by apply_rules [HB.out, below_alloc, pw_below_drewN, below_drew1, below_set, GE20.out]) hb); have n2_ := Aside0.mk (hbox); have n3_ := Aside0.mk ((by rw [hg]; exact (below_size (by apply_rules [HB.out, below_alloc, pw_below_drewN, below_drew1, below_set, GE20.out])) : w.heap.size ≤ gb21)); have n4_ := n3_; have n5_ := Aside0.mk ((by rw [hg]; exact Nat.ne_of_lt (blk_lt (g := gb20) (o := .cells #[.int .i64 a0_0, .int .i64 a0_1] 48 (0, 0)) (by apply_rules [BK20.out, blk_drewN, blk_drew, blk_alloc])) : gb20 ≠ gb21)); have n6_ := Aside0.mk ((by rw [hg]; exact Nat.ne_of_gt (blk_lt (g := gb20) (o := .cells #[.int .i64 a0_0, .int .i64 a0_1] 48 (0, 0)) (by apply_rules [BK20.out, blk_drewN, blk_drew, blk_alloc])) : gb21 ≠ gb20)); clear BK20; clear HB; have BK20 := n0_; have HB := n1_; have BK21 := n2_; have GW21 := n3_; have GE21 := n4_; have NB441_442 := n5_; have NB442_441 := n6_; clear n0_ n1_ n2_ n3_ n4_ n5_ n6_; clear hb hbox hg; have hnb12 := NB441_442.out; have hnc12 := NB442_441.out; obtain ⟨hcz13_0, hcz13_1, hfz13_0, hfz13_1⟩ := Lv.blks2 BK20.out; obtain ⟨hcz14_0, hcz14_1, hfz14_0, hfz14_1⟩ := Lv.blks2 BK21.out))
  go_ret
  exact ⟨by first | rfl | (simp [errW_none, errW_some] <;> rfl) | (simp [*, errW_none, errW_some] <;> rfl), by apply_rules [HB.out, below_alloc, pw_below_drewN, below_drew1, below_set, GE20.out, GE21.out]⟩
 rw [if_neg c3] at H
 have c3b0 : (a0_0 == a1_0) = false := beq_eq_false_iff_ne.mpr c3
 have c3b1 : (a0_0 != a1_0) = true := bne_iff_ne.mpr c3
 obtain rfl := Option.some.inj H
 go_enter Try.func27, Try.ntmps27
 go_wp2_with (first | ((with_reducible refine gate_dst (N := 2) rfl ?_); refine box_event ?hg (N := 2) ?hd (cs := #[.int .i64 a0_0, .int .i64 a0_1]) (t := 48) ?hr ?_; (case hd => rfl); (case hg => rfl); (case hr => first | (go_simp; done) | (go_simp; rfl)); intro gb20 hg w15 hbox hb; have n0_ := Aside0.mk (below_step (by apply_rules [HB.out, below_alloc, pw_below_drewN, below_drew1]) hb); have n1_ := Aside0.mk (hbox); have n2_ := Aside0.mk ((by rw [hg]; exact (below_size (by apply_rules [HB.out, below_alloc, pw_below_drewN, below_drew1])) : w.heap.size ≤ gb20)); have n3_ := n2_; clear HB; have HB := n0_; have BK20 := n1_; have GW20 := n2_; have GE20 := n3_; clear n0_ n1_ n2_ n3_; clear hb hbox hg) | ((with_reducible refine gate_dst (N := 3) rfl ?_); refine box_event ?hg (N := 3) ?hd (cs := #[.int .i64 a1_0, .int .i64 a1_1]) (t := 48) ?hr ?_; (case hd => rfl); (case hg => rfl); (case hr => first | (go_simp; done) | (go_simp; rfl)); intro gb21 hg w16 hbox hb; have n0_ := Aside0.mk (blk_below (g := gb20) (o := .cells #[.int .i64 a0_0, .int .i64 a0_1] 48 (0, 0)) (by apply_rules [BK20.out, blk_drewN, blk_drew, blk_alloc]) hb); have n1_ := Aside0.mk (below_step (by apply_rules [HB.out, below_alloc, pw_below_drewN, below_drew1, below_set, GE20.out]) hb); have n2_ := Aside0.mk (hbox); have n3_ := Aside0.mk ((by rw [hg]; exact (below_size (by apply_rules [HB.out, below_alloc, pw_below_drewN, below_drew1, below_set, GE20.out])) : w.heap.size ≤ gb21)); have n4_ := n3_; have n5_ := Aside0.mk ((by rw [hg]; exact Nat.ne_of_lt (blk_lt (g := gb20) (o := .cells #[.int .i64 a0_0, .int .i64 a0_1] 48 (0, 0)) (by apply_rules [BK20.out, blk_drewN, blk_drew, blk_alloc])) : gb20 ≠ gb21)); have n6_ := Aside0.mk ((by rw [hg]; exact Nat.ne_of_gt (blk_lt (g := gb20) (o := .cells #[.int .i64 a0_0, .int .i64 a0_1] 48 (0, 0)) (by apply_rules [BK20.out, blk_drewN, blk_drew, blk_alloc])) : gb21 ≠ gb20)); clear BK20; clear HB; have BK20 := n0_; have HB := n1_; have BK21 := n2_; have GW21 := n3_; have GE21 := n4_; have NB441_442 := n5_; have NB442_441 := n6_; clear n0_ n1_ n2_ n3_ n4_ n5_ n6_; clear hb hbox hg; have hnb17 := NB441_442.out; have hnc17 := NB442_441.out; obtain ⟨hcz18_0, hcz18_1, hfz18_0, hfz18_1⟩ := Lv.blks2 BK20.out; obtain ⟨hcz19_0, hcz19_1, hfz19_0, hfz19_1⟩ := Lv.blks2 BK21.out))
 go_ret
 exact ⟨by first | rfl | (simp [errW_none, errW_some] <;> rfl) | (simp [*, errW_none, errW_some] <;> rfl), by apply_rules [HB.out, below_alloc, pw_below_drewN, below_drew1, below_set, GE20.out, GE21.out]⟩
end Go.Proofs.Ytonbnmaelepcbaa.P
