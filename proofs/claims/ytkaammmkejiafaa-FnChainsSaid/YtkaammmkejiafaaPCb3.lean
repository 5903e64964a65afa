import Derived.Test.YtkaammmkejiafaaWTab
import Derived.Test.YtkaammmkejiafaaZz
import Derived.Test.YtkaammmkejiafaaP0
import Derived.Test.YtkaammmkejiafaaPCall0
import Derived.Test.YtkaammmkejiafaaPCall1
import Derived.Test.YtkaammmkejiafaaPCall2
import Derived.Test.YtkaammmkejiafaaPCb0
import Derived.Test.YtkaammmkejiafaaPCb1
import Derived.Test.YtkaammmkejiafaaPCb2
import Derived.Test.YtkaammmkejiafaaPDall0
import Derived.Test.YtkaammmkejiafaaPDb0
import Derived.Test.YtkaammmkejiafaaWRepsOne
import Derived.Test.YtkaammmkejiafaaLv
import Derived.Test.YtkaammmkejiafaaLv
import Derived.Test.YtkaammmkejiafaaLv
import Derived.Test.YtkaammmkejiafaaLv
namespace Go.Proofs.Ytkaammmkejiafaa.P
open Go.RowKit Go.Proofs.YtkaammmkejiafaaW.PrintWords Go.Proofs.YtkaammmkejiafaaW.PrintLast Go.Proofs.YtkaammmkejiafaaW.PrintMore
attribute [local go_sem] max2_int min2_int max_two min_two max_three min_three max_four min_four   -- for this text's walks alone
set_option linter.unusedVariables false
set_option linter.unusedSimpArgs false
set_option maxHeartbeats 8000000 in
set_option maxRecDepth 100000 in
theorem impl_WriterOf.calls (k : Nat) (A0 : Option Addr) (c0 : Nat) (l0 : List (S51)) (r1 : Int) (r2 : Int) (w : World) (hr0 : Kd.C k51 w A0 l0.length l0) (hc0 : l0.length ≤ c0) (h : impl_WriterOf.f k l0 = some (r1, r2)) :
 Calls Try.prog 15 #[.slice A0 l0.length c0] w fun e w' => e = .returned (.agg #[.int .i64 r1, .int .i64 r2]) ∧ Below w.heap.size w w' := by
 have hu34 := Try.underlying34
 have HR0 := Aside0.mk hr0
 have HC0 := Aside0.mk hc0
 clear hr0 hc0
 have HB := Aside0.mk (Below.refl w.heap.size w)
 have H : ((impl_ChainFault.f k l0).bind fun t23 => (if t23 = 0 then (if (l0.length : Int) = 0 then (some (4, 0)) else (if 0 < (l0.length : Int) then (if ((rd_T51 l0 0).f1) = 0 then (some (0, (rd_T51 l0 0).f0)) else (some (4, 0))) else (none))) else (some (t23, 0)))) = some (r1, r2) := h
 clear h
 replace H := Option.bind_eq_some_iff.mp H
 obtain ⟨t23, A20, H⟩ := H
 replace H : (if t23 = 0 then (if (l0.length : Int) = 0 then (some (4, 0)) else (if 0 < (l0.length : Int) then (if ((rd_T51 l0 0).f1) = 0 then (some (0, (rd_T51 l0 0).f0)) else (some (4, 0))) else (none))) else (some (t23, 0))) = some (r1, r2) := H
 have A2 := Aside0.mk A20
 clear A20
 by_cases c3 : t23 = 0
 ·rw [if_pos c3] at H
  have c3b0 : (t23 == 0) = true := beq_iff_eq.mpr c3
  have c3b1 : (t23 != 0) = false := bne_eq_false_iff_eq.mpr c3
  clear c3
  by_cases c4 : (l0.length : Int) = 0
  ·rw [if_pos c4] at H
   have c4b0 : ((l0.length : Int) == 0) = true := beq_iff_eq.mpr c4
   have c4b1 : ((l0.length : Int) != 0) = false := bne_eq_false_iff_eq.mpr c4
   clear c4
   simp only [Option.some.injEq, Prod.mk.injEq] at H
   obtain ⟨rfl, rfl⟩ := H
   go_enter Try.func15, Try.ntmps15
   go_wp2_with (first | ((with_reducible refine gate_dst (N := 2) rfl ?_); refine box_event ?hg (N := 2) ?hd (cs := #[.int .i64 0, .int .i64 0]) (t := 34) ?hr ?_; (case hd => rfl); (case hg => rfl); (case hr => first | (go_simp; done) | (go_simp; rfl)); intro gb21 hg w5 hbox hb; have n0_ := Aside0.mk (below_step zb hb); have n1_ := Aside0.mk (hbox); have n2_ := Aside0.mk ((by rw [hg]; exact (below_size zb) : w.heap.size ≤ gb21)); have n3_ := n2_; clear HB; have HB := n0_; have BK21 := n1_; have GW21 := n2_; have GE21 := n3_; clear n0_ n1_ n2_ n3_; clear hb hbox hg) | ((with_reducible refine gate_callee (f := 9) rfl ?_); refine goesL_ (some 5) rfl rfl Try.func9 (by kernel_rfl) rfl #[.slice A0 l0.length c0] rfl zm ?_; (with_reducible refine (impl_ChainFault.calls k _ _ l0 t23 _ ?side1 ?side2 A2.out).mono ?_); (case side1 => repeat (first | exact (Kd.C_below HR0.out HB.out) | (with_reducible first | refine Kd.C_alloc ?_ _ | refine Kd.C_drewN ?_ _ | refine Kd.C_drew ?_))); (case side2 => exact HC0.out); rintro e w6 ⟨rfl, hb⟩; refine ⟨_, rfl, ?_⟩; have n0_ := Aside0.mk (blk_below (g := gb21) (o := .cells #[.int .i64 0, .int .i64 0] 34 (0, 0)) zk hb); have n1_ := Aside0.mk (below_step zb hb); clear BK21; clear HB; have BK21 := n0_; have HB := n1_; clear n0_ n1_; (try clear hb); (try clear hb2); (try clear hk); (try clear hi); obtain ⟨hcz7_0, hcz7_1, hfz7_0, hfz7_1⟩ := Lv.blks2 BK21.out))
   refine bodyPost_ret (results_cell_row rfl _ _ gb21 34 #[.int .i64 4, .int .i64 0] (0, 0) _ rfl (by (with_reducible repeat (first | refine blk_drewN ?_ _ | refine blk_drew ?_ | refine blk_alloc ?_ _)); refine blk_put (cs := #[.int .i64 4, .int .i64 0]) ?_ 1 _ rfl; (with_reducible repeat (first | refine blk_drewN ?_ _ | refine blk_drew ?_ | refine blk_alloc ?_ _)); refine blk_put (cs := #[.int .i64 0, .int .i64 0]) ?_ 0 _ rfl; (with_reducible repeat (first | refine blk_drewN ?_ _ | refine blk_drew ?_ | refine blk_alloc ?_ _)); exact BK21.out) Try.underlying34 rfl (by kernel_rfl)) rfl ?_
   exact ⟨ze, zb⟩
  rw [if_neg c4] at H
  have c4b0 : ((l0.length : Int) == 0) = false := beq_eq_false_iff_ne.mpr c4
  have c4b1 : ((l0.length : Int) != 0) = true := bne_iff_ne.mpr c4
  have c4b2 : ¬ (l0 = []) := fun h_ => c4 (by rw [h_]; rfl)
  by_cases c8 : 0 < (l0.length : Int)
  ·rw [if_pos c8] at H
   have c8b0 : decide (0 < (l0.length : Int)) = true := decide_eq_true c8
   have c8b1 : decide (0 < l0.length) = true := decide_eq_true (by omega)
   clear c8
   by_cases c9 : ((rd_T51 l0 0).f1) = 0
   ·rw [if_pos c9] at H
    have c9b0 : (((rd_T51 l0 0).f1) == 0) = true := beq_iff_eq.mpr c9
    have c9b1 : (((rd_T51 l0 0).f1) != 0) = false := bne_eq_false_iff_eq.mpr c9
    clear c9
    simp only [Option.some.injEq, Prod.mk.injEq] at H
    obtain ⟨rfl, rfl⟩ := H
    go_enter Try.func15, Try.ntmps15
    go_wp2_with (first | ((with_reducible refine gate_dst (N := 2) rfl ?_); refine box_event ?hg (N := 2) ?hd (cs := #[.int .i64 0, .int .i64 0]) (t := 34) ?hr ?_; (case hd => rfl); (case hg => rfl); (case hr => first | (go_simp; done) | (go_simp; rfl)); intro gb21 hg w10 hbox hb; have n0_ := Aside0.mk (below_step zb hb); have n1_ := Aside0.mk (hbox); have n2_ := Aside0.mk ((by rw [hg]; exact (below_size zb) : w.heap.size ≤ gb21)); have n3_ := n2_; clear HB; have HB := n0_; have BK21 := n1_; have GW21 := n2_; have GE21 := n3_; clear n0_ n1_ n2_ n3_; clear hb hbox hg) | ((with_reducible refine gate_callee (f := 9) rfl ?_); refine goesL_ (some 5) rfl rfl Try.func9 (by kernel_rfl) rfl #[.slice A0 l0.length c0] rfl zm ?_; (with_reducible refine (impl_ChainFault.calls k _ _ l0 t23 _ ?side1 ?side2 A2.out).mono ?_); (case side1 => repeat (first | exact (Kd.C_below HR0.out HB.out) | (with_reducible first | refine Kd.C_alloc ?_ _ | refine Kd.C_drewN ?_ _ | refine Kd.C_drew ?_))); (case side2 => exact HC0.out); rintro e w11 ⟨rfl, hb⟩; refine ⟨_, rfl, ?_⟩; have n0_ := Aside0.mk (blk_below (g := gb21) (o := .cells #[.int .i64 0, .int .i64 0] 34 (0, 0)) zk hb); have n1_ := Aside0.mk (below_step zb hb); clear BK21; clear HB; have BK21 := n0_; have HB := n1_; clear n0_ n1_; (try clear hb); (try clear hb2); (try clear hk); (try clear hi); have p454 : 0 ≤ (0 : Int) := (by omega); have q19 : 0 < (l0.length : Int) := of_decide_eq_true za; obtain ⟨ad19, e454, hx19_0, hx19_1, hx19_2, hx19_3⟩ := at_T51 HR0.out 0 p454 q19; cases e454; have qi454 : (0 < l0.length) = True := eq_true (by omega); (try rw [show ((0 : Int)).toNat = 0 from rfl] at hx19_0); (try rw [show 0 * 4 = 0 from rfl] at hx19_0); (try rw [Addr.add_zero'] at hx19_0); (try rw [show ((0 : Int)).toNat = 0 from rfl] at hx19_1); (try rw [show 0 * 4 = 0 from rfl] at hx19_1); (try rw [Addr.add_zero'] at hx19_1); (try rw [show ((0 : Int)).toNat = 0 from rfl] at hx19_2); (try rw [show 0 * 4 = 0 from rfl] at hx19_2); (try rw [Addr.add_zero'] at hx19_2); (try rw [show ((0 : Int)).toNat = 0 from rfl] at hx19_3); (try rw [show 0 * 4 = 0 from rfl] at hx19_3); (try rw [Addr.add_zero'] at hx19_3); replace hx19_0 := (HB.out.cell (World.block_lt_of_cell? w _ hx19_0)).trans hx19_0; replace hx19_1 := (HB.out.cell (World.block_lt_of_cell? w _ hx19_1)).trans hx19_1; replace hx19_2 := (HB.out.cell (World.block_lt_of_cell? w _ hx19_2)).trans hx19_2; replace hx19_3 := (HB.out.cell (World.block_lt_of_cell? w _ hx19_3)).trans hx19_3; replace p454 := eq_true p454; replace q19 := eq_true q19; have p455 : 0 ≤ (0 : Int) := (by omega); have q22 : 0 < (l0.length : Int) := of_decide_eq_true za; obtain ⟨ad22, e455, hx22_0, hx22_1, hx22_2, hx22_3⟩ := at_T51 HR0.out 0 p455 q22; obtain rfl : ad19 = ad22 := (by injection e455); have qi455 : (0 < l0.length) = True := eq_true (by omega); (try rw [show ((0 : Int)).toNat = 0 from rfl] at hx22_0); (try rw [show 0 * 4 = 0 from rfl] at hx22_0); (try rw [Addr.add_zero'] at hx22_0); (try rw [show ((0 : Int)).toNat = 0 from rfl] at hx22_1); (try rw [show 0 * 4 = 0 from rfl] at hx22_1); (try rw [Addr.add_zero'] at hx22_1); (try rw [show ((0 : Int)).toNat = 0 from rfl] at hx22_2); (try rw [show 0 * 4 = 0 from rfl] at hx22_2); (try rw [Addr.add_zero'] at hx22_2); (try rw [show ((0 : Int)).toNat = 0 from rfl] at hx22_3); (try rw [show 0 * 4 = 0 from rfl] at hx22_3); (try rw [Addr.add_zero'] at hx22_3); replace hx22_0 := (HB.out.cell (World.block_lt_of_cell? w _ hx22_0)).trans hx22_0; replace hx22_1 := (HB.out.cell (World.block_lt_of_cell? w _ hx22_1)).trans hx22_1; replace hx22_2 := (HB.out.cell (World.block_lt_of_cell? w _ hx22_2)).trans hx22_2; replace hx22_3 := (HB.out.cell (World.block_lt_of_cell? w _ hx22_3)).trans hx22_3; replace p455 := eq_true p455; replace q22 := eq_true q22; obtain ⟨hcz12_0, hcz12_1, hfz12_0, hfz12_1⟩ := Lv.blks2 BK21.out))
    refine bodyPost_ret (results_cell_row rfl _ _ gb21 34 #[.int .i64 0, .int .i64 ((rd_T51 l0 0).f0)] (0, 0) _ rfl (by (with_reducible repeat (first | refine blk_drewN ?_ _ | refine blk_drew ?_ | refine blk_alloc ?_ _)); refine blk_put (cs := #[.int .i64 0, .int .i64 0]) ?_ 1 _ rfl; (with_reducible repeat (first | refine blk_drewN ?_ _ | refine blk_drew ?_ | refine blk_alloc ?_ _)); refine blk_put (cs := #[.int .i64 0, .int .i64 0]) ?_ 0 _ rfl; (with_reducible repeat (first | refine blk_drewN ?_ _ | refine blk_drew ?_ | refine blk_alloc ?_ _)); exact BK21.out) Try.underlying34 rfl (by kernel_rfl)) rfl ?_
    exact ⟨ze, zb⟩
   rw [if_neg c9] at H
   have c9b0 : (((rd_T51 l0 0).f1) == 0) = false := beq_eq_false_iff_ne.mpr c9
   have c9b1 : (((rd_T51 l0 0).f1) != 0) = true := bne_iff_ne.mpr c9
   simp only [Option.some.injEq, Prod.mk.injEq] at H
   obtain ⟨rfl, rfl⟩ := H
   go_enter Try.func15, Try.ntmps15
   go_wp2_with (first | ((with_reducible refine gate_dst (N := 2) rfl ?_); refine box_event ?hg (N := 2) ?hd (cs := #[.int .i64 0, .int .i64 0]) (t := 34) ?hr ?_; (case hd => rfl); (case hg => rfl); (case hr => first | (go_simp; done) | (go_simp; rfl)); intro gb21 hg w13 hbox hb; have n0_ := Aside0.mk (below_step zb hb); have n1_ := Aside0.mk (hbox); have n2_ := Aside0.mk ((by rw [hg]; exact (below_size zb) : w.heap.size ≤ gb21)); have n3_ := n2_; clear HB; have HB := n0_; have BK21 := n1_; have GW21 := n2_; have GE21 := n3_; clear n0_ n1_ n2_ n3_; clear hb hbox hg) | ((with_reducible refine gate_callee (f := 9) rfl ?_); refine goesL_ (some 5) rfl rfl Try.func9 (by kernel_rfl) rfl #[.slice A0 l0.length c0] rfl zm ?_; (with_reducible refine (impl_ChainFault.calls k _ _ l0 t23 _ ?side1 ?side2 A2.out).mono ?_); (case side1 => repeat (first | exact (Kd.C_below HR0.out HB.out) | (with_reducible first | refine Kd.C_alloc ?_ _ | refine Kd.C_drewN ?_ _ | refine Kd.C_drew ?_))); (case side2 => exact HC0.out); rintro e w14 ⟨rfl, hb⟩; refine ⟨_, rfl, ?_⟩; have n0_ := Aside0.mk (blk_below (g := gb21) (o := .cells #[.int .i64 0, .int .i64 0] 34 (0, 0)) zk hb); have n1_ := Aside0.mk (below_step zb hb); clear BK21; clear HB; have BK21 := n0_; have HB := n1_; clear n0_ n1_; (try clear hb); (try clear hb2); (try clear hk); (try clear hi); have p454 : 0 ≤ (0 : Int) := (by omega); have q19 : 0 < (l0.length : Int) := of_decide_eq_true za; obtain ⟨ad19, e454, hx19_0, hx19_1, hx19_2, hx19_3⟩ := at_T51 HR0.out 0 p454 q19; cases e454; have qi454 : (0 < l0.length) = True := eq_true (by omega); (try rw [show ((0 : Int)).toNat = 0 from rfl] at hx19_0); (try rw [show 0 * 4 = 0 from rfl] at hx19_0); (try rw [Addr.add_zero'] at hx19_0); (try rw [show ((0 : Int)).toNat = 0 from rfl] at hx19_1); (try rw [show 0 * 4 = 0 from rfl] at hx19_1); (try rw [Addr.add_zero'] at hx19_1); (try rw [show ((0 : Int)).toNat = 0 from rfl] at hx19_2); (try rw [show 0 * 4 = 0 from rfl] at hx19_2); (try rw [Addr.add_zero'] at hx19_2); (try rw [show ((0 : Int)).toNat = 0 from rfl] at hx19_3); (try rw [show 0 * 4 = 0 from rfl] at hx19_3); (try rw [Addr.add_zero'] at hx19_3); replace hx19_0 := (HB.out.cell (World.block_lt_of_cell? w _ hx19_0)).trans hx19_0; replace hx19_1 := (HB.out.cell (World.block_lt_of_cell? w _ hx19_1)).trans hx19_1; replace hx19_2 := (HB.out.cell (World.block_lt_of_cell? w _ hx19_2)).trans hx19_2; replace hx19_3 := (HB.out.cell (World.block_lt_of_cell? w _ hx19_3)).trans hx19_3; replace p454 := eq_true p454; replace q19 := eq_true q19; obtain ⟨hcz15_0, hcz15_1, hfz15_0, hfz15_1⟩ := Lv.blks2 BK21.out))
   refine bodyPost_ret (results_cell_row rfl _ _ gb21 34 #[.int .i64 4, .int .i64 0] (0, 0) _ rfl (by (with_reducible repeat (first | refine blk_drewN ?_ _ | refine blk_drew ?_ | refine blk_alloc ?_ _)); refine blk_put (cs := #[.int .i64 4, .int .i64 0]) ?_ 1 _ rfl; (with_reducible repeat (first | refine blk_drewN ?_ _ | refine blk_drew ?_ | refine blk_alloc ?_ _)); refine blk_put (cs := #[.int .i64 0, .int .i64 0]) ?_ 0 _ rfl; (with_reducible repeat (first | refine blk_drewN ?_ _ | refine blk_drew ?_ | refine blk_alloc ?_ _)); exact BK21.out) Try.underlying34 rfl (by kernel_rfl)) rfl ?_
   exact ⟨ze, zb⟩
  rw [if_neg c8] at H
  exact absurd H (by simp)
 rw [if_neg c3] at H
 have c3b0 : (t23 == 0) = false := beq_eq_false_iff_ne.mpr c3
 have c3b1 : (t23 != 0) = true := bne_iff_ne.mpr c3
 simp only [Option.some.injEq, Prod.mk.injEq] at H
 obtain ⟨rfl, rfl⟩ := H
 go_enter Try.func15, Try.ntmps15
 go_wp2_with (first | ((with_reducible refine gate_dst (N := 2) rfl ?_); refine box_event ?hg (N := 2) ?hd (cs := #[.int .i64 0, .int .i64 0]) (t := 34) ?hr ?_; (case hd => rfl); (case hg => rfl); (case hr => first | (go_simp; done) | (go_simp; rfl)); intro gb21 hg w16 hbox hb; have n0_ := Aside0.mk (below_step zb hb); have n1_ := Aside0.mk (hbox); have n2_ := Aside0.mk ((by rw [hg]; exact (below_size zb) : w.heap.size ≤ gb21)); have n3_ := n2_; clear HB; have HB := n0_; have BK21 := n1_; have GW21 := n2_; have GE21 := n3_; clear n0_ n1_ n2_ n3_; clear hb hbox hg) | ((with_reducible refine gate_callee (f := 9) rfl ?_); refine goesL_ (some 5) rfl rfl Try.func9 (by kernel_rfl) rfl #[.slice A0 l0.length c0] rfl zm ?_; (with_reducible refine (impl_ChainFault.calls k _ _ l0 t23 _ ?side1 ?side2 A2.out).mono ?_); (case side1 => repeat (first | exact (Kd.C_below HR0.out HB.out) | (with_reducible first | refine Kd.C_alloc ?_ _ | refine Kd.C_drewN ?_ _ | refine Kd.C_drew ?_))); (case side2 => exact HC0.out); rintro e w17 ⟨rfl, hb⟩; refine ⟨_, rfl, ?_⟩; have n0_ := Aside0.mk (blk_below (g := gb21) (o := .cells #[.int .i64 0, .int .i64 0] 34 (0, 0)) zk hb); have n1_ := Aside0.mk (below_step zb hb); clear BK21; clear HB; have BK21 := n0_; have HB := n1_; clear n0_ n1_; (try clear hb); (try clear hb2); (try clear hk); (try clear hi); obtain ⟨hcz18_0, hcz18_1, hfz18_0, hfz18_1⟩ := Lv.blks2 BK21.out))
 refine bodyPost_ret (results_cell_row rfl _ _ gb21 34 #[.int .i64 t23, .int .i64 0] (0, 0) _ rfl (by (with_reducible repeat (first | refine blk_drewN ?_ _ | refine blk_drew ?_ | refine blk_alloc ?_ _)); refine blk_put (cs := #[.int .i64 t23, .int .i64 0]) ?_ 1 _ rfl; (with_reducible repeat (first | refine blk_drewN ?_ _ | refine blk_drew ?_ | refine blk_alloc ?_ _)); refine blk_put (cs := #[.int .i64 0, .int .i64 0]) ?_ 0 _ rfl; (with_reducible repeat (first | refine blk_drewN ?_ _ | refine blk_drew ?_ | refine blk_alloc ?_ _)); exact BK21.out) Try.underlying34 rfl (by kernel_rfl)) rfl ?_
 exact ⟨ze, zb⟩
set_option maxHeartbeats 8000000 in
set_option maxRecDepth 100000 in
theorem impl_isOpenOf.calls (A0 : Option Addr) (c0 : Nat) (l0 : List (S51)) (a1 : Int) (r : Bool) (w : World) (hr0 : Kd.C k51 w A0 l0.length l0) (hc0 : l0.length ≤ c0) (h : impl_isOpenOf.f l0 a1 = some r) :
 Calls Try.prog 43 #[.slice A0 l0.length c0, .int .i64 a1] w fun e w' => e = .returned (.bool r) ∧ Drawn0 w w' := by
 have HR0 := Aside0.mk hr0
 have HC0 := Aside0.mk hc0
 clear hr0 hc0
 have H : (if (l0.length : Int) > 0 then (if 0 < (l0.length : Int) then (if ((rd_T51 l0 0).f1) = 0 then (some (((rd_T51 l0 0).f0) == a1)) else (some false)) else (none)) else (some false)) = some r := h
 clear h
 by_cases c3 : (l0.length : Int) > 0
 ·rw [if_pos c3] at H
  have c3b0 : decide (0 < (l0.length : Int)) = true := decide_eq_true c3
  have c3b1 : decide (0 < l0.length) = true := decide_eq_true (by omega)
  clear c3
  by_cases c4 : 0 < (l0.length : Int)
  ·rw [if_pos c4] at H
   have c4b0 : decide (0 < (l0.length : Int)) = true := decide_eq_true c4
   have c4b1 : decide (0 < l0.length) = true := decide_eq_true (by omega)
   clear c4
   by_cases c5 : ((rd_T51 l0 0).f1) = 0
   ·rw [if_pos c5] at H
    have c5b0 : (((rd_T51 l0 0).f1) == 0) = true := beq_iff_eq.mpr c5
    have c5b1 : (((rd_T51 l0 0).f1) != 0) = false := bne_eq_false_iff_eq.mpr c5
    clear c5
    obtain rfl := Option.some.inj H
    have p456 : 0 ≤ (0 : Int) := (by omega)
    have q6 : 0 < (l0.length : Int) := of_decide_eq_true za
    obtain ⟨ad6, e456, hx6_0, hx6_1, hx6_2, hx6_3⟩ := at_T51 HR0.out 0 p456 q6
    cases e456
    have qi456 : (0 < l0.length) = True := eq_true (by omega)
    (try rw [show ((0 : Int)).toNat = 0 from rfl] at hx6_0)
    (try rw [show 0 * 4 = 0 from rfl] at hx6_0)
    (try rw [Addr.add_zero'] at hx6_0)
    (try rw [show ((0 : Int)).toNat = 0 from rfl] at hx6_1)
    (try rw [show 0 * 4 = 0 from rfl] at hx6_1)
    (try rw [Addr.add_zero'] at hx6_1)
    (try rw [show ((0 : Int)).toNat = 0 from rfl] at hx6_2)
    (try rw [show 0 * 4 = 0 from rfl] at hx6_2)
    (try rw [Addr.add_zero'] at hx6_2)
    (try rw [show ((0 : Int)).toNat = 0 from rfl] at hx6_3)
    (try rw [show 0 * 4 = 0 from rfl] at hx6_3)
    (try rw [Addr.add_zero'] at hx6_3)
    replace p456 := eq_true p456
    replace q6 := eq_true q6
    have p457 : 0 ≤ (0 : Int) := (by omega)
    have q7 : 0 < (l0.length : Int) := of_decide_eq_true za
    obtain ⟨ad7, e457, hx7_0, hx7_1, hx7_2, hx7_3⟩ := at_T51 HR0.out 0 p457 q7
    obtain rfl : ad6 = ad7 := (by injection e457)
    have qi457 : (0 < l0.length) = True := eq_true (by omega)
    (try rw [show ((0 : Int)).toNat = 0 from rfl] at hx7_0)
    (try rw [show 0 * 4 = 0 from rfl] at hx7_0)
    (try rw [Addr.add_zero'] at hx7_0)
    (try rw [show ((0 : Int)).toNat = 0 from rfl] at hx7_1)
    (try rw [show 0 * 4 = 0 from rfl] at hx7_1)
    (try rw [Addr.add_zero'] at hx7_1)
    (try rw [show ((0 : Int)).toNat = 0 from rfl] at hx7_2)
    (try rw [show 0 * 4 = 0 from rfl] at hx7_2)
    (try rw [Addr.add_zero'] at hx7_2)
    (try rw [show ((0 : Int)).toNat = 0 from rfl] at hx7_3)
    (try rw [show 0 * 4 = 0 from rfl] at hx7_3)
    (try rw [Addr.add_zero'] at hx7_3)
    replace p457 := eq_true p457
    replace q7 := eq_true q7
    go_enter Try.func43, Try.ntmps43
    go_wp2
    go_ret
    exact ⟨zs, zd⟩
   rw [if_neg c5] at H
   have c5b0 : (((rd_T51 l0 0).f1) == 0) = false := beq_eq_false_iff_ne.mpr c5
   have c5b1 : (((rd_T51 l0 0).f1) != 0) = true := bne_iff_ne.mpr c5
   obtain rfl := Option.some.inj H
   have p456 : 0 ≤ (0 : Int) := (by omega)
   have q6 : 0 < (l0.length : Int) := of_decide_eq_true za
   obtain ⟨ad6, e456, hx6_0, hx6_1, hx6_2, hx6_3⟩ := at_T51 HR0.out 0 p456 q6
   cases e456
   have qi456 : (0 < l0.length) = True := eq_true (by omega)
   (try rw [show ((0 : Int)).toNat = 0 from rfl] at hx6_0)
   (try rw [show 0 * 4 = 0 from rfl] at hx6_0)
   (try rw [Addr.add_zero'] at hx6_0)
   (try rw [show ((0 : Int)).toNat = 0 from rfl] at hx6_1)
   (try rw [show 0 * 4 = 0 from rfl] at hx6_1)
   (try rw [Addr.add_zero'] at hx6_1)
   (try rw [show ((0 : Int)).toNat = 0 from rfl] at hx6_2)
   (try rw [show 0 * 4 = 0 from rfl] at hx6_2)
   (try rw [Addr.add_zero'] at hx6_2)
   (try rw [show ((0 : Int)).toNat = 0 from rfl] at hx6_3)
   (try rw [show 0 * 4 = 0 from rfl] at hx6_3)
   (try rw [Addr.add_zero'] at hx6_3)
   replace p456 := eq_true p456
   replace q6 := eq_true q6
   go_enter Try.func43, Try.ntmps43
   go_wp2
   go_ret
   exact ⟨zs, zd⟩
  rw [if_neg c4] at H
  exact absurd H (by simp)
 rw [if_neg c3] at H
 have c3b0 : decide (0 < (l0.length : Int)) = false := decide_eq_false c3
 have c3b1 : decide (0 < l0.length) = false := decide_eq_false (by omega)
 clear c3
 obtain rfl := Option.some.inj H
 go_enter Try.func43, Try.ntmps43
 go_wp2
 go_ret
 exact ⟨zs, zd⟩
set_option maxHeartbeats 8000000 in
set_option maxRecDepth 100000 in
theorem impl_CommitChain.calls (k : Nat) (A0 : Option Addr) (c0 : Nat) (l0 : List (S51)) (a1 : Int) (a2 : Int) (r1 : Int) (r2 : List (S51)) (w : World) (hr0 : Kd.C k51 w A0 l0.length l0) (hc0 : l0.length ≤ c0) (h : impl_CommitChain.f k l0 a1 a2 = some (r1, r2)) :
 Calls Try.prog 16 #[.slice A0 l0.length c0, .int .i64 a1, .int .i64 a2] w fun e w' => ∃ v1_ : Value, e = .returned (.agg #[.int .i64 r1, v1_]) ∧ Kd.R k51 51 w' w.heap.size (fun _ => True) v1_ r2 ∧ Below w.heap.size w w' := by
 have hu28 := Try.underlying28
 have HR0 := Aside0.mk hr0
 have HC0 := Aside0.mk hc0
 clear hr0 hc0
 have HB := Aside0.mk (Below.refl w.heap.size w)
 have H : ((impl_ChainFault.f k l0).bind fun t35 => (if t35 = 0 then ((impl_isTxn.f a1).bind fun t46 => (if t46 = true then ((impl_within.f a2 1 1000000).bind fun t39 => (impl_CommitChain.j0 k l0 a1 a2 t35 (!t39))) else (impl_CommitChain.j0 k l0 a1 a2 t35 true))) else (some (t35, ([] : List (S51)))))) = some (r1, r2) := h
 clear h
 replace H := Option.bind_eq_some_iff.mp H
 obtain ⟨t35, A40, H⟩ := H
 replace H : (if t35 = 0 then ((impl_isTxn.f a1).bind fun t46 => (if t46 = true then ((impl_within.f a2 1 1000000).bind fun t39 => (impl_CommitChain.j0 k l0 a1 a2 t35 (!t39))) else (impl_CommitChain.j0 k l0 a1 a2 t35 true))) else (some (t35, ([] : List (S51))))) = some (r1, r2) := H
 have A4 := Aside0.mk A40
 clear A40
 by_cases c5 : t35 = 0
 ·rw [if_pos c5] at H
  have c5b0 : (t35 == 0) = true := beq_iff_eq.mpr c5
  have c5b1 : (t35 != 0) = false := bne_eq_false_iff_eq.mpr c5
  clear c5
  have HC6 := Aside0.mk H
  clear H
  go_enter Try.func16, Try.ntmps16
  go_upto_region 3 with (first | ((with_reducible refine gate_dst (N := 6) rfl ?_); refine box_event ?hg (N := 6) ?hd (cs := #[.int .i64 0, .slice none 0 0]) (t := 28) ?hr ?_; (case hd => rfl); (case hg => rfl); (case hr => first | (go_simp; done) | (go_simp; rfl)); intro gb34 hg w7 hbox hb; have n0_ := Aside0.mk (below_step zb hb); have n1_ := Aside0.mk (hbox); have n2_ := Aside0.mk ((by rw [hg]; exact (below_size zb) : w.heap.size ≤ gb34)); have n3_ := n2_; clear HB; have HB := n0_; have BK34 := n1_; have GW34 := n2_; have GE34 := n3_; clear n0_ n1_ n2_ n3_; clear hb hbox hg) | ((with_reducible refine gate_callee (f := 9) rfl ?_); refine goesL_ (some 10) rfl rfl Try.func9 (by kernel_rfl) rfl #[.slice A0 l0.length c0] rfl zm ?_; (with_reducible refine (impl_ChainFault.calls k _ _ l0 t35 _ ?side1 ?side2 A4.out).mono ?_); (case side1 => repeat (first | exact (Kd.C_below HR0.out HB.out) | (with_reducible first | refine Kd.C_alloc ?_ _ | refine Kd.C_drewN ?_ _ | refine Kd.C_drew ?_))); (case side2 => exact HC0.out); rintro e w8 ⟨rfl, hb⟩; refine ⟨_, rfl, ?_⟩; have n0_ := Aside0.mk (blk_below (g := gb34) (o := .cells #[.int .i64 0, .slice none 0 0] 28 (0, 0)) zk hb); have n1_ := Aside0.mk (below_step zb hb); clear BK34; clear HB; have BK34 := n0_; have HB := n1_; clear n0_ n1_; (try clear hb); (try clear hb2); (try clear hk); (try clear hi)))
  (try simp only [Act.put, List.setIfInBounds_toArray, List.set_cons_zero, List.set_cons_succ])
  go_cut [14] (fun v14 wc => ∃ (kq : Nat) (x14_5 : Bool), v14 = .bool x14_5 ∧ Aside0 (impl_CommitChain.j0 kq l0 a1 a2 t35 x14_5 = some (r1, r2)) ∧ Aside0 (kq ≤ k) ∧ Aside0 (wc.heap[gb34]? = some (.cells #[.int .i64 0, (.slice none 0 0)] 28 (0, 0))) ∧ Aside0 (Below w.heap.size w wc))
  case first =>
   have H := HC6.out
   clear HC6
   replace H := Option.bind_eq_some_iff.mp H
   obtain ⟨t46, A90, H⟩ := H
   replace H : (if t46 = true then ((impl_within.f a2 1 1000000).bind fun t39 => (impl_CommitChain.j0 k l0 a1 a2 t35 (!t39))) else (impl_CommitChain.j0 k l0 a1 a2 t35 true)) = some (r1, r2) := H
   have A9 := Aside0.mk A90
   clear A90
   by_cases c10 : t46 = true
   ·subst c10
    have H1 : ((impl_within.f a2 1 1000000).bind fun t39 => (impl_CommitChain.j0 k l0 a1 a2 t35 (!t39))) = some (r1, r2) := by rw [if_pos rfl] at H; exact H
    clear H
    have H := H1
    clear H1
    replace H := Option.bind_eq_some_iff.mp H
    obtain ⟨t39, A48, H⟩ := H
    replace H : (impl_CommitChain.j0 k l0 a1 a2 t35 (!t39)) = some (r1, r2) := H
    have A11 := Aside0.mk A48
    clear A48
    have H' := Aside0.mk H
    clear H
    go_wp2_with (first | ((with_reducible refine gate_callee (f := 28) rfl ?_); refine goesL_ (some 16) rfl rfl Try.func28 (by kernel_rfl) rfl #[.int .i64 a1] rfl zm ?_; (with_reducible refine (impl_isTxn.calls a1 true _ A9.out).mono ?_); rintro e w' ⟨rfl, ⟨nd, rfl⟩⟩; refine ⟨_, rfl, ?_⟩) | (go_at_call 42; (with_reducible refine (impl_within.calls a2 1 1000000 t39 _ A11.out).mono ?_); rintro e w' ⟨rfl, ⟨nd, rfl⟩⟩))
    go_meet
    case rel => exact ⟨_, (!t39), zs, H', ⟨by first | omega | exact Nat.le_refl _⟩, ⟨by (with_reducible repeat (first | refine blk_drewN ?_ _ | refine blk_drew ?_ | refine blk_alloc ?_ _)); exact BK34.out⟩, ⟨zb⟩⟩
   replace c10 := Bool.eq_false_iff.mpr c10
   subst c10
   have H1 : (impl_CommitChain.j0 k l0 a1 a2 t35 true) = some (r1, r2) := by rw [if_neg (show ¬ (false = true) by decide)] at H; exact H
   clear H
   have H := H1
   clear H1
   have H' := Aside0.mk H
   clear H
   go_wp2_with (first | ((with_reducible refine gate_callee (f := 28) rfl ?_); refine goesL_ (some 16) rfl rfl Try.func28 (by kernel_rfl) rfl #[.int .i64 a1] rfl zm ?_; (with_reducible refine (impl_isTxn.calls a1 false _ A9.out).mono ?_); rintro e w' ⟨rfl, ⟨nd, rfl⟩⟩; refine ⟨_, rfl, ?_⟩))
   go_meet
   case rel => exact ⟨_, (true), zs, H', ⟨by first | omega | exact Nat.le_refl _⟩, ⟨by (with_reducible repeat (first | refine blk_drewN ?_ _ | refine blk_drew ?_ | refine blk_alloc ?_ _)); exact BK34.out⟩, ⟨zb⟩⟩
  case rest =>
   clear HC6
   try clear c1
   try clear c2
   try clear p2
   try clear c5
   try clear c5b0
   try clear c5b1
   try clear c9
   try clear c10
   obtain ⟨kq, x14_5, rfl, HA, HJ5, BK34, HB⟩ := hcut
   cases kq with
   | zero => exact absurd HA.out (by simp [impl_CommitChain.j0])
   | succ kj5 =>
    have H := HA.out
    clear HA
    simp only [impl_CommitChain.j0] at H
    by_cases c12 : x14_5 = true
    ·subst c12
     have H1 : (some (3, ([] : List (S51)))) = some (r1, r2) := by rw [if_pos rfl] at H; exact H
     clear H
     have H := H1
     clear H1
     simp only [Option.some.injEq, Prod.mk.injEq] at H
     obtain ⟨rfl, rfl⟩ := H
     obtain ⟨hcz13_0, hcz13_1, hfz13_0, hfz13_1⟩ := Lv.blks2 BK34.out
     go_wp2
     refine bodyPost_ret (results_cell_row rfl _ _ gb34 28 #[.int .i64 3, .slice none 0 0] (0, 0) _ rfl (by (with_reducible repeat (first | refine blk_drewN ?_ _ | refine blk_drew ?_ | refine blk_alloc ?_ _)); refine blk_put (cs := #[.int .i64 3, .slice none 0 0]) ?_ 1 _ rfl; (with_reducible repeat (first | refine blk_drewN ?_ _ | refine blk_drew ?_ | refine blk_alloc ?_ _)); refine blk_put (cs := #[.int .i64 0, .slice none 0 0]) ?_ 0 _ rfl; (with_reducible repeat (first | refine blk_drewN ?_ _ | refine blk_drew ?_ | refine blk_alloc ?_ _)); exact BK34.out) Try.underlying28 rfl (by kernel_rfl)) rfl ?_
     exact ⟨_, ze, by first | exact Kd.R_nil _ _ _ _ _ | exact Kd.N_nil _ _ _ _ _ | exact Kd.V_nil _ _ _ _ _ | exact Kd.Q_nil _ _ _ _ _ | exact Kd.S_nil _ _ _ _ _, zb⟩
    replace c12 := Bool.eq_false_iff.mpr c12
    subst c12
    have H1 : ((impl_isOpenOf.f l0 a1).bind fun t47 => (if t47 = true then (if (l0.length : Int) > 1 then (if 1 < (l0.length : Int) then (impl_CommitChain.j1 kj5 l0 a2 t35 (decide (a2 ≤ ((rd_T51 l0 1).f1)))) else (none)) else (impl_CommitChain.j1 kj5 l0 a2 t35 false)) else (some (4, ([] : List (S51)))))) = some (r1, r2) := by rw [if_neg (show ¬ (false = true) by decide)] at H; exact H
    clear H
    have H := H1
    clear H1
    replace H := Option.bind_eq_some_iff.mp H
    obtain ⟨t47, A50, H⟩ := H
    replace H : (if t47 = true then (if (l0.length : Int) > 1 then (if 1 < (l0.length : Int) then (impl_CommitChain.j1 kj5 l0 a2 t35 (decide (a2 ≤ ((rd_T51 l0 1).f1)))) else (none)) else (impl_CommitChain.j1 kj5 l0 a2 t35 false)) else (some (4, ([] : List (S51))))) = some (r1, r2) := H
    have A14 := Aside0.mk A50
    clear A50
    by_cases c15 : t47 = true
    ·subst c15
     have H1 : (if (l0.length : Int) > 1 then (if 1 < (l0.length : Int) then (impl_CommitChain.j1 kj5 l0 a2 t35 (decide (a2 ≤ ((rd_T51 l0 1).f1)))) else (none)) else (impl_CommitChain.j1 kj5 l0 a2 t35 false)) = some (r1, r2) := by rw [if_pos rfl] at H; exact H
     clear H
     have H := H1
     clear H1
     have HC16 := Aside0.mk H
     clear H
     go_upto_region 7 with (first | ((with_reducible refine gate_callee (f := 43) rfl ?_); refine goesL_ (some 26) rfl rfl Try.func43 (by kernel_rfl) rfl #[.slice A0 l0.length c0, .int .i64 a1] rfl zm ?_; (with_reducible refine (impl_isOpenOf.calls _ _ l0 a1 true _ ?side1 ?side2 A14.out).mono ?_); (case side1 => repeat (first | exact (Kd.C_below HR0.out HB.out) | (with_reducible first | refine Kd.C_alloc ?_ _ | refine Kd.C_drewN ?_ _ | refine Kd.C_drew ?_))); (case side2 => exact HC0.out); rintro e w' ⟨rfl, ⟨nd, rfl⟩⟩; refine ⟨_, rfl, ?_⟩))
     (try simp only [Act.put, List.setIfInBounds_toArray, List.set_cons_zero, List.set_cons_succ])
     go_cut [28] (fun v28 wc => ∃ (kq : Nat) (x28_15 : Bool), v28 = .bool x28_15 ∧ Aside0 (impl_CommitChain.j1 kq l0 a2 t35 x28_15 = some (r1, r2)) ∧ Aside0 (kq ≤ kj5) ∧ Aside0 (wc.heap[gb34]? = some (.cells #[.int .i64 0, (.slice none 0 0)] 28 (0, 0))) ∧ Aside0 (Below w.heap.size w wc))
     case first =>
      have H := HC16.out
      clear HC16
      by_cases c17 : (l0.length : Int) > 1
      ·rw [if_pos c17] at H
       have c17b0 : decide (1 < (l0.length : Int)) = true := decide_eq_true c17
       have c17b1 : decide (1 < l0.length) = true := decide_eq_true (by omega)
       clear c17
       (first | rw [c17b0] | (simp only [i64_w, i32_w]; rw [c17b0]) | skip)
       by_cases c18 : 1 < (l0.length : Int)
       ·rw [if_pos c18] at H
        have c18b0 : decide (1 < (l0.length : Int)) = true := decide_eq_true c18
        have c18b1 : decide (1 < l0.length) = true := decide_eq_true (by omega)
        clear c18
        have H' := Aside0.mk H
        clear H
        have p463 : 0 ≤ (1 : Int) := (by omega)
        have q38 : 1 < (l0.length : Int) := of_decide_eq_true za
        obtain ⟨ad38, e463, hx38_0, hx38_1, hx38_2, hx38_3⟩ := at_T51 HR0.out 1 p463 q38
        cases e463
        (try simp only [show (1 : Int).toNat = 1 from rfl, Nat.reduceMul, Nat.reduceEqDiff, Go.Addr.add, ↓reduceIte] at hx38_0)
        (try simp only [show (1 : Int).toNat = 1 from rfl, Nat.reduceMul, Nat.reduceEqDiff, Go.Addr.add, ↓reduceIte] at hx38_1)
        (try simp only [show (1 : Int).toNat = 1 from rfl, Nat.reduceMul, Nat.reduceEqDiff, Go.Addr.add, ↓reduceIte] at hx38_2)
        (try simp only [show (1 : Int).toNat = 1 from rfl, Nat.reduceMul, Nat.reduceEqDiff, Go.Addr.add, ↓reduceIte] at hx38_3)
        have qi463 : (1 < l0.length) = True := eq_true (by omega)
        (try rw [show ((1 : Int)).toNat = 1 from rfl] at hx38_0)
        (try rw [show 1 * 4 = 4 from rfl] at hx38_0)
        (try rw [show ((1 : Int)).toNat = 1 from rfl] at hx38_1)
        (try rw [show 1 * 4 = 4 from rfl] at hx38_1)
        (try rw [show ((1 : Int)).toNat = 1 from rfl] at hx38_2)
        (try rw [show 1 * 4 = 4 from rfl] at hx38_2)
        (try rw [show ((1 : Int)).toNat = 1 from rfl] at hx38_3)
        (try rw [show 1 * 4 = 4 from rfl] at hx38_3)
        replace hx38_0 := zx HB hx38_0
        replace hx38_1 := zx HB hx38_1
        replace hx38_2 := zx HB hx38_2
        replace hx38_3 := zx HB hx38_3
        replace p463 := eq_true p463
        replace q38 := eq_true q38
        go_wp2
        go_meet
        case rel => exact ⟨_, (decide (a2 ≤ ((rd_T51 l0 1).f1))), zs, H', ⟨by have := HJ5.out; first | omega | exact Nat.le_refl _⟩, ⟨by (with_reducible repeat (first | refine blk_drewN ?_ _ | refine blk_drew ?_ | refine blk_alloc ?_ _)); exact BK34.out⟩, ⟨zb⟩⟩
       rw [if_neg c18] at H
       exact absurd H (by simp)
      rw [if_neg c17] at H
      have c17b0 : decide (1 < (l0.length : Int)) = false := decide_eq_false c17
      have c17b1 : decide (1 < l0.length) = false := decide_eq_false (by omega)
      clear c17
      (first | rw [c17b0] | (simp only [i64_w, i32_w]; rw [c17b0]) | skip)
      have H' := Aside0.mk H
      clear H
      go_wp2
      go_meet
      case rel => exact ⟨_, (false), zs, H', ⟨by have := HJ5.out; first | omega | exact Nat.le_refl _⟩, ⟨by (with_reducible repeat (first | refine blk_drewN ?_ _ | refine blk_drew ?_ | refine blk_alloc ?_ _)); exact BK34.out⟩, ⟨zb⟩⟩
     case rest =>
      clear HC16
      try clear c1
      try clear c2
      try clear p2
      try clear c4
      try clear p4
      try clear q4
      try clear hx4
      try clear qi4
      try clear c5
      try clear c5b0
      try clear c5b1
      try clear c9
      try clear c10
      try clear c12
      try clear c15
      try clear c16
      try clear c17
      try clear c17b0
      try clear c17b1
      try clear c18
      try clear c18b0
      try clear c18b1
      try clear hcz13_0 hcz13_1 hfz13_0 hfz13_1
      try clear hx38_0
      try clear hx38_1
      try clear hx38_2
      try clear hx38_3
      try clear p2
      try clear p463
      try clear q38
      obtain ⟨kq, x28_15, rfl, HA, HJ15, BK34, HB⟩ := hcut
      cases kq with
      | zero => exact absurd HA.out (by simp [impl_CommitChain.j1])
      | succ kj15 =>
       have H := HA.out
       clear HA
       simp only [impl_CommitChain.j1] at H
       by_cases c19 : x28_15 = true
       ·subst c19
        have H1 : (some (1, ([] : List (S51)))) = some (r1, r2) := by rw [if_pos rfl] at H; exact H
        clear H
        have H := H1
        clear H1
        simp only [Option.some.injEq, Prod.mk.injEq] at H
        obtain ⟨rfl, rfl⟩ := H
        obtain ⟨hcz20_0, hcz20_1, hfz20_0, hfz20_1⟩ := Lv.blks2 BK34.out
        go_wp2
        refine bodyPost_ret (results_cell_row rfl _ _ gb34 28 #[.int .i64 1, .slice none 0 0] (0, 0) _ rfl (by (with_reducible repeat (first | refine blk_drewN ?_ _ | refine blk_drew ?_ | refine blk_alloc ?_ _)); refine blk_put (cs := #[.int .i64 1, .slice none 0 0]) ?_ 1 _ rfl; (with_reducible repeat (first | refine blk_drewN ?_ _ | refine blk_drew ?_ | refine blk_alloc ?_ _)); refine blk_put (cs := #[.int .i64 0, .slice none 0 0]) ?_ 0 _ rfl; (with_reducible repeat (first | refine blk_drewN ?_ _ | refine blk_drew ?_ | refine blk_alloc ?_ _)); exact BK34.out) Try.underlying28 rfl (by kernel_rfl)) rfl ?_
        exact ⟨_, ze, by first | exact Kd.R_nil _ _ _ _ _ | exact Kd.N_nil _ _ _ _ _ | exact Kd.V_nil _ _ _ _ _ | exact Kd.Q_nil _ _ _ _ _ | exact Kd.S_nil _ _ _ _ _, zb⟩
       replace c19 := Bool.eq_false_iff.mpr c19
       subst c19
       have H1 : (if t35 = 0 then ((slices_Clone_impl_Version.f l0).bind fun t36 => (if 0 < (t36.length : Int) then (some (0, (t36.set (0 : Int).toNat (⟨(rd_T51 t36 0).f0, a2, (rd_T51 t36 0).f2, (rd_T51 t36 0).f3⟩ : S51)))) else (none))) else (some (t35, ([] : List (S51))))) = some (r1, r2) := by rw [if_neg (show ¬ (false = true) by decide)] at H; exact H
       clear H
       have H := H1
       clear H1
       by_cases c21 : t35 = 0
       ·rw [if_pos c21] at H
        have c21b0 : (t35 == 0) = true := beq_iff_eq.mpr c21
        have c21b1 : (t35 != 0) = false := bne_eq_false_iff_eq.mpr c21
        clear c21
        replace H := Option.bind_eq_some_iff.mp H
        obtain ⟨t36, A52, H⟩ := H
        replace H : (if 0 < (t36.length : Int) then (some (0, (t36.set (0 : Int).toNat (⟨(rd_T51 t36 0).f0, a2, (rd_T51 t36 0).f2, (rd_T51 t36 0).f3⟩ : S51)))) else (none)) = some (r1, r2) := H
        have A22 := Aside0.mk A52
        clear A52
        by_cases c23 : 0 < (t36.length : Int)
        ·rw [if_pos c23] at H
         have c23b0 : decide (0 < (t36.length : Int)) = true := decide_eq_true c23
         have c23b1 : decide (0 < t36.length) = true := decide_eq_true (by omega)
         clear c23
         obtain ⟨y41, hy41⟩ : ∃ y_ : List (S51), y_ = (t36.set (0 : Int).toNat (⟨(rd_T51 t36 0).f0, a2, (rd_T51 t36 0).f2, (rd_T51 t36 0).f3⟩ : S51)) := ⟨_, rfl⟩
         replace H : (some (0, y41)) = some (r1, r2) := by first | (rw [hy41]; with_reducible exact H) | (have H2_ := (Option.bind_some _ _).symm.trans H; rw [hy41]; with_reducible exact H2_) | (have H2_ := (Option.bind_some _ _).symm.trans H; with_reducible exact H2_) | with_reducible exact H | (rw [hy41]; exact H) | exact H
         have Ny41 := Aside0.mk hy41
         clear hy41
         simp only [Option.some.injEq, Prod.mk.injEq] at H
         obtain ⟨rfl, rfl⟩ := H
         go_wp2_with (first | ((with_reducible refine gate_callee (f := 37) rfl ?_); refine goesL_ (some 45) rfl rfl Try.func37 (by kernel_rfl) rfl #[.slice A0 l0.length c0] rfl zm ?_; (with_reducible refine (slices_Clone_impl_Version.calls _ _ l0 t36 _ ?side1 ?side2 A22.out).mono ?_); (case side1 => repeat (first | exact (Kd.C_below HR0.out HB.out) | (with_reducible first | refine Kd.C_alloc ?_ _ | refine Kd.C_drewN ?_ _ | refine Kd.C_drew ?_))); (case side2 => exact HC0.out); rintro e w25 ⟨v53, rfl, ho0, hb⟩; refine ⟨_, rfl, ?_⟩; have n0_ := Aside0.mk (Kd.R_lower ho0 (below_size zb)); have n1_ := Aside0.mk (blk_below (g := gb34) (o := .cells #[.int .i64 0, .slice none 0 0] 28 (0, 0)) zk hb); have n2_ := Aside0.mk (below_step zb hb); clear BK34; clear HB; have HO44 := n0_; have BK34 := n1_; have HB := n2_; clear n0_ n1_ n2_; (try clear hb); (try clear hb2); (try clear hk); (try clear hi); (try clear ho0); have p24 : 0 ≤ (0 : Int) := (by omega); have q24 : (0 : Int) < ((t36.length : Int) : Int) := of_decide_eq_true za; have qi24 : (0 < t36.length) = True := eq_true (by omega); obtain ⟨go24, co24, eo24, gb24, gl24, cl24, HG24⟩ := Kd.R_form HO44.out (by omega); (first | cases eo24 | (injection eo24 with ea_ en_ ec_; (first | subst ea_ | (injection ea_ with ea_; subst ea_)); subst ec_; clear en_)); have GB24 := Aside0.mk gb24; have GG24 := Aside0.mk HG24; clear gb24 gl24 HG24; obtain ⟨ce24, hcl24, hM24, hcc24, hfr24⟩ := Kd.R_elem HO44.out z51 (0 : Int) p24 q24; obtain rfl := k51_openM hM24; have hx24_0 : w25.cell? ⟨go24, (0 : Int).toNat * 4, none⟩ = some (.int .i64 ((rd_T51 t36 0).f0)) := hcc24 0 _ rfl; have hx24_1 : w25.cell? ⟨go24, (0 : Int).toNat * 4 + 1, none⟩ = some (.int .i64 ((rd_T51 t36 0).f1)) := hcc24 1 _ rfl; have hx24_2 : w25.cell? ⟨go24, (0 : Int).toNat * 4 + 2, none⟩ = some (.bool ((rd_T51 t36 0).f2)) := hcc24 2 _ rfl; have hx24_3 : w25.cell? ⟨go24, (0 : Int).toNat * 4 + 3, none⟩ = some (.int .i64 ((rd_T51 t36 0).f3)) := hcc24 3 _ rfl; have hf24_0 : w25.frozen? ⟨go24, (0 : Int).toNat * 4, none⟩ = false := hfr24 0; have hf24_1 : w25.frozen? ⟨go24, (0 : Int).toNat * 4 + 1, none⟩ = false := hfr24 1; have hf24_2 : w25.frozen? ⟨go24, (0 : Int).toNat * 4 + 2, none⟩ = false := hfr24 2; have hf24_3 : w25.frozen? ⟨go24, (0 : Int).toNat * 4 + 3, none⟩ = false := hfr24 3; clear hcl24 hcc24 hfr24; (try clear hM24); (try rw [show ((0 : Int)).toNat = 0 from rfl] at hx24_0); (try simp only [Nat.reduceMul, Nat.zero_mul, Nat.zero_add, Nat.reduceAdd] at hx24_0); (try rw [show ((0 : Int)).toNat = 0 from rfl] at hf24_0); (try simp only [Nat.reduceMul, Nat.zero_mul, Nat.zero_add, Nat.reduceAdd] at hf24_0); (try rw [show ((0 : Int)).toNat = 0 from rfl] at hx24_1); (try simp only [Nat.reduceMul, Nat.zero_mul, Nat.zero_add, Nat.reduceAdd] at hx24_1); (try rw [show ((0 : Int)).toNat = 0 from rfl] at hf24_1); (try simp only [Nat.reduceMul, Nat.zero_mul, Nat.zero_add, Nat.reduceAdd] at hf24_1); (try rw [show ((0 : Int)).toNat = 0 from rfl] at hx24_2); (try simp only [Nat.reduceMul, Nat.zero_mul, Nat.zero_add, Nat.reduceAdd] at hx24_2); (try rw [show ((0 : Int)).toNat = 0 from rfl] at hf24_2); (try simp only [Nat.reduceMul, Nat.zero_mul, Nat.zero_add, Nat.reduceAdd] at hf24_2); (try rw [show ((0 : Int)).toNat = 0 from rfl] at hx24_3); (try simp only [Nat.reduceMul, Nat.zero_mul, Nat.zero_add, Nat.reduceAdd] at hx24_3); (try rw [show ((0 : Int)).toNat = 0 from rfl] at hf24_3); (try simp only [Nat.reduceMul, Nat.zero_mul, Nat.zero_add, Nat.reduceAdd] at hf24_3); replace p24 := eq_true p24; replace q24 := eq_true q24; have HX26 := Aside0.mk (show Kd.R k51 51 w25 w.heap.size (fun _ => True) (.slice (some ⟨go24, 0, none⟩) t36.length co24) t36 from (by (with_reducible repeat (first | apply Kd.R_alloc | apply Kd.R_drewN | apply Kd.R_drew)); exact HO44.out)); obtain ⟨ce26, hcl26, hM26, hcc26, hfr26⟩ := Kd.R_elem HX26.out z51 (0 : Int) (by omega) (by have h_ : (0 : Int) < ((t36.length : Int) : Int) := of_decide_eq_true za; first | exact h_ | (have e_ := (Kd.R_reads' HO44.out).1; omega) | simpa using h_); obtain rfl := k51_openM hM26; have HP26 := Kd.R_seg HX26.out (0 : Int) (by omega) (by have h_ : (0 : Int) < ((t36.length : Int) : Int) := of_decide_eq_true za; first | exact h_ | (have e_ := (Kd.R_reads' HO44.out).1; omega) | simpa using h_) (seg := [.int .i64 a2]) (j := 1) hcl26 hcc26 (show 2 ≤ 4 from by decide) (x' := (⟨(rd_T51 t36 0).f0, a2, (rd_T51 t36 0).f2, (rd_T51 t36 0).f3⟩ : S51)) (k51_mkM _ _ _ (⟨(rd_T51 t36 0).f0, a2, (rd_T51 t36 0).f2, (rd_T51 t36 0).f3⟩ : S51) ) (fun _ hk => hk); have hx26_1 := hcc26 1 _ rfl; (try simp only [show (k51).sz = 4 from rfl, Nat.mul_one, Nat.add_zero] at hx26_1); (try rw [show ((0 : Int)).toNat = 0 from rfl] at hx26_1); (try simp only [Nat.reduceMul, Nat.zero_mul, Nat.zero_add, Nat.reduceAdd] at hx26_1); have hf26_1 := hfr26 1; (try simp only [show (k51).sz = 4 from rfl, Nat.mul_one, Nat.add_zero] at hf26_1); (try rw [show ((0 : Int)).toNat = 0 from rfl] at hf26_1); (try simp only [Nat.reduceMul, Nat.zero_mul, Nat.zero_add, Nat.reduceAdd] at hf26_1); clear hcl26 hcc26 hfr26; (try clear hM26)) | ((with_reducible refine gate_store (t := 2) (p := 49) rfl ?_); refine store_event (t := 2) (p := 49) (v := ?vo_w27) (w1 := (w25.setCell ⟨go24, 1, none⟩ (.int .i64 a2))) ?hg ?ho ?hn ?hr ?_; (case ho => rfl); (case hg => rfl); (case hn => rfl); (case hr => first | (go_simp; done) | (go_simp; rfl)); intro w27 hw; have hg : w25.grownBy w27 (some go24) := (by rw [hw]; exact HP26.2); have hp_ : Kd.R k51 51 w27 w.heap.size (fun _ => True) (.slice (some ⟨go24, 0, none⟩) t36.length co24) y41 := (by rw [hw, Ny41.out]; exact HP26.1); clear HP26; have n0_ := Aside0.mk (blk_grown (g := gb34) (o := .cells #[.int .i64 0, .slice none 0 0] 28 (0, 0)) zk hg (Kd.R_ne HO44.out BK34.out (by decide))); have n1_ := Aside0.mk (hp_); have n2_ := Aside0.mk ((by rw [hw]; exact below_set (HB.out) GB24.out : Below w.heap.size w w27)); clear BK34; clear HO44; clear HB; have BK34 := n0_; have HO44 := n1_; have HB := n2_; clear n0_ n1_ n2_; clear hg hw hp_; obtain ⟨hcz28_0, hcz28_1, hfz28_0, hfz28_1⟩ := Lv.blks2 BK34.out))
         refine bodyPost_ret (results_cell_row rfl _ _ gb34 28 #[.int .i64 0, .slice (some ⟨go24, 0, none⟩) t36.length co24] (0, 0) _ rfl (by (with_reducible repeat (first | refine blk_drewN ?_ _ | refine blk_drew ?_ | refine blk_alloc ?_ _)); refine blk_put (cs := #[.int .i64 0, .slice none 0 0]) ?_ 1 _ rfl; (with_reducible repeat (first | refine blk_drewN ?_ _ | refine blk_drew ?_ | refine blk_alloc ?_ _)); refine blk_put (cs := #[.int .i64 0, .slice none 0 0]) ?_ 0 _ rfl; (with_reducible repeat (first | refine blk_drewN ?_ _ | refine blk_drew ?_ | refine blk_alloc ?_ _)); exact BK34.out) Try.underlying28 rfl (by kernel_rfl)) rfl ?_
         exact ⟨_, ze, by (with_reducible repeat (first | apply Kd.R_alloc | apply Kd.R_drewN | apply Kd.R_drew)); exact Kd.R_mono (Kd.R_far (p := ⟨gb34, 1, none⟩) (Kd.R_far (p := ⟨gb34, 0, none⟩) (Kd.R_types HO44.out BK34.out (by decide)) (fun _ hk => hk.2) (.int .i64 0)) (fun _ hk => hk.2) (.slice (some ⟨go24, 0, none⟩) t36.length co24)) (fun _ hk => trivial), zb⟩
        rw [if_neg c23] at H
        exact absurd H (by simp)
       rw [if_neg c21] at H
       have c21b0 : (t35 == 0) = false := beq_eq_false_iff_ne.mpr c21
       have c21b1 : (t35 != 0) = true := bne_iff_ne.mpr c21
       simp only [Option.some.injEq, Prod.mk.injEq] at H
       obtain ⟨rfl, rfl⟩ := H
       obtain ⟨hcz29_0, hcz29_1, hfz29_0, hfz29_1⟩ := Lv.blks2 BK34.out
       go_wp2
       refine bodyPost_ret (results_cell_row rfl _ _ gb34 28 #[.int .i64 t35, .slice none 0 0] (0, 0) _ rfl (by (with_reducible repeat (first | refine blk_drewN ?_ _ | refine blk_drew ?_ | refine blk_alloc ?_ _)); refine blk_put (cs := #[.int .i64 t35, .slice none 0 0]) ?_ 1 _ rfl; (with_reducible repeat (first | refine blk_drewN ?_ _ | refine blk_drew ?_ | refine blk_alloc ?_ _)); refine blk_put (cs := #[.int .i64 0, .slice none 0 0]) ?_ 0 _ rfl; (with_reducible repeat (first | refine blk_drewN ?_ _ | refine blk_drew ?_ | refine blk_alloc ?_ _)); exact BK34.out) Try.underlying28 rfl (by kernel_rfl)) rfl ?_
       exact ⟨_, ze, by first | exact Kd.R_nil _ _ _ _ _ | exact Kd.N_nil _ _ _ _ _ | exact Kd.V_nil _ _ _ _ _ | exact Kd.Q_nil _ _ _ _ _ | exact Kd.S_nil _ _ _ _ _, zb⟩
    replace c15 := Bool.eq_false_iff.mpr c15
    subst c15
    have H1 : (some (4, ([] : List (S51)))) = some (r1, r2) := by rw [if_neg (show ¬ (false = true) by decide)] at H; exact H
    clear H
    have H := H1
    clear H1
    simp only [Option.some.injEq, Prod.mk.injEq] at H
    obtain ⟨rfl, rfl⟩ := H
    go_wp2_with (first | ((with_reducible refine gate_callee (f := 43) rfl ?_); refine goesL_ (some 26) rfl rfl Try.func43 (by kernel_rfl) rfl #[.slice A0 l0.length c0, .int .i64 a1] rfl zm ?_; (with_reducible refine (impl_isOpenOf.calls _ _ l0 a1 false _ ?side1 ?side2 A14.out).mono ?_); (case side1 => repeat (first | exact (Kd.C_below HR0.out HB.out) | (with_reducible first | refine Kd.C_alloc ?_ _ | refine Kd.C_drewN ?_ _ | refine Kd.C_drew ?_))); (case side2 => exact HC0.out); rintro e w' ⟨rfl, ⟨nd, rfl⟩⟩; refine ⟨_, rfl, ?_⟩; (try (rw [drewN_self wc]; generalize hq_ : World.drewN wc _ = wc; have n0_ : Aside0 (wc.heap[gb34]? = some (.cells #[.int .i64 0, .slice none 0 0] 28 (0, 0))) := ⟨by rw [← hq_]; exact zk⟩; have n1_ : Aside0 (Below w.heap.size w wc) := ⟨by rw [← hq_]; exact zb⟩; clear BK34 HB hq_; have BK34 := n0_; have HB := n1_; clear n0_ n1_)); obtain ⟨hcz30_0, hcz30_1, hfz30_0, hfz30_1⟩ := Lv.blks2 BK34.out))
    refine bodyPost_ret (results_cell_row rfl _ _ gb34 28 #[.int .i64 4, .slice none 0 0] (0, 0) _ rfl (by (with_reducible repeat (first | refine blk_drewN ?_ _ | refine blk_drew ?_ | refine blk_alloc ?_ _)); refine blk_put (cs := #[.int .i64 4, .slice none 0 0]) ?_ 1 _ rfl; (with_reducible repeat (first | refine blk_drewN ?_ _ | refine blk_drew ?_ | refine blk_alloc ?_ _)); refine blk_put (cs := #[.int .i64 0, .slice none 0 0]) ?_ 0 _ rfl; (with_reducible repeat (first | refine blk_drewN ?_ _ | refine blk_drew ?_ | refine blk_alloc ?_ _)); exact BK34.out) Try.underlying28 rfl (by kernel_rfl)) rfl ?_
    exact ⟨_, ze, by first | exact Kd.R_nil _ _ _ _ _ | exact Kd.N_nil _ _ _ _ _ | exact Kd.V_nil _ _ _ _ _ | exact Kd.Q_nil _ _ _ _ _ | exact Kd.S_nil _ _ _ _ _, zb⟩
 rw [if_neg c5] at H
 have c5b0 : (t35 == 0) = false := beq_eq_false_iff_ne.mpr c5
 have c5b1 : (t35 != 0) = true := bne_iff_ne.mpr c5
 simp only [Option.some.injEq, Prod.mk.injEq] at H
 obtain ⟨rfl, rfl⟩ := H
 go_enter Try.func16, Try.ntmps16
 go_wp2_with (first | ((with_reducible refine gate_dst (N := 6) rfl ?_); refine box_event ?hg (N := 6) ?hd (cs := #[.int .i64 0, .slice none 0 0]) (t := 28) ?hr ?_; (case hd => rfl); (case hg => rfl); (case hr => first | (go_simp; done) | (go_simp; rfl)); intro gb34 hg w31 hbox hb; have n0_ := Aside0.mk (below_step zb hb); have n1_ := Aside0.mk (hbox); have n2_ := Aside0.mk ((by rw [hg]; exact (below_size zb) : w.heap.size ≤ gb34)); have n3_ := n2_; clear HB; have HB := n0_; have BK34 := n1_; have GW34 := n2_; have GE34 := n3_; clear n0_ n1_ n2_ n3_; clear hb hbox hg) | ((with_reducible refine gate_callee (f := 9) rfl ?_); refine goesL_ (some 10) rfl rfl Try.func9 (by kernel_rfl) rfl #[.slice A0 l0.length c0] rfl zm ?_; (with_reducible refine (impl_ChainFault.calls k _ _ l0 t35 _ ?side1 ?side2 A4.out).mono ?_); (case side1 => repeat (first | exact (Kd.C_below HR0.out HB.out) | (with_reducible first | refine Kd.C_alloc ?_ _ | refine Kd.C_drewN ?_ _ | refine Kd.C_drew ?_))); (case side2 => exact HC0.out); rintro e w32 ⟨rfl, hb⟩; refine ⟨_, rfl, ?_⟩; have n0_ := Aside0.mk (blk_below (g := gb34) (o := .cells #[.int .i64 0, .slice none 0 0] 28 (0, 0)) zk hb); have n1_ := Aside0.mk (below_step zb hb); clear BK34; clear HB; have BK34 := n0_; have HB := n1_; clear n0_ n1_; (try clear hb); (try clear hb2); (try clear hk); (try clear hi); obtain ⟨hcz33_0, hcz33_1, hfz33_0, hfz33_1⟩ := Lv.blks2 BK34.out))
 refine bodyPost_ret (results_cell_row rfl _ _ gb34 28 #[.int .i64 t35, .slice none 0 0] (0, 0) _ rfl (by (with_reducible repeat (first | refine blk_drewN ?_ _ | refine blk_drew ?_ | refine blk_alloc ?_ _)); refine blk_put (cs := #[.int .i64 t35, .slice none 0 0]) ?_ 1 _ rfl; (with_reducible repeat (first | refine blk_drewN ?_ _ | refine blk_drew ?_ | refine blk_alloc ?_ _)); refine blk_put (cs := #[.int .i64 0, .slice none 0 0]) ?_ 0 _ rfl; (with_reducible repeat (first | refine blk_drewN ?_ _ | refine blk_drew ?_ | refine blk_alloc ?_ _)); exact BK34.out) Try.underlying28 rfl (by kernel_rfl)) rfl ?_
 exact ⟨_, ze, by first | exact Kd.R_nil _ _ _ _ _ | exact Kd.N_nil _ _ _ _ _ | exact Kd.V_nil _ _ _ _ _ | exact Kd.Q_nil _ _ _ _ _ | exact Kd.S_nil _ _ _ _ _, zb⟩
set_option maxHeartbeats 8000000 in
set_option maxRecDepth 100000 in
theorem spec_CommitChain.calls (k : Nat) (A0 : Option Addr) (c0 : Nat) (l0 : List (S51)) (a1 : Int) (a2 : Int) (r1 : Int) (r2 : List (S51)) (w : World) (hr0 : Kd.C k51 w A0 l0.length l0) (hc0 : l0.length ≤ c0) (h : spec_CommitChain.f k l0 a1 a2 = some (r1, r2)) :
 Calls Try.prog 17 #[.slice A0 l0.length c0, .int .i64 a1, .int .i64 a2] w fun e w' => ∃ v1_ : Value, e = .returned (.agg #[.int .i64 r1, v1_]) ∧ Kd.R k51 51 w' w.heap.size (fun _ => True) v1_ r2 ∧ Below w.heap.size w w' := by
 have hu28 := Try.underlying28
 have HR0 := Aside0.mk hr0
 have HC0 := Aside0.mk hc0
 clear hr0 hc0
 have HB := Aside0.mk (Below.refl w.heap.size w)
 have H : ((spec_ChainFault.f k l0).bind fun t47 => (if t47 = 0 then ((spec_l5Txn.f a1).bind fun t55 => (if t55 = true then ((spec_l5At.f a2).bind fun t49 => (spec_CommitChain.j0 k l0 a1 a2 (!t49))) else (spec_CommitChain.j0 k l0 a1 a2 true))) else (some (t47, ([] : List (S51)))))) = some (r1, r2) := h
 clear h
 replace H := Option.bind_eq_some_iff.mp H
 obtain ⟨t47, A40, H⟩ := H
 replace H : (if t47 = 0 then ((spec_l5Txn.f a1).bind fun t55 => (if t55 = true then ((spec_l5At.f a2).bind fun t49 => (spec_CommitChain.j0 k l0 a1 a2 (!t49))) else (spec_CommitChain.j0 k l0 a1 a2 true))) else (some (t47, ([] : List (S51))))) = some (r1, r2) := H
 have A4 := Aside0.mk A40
 clear A40
 by_cases c5 : t47 = 0
 ·rw [if_pos c5] at H
  have c5b0 : (t47 == 0) = true := beq_iff_eq.mpr c5
  have c5b1 : (t47 != 0) = false := bne_eq_false_iff_eq.mpr c5
  clear c5
  have HC6 := Aside0.mk H
  clear H
  go_enter Try.func17, Try.ntmps17
  go_upto_region 4 with (first | ((with_reducible refine gate_dst (N := 6) rfl ?_); refine box_event ?hg (N := 6) ?hd (cs := #[.int .i64 0, .slice none 0 0]) (t := 28) ?hr ?_; (case hd => rfl); (case hg => rfl); (case hr => first | (go_simp; done) | (go_simp; rfl)); intro gb38 hg w7 hbox hb; have n0_ := Aside0.mk (below_step zb hb); have n1_ := Aside0.mk (hbox); have n2_ := Aside0.mk ((by rw [hg]; exact (below_size zb) : w.heap.size ≤ gb38)); have n3_ := n2_; clear HB; have HB := n0_; have BK38 := n1_; have GW38 := n2_; have GE38 := n3_; clear n0_ n1_ n2_ n3_; clear hb hbox hg) | ((with_reducible refine gate_callee (f := 25) rfl ?_); refine goesL_ (some 10) rfl rfl Try.func25 (by kernel_rfl) rfl #[.slice A0 l0.length c0] rfl zm ?_; (with_reducible refine (spec_ChainFault.calls k _ _ l0 t47 _ ?side1 ?side2 A4.out).mono ?_); (case side1 => repeat (first | exact (Kd.C_below HR0.out HB.out) | (with_reducible first | refine Kd.C_alloc ?_ _ | refine Kd.C_drewN ?_ _ | refine Kd.C_drew ?_))); (case side2 => exact HC0.out); rintro e w8 ⟨rfl, hb⟩; refine ⟨_, rfl, ?_⟩; have n0_ := Aside0.mk (blk_below (g := gb38) (o := .cells #[.int .i64 0, .slice none 0 0] 28 (0, 0)) zk hb); have n1_ := Aside0.mk (below_step zb hb); clear BK38; clear HB; have BK38 := n0_; have HB := n1_; clear n0_ n1_; (try clear hb); (try clear hb2); (try clear hk); (try clear hi)))
  (try simp only [Act.put, List.setIfInBounds_toArray, List.set_cons_zero, List.set_cons_succ])
  go_cut [22] (fun v22 wc => ∃ (kq : Nat) (x22_5 : Bool), v22 = .bool x22_5 ∧ Aside0 (spec_CommitChain.j0 kq l0 a1 a2 x22_5 = some (r1, r2)) ∧ Aside0 (kq ≤ k) ∧ Aside0 (wc.heap[gb38]? = some (.cells #[.int .i64 0, (.slice none 0 0)] 28 (0, 0))) ∧ Aside0 (Below w.heap.size w wc))
  case first =>
   have H := HC6.out
   clear HC6
   replace H := Option.bind_eq_some_iff.mp H
   obtain ⟨t55, A90, H⟩ := H
   replace H : (if t55 = true then ((spec_l5At.f a2).bind fun t49 => (spec_CommitChain.j0 k l0 a1 a2 (!t49))) else (spec_CommitChain.j0 k l0 a1 a2 true)) = some (r1, r2) := H
   have A9 := Aside0.mk A90
   clear A90
   by_cases c10 : t55 = true
   ·subst c10
    have H1 : ((spec_l5At.f a2).bind fun t49 => (spec_CommitChain.j0 k l0 a1 a2 (!t49))) = some (r1, r2) := by rw [if_pos rfl] at H; exact H
    clear H
    have H := H1
    clear H1
    replace H := Option.bind_eq_some_iff.mp H
    obtain ⟨t49, A56, H⟩ := H
    replace H : (spec_CommitChain.j0 k l0 a1 a2 (!t49)) = some (r1, r2) := H
    have A11 := Aside0.mk A56
    clear A56
    have H' := Aside0.mk H
    clear H
    go_wp2_with (first | ((with_reducible refine gate_callee (f := 44) rfl ?_); refine goesL_ (some 16) rfl rfl Try.func44 (by kernel_rfl) rfl #[.int .i64 a1] rfl zm ?_; (with_reducible refine (spec_l5Txn.calls a1 true _ A9.out).mono ?_); rintro e w' ⟨rfl, ⟨nd, rfl⟩⟩; refine ⟨_, rfl, ?_⟩) | (go_at_call 45; (with_reducible refine (spec_l5At.calls a2 t49 _ A11.out).mono ?_); rintro e w' ⟨rfl, ⟨nd, rfl⟩⟩))
    go_meet
    case rel => exact ⟨_, (!t49), zs, H', ⟨by first | omega | exact Nat.le_refl _⟩, ⟨by (with_reducible repeat (first | refine blk_drewN ?_ _ | refine blk_drew ?_ | refine blk_alloc ?_ _)); exact BK38.out⟩, ⟨zb⟩⟩
   replace c10 := Bool.eq_false_iff.mpr c10
   subst c10
   have H1 : (spec_CommitChain.j0 k l0 a1 a2 true) = some (r1, r2) := by rw [if_neg (show ¬ (false = true) by decide)] at H; exact H
   clear H
   have H := H1
   clear H1
   have H' := Aside0.mk H
   clear H
   go_wp2_with (first | ((with_reducible refine gate_callee (f := 44) rfl ?_); refine goesL_ (some 16) rfl rfl Try.func44 (by kernel_rfl) rfl #[.int .i64 a1] rfl zm ?_; (with_reducible refine (spec_l5Txn.calls a1 false _ A9.out).mono ?_); rintro e w' ⟨rfl, ⟨nd, rfl⟩⟩; refine ⟨_, rfl, ?_⟩))
   go_meet
   case rel => exact ⟨_, (true), zs, H', ⟨by first | omega | exact Nat.le_refl _⟩, ⟨by (with_reducible repeat (first | refine blk_drewN ?_ _ | refine blk_drew ?_ | refine blk_alloc ?_ _)); exact BK38.out⟩, ⟨zb⟩⟩
  case rest =>
   clear HC6
   try clear c1
   try clear c2
   try clear p2
   try clear c4
   try clear c5
   try clear c5b0
   try clear c5b1
   try clear c10
   obtain ⟨kq, x22_5, rfl, HA, HJ5, BK38, HB⟩ := hcut
   cases kq with
   | zero => exact absurd HA.out (by simp [spec_CommitChain.j0])
   | succ kj5 =>
    have H := HA.out
    clear HA
    simp only [spec_CommitChain.j0] at H
    by_cases c12 : x22_5 = true
    ·subst c12
     have H1 : (some (3, ([] : List (S51)))) = some (r1, r2) := by rw [if_pos rfl] at H; exact H
     clear H
     have H := H1
     clear H1
     simp only [Option.some.injEq, Prod.mk.injEq] at H
     obtain ⟨rfl, rfl⟩ := H
     obtain ⟨hcz13_0, hcz13_1, hfz13_0, hfz13_1⟩ := Lv.blks2 BK38.out
     go_wp2
     refine bodyPost_ret (results_cell_row rfl _ _ gb38 28 #[.int .i64 3, .slice none 0 0] (0, 0) _ rfl (by (with_reducible repeat (first | refine blk_drewN ?_ _ | refine blk_drew ?_ | refine blk_alloc ?_ _)); refine blk_put (cs := #[.int .i64 3, .slice none 0 0]) ?_ 1 _ rfl; (with_reducible repeat (first | refine blk_drewN ?_ _ | refine blk_drew ?_ | refine blk_alloc ?_ _)); refine blk_put (cs := #[.int .i64 0, .slice none 0 0]) ?_ 0 _ rfl; (with_reducible repeat (first | refine blk_drewN ?_ _ | refine blk_drew ?_ | refine blk_alloc ?_ _)); exact BK38.out) Try.underlying28 rfl (by kernel_rfl)) rfl ?_
     exact ⟨_, ze, by first | exact Kd.R_nil _ _ _ _ _ | exact Kd.N_nil _ _ _ _ _ | exact Kd.V_nil _ _ _ _ _ | exact Kd.Q_nil _ _ _ _ _ | exact Kd.S_nil _ _ _ _ _, zb⟩
    replace c12 := Bool.eq_false_iff.mpr c12
    subst c12
    have H1 : ((spec_l5Writer.f l0).bind fun t48 => (if t48 = a1 then (if (l0.length : Int) > 1 then (if 1 < (l0.length : Int) then (if ((rd_T51 l0 1).f1) ≥ a2 then (some (1, ([] : List (S51)))) else ((spec_l5Copy.f l0).bind fun t41 => (if 0 < (t41.length : Int) then (some (0, (t41.set (0 : Int).toNat (⟨(rd_T51 t41 0).f0, a2, (rd_T51 t41 0).f2, (rd_T51 t41 0).f3⟩ : S51)))) else (none)))) else (none)) else ((spec_l5Copy.f l0).bind fun t43 => (if 0 < (t43.length : Int) then (some (0, (t43.set (0 : Int).toNat (⟨(rd_T51 t43 0).f0, a2, (rd_T51 t43 0).f2, (rd_T51 t43 0).f3⟩ : S51)))) else (none)))) else (some (4, ([] : List (S51)))))) = some (r1, r2) := by rw [if_neg (show ¬ (false = true) by decide)] at H; exact H
    clear H
    have H := H1
    clear H1
    replace H := Option.bind_eq_some_iff.mp H
    obtain ⟨t48, A57, H⟩ := H
    replace H : (if t48 = a1 then (if (l0.length : Int) > 1 then (if 1 < (l0.length : Int) then (if ((rd_T51 l0 1).f1) ≥ a2 then (some (1, ([] : List (S51)))) else ((spec_l5Copy.f l0).bind fun t41 => (if 0 < (t41.length : Int) then (some (0, (t41.set (0 : Int).toNat (⟨(rd_T51 t41 0).f0, a2, (rd_T51 t41 0).f2, (rd_T51 t41 0).f3⟩ : S51)))) else (none)))) else (none)) else ((spec_l5Copy.f l0).bind fun t43 => (if 0 < (t43.length : Int) then (some (0, (t43.set (0 : Int).toNat (⟨(rd_T51 t43 0).f0, a2, (rd_T51 t43 0).f2, (rd_T51 t43 0).f3⟩ : S51)))) else (none)))) else (some (4, ([] : List (S51))))) = some (r1, r2) := H
    have A14 := Aside0.mk A57
    clear A57
    by_cases c15 : t48 = a1
    ·rw [if_pos c15] at H
     have c15b0 : (t48 == a1) = true := beq_iff_eq.mpr c15
     have c15b1 : (t48 != a1) = false := bne_eq_false_iff_eq.mpr c15
     clear c15
     by_cases c16 : (l0.length : Int) > 1
     ·rw [if_pos c16] at H
      have c16b0 : decide (1 < (l0.length : Int)) = true := decide_eq_true c16
      have c16b1 : decide (1 < l0.length) = true := decide_eq_true (by omega)
      clear c16
      by_cases c17 : 1 < (l0.length : Int)
      ·rw [if_pos c17] at H
       have c17b0 : decide (1 < (l0.length : Int)) = true := decide_eq_true c17
       have c17b1 : decide (1 < l0.length) = true := decide_eq_true (by omega)
       clear c17
       by_cases c18 : ((rd_T51 l0 1).f1) ≥ a2
       ·rw [if_pos c18] at H
        have c18b0 : decide (a2 ≤ ((rd_T51 l0 1).f1)) = true := decide_eq_true c18
        clear c18
        simp only [Option.some.injEq, Prod.mk.injEq] at H
        obtain ⟨rfl, rfl⟩ := H
        go_wp2_with (first | ((with_reducible refine gate_callee (f := 36) rfl ?_); refine goesL_ (some 25) rfl rfl Try.func36 (by kernel_rfl) rfl #[.slice A0 l0.length c0] rfl zm ?_; (with_reducible refine (spec_l5Writer.calls _ _ l0 t48 _ ?side1 ?side2 A14.out).mono ?_); (case side1 => repeat (first | exact (Kd.C_below HR0.out HB.out) | (with_reducible first | refine Kd.C_alloc ?_ _ | refine Kd.C_drewN ?_ _ | refine Kd.C_drew ?_))); (case side2 => exact HC0.out); rintro e w' ⟨rfl, ⟨nd, rfl⟩⟩; refine ⟨_, rfl, ?_⟩; (try (rw [drewN_self wc]; generalize hq_ : World.drewN wc _ = wc; have n0_ : Aside0 (wc.heap[gb38]? = some (.cells #[.int .i64 0, .slice none 0 0] 28 (0, 0))) := ⟨by rw [← hq_]; exact zk⟩; have n1_ : Aside0 (Below w.heap.size w wc) := ⟨by rw [← hq_]; exact zb⟩; clear BK38 HB hq_; have BK38 := n0_; have HB := n1_; clear n0_ n1_)); have p473 : 0 ≤ (1 : Int) := (by omega); have q39 : 1 < (l0.length : Int) := of_decide_eq_true za; obtain ⟨ad39, e473, hx39_0, hx39_1, hx39_2, hx39_3⟩ := at_T51 HR0.out 1 p473 q39; cases e473; (try simp only [show (1 : Int).toNat = 1 from rfl, Nat.reduceMul, Nat.reduceEqDiff, Go.Addr.add, ↓reduceIte] at hx39_0); (try simp only [show (1 : Int).toNat = 1 from rfl, Nat.reduceMul, Nat.reduceEqDiff, Go.Addr.add, ↓reduceIte] at hx39_1); (try simp only [show (1 : Int).toNat = 1 from rfl, Nat.reduceMul, Nat.reduceEqDiff, Go.Addr.add, ↓reduceIte] at hx39_2); (try simp only [show (1 : Int).toNat = 1 from rfl, Nat.reduceMul, Nat.reduceEqDiff, Go.Addr.add, ↓reduceIte] at hx39_3); have qi473 : (1 < l0.length) = True := eq_true (by omega); (try rw [show ((1 : Int)).toNat = 1 from rfl] at hx39_0); (try rw [show 1 * 4 = 4 from rfl] at hx39_0); (try rw [show ((1 : Int)).toNat = 1 from rfl] at hx39_1); (try rw [show 1 * 4 = 4 from rfl] at hx39_1); (try rw [show ((1 : Int)).toNat = 1 from rfl] at hx39_2); (try rw [show 1 * 4 = 4 from rfl] at hx39_2); (try rw [show ((1 : Int)).toNat = 1 from rfl] at hx39_3); (try rw [show 1 * 4 = 4 from rfl] at hx39_3); replace hx39_0 := (HB.out.cell (World.block_lt_of_cell? w _ hx39_0)).trans hx39_0; replace hx39_1 := (HB.out.cell (World.block_lt_of_cell? w _ hx39_1)).trans hx39_1; replace hx39_2 := (HB.out.cell (World.block_lt_of_cell? w _ hx39_2)).trans hx39_2; replace hx39_3 := (HB.out.cell (World.block_lt_of_cell? w _ hx39_3)).trans hx39_3; replace p473 := eq_true p473; replace q39 := eq_true q39; obtain ⟨hcz19_0, hcz19_1, hfz19_0, hfz19_1⟩ := Lv.blks2 BK38.out))
        refine bodyPost_ret (results_cell_row rfl _ _ gb38 28 #[.int .i64 1, .slice none 0 0] (0, 0) _ rfl (by (with_reducible repeat (first | refine blk_drewN ?_ _ | refine blk_drew ?_ | refine blk_alloc ?_ _)); refine blk_put (cs := #[.int .i64 1, .slice none 0 0]) ?_ 1 _ rfl; (with_reducible repeat (first | refine blk_drewN ?_ _ | refine blk_drew ?_ | refine blk_alloc ?_ _)); refine blk_put (cs := #[.int .i64 0, .slice none 0 0]) ?_ 0 _ rfl; (with_reducible repeat (first | refine blk_drewN ?_ _ | refine blk_drew ?_ | refine blk_alloc ?_ _)); exact BK38.out) Try.underlying28 rfl (by kernel_rfl)) rfl ?_
        exact ⟨_, ze, by first | exact Kd.R_nil _ _ _ _ _ | exact Kd.N_nil _ _ _ _ _ | exact Kd.V_nil _ _ _ _ _ | exact Kd.Q_nil _ _ _ _ _ | exact Kd.S_nil _ _ _ _ _, zb⟩
       rw [if_neg c18] at H
       have c18b0 : decide (a2 ≤ ((rd_T51 l0 1).f1)) = false := decide_eq_false c18
       clear c18
       replace H := Option.bind_eq_some_iff.mp H
       obtain ⟨t41, A58, H⟩ := H
       replace H : (if 0 < (t41.length : Int) then (some (0, (t41.set (0 : Int).toNat (⟨(rd_T51 t41 0).f0, a2, (rd_T51 t41 0).f2, (rd_T51 t41 0).f3⟩ : S51)))) else (none)) = some (r1, r2) := H
       have A20 := Aside0.mk A58
       clear A58
       by_cases c21 : 0 < (t41.length : Int)
       ·rw [if_pos c21] at H
        have c21b0 : decide (0 < (t41.length : Int)) = true := decide_eq_true c21
        have c21b1 : decide (0 < t41.length) = true := decide_eq_true (by omega)
        clear c21
        obtain ⟨y50, hy50⟩ : ∃ y_ : List (S51), y_ = (t41.set (0 : Int).toNat (⟨(rd_T51 t41 0).f0, a2, (rd_T51 t41 0).f2, (rd_T51 t41 0).f3⟩ : S51)) := ⟨_, rfl⟩
        replace H : (some (0, y50)) = some (r1, r2) := by first | (rw [hy50]; with_reducible exact H) | (have H2_ := (Option.bind_some _ _).symm.trans H; rw [hy50]; with_reducible exact H2_) | (have H2_ := (Option.bind_some _ _).symm.trans H; with_reducible exact H2_) | with_reducible exact H | (rw [hy50]; exact H) | exact H
        have Ny50 := Aside0.mk hy50
        clear hy50
        simp only [Option.some.injEq, Prod.mk.injEq] at H
        obtain ⟨rfl, rfl⟩ := H
        go_wp2_with (first | ((with_reducible refine gate_callee (f := 36) rfl ?_); refine goesL_ (some 25) rfl rfl Try.func36 (by kernel_rfl) rfl #[.slice A0 l0.length c0] rfl zm ?_; (with_reducible refine (spec_l5Writer.calls _ _ l0 t48 _ ?side1 ?side2 A14.out).mono ?_); (case side1 => repeat (first | exact (Kd.C_below HR0.out HB.out) | (with_reducible first | refine Kd.C_alloc ?_ _ | refine Kd.C_drewN ?_ _ | refine Kd.C_drew ?_))); (case side2 => exact HC0.out); rintro e w' ⟨rfl, ⟨nd, rfl⟩⟩; refine ⟨_, rfl, ?_⟩; (try (rw [drewN_self wc]; generalize hq_ : World.drewN wc _ = wc; have n0_ : Aside0 (wc.heap[gb38]? = some (.cells #[.int .i64 0, .slice none 0 0] 28 (0, 0))) := ⟨by rw [← hq_]; exact zk⟩; have n1_ : Aside0 (Below w.heap.size w wc) := ⟨by rw [← hq_]; exact zb⟩; clear BK38 HB hq_; have BK38 := n0_; have HB := n1_; clear n0_ n1_)); have p473 : 0 ≤ (1 : Int) := (by omega); have q39 : 1 < (l0.length : Int) := of_decide_eq_true za; obtain ⟨ad39, e473, hx39_0, hx39_1, hx39_2, hx39_3⟩ := at_T51 HR0.out 1 p473 q39; cases e473; (try simp only [show (1 : Int).toNat = 1 from rfl, Nat.reduceMul, Nat.reduceEqDiff, Go.Addr.add, ↓reduceIte] at hx39_0); (try simp only [show (1 : Int).toNat = 1 from rfl, Nat.reduceMul, Nat.reduceEqDiff, Go.Addr.add, ↓reduceIte] at hx39_1); (try simp only [show (1 : Int).toNat = 1 from rfl, Nat.reduceMul, Nat.reduceEqDiff, Go.Addr.add, ↓reduceIte] at hx39_2); (try simp only [show (1 : Int).toNat = 1 from rfl, Nat.reduceMul, Nat.reduceEqDiff, Go.Addr.add, ↓reduceIte] at hx39_3); have qi473 : (1 < l0.length) = True := eq_true (by omega); (try rw [show ((1 : Int)).toNat = 1 from rfl] at hx39_0); (try rw [show 1 * 4 = 4 from rfl] at hx39_0); (try rw [show ((1 : Int)).toNat = 1 from rfl] at hx39_1); (try rw [show 1 * 4 = 4 from rfl] at hx39_1); (try rw [show ((1 : Int)).toNat = 1 from rfl] at hx39_2); (try rw [show 1 * 4 = 4 from rfl] at hx39_2); (try rw [show ((1 : Int)).toNat = 1 from rfl] at hx39_3); (try rw [show 1 * 4 = 4 from rfl] at hx39_3); replace hx39_0 := (HB.out.cell (World.block_lt_of_cell? w _ hx39_0)).trans hx39_0; replace hx39_1 := (HB.out.cell (World.block_lt_of_cell? w _ hx39_1)).trans hx39_1; replace hx39_2 := (HB.out.cell (World.block_lt_of_cell? w _ hx39_2)).trans hx39_2; replace hx39_3 := (HB.out.cell (World.block_lt_of_cell? w _ hx39_3)).trans hx39_3; replace p473 := eq_true p473; replace q39 := eq_true q39) | ((with_reducible refine gate_callee (f := 46) rfl ?_); refine goesL_ (some 42) rfl rfl Try.func46 (by kernel_rfl) rfl #[.slice (some ad39) l0.length c0] rfl zm ?_; (with_reducible refine (spec_l5Copy.calls _ _ l0 t41 _ ?side1 ?side2 A20.out).mono ?_); (case side1 => repeat (first | exact (Kd.C_below HR0.out HB.out) | (with_reducible first | refine Kd.C_alloc ?_ _ | refine Kd.C_drewN ?_ _ | refine Kd.C_drew ?_))); (case side2 => exact HC0.out); rintro e w23 ⟨v60, rfl, ho0, hb⟩; refine ⟨_, rfl, ?_⟩; have n0_ := Aside0.mk (Kd.R_lower ho0 (below_size zb)); have n1_ := Aside0.mk (blk_below (g := gb38) (o := .cells #[.int .i64 0, .slice none 0 0] 28 (0, 0)) zk hb); have n2_ := Aside0.mk (below_step zb hb); clear BK38; clear HB; have HO53 := n0_; have BK38 := n1_; have HB := n2_; clear n0_ n1_ n2_; (try clear hb); (try clear hb2); (try clear hk); (try clear hi); (try clear ho0); have p22 : 0 ≤ (0 : Int) := (by omega); have q22 : (0 : Int) < ((t41.length : Int) : Int) := of_decide_eq_true za; have qi22 : (0 < t41.length) = True := eq_true (by omega); obtain ⟨go22, co22, eo22, gb22, gl22, cl22, HG22⟩ := Kd.R_form HO53.out (by omega); (first | cases eo22 | (injection eo22 with ea_ en_ ec_; (first | subst ea_ | (injection ea_ with ea_; subst ea_)); subst ec_; clear en_)); have GB22 := Aside0.mk gb22; have GG22 := Aside0.mk HG22; clear gb22 gl22 HG22; obtain ⟨ce22, hcl22, hM22, hcc22, hfr22⟩ := Kd.R_elem HO53.out z51 (0 : Int) p22 q22; obtain rfl := k51_openM hM22; have hx22_0 : w23.cell? ⟨go22, (0 : Int).toNat * 4, none⟩ = some (.int .i64 ((rd_T51 t41 0).f0)) := hcc22 0 _ rfl; have hx22_1 : w23.cell? ⟨go22, (0 : Int).toNat * 4 + 1, none⟩ = some (.int .i64 ((rd_T51 t41 0).f1)) := hcc22 1 _ rfl; have hx22_2 : w23.cell? ⟨go22, (0 : Int).toNat * 4 + 2, none⟩ = some (.bool ((rd_T51 t41 0).f2)) := hcc22 2 _ rfl; have hx22_3 : w23.cell? ⟨go22, (0 : Int).toNat * 4 + 3, none⟩ = some (.int .i64 ((rd_T51 t41 0).f3)) := hcc22 3 _ rfl; have hf22_0 : w23.frozen? ⟨go22, (0 : Int).toNat * 4, none⟩ = false := hfr22 0; have hf22_1 : w23.frozen? ⟨go22, (0 : Int).toNat * 4 + 1, none⟩ = false := hfr22 1; have hf22_2 : w23.frozen? ⟨go22, (0 : Int).toNat * 4 + 2, none⟩ = false := hfr22 2; have hf22_3 : w23.frozen? ⟨go22, (0 : Int).toNat * 4 + 3, none⟩ = false := hfr22 3; clear hcl22 hcc22 hfr22; (try clear hM22); (try rw [show ((0 : Int)).toNat = 0 from rfl] at hx22_0); (try simp only [Nat.reduceMul, Nat.zero_mul, Nat.zero_add, Nat.reduceAdd] at hx22_0); (try rw [show ((0 : Int)).toNat = 0 from rfl] at hf22_0); (try simp only [Nat.reduceMul, Nat.zero_mul, Nat.zero_add, Nat.reduceAdd] at hf22_0); (try rw [show ((0 : Int)).toNat = 0 from rfl] at hx22_1); (try simp only [Nat.reduceMul, Nat.zero_mul, Nat.zero_add, Nat.reduceAdd] at hx22_1); (try rw [show ((0 : Int)).toNat = 0 from rfl] at hf22_1); (try simp only [Nat.reduceMul, Nat.zero_mul, Nat.zero_add, Nat.reduceAdd] at hf22_1); (try rw [show ((0 : Int)).toNat = 0 from rfl] at hx22_2); (try simp only [Nat.reduceMul, Nat.zero_mul, Nat.zero_add, Nat.reduceAdd] at hx22_2); (try rw [show ((0 : Int)).toNat = 0 from rfl] at hf22_2); (try simp only [Nat.reduceMul, Nat.zero_mul, Nat.zero_add, Nat.reduceAdd] at hf22_2); (try rw [show ((0 : Int)).toNat = 0 from rfl] at hx22_3); (try simp only [Nat.reduceMul, Nat.zero_mul, Nat.zero_add, Nat.reduceAdd] at hx22_3); (try rw [show ((0 : Int)).toNat = 0 from rfl] at hf22_3); (try simp only [Nat.reduceMul, Nat.zero_mul, Nat.zero_add, Nat.reduceAdd] at hf22_3); replace p22 := eq_true p22; replace q22 := eq_true q22; have HX24 := Aside0.mk (show Kd.R k51 51 w23 w.heap.size (fun _ => True) (.slice (some ⟨go22, 0, none⟩) t41.length co22) t41 from (by (with_reducible repeat (first | apply Kd.R_alloc | apply Kd.R_drewN | apply Kd.R_drew)); exact HO53.out)); obtain ⟨ce24, hcl24, hM24, hcc24, hfr24⟩ := Kd.R_elem HX24.out z51 (0 : Int) (by omega) (by have h_ : (0 : Int) < ((t41.length : Int) : Int) := of_decide_eq_true za; first | exact h_ | (have e_ := (Kd.R_reads' HO53.out).1; omega) | simpa using h_); obtain rfl := k51_openM hM24; have HP24 := Kd.R_seg HX24.out (0 : Int) (by omega) (by have h_ : (0 : Int) < ((t41.length : Int) : Int) := of_decide_eq_true za; first | exact h_ | (have e_ := (Kd.R_reads' HO53.out).1; omega) | simpa using h_) (seg := [.int .i64 a2]) (j := 1) hcl24 hcc24 (show 2 ≤ 4 from by decide) (x' := (⟨(rd_T51 t41 0).f0, a2, (rd_T51 t41 0).f2, (rd_T51 t41 0).f3⟩ : S51)) (k51_mkM _ _ _ (⟨(rd_T51 t41 0).f0, a2, (rd_T51 t41 0).f2, (rd_T51 t41 0).f3⟩ : S51) ) (fun _ hk => hk); have hx24_1 := hcc24 1 _ rfl; (try simp only [show (k51).sz = 4 from rfl, Nat.mul_one, Nat.add_zero] at hx24_1); (try rw [show ((0 : Int)).toNat = 0 from rfl] at hx24_1); (try simp only [Nat.reduceMul, Nat.zero_mul, Nat.zero_add, Nat.reduceAdd] at hx24_1); have hf24_1 := hfr24 1; (try simp only [show (k51).sz = 4 from rfl, Nat.mul_one, Nat.add_zero] at hf24_1); (try rw [show ((0 : Int)).toNat = 0 from rfl] at hf24_1); (try simp only [Nat.reduceMul, Nat.zero_mul, Nat.zero_add, Nat.reduceAdd] at hf24_1); clear hcl24 hcc24 hfr24; (try clear hM24)) | ((with_reducible refine gate_store (t := 2) (p := 46) rfl ?_); refine store_event (t := 2) (p := 46) (v := ?vo_w25) (w1 := (w23.setCell ⟨go22, 1, none⟩ (.int .i64 a2))) ?hg ?ho ?hn ?hr ?_; (case ho => rfl); (case hg => rfl); (case hn => rfl); (case hr => first | (go_simp; done) | (go_simp; rfl)); intro w25 hw; have hg : w23.grownBy w25 (some go22) := (by rw [hw]; exact HP24.2); have hp_ : Kd.R k51 51 w25 w.heap.size (fun _ => True) (.slice (some ⟨go22, 0, none⟩) t41.length co22) y50 := (by rw [hw, Ny50.out]; exact HP24.1); clear HP24; have n0_ := Aside0.mk (blk_grown (g := gb38) (o := .cells #[.int .i64 0, .slice none 0 0] 28 (0, 0)) zk hg (Kd.R_ne HO53.out BK38.out (by decide))); have n1_ := Aside0.mk (hp_); have n2_ := Aside0.mk ((by rw [hw]; exact below_set (HB.out) GB22.out : Below w.heap.size w w25)); clear BK38; clear HO53; clear HB; have BK38 := n0_; have HO53 := n1_; have HB := n2_; clear n0_ n1_ n2_; clear hg hw hp_; obtain ⟨hcz26_0, hcz26_1, hfz26_0, hfz26_1⟩ := Lv.blks2 BK38.out))
        refine bodyPost_ret (results_cell_row rfl _ _ gb38 28 #[.int .i64 0, .slice (some ⟨go22, 0, none⟩) t41.length co22] (0, 0) _ rfl (by (with_reducible repeat (first | refine blk_drewN ?_ _ | refine blk_drew ?_ | refine blk_alloc ?_ _)); refine blk_put (cs := #[.int .i64 0, .slice none 0 0]) ?_ 1 _ rfl; (with_reducible repeat (first | refine blk_drewN ?_ _ | refine blk_drew ?_ | refine blk_alloc ?_ _)); refine blk_put (cs := #[.int .i64 0, .slice none 0 0]) ?_ 0 _ rfl; (with_reducible repeat (first | refine blk_drewN ?_ _ | refine blk_drew ?_ | refine blk_alloc ?_ _)); exact BK38.out) Try.underlying28 rfl (by kernel_rfl)) rfl ?_
        exact ⟨_, ze, by (with_reducible repeat (first | apply Kd.R_alloc | apply Kd.R_drewN | apply Kd.R_drew)); exact Kd.R_mono (Kd.R_far (p := ⟨gb38, 1, none⟩) (Kd.R_far (p := ⟨gb38, 0, none⟩) (Kd.R_types HO53.out BK38.out (by decide)) (fun _ hk => hk.2) (.int .i64 0)) (fun _ hk => hk.2) (.slice (some ⟨go22, 0, none⟩) t41.length co22)) (fun _ hk => trivial), zb⟩
       rw [if_neg c21] at H
       exact absurd H (by simp)
      rw [if_neg c17] at H
      exact absurd H (by simp)
     rw [if_neg c16] at H
     have c16b0 : decide (1 < (l0.length : Int)) = false := decide_eq_false c16
     have c16b1 : decide (1 < l0.length) = false := decide_eq_false (by omega)
     clear c16
     replace H := Option.bind_eq_some_iff.mp H
     obtain ⟨t43, A59, H⟩ := H
     replace H : (if 0 < (t43.length : Int) then (some (0, (t43.set (0 : Int).toNat (⟨(rd_T51 t43 0).f0, a2, (rd_T51 t43 0).f2, (rd_T51 t43 0).f3⟩ : S51)))) else (none)) = some (r1, r2) := H
     have A27 := Aside0.mk A59
     clear A59
     by_cases c28 : 0 < (t43.length : Int)
     ·rw [if_pos c28] at H
      have c28b0 : decide (0 < (t43.length : Int)) = true := decide_eq_true c28
      have c28b1 : decide (0 < t43.length) = true := decide_eq_true (by omega)
      clear c28
      obtain ⟨y52, hy52⟩ : ∃ y_ : List (S51), y_ = (t43.set (0 : Int).toNat (⟨(rd_T51 t43 0).f0, a2, (rd_T51 t43 0).f2, (rd_T51 t43 0).f3⟩ : S51)) := ⟨_, rfl⟩
      replace H : (some (0, y52)) = some (r1, r2) := by first | (rw [hy52]; with_reducible exact H) | (have H2_ := (Option.bind_some _ _).symm.trans H; rw [hy52]; with_reducible exact H2_) | (have H2_ := (Option.bind_some _ _).symm.trans H; with_reducible exact H2_) | with_reducible exact H | (rw [hy52]; exact H) | exact H
      have Ny52 := Aside0.mk hy52
      clear hy52
      simp only [Option.some.injEq, Prod.mk.injEq] at H
      obtain ⟨rfl, rfl⟩ := H
      go_wp2_with (first | ((with_reducible refine gate_callee (f := 36) rfl ?_); refine goesL_ (some 25) rfl rfl Try.func36 (by kernel_rfl) rfl #[.slice A0 l0.length c0] rfl zm ?_; (with_reducible refine (spec_l5Writer.calls _ _ l0 t48 _ ?side1 ?side2 A14.out).mono ?_); (case side1 => repeat (first | exact (Kd.C_below HR0.out HB.out) | (with_reducible first | refine Kd.C_alloc ?_ _ | refine Kd.C_drewN ?_ _ | refine Kd.C_drew ?_))); (case side2 => exact HC0.out); rintro e w' ⟨rfl, ⟨nd, rfl⟩⟩; refine ⟨_, rfl, ?_⟩; (try (rw [drewN_self wc]; generalize hq_ : World.drewN wc _ = wc; have n0_ : Aside0 (wc.heap[gb38]? = some (.cells #[.int .i64 0, .slice none 0 0] 28 (0, 0))) := ⟨by rw [← hq_]; exact zk⟩; have n1_ : Aside0 (Below w.heap.size w wc) := ⟨by rw [← hq_]; exact zb⟩; clear BK38 HB hq_; have BK38 := n0_; have HB := n1_; clear n0_ n1_))) | ((with_reducible refine gate_callee (f := 46) rfl ?_); refine goesL_ (some 42) rfl rfl Try.func46 (by kernel_rfl) rfl #[.slice A0 l0.length c0] rfl zm ?_; (with_reducible refine (spec_l5Copy.calls _ _ l0 t43 _ ?side1 ?side2 A27.out).mono ?_); (case side1 => repeat (first | exact (Kd.C_below HR0.out HB.out) | (with_reducible first | refine Kd.C_alloc ?_ _ | refine Kd.C_drewN ?_ _ | refine Kd.C_drew ?_))); (case side2 => exact HC0.out); rintro e w30 ⟨v61, rfl, ho0, hb⟩; refine ⟨_, rfl, ?_⟩; have n0_ := Aside0.mk (Kd.R_lower ho0 (below_size zb)); have n1_ := Aside0.mk (blk_below (g := gb38) (o := .cells #[.int .i64 0, .slice none 0 0] 28 (0, 0)) zk hb); have n2_ := Aside0.mk (below_step zb hb); clear BK38; clear HB; have HO54 := n0_; have BK38 := n1_; have HB := n2_; clear n0_ n1_ n2_; (try clear hb); (try clear hb2); (try clear hk); (try clear hi); (try clear ho0); have p29 : 0 ≤ (0 : Int) := (by omega); have q29 : (0 : Int) < ((t43.length : Int) : Int) := of_decide_eq_true za; have qi29 : (0 < t43.length) = True := eq_true (by omega); obtain ⟨go29, co29, eo29, gb29, gl29, cl29, HG29⟩ := Kd.R_form HO54.out (by omega); (first | cases eo29 | (injection eo29 with ea_ en_ ec_; (first | subst ea_ | (injection ea_ with ea_; subst ea_)); subst ec_; clear en_)); have GB29 := Aside0.mk gb29; have GG29 := Aside0.mk HG29; clear gb29 gl29 HG29; obtain ⟨ce29, hcl29, hM29, hcc29, hfr29⟩ := Kd.R_elem HO54.out z51 (0 : Int) p29 q29; obtain rfl := k51_openM hM29; have hx29_0 : w30.cell? ⟨go29, (0 : Int).toNat * 4, none⟩ = some (.int .i64 ((rd_T51 t43 0).f0)) := hcc29 0 _ rfl; have hx29_1 : w30.cell? ⟨go29, (0 : Int).toNat * 4 + 1, none⟩ = some (.int .i64 ((rd_T51 t43 0).f1)) := hcc29 1 _ rfl; have hx29_2 : w30.cell? ⟨go29, (0 : Int).toNat * 4 + 2, none⟩ = some (.bool ((rd_T51 t43 0).f2)) := hcc29 2 _ rfl; have hx29_3 : w30.cell? ⟨go29, (0 : Int).toNat * 4 + 3, none⟩ = some (.int .i64 ((rd_T51 t43 0).f3)) := hcc29 3 _ rfl; have hf29_0 : w30.frozen? ⟨go29, (0 : Int).toNat * 4, none⟩ = false := hfr29 0; have hf29_1 : w30.frozen? ⟨go29, (0 : Int).toNat * 4 + 1, none⟩ = false := hfr29 1; have hf29_2 : w30.frozen? ⟨go29, (0 : Int).toNat * 4 + 2, none⟩ = false := hfr29 2; have hf29_3 : w30.frozen? ⟨go29, (0 : Int).toNat * 4 + 3, none⟩ = false := hfr29 3; clear hcl29 hcc29 hfr29; (try clear hM29); (try rw [show ((0 : Int)).toNat = 0 from rfl] at hx29_0); (try simp only [Nat.reduceMul, Nat.zero_mul, Nat.zero_add, Nat.reduceAdd] at hx29_0); (try rw [show ((0 : Int)).toNat = 0 from rfl] at hf29_0); (try simp only [Nat.reduceMul, Nat.zero_mul, Nat.zero_add, Nat.reduceAdd] at hf29_0); (try rw [show ((0 : Int)).toNat = 0 from rfl] at hx29_1); (try simp only [Nat.reduceMul, Nat.zero_mul, Nat.zero_add, Nat.reduceAdd] at hx29_1); (try rw [show ((0 : Int)).toNat = 0 from rfl] at hf29_1); (try simp only [Nat.reduceMul, Nat.zero_mul, Nat.zero_add, Nat.reduceAdd] at hf29_1); (try rw [show ((0 : Int)).toNat = 0 from rfl] at hx29_2); (try simp only [Nat.reduceMul, Nat.zero_mul, Nat.zero_add, Nat.reduceAdd] at hx29_2); (try rw [show ((0 : Int)).toNat = 0 from rfl] at hf29_2); (try simp only [Nat.reduceMul, Nat.zero_mul, Nat.zero_add, Nat.reduceAdd] at hf29_2); (try rw [show ((0 : Int)).toNat = 0 from rfl] at hx29_3); (try simp only [Nat.reduceMul, Nat.zero_mul, Nat.zero_add, Nat.reduceAdd] at hx29_3); (try rw [show ((0 : Int)).toNat = 0 from rfl] at hf29_3); (try simp only [Nat.reduceMul, Nat.zero_mul, Nat.zero_add, Nat.reduceAdd] at hf29_3); replace p29 := eq_true p29; replace q29 := eq_true q29; have HX31 := Aside0.mk (show Kd.R k51 51 w30 w.heap.size (fun _ => True) (.slice (some ⟨go29, 0, none⟩) t43.length co29) t43 from (by (with_reducible repeat (first | apply Kd.R_alloc | apply Kd.R_drewN | apply Kd.R_drew)); exact HO54.out)); obtain ⟨ce31, hcl31, hM31, hcc31, hfr31⟩ := Kd.R_elem HX31.out z51 (0 : Int) (by omega) (by have h_ : (0 : Int) < ((t43.length : Int) : Int) := of_decide_eq_true za; first | exact h_ | (have e_ := (Kd.R_reads' HO54.out).1; omega) | simpa using h_); obtain rfl := k51_openM hM31; have HP31 := Kd.R_seg HX31.out (0 : Int) (by omega) (by have h_ : (0 : Int) < ((t43.length : Int) : Int) := of_decide_eq_true za; first | exact h_ | (have e_ := (Kd.R_reads' HO54.out).1; omega) | simpa using h_) (seg := [.int .i64 a2]) (j := 1) hcl31 hcc31 (show 2 ≤ 4 from by decide) (x' := (⟨(rd_T51 t43 0).f0, a2, (rd_T51 t43 0).f2, (rd_T51 t43 0).f3⟩ : S51)) (k51_mkM _ _ _ (⟨(rd_T51 t43 0).f0, a2, (rd_T51 t43 0).f2, (rd_T51 t43 0).f3⟩ : S51) ) (fun _ hk => hk); have hx31_1 := hcc31 1 _ rfl; (try simp only [show (k51).sz = 4 from rfl, Nat.mul_one, Nat.add_zero] at hx31_1); (try rw [show ((0 : Int)).toNat = 0 from rfl] at hx31_1); (try simp only [Nat.reduceMul, Nat.zero_mul, Nat.zero_add, Nat.reduceAdd] at hx31_1); have hf31_1 := hfr31 1; (try simp only [show (k51).sz = 4 from rfl, Nat.mul_one, Nat.add_zero] at hf31_1); (try rw [show ((0 : Int)).toNat = 0 from rfl] at hf31_1); (try simp only [Nat.reduceMul, Nat.zero_mul, Nat.zero_add, Nat.reduceAdd] at hf31_1); clear hcl31 hcc31 hfr31; (try clear hM31)) | ((with_reducible refine gate_store (t := 2) (p := 46) rfl ?_); refine store_event (t := 2) (p := 46) (v := ?vo_w32) (w1 := (w30.setCell ⟨go29, 1, none⟩ (.int .i64 a2))) ?hg ?ho ?hn ?hr ?_; (case ho => rfl); (case hg => rfl); (case hn => rfl); (case hr => first | (go_simp; done) | (go_simp; rfl)); intro w32 hw; have hg : w30.grownBy w32 (some go29) := (by rw [hw]; exact HP31.2); have hp_ : Kd.R k51 51 w32 w.heap.size (fun _ => True) (.slice (some ⟨go29, 0, none⟩) t43.length co29) y52 := (by rw [hw, Ny52.out]; exact HP31.1); clear HP31; have n0_ := Aside0.mk (blk_grown (g := gb38) (o := .cells #[.int .i64 0, .slice none 0 0] 28 (0, 0)) zk hg (Kd.R_ne HO54.out BK38.out (by decide))); have n1_ := Aside0.mk (hp_); have n2_ := Aside0.mk ((by rw [hw]; exact below_set (HB.out) GB29.out : Below w.heap.size w w32)); clear BK38; clear HO54; clear HB; have BK38 := n0_; have HO54 := n1_; have HB := n2_; clear n0_ n1_ n2_; clear hg hw hp_; obtain ⟨hcz33_0, hcz33_1, hfz33_0, hfz33_1⟩ := Lv.blks2 BK38.out))
      refine bodyPost_ret (results_cell_row rfl _ _ gb38 28 #[.int .i64 0, .slice (some ⟨go29, 0, none⟩) t43.length co29] (0, 0) _ rfl (by (with_reducible repeat (first | refine blk_drewN ?_ _ | refine blk_drew ?_ | refine blk_alloc ?_ _)); refine blk_put (cs := #[.int .i64 0, .slice none 0 0]) ?_ 1 _ rfl; (with_reducible repeat (first | refine blk_drewN ?_ _ | refine blk_drew ?_ | refine blk_alloc ?_ _)); refine blk_put (cs := #[.int .i64 0, .slice none 0 0]) ?_ 0 _ rfl; (with_reducible repeat (first | refine blk_drewN ?_ _ | refine blk_drew ?_ | refine blk_alloc ?_ _)); exact BK38.out) Try.underlying28 rfl (by kernel_rfl)) rfl ?_
      exact ⟨_, ze, by (with_reducible repeat (first | apply Kd.R_alloc | apply Kd.R_drewN | apply Kd.R_drew)); exact Kd.R_mono (Kd.R_far (p := ⟨gb38, 1, none⟩) (Kd.R_far (p := ⟨gb38, 0, none⟩) (Kd.R_types HO54.out BK38.out (by decide)) (fun _ hk => hk.2) (.int .i64 0)) (fun _ hk => hk.2) (.slice (some ⟨go29, 0, none⟩) t43.length co29)) (fun _ hk => trivial), zb⟩
     rw [if_neg c28] at H
     exact absurd H (by simp)
    rw [if_neg c15] at H
    have c15b0 : (t48 == a1) = false := beq_eq_false_iff_ne.mpr c15
    have c15b1 : (t48 != a1) = true := bne_iff_ne.mpr c15
    simp only [Option.some.injEq, Prod.mk.injEq] at H
    obtain ⟨rfl, rfl⟩ := H
    go_wp2_with (first | ((with_reducible refine gate_callee (f := 36) rfl ?_); refine goesL_ (some 25) rfl rfl Try.func36 (by kernel_rfl) rfl #[.slice A0 l0.length c0] rfl zm ?_; (with_reducible refine (spec_l5Writer.calls _ _ l0 t48 _ ?side1 ?side2 A14.out).mono ?_); (case side1 => repeat (first | exact (Kd.C_below HR0.out HB.out) | (with_reducible first | refine Kd.C_alloc ?_ _ | refine Kd.C_drewN ?_ _ | refine Kd.C_drew ?_))); (case side2 => exact HC0.out); rintro e w' ⟨rfl, ⟨nd, rfl⟩⟩; refine ⟨_, rfl, ?_⟩; (try (rw [drewN_self wc]; generalize hq_ : World.drewN wc _ = wc; have n0_ : Aside0 (wc.heap[gb38]? = some (.cells #[.int .i64 0, .slice none 0 0] 28 (0, 0))) := ⟨by rw [← hq_]; exact zk⟩; have n1_ : Aside0 (Below w.heap.size w wc) := ⟨by rw [← hq_]; exact zb⟩; clear BK38 HB hq_; have BK38 := n0_; have HB := n1_; clear n0_ n1_)); obtain ⟨hcz34_0, hcz34_1, hfz34_0, hfz34_1⟩ := Lv.blks2 BK38.out))
    refine bodyPost_ret (results_cell_row rfl _ _ gb38 28 #[.int .i64 4, .slice none 0 0] (0, 0) _ rfl (by (with_reducible repeat (first | refine blk_drewN ?_ _ | refine blk_drew ?_ | refine blk_alloc ?_ _)); refine blk_put (cs := #[.int .i64 4, .slice none 0 0]) ?_ 1 _ rfl; (with_reducible repeat (first | refine blk_drewN ?_ _ | refine blk_drew ?_ | refine blk_alloc ?_ _)); refine blk_put (cs := #[.int .i64 0, .slice none 0 0]) ?_ 0 _ rfl; (with_reducible repeat (first | refine blk_drewN ?_ _ | refine blk_drew ?_ | refine blk_alloc ?_ _)); exact BK38.out) Try.underlying28 rfl (by kernel_rfl)) rfl ?_
    exact ⟨_, ze, by first | exact Kd.R_nil _ _ _ _ _ | exact Kd.N_nil _ _ _ _ _ | exact Kd.V_nil _ _ _ _ _ | exact Kd.Q_nil _ _ _ _ _ | exact Kd.S_nil _ _ _ _ _, zb⟩
 rw [if_neg c5] at H
 have c5b0 : (t47 == 0) = false := beq_eq_false_iff_ne.mpr c5
 have c5b1 : (t47 != 0) = true := bne_iff_ne.mpr c5
 simp only [Option.some.injEq, Prod.mk.injEq] at H
 obtain ⟨rfl, rfl⟩ := H
 go_enter Try.func17, Try.ntmps17
 go_wp2_with (first | ((with_reducible refine gate_dst (N := 6) rfl ?_); refine box_event ?hg (N := 6) ?hd (cs := #[.int .i64 0, .slice none 0 0]) (t := 28) ?hr ?_; (case hd => rfl); (case hg => rfl); (case hr => first | (go_simp; done) | (go_simp; rfl)); intro gb38 hg w35 hbox hb; have n0_ := Aside0.mk (below_step zb hb); have n1_ := Aside0.mk (hbox); have n2_ := Aside0.mk ((by rw [hg]; exact (below_size zb) : w.heap.size ≤ gb38)); have n3_ := n2_; clear HB; have HB := n0_; have BK38 := n1_; have GW38 := n2_; have GE38 := n3_; clear n0_ n1_ n2_ n3_; clear hb hbox hg) | ((with_reducible refine gate_callee (f := 25) rfl ?_); refine goesL_ (some 10) rfl rfl Try.func25 (by kernel_rfl) rfl #[.slice A0 l0.length c0] rfl zm ?_; (with_reducible refine (spec_ChainFault.calls k _ _ l0 t47 _ ?side1 ?side2 A4.out).mono ?_); (case side1 => repeat (first | exact (Kd.C_below HR0.out HB.out) | (with_reducible first | refine Kd.C_alloc ?_ _ | refine Kd.C_drewN ?_ _ | refine Kd.C_drew ?_))); (case side2 => exact HC0.out); rintro e w36 ⟨rfl, hb⟩; refine ⟨_, rfl, ?_⟩; have n0_ := Aside0.mk (blk_below (g := gb38) (o := .cells #[.int .i64 0, .slice none 0 0] 28 (0, 0)) zk hb); have n1_ := Aside0.mk (below_step zb hb); clear BK38; clear HB; have BK38 := n0_; have HB := n1_; clear n0_ n1_; (try clear hb); (try clear hb2); (try clear hk); (try clear hi); obtain ⟨hcz37_0, hcz37_1, hfz37_0, hfz37_1⟩ := Lv.blks2 BK38.out))
 refine bodyPost_ret (results_cell_row rfl _ _ gb38 28 #[.int .i64 t47, .slice none 0 0] (0, 0) _ rfl (by (with_reducible repeat (first | refine blk_drewN ?_ _ | refine blk_drew ?_ | refine blk_alloc ?_ _)); refine blk_put (cs := #[.int .i64 t47, .slice none 0 0]) ?_ 1 _ rfl; (with_reducible repeat (first | refine blk_drewN ?_ _ | refine blk_drew ?_ | refine blk_alloc ?_ _)); refine blk_put (cs := #[.int .i64 0, .slice none 0 0]) ?_ 0 _ rfl; (with_reducible repeat (first | refine blk_drewN ?_ _ | refine blk_drew ?_ | refine blk_alloc ?_ _)); exact BK38.out) Try.underlying28 rfl (by kernel_rfl)) rfl ?_
 exact ⟨_, ze, by first | exact Kd.R_nil _ _ _ _ _ | exact Kd.N_nil _ _ _ _ _ | exact Kd.V_nil _ _ _ _ _ | exact Kd.Q_nil _ _ _ _ _ | exact Kd.S_nil _ _ _ _ _, zb⟩
set_option maxHeartbeats 8000000 in
set_option maxRecDepth 100000 in
theorem impl_RollChain.calls (k : Nat) (A0 : Option Addr) (c0 : Nat) (l0 : List (S51)) (a1 : Int) (r1 : Int) (r2 : List (S51)) (w : World) (hr0 : Kd.C k51 w A0 l0.length l0) (hc0 : l0.length ≤ c0) (h : impl_RollChain.f k l0 a1 = some (r1, r2)) :
 Calls Try.prog 18 #[.slice A0 l0.length c0, .int .i64 a1] w fun e w' => ∃ v1_ : Value, e = .returned (.agg #[.int .i64 r1, v1_]) ∧ Kd.R k51 51 w' w.heap.size (fun _ => True) v1_ r2 ∧ Below w.heap.size w w' := by
 have hu28 := Try.underlying28
 have HR0 := Aside0.mk hr0
 have HC0 := Aside0.mk hc0
 clear hr0 hc0
 have HB := Aside0.mk (Below.refl w.heap.size w)
 have H : ((impl_ChainFault.f k l0).bind fun t32 => (if t32 = 0 then ((impl_isTxn.f a1).bind fun t34 => (if t34 = true then ((impl_isOpenOf.f l0 a1).bind fun t33 => (if t33 = true then (if 1 ≤ (l0.length : Int) then ((slices_Clone_impl_Version.f (l0.drop 1)).bind fun t29 => (some (0, t29))) else (none)) else (some (4, ([] : List (S51)))))) else (some (3, ([] : List (S51)))))) else (some (t32, ([] : List (S51)))))) = some (r1, r2) := h
 clear h
 replace H := Option.bind_eq_some_iff.mp H
 obtain ⟨t32, A30, H⟩ := H
 replace H : (if t32 = 0 then ((impl_isTxn.f a1).bind fun t34 => (if t34 = true then ((impl_isOpenOf.f l0 a1).bind fun t33 => (if t33 = true then (if 1 ≤ (l0.length : Int) then ((slices_Clone_impl_Version.f (l0.drop 1)).bind fun t29 => (some (0, t29))) else (none)) else (some (4, ([] : List (S51)))))) else (some (3, ([] : List (S51)))))) else (some (t32, ([] : List (S51))))) = some (r1, r2) := H
 have A3 := Aside0.mk A30
 clear A30
 by_cases c4 : t32 = 0
 ·rw [if_pos c4] at H
  have c4b0 : (t32 == 0) = true := beq_iff_eq.mpr c4
  have c4b1 : (t32 != 0) = false := bne_eq_false_iff_eq.mpr c4
  clear c4
  replace H := Option.bind_eq_some_iff.mp H
  obtain ⟨t34, A50, H⟩ := H
  replace H : (if t34 = true then ((impl_isOpenOf.f l0 a1).bind fun t33 => (if t33 = true then (if 1 ≤ (l0.length : Int) then ((slices_Clone_impl_Version.f (l0.drop 1)).bind fun t29 => (some (0, t29))) else (none)) else (some (4, ([] : List (S51)))))) else (some (3, ([] : List (S51))))) = some (r1, r2) := H
  have A5 := Aside0.mk A50
  clear A50
  by_cases c6 : t34 = true
  ·subst c6
   have H1 : ((impl_isOpenOf.f l0 a1).bind fun t33 => (if t33 = true then (if 1 ≤ (l0.length : Int) then ((slices_Clone_impl_Version.f (l0.drop 1)).bind fun t29 => (some (0, t29))) else (none)) else (some (4, ([] : List (S51)))))) = some (r1, r2) := by rw [if_pos rfl] at H; exact H
   clear H
   have H := H1
   clear H1
   replace H := Option.bind_eq_some_iff.mp H
   obtain ⟨t33, A70, H⟩ := H
   replace H : (if t33 = true then (if 1 ≤ (l0.length : Int) then ((slices_Clone_impl_Version.f (l0.drop 1)).bind fun t29 => (some (0, t29))) else (none)) else (some (4, ([] : List (S51))))) = some (r1, r2) := H
   have A7 := Aside0.mk A70
   clear A70
   by_cases c8 : t33 = true
   ·subst c8
    have H1 : (if 1 ≤ (l0.length : Int) then ((slices_Clone_impl_Version.f (l0.drop 1)).bind fun t29 => (some (0, t29))) else (none)) = some (r1, r2) := by rw [if_pos rfl] at H; exact H
    clear H
    have H := H1
    clear H1
    by_cases c9 : 1 ≤ (l0.length : Int)
    ·rw [if_pos c9] at H
     have c9b0 := eq_true c9
     have c9b1 : decide (1 ≤ (l0.length : Int)) = true := decide_eq_true c9
     clear c9
     obtain ⟨y31, hy31⟩ : ∃ y_ : List (S51), y_ = (l0.drop 1) := ⟨_, rfl⟩
     replace H : ((slices_Clone_impl_Version.f y31).bind fun t29 => (some (0, t29))) = some (r1, r2) := by first | (rw [hy31]; with_reducible exact H) | (have H2_ := (Option.bind_some _ _).symm.trans H; rw [hy31]; with_reducible exact H2_) | (have H2_ := (Option.bind_some _ _).symm.trans H; with_reducible exact H2_) | with_reducible exact H | (rw [hy31]; exact H) | exact H
     have Ny31 := Aside0.mk hy31
     clear hy31
     replace H := Option.bind_eq_some_iff.mp H
     obtain ⟨t29, A35, H⟩ := H
     replace H : (some (0, t29)) = some (r1, r2) := H
     have A10 := Aside0.mk A35
     clear A35
     simp only [Option.some.injEq, Prod.mk.injEq] at H
     obtain ⟨rfl, rfl⟩ := H
     go_enter Try.func18, Try.ntmps18
     go_wp2_with (first | ((with_reducible refine gate_dst (N := 4) rfl ?_); refine box_event ?hg (N := 4) ?hd (cs := #[.int .i64 0, .slice none 0 0]) (t := 28) ?hr ?_; (case hd => rfl); (case hg => rfl); (case hr => first | (go_simp; done) | (go_simp; rfl)); intro gb27 hg w11 hbox hb; have n0_ := Aside0.mk (below_step zb hb); have n1_ := Aside0.mk (hbox); have n2_ := Aside0.mk ((by rw [hg]; exact (below_size zb) : w.heap.size ≤ gb27)); have n3_ := n2_; clear HB; have HB := n0_; have BK27 := n1_; have GW27 := n2_; have GE27 := n3_; clear n0_ n1_ n2_ n3_; clear hb hbox hg) | ((with_reducible refine gate_callee (f := 9) rfl ?_); refine goesL_ (some 7) rfl rfl Try.func9 (by kernel_rfl) rfl #[.slice A0 l0.length c0] rfl zm ?_; (with_reducible refine (impl_ChainFault.calls k _ _ l0 t32 _ ?side1 ?side2 A3.out).mono ?_); (case side1 => repeat (first | exact (Kd.C_below HR0.out HB.out) | (with_reducible first | refine Kd.C_alloc ?_ _ | refine Kd.C_drewN ?_ _ | refine Kd.C_drew ?_))); (case side2 => exact HC0.out); rintro e w12 ⟨rfl, hb⟩; refine ⟨_, rfl, ?_⟩; have n0_ := Aside0.mk (blk_below (g := gb27) (o := .cells #[.int .i64 0, .slice none 0 0] 28 (0, 0)) zk hb); have n1_ := Aside0.mk (below_step zb hb); clear BK27; clear HB; have BK27 := n0_; have HB := n1_; clear n0_ n1_; (try clear hb); (try clear hb2); (try clear hk); (try clear hi)) | ((with_reducible refine gate_callee (f := 28) rfl ?_); refine goesL_ (some 13) rfl rfl Try.func28 (by kernel_rfl) rfl #[.int .i64 a1] rfl zm ?_; (with_reducible refine (impl_isTxn.calls a1 true _ A5.out).mono ?_); rintro e w' ⟨rfl, ⟨nd, rfl⟩⟩; refine ⟨_, rfl, ?_⟩; (repeat (rw [drewN_self w12]; generalize hq_ : World.drewN w12 _ = w12; have n0_ : Aside0 (w12.heap[gb27]? = some (.cells #[.int .i64 0, .slice none 0 0] 28 (0, 0))) := ⟨by rw [← hq_]; exact zk⟩; have n1_ : Aside0 (Below w.heap.size w w12) := ⟨by rw [← hq_]; exact zb⟩; clear BK27 HB hq_; have BK27 := n0_; have HB := n1_; clear n0_ n1_)); (try (have hczrgb482_0 : w12.cell? ⟨gb27, 0, none⟩ = some (.int .i64 0) := (blk_cell BK27.out 0).trans rfl)); (try (have hfzrgb482_0 := blk_frozen BK27.out 0)); (try (have hczrgb482_1 : w12.cell? ⟨gb27, 1, none⟩ = some (.slice none 0 0) := (blk_cell BK27.out 1).trans rfl)); (try (have hfzrgb482_1 := blk_frozen BK27.out 1))) | ((with_reducible refine gate_callee (f := 43) rfl ?_); refine goesL_ (some 18) rfl rfl Try.func43 (by kernel_rfl) rfl #[.slice A0 l0.length c0, .int .i64 a1] rfl zm ?_; (with_reducible refine (impl_isOpenOf.calls _ _ l0 a1 true _ ?side1 ?side2 A7.out).mono ?_); (case side1 => repeat (first | exact (Kd.C_below HR0.out HB.out) | (with_reducible first | refine Kd.C_alloc ?_ _ | refine Kd.C_drewN ?_ _ | refine Kd.C_drew ?_))); (case side2 => exact HC0.out); rintro e w' ⟨rfl, ⟨nd, rfl⟩⟩; refine ⟨_, rfl, ?_⟩; (repeat (rw [drewN_self w12]; generalize hq_ : World.drewN w12 _ = w12; have n0_ : Aside0 (w12.heap[gb27]? = some (.cells #[.int .i64 0, .slice none 0 0] 28 (0, 0))) := ⟨by rw [← hq_]; exact zk⟩; have n1_ : Aside0 (Below w.heap.size w w12) := ⟨by rw [← hq_]; exact zb⟩; clear BK27 HB hq_; have BK27 := n0_; have HB := n1_; clear n0_ n1_)); (try (have hczrgb482_0 : w12.cell? ⟨gb27, 0, none⟩ = some (.int .i64 0) := (blk_cell BK27.out 0).trans rfl)); (try (have hfzrgb482_0 := blk_frozen BK27.out 0)); (try (have hczrgb482_1 : w12.cell? ⟨gb27, 1, none⟩ = some (.slice none 0 0) := (blk_cell BK27.out 1).trans rfl)); (try (have hfzrgb482_1 := blk_frozen BK27.out 1)); have q13 : (1 : Int) ≤ ((l0.length : Int) : Int) := of_decide_eq_true za; obtain ⟨i013, hi013, _, hsz13, _⟩ := info_parts info51; have hroom13 : l0.length ≤ c0 := HC0.out; have hC13 : Kd.C k51 _ A0 l0.length l0 := HR0.out; have hcut13 := cut_from (P := Try.prog) 24 51 .i64 Try.underlying24 hi013 4 hsz13 A0 l0.length c0 1 (by omega) q13; have hr13 := Kd.C_drop (m := (1 : Int).toNat) (c := c0) hC13 (by omega) hroom13; obtain ⟨A13, hA13⟩ : ∃ A1, A1 = (if c0 = (1 : Int).toNat then A0 else (A0 : Option Addr).map (·.add ((1 : Int).toNat * 4))) := ⟨_, rfl⟩; obtain ⟨c13, hc13⟩ : ∃ c1, c1 = c0 - (1 : Int).toNat := ⟨_, rfl⟩; have hy13 : y31.length = l0.length - (1 : Int).toNat := (by rw [Ny31.out, List.length_drop] <;> omega); rw [show (l0).drop (1 : Int).toNat = y31 from Ny31.out.symm] at hr13; replace hr13 : Kd.C k51 _ A13 y31.length y31 := (by rw [hA13]; exact hr13); rw [← hy13, ← hA13, ← hc13] at hcut13; have HR489 := Aside0.mk hr13; have HC489 := Aside0.mk (show y31.length ≤ c13 from by rw [hy13, hc13]; exact Nat.sub_le_sub_right hroom13 _); clear hr13 hC13 hroom13 hi013 hsz13 hc13; have KY13 := Aside0.mk hy13; have KA13 := Aside0.mk hA13; clear hy13 hA13; replace q13 := eq_true q13) | ((with_reducible refine gate_callee (f := 37) rfl ?_); refine goesL_ (some 26) rfl rfl Try.func37 (by kernel_rfl) rfl #[.slice A13 y31.length c13] rfl zm ?_; (with_reducible refine (slices_Clone_impl_Version.calls _ _ y31 t29 _ ?side1 ?side2 A10.out).mono ?_); (case side1 => repeat (first | exact (Kd.C_below HR489.out HB.out) | (with_reducible first | refine Kd.C_alloc ?_ _ | refine Kd.C_drewN ?_ _ | refine Kd.C_drew ?_))); (case side2 => exact HC489.out); rintro e w14 ⟨v38, rfl, ho0, hb⟩; refine ⟨_, rfl, ?_⟩; have n0_ := Aside0.mk (Kd.R_lower ho0 (below_size zb)); have n1_ := Aside0.mk (blk_below (g := gb27) (o := .cells #[.int .i64 0, .slice none 0 0] 28 (0, 0)) zk hb); have n2_ := Aside0.mk (below_step zb hb); clear BK27; clear HB; have HO36 := n0_; have BK27 := n1_; have HB := n2_; clear n0_ n1_ n2_; (try clear hb); (try clear hb2); (try clear hk); (try clear hi); (try clear ho0); obtain ⟨Ao15, co15, eo15⟩ := Kd.R_slice HO36.out; subst eo15; obtain ⟨hcz16_0, hcz16_1, hfz16_0, hfz16_1⟩ := Lv.blks2 BK27.out))
     refine bodyPost_ret (results_cell_row rfl _ _ gb27 28 #[.int .i64 0, .slice Ao15 t29.length co15] (0, 0) _ rfl (by (with_reducible repeat (first | refine blk_drewN ?_ _ | refine blk_drew ?_ | refine blk_alloc ?_ _)); refine blk_put (cs := #[.int .i64 0, .slice none 0 0]) ?_ 1 _ rfl; (with_reducible repeat (first | refine blk_drewN ?_ _ | refine blk_drew ?_ | refine blk_alloc ?_ _)); refine blk_put (cs := #[.int .i64 0, .slice none 0 0]) ?_ 0 _ rfl; (with_reducible repeat (first | refine blk_drewN ?_ _ | refine blk_drew ?_ | refine blk_alloc ?_ _)); exact BK27.out) Try.underlying28 rfl (by kernel_rfl)) rfl ?_
     exact ⟨_, ze, by (with_reducible repeat (first | apply Kd.R_alloc | apply Kd.R_drewN | apply Kd.R_drew)); exact Kd.R_mono (Kd.R_far (p := ⟨gb27, 1, none⟩) (Kd.R_far (p := ⟨gb27, 0, none⟩) (Kd.R_types HO36.out BK27.out (by decide)) (fun _ hk => hk.2) (.int .i64 0)) (fun _ hk => hk.2) (.slice Ao15 t29.length co15)) (fun _ hk => trivial), zb⟩
    rw [if_neg c9] at H
    exact absurd H (by simp)
   replace c8 := Bool.eq_false_iff.mpr c8
   subst c8
   have H1 : (some (4, ([] : List (S51)))) = some (r1, r2) := by rw [if_neg (show ¬ (false = true) by decide)] at H; exact H
   clear H
   have H := H1
   clear H1
   simp only [Option.some.injEq, Prod.mk.injEq] at H
   obtain ⟨rfl, rfl⟩ := H
   go_enter Try.func18, Try.ntmps18
   go_wp2_with (first | ((with_reducible refine gate_dst (N := 4) rfl ?_); refine box_event ?hg (N := 4) ?hd (cs := #[.int .i64 0, .slice none 0 0]) (t := 28) ?hr ?_; (case hd => rfl); (case hg => rfl); (case hr => first | (go_simp; done) | (go_simp; rfl)); intro gb27 hg w17 hbox hb; have n0_ := Aside0.mk (below_step zb hb); have n1_ := Aside0.mk (hbox); have n2_ := Aside0.mk ((by rw [hg]; exact (below_size zb) : w.heap.size ≤ gb27)); have n3_ := n2_; clear HB; have HB := n0_; have BK27 := n1_; have GW27 := n2_; have GE27 := n3_; clear n0_ n1_ n2_ n3_; clear hb hbox hg) | ((with_reducible refine gate_callee (f := 9) rfl ?_); refine goesL_ (some 7) rfl rfl Try.func9 (by kernel_rfl) rfl #[.slice A0 l0.length c0] rfl zm ?_; (with_reducible refine (impl_ChainFault.calls k _ _ l0 t32 _ ?side1 ?side2 A3.out).mono ?_); (case side1 => repeat (first | exact (Kd.C_below HR0.out HB.out) | (with_reducible first | refine Kd.C_alloc ?_ _ | refine Kd.C_drewN ?_ _ | refine Kd.C_drew ?_))); (case side2 => exact HC0.out); rintro e w18 ⟨rfl, hb⟩; refine ⟨_, rfl, ?_⟩; have n0_ := Aside0.mk (blk_below (g := gb27) (o := .cells #[.int .i64 0, .slice none 0 0] 28 (0, 0)) zk hb); have n1_ := Aside0.mk (below_step zb hb); clear BK27; clear HB; have BK27 := n0_; have HB := n1_; clear n0_ n1_; (try clear hb); (try clear hb2); (try clear hk); (try clear hi)) | ((with_reducible refine gate_callee (f := 28) rfl ?_); refine goesL_ (some 13) rfl rfl Try.func28 (by kernel_rfl) rfl #[.int .i64 a1] rfl zm ?_; (with_reducible refine (impl_isTxn.calls a1 true _ A5.out).mono ?_); rintro e w' ⟨rfl, ⟨nd, rfl⟩⟩; refine ⟨_, rfl, ?_⟩; (repeat (rw [drewN_self w18]; generalize hq_ : World.drewN w18 _ = w18; have n0_ : Aside0 (w18.heap[gb27]? = some (.cells #[.int .i64 0, .slice none 0 0] 28 (0, 0))) := ⟨by rw [← hq_]; exact zk⟩; have n1_ : Aside0 (Below w.heap.size w w18) := ⟨by rw [← hq_]; exact zb⟩; clear BK27 HB hq_; have BK27 := n0_; have HB := n1_; clear n0_ n1_)); (try (have hczrgb482_0 : w18.cell? ⟨gb27, 0, none⟩ = some (.int .i64 0) := (blk_cell BK27.out 0).trans rfl)); (try (have hfzrgb482_0 := blk_frozen BK27.out 0)); (try (have hczrgb482_1 : w18.cell? ⟨gb27, 1, none⟩ = some (.slice none 0 0) := (blk_cell BK27.out 1).trans rfl)); (try (have hfzrgb482_1 := blk_frozen BK27.out 1))) | ((with_reducible refine gate_callee (f := 43) rfl ?_); refine goesL_ (some 18) rfl rfl Try.func43 (by kernel_rfl) rfl #[.slice A0 l0.length c0, .int .i64 a1] rfl zm ?_; (with_reducible refine (impl_isOpenOf.calls _ _ l0 a1 false _ ?side1 ?side2 A7.out).mono ?_); (case side1 => repeat (first | exact (Kd.C_below HR0.out HB.out) | (with_reducible first | refine Kd.C_alloc ?_ _ | refine Kd.C_drewN ?_ _ | refine Kd.C_drew ?_))); (case side2 => exact HC0.out); rintro e w' ⟨rfl, ⟨nd, rfl⟩⟩; refine ⟨_, rfl, ?_⟩; (repeat (rw [drewN_self w18]; generalize hq_ : World.drewN w18 _ = w18; have n0_ : Aside0 (w18.heap[gb27]? = some (.cells #[.int .i64 0, .slice none 0 0] 28 (0, 0))) := ⟨by rw [← hq_]; exact zk⟩; have n1_ : Aside0 (Below w.heap.size w w18) := ⟨by rw [← hq_]; exact zb⟩; clear BK27 HB hq_; have BK27 := n0_; have HB := n1_; clear n0_ n1_)); (try (have hczrgb482_0 : w18.cell? ⟨gb27, 0, none⟩ = some (.int .i64 0) := (blk_cell BK27.out 0).trans rfl)); (try (have hfzrgb482_0 := blk_frozen BK27.out 0)); (try (have hczrgb482_1 : w18.cell? ⟨gb27, 1, none⟩ = some (.slice none 0 0) := (blk_cell BK27.out 1).trans rfl)); (try (have hfzrgb482_1 := blk_frozen BK27.out 1)); obtain ⟨hcz19_0, hcz19_1, hfz19_0, hfz19_1⟩ := Lv.blks2 BK27.out))
   refine bodyPost_ret (results_cell_row rfl _ _ gb27 28 #[.int .i64 4, .slice none 0 0] (0, 0) _ rfl (by (with_reducible repeat (first | refine blk_drewN ?_ _ | refine blk_drew ?_ | refine blk_alloc ?_ _)); refine blk_put (cs := #[.int .i64 4, .slice none 0 0]) ?_ 1 _ rfl; (with_reducible repeat (first | refine blk_drewN ?_ _ | refine blk_drew ?_ | refine blk_alloc ?_ _)); refine blk_put (cs := #[.int .i64 0, .slice none 0 0]) ?_ 0 _ rfl; (with_reducible repeat (first | refine blk_drewN ?_ _ | refine blk_drew ?_ | refine blk_alloc ?_ _)); exact BK27.out) Try.underlying28 rfl (by kernel_rfl)) rfl ?_
   exact ⟨_, ze, by first | exact Kd.R_nil _ _ _ _ _ | exact Kd.N_nil _ _ _ _ _ | exact Kd.V_nil _ _ _ _ _ | exact Kd.Q_nil _ _ _ _ _ | exact Kd.S_nil _ _ _ _ _, zb⟩
  replace c6 := Bool.eq_false_iff.mpr c6
  subst c6
  have H1 : (some (3, ([] : List (S51)))) = some (r1, r2) := by rw [if_neg (show ¬ (false = true) by decide)] at H; exact H
  clear H
  have H := H1
  clear H1
  simp only [Option.some.injEq, Prod.mk.injEq] at H
  obtain ⟨rfl, rfl⟩ := H
  go_enter Try.func18, Try.ntmps18
  go_wp2_with (first | ((with_reducible refine gate_dst (N := 4) rfl ?_); refine box_event ?hg (N := 4) ?hd (cs := #[.int .i64 0, .slice none 0 0]) (t := 28) ?hr ?_; (case hd => rfl); (case hg => rfl); (case hr => first | (go_simp; done) | (go_simp; rfl)); intro gb27 hg w20 hbox hb; have n0_ := Aside0.mk (below_step zb hb); have n1_ := Aside0.mk (hbox); have n2_ := Aside0.mk ((by rw [hg]; exact (below_size zb) : w.heap.size ≤ gb27)); have n3_ := n2_; clear HB; have HB := n0_; have BK27 := n1_; have GW27 := n2_; have GE27 := n3_; clear n0_ n1_ n2_ n3_; clear hb hbox hg) | ((with_reducible refine gate_callee (f := 9) rfl ?_); refine goesL_ (some 7) rfl rfl Try.func9 (by kernel_rfl) rfl #[.slice A0 l0.length c0] rfl zm ?_; (with_reducible refine (impl_ChainFault.calls k _ _ l0 t32 _ ?side1 ?side2 A3.out).mono ?_); (case side1 => repeat (first | exact (Kd.C_below HR0.out HB.out) | (with_reducible first | refine Kd.C_alloc ?_ _ | refine Kd.C_drewN ?_ _ | refine Kd.C_drew ?_))); (case side2 => exact HC0.out); rintro e w21 ⟨rfl, hb⟩; refine ⟨_, rfl, ?_⟩; have n0_ := Aside0.mk (blk_below (g := gb27) (o := .cells #[.int .i64 0, .slice none 0 0] 28 (0, 0)) zk hb); have n1_ := Aside0.mk (below_step zb hb); clear BK27; clear HB; have BK27 := n0_; have HB := n1_; clear n0_ n1_; (try clear hb); (try clear hb2); (try clear hk); (try clear hi)) | ((with_reducible refine gate_callee (f := 28) rfl ?_); refine goesL_ (some 13) rfl rfl Try.func28 (by kernel_rfl) rfl #[.int .i64 a1] rfl zm ?_; (with_reducible refine (impl_isTxn.calls a1 false _ A5.out).mono ?_); rintro e w' ⟨rfl, ⟨nd, rfl⟩⟩; refine ⟨_, rfl, ?_⟩; (repeat (rw [drewN_self w21]; generalize hq_ : World.drewN w21 _ = w21; have n0_ : Aside0 (w21.heap[gb27]? = some (.cells #[.int .i64 0, .slice none 0 0] 28 (0, 0))) := ⟨by rw [← hq_]; exact zk⟩; have n1_ : Aside0 (Below w.heap.size w w21) := ⟨by rw [← hq_]; exact zb⟩; clear BK27 HB hq_; have BK27 := n0_; have HB := n1_; clear n0_ n1_)); (try (have hczrgb482_0 : w21.cell? ⟨gb27, 0, none⟩ = some (.int .i64 0) := (blk_cell BK27.out 0).trans rfl)); (try (have hfzrgb482_0 := blk_frozen BK27.out 0)); (try (have hczrgb482_1 : w21.cell? ⟨gb27, 1, none⟩ = some (.slice none 0 0) := (blk_cell BK27.out 1).trans rfl)); (try (have hfzrgb482_1 := blk_frozen BK27.out 1)); obtain ⟨hcz22_0, hcz22_1, hfz22_0, hfz22_1⟩ := Lv.blks2 BK27.out))
  refine bodyPost_ret (results_cell_row rfl _ _ gb27 28 #[.int .i64 3, .slice none 0 0] (0, 0) _ rfl (by (with_reducible repeat (first | refine blk_drewN ?_ _ | refine blk_drew ?_ | refine blk_alloc ?_ _)); refine blk_put (cs := #[.int .i64 3, .slice none 0 0]) ?_ 1 _ rfl; (with_reducible repeat (first | refine blk_drewN ?_ _ | refine blk_drew ?_ | refine blk_alloc ?_ _)); refine blk_put (cs := #[.int .i64 0, .slice none 0 0]) ?_ 0 _ rfl; (with_reducible repeat (first | refine blk_drewN ?_ _ | refine blk_drew ?_ | refine blk_alloc ?_ _)); exact BK27.out) Try.underlying28 rfl (by kernel_rfl)) rfl ?_
  exact ⟨_, ze, by first | exact Kd.R_nil _ _ _ _ _ | exact Kd.N_nil _ _ _ _ _ | exact Kd.V_nil _ _ _ _ _ | exact Kd.Q_nil _ _ _ _ _ | exact Kd.S_nil _ _ _ _ _, zb⟩
 rw [if_neg c4] at H
 have c4b0 : (t32 == 0) = false := beq_eq_false_iff_ne.mpr c4
 have c4b1 : (t32 != 0) = true := bne_iff_ne.mpr c4
 simp only [Option.some.injEq, Prod.mk.injEq] at H
 obtain ⟨rfl, rfl⟩ := H
 go_enter Try.func18, Try.ntmps18
 go_wp2_with (first | ((with_reducible refine gate_dst (N := 4) rfl ?_); refine box_event ?hg (N := 4) ?hd (cs := #[.int .i64 0, .slice none 0 0]) (t := 28) ?hr ?_; (case hd => rfl); (case hg => rfl); (case hr => first | (go_simp; done) | (go_simp; rfl)); intro gb27 hg w23 hbox hb; have n0_ := Aside0.mk (below_step zb hb); have n1_ := Aside0.mk (hbox); have n2_ := Aside0.mk ((by rw [hg]; exact (below_size zb) : w.heap.size ≤ gb27)); have n3_ := n2_; clear HB; have HB := n0_; have BK27 := n1_; have GW27 := n2_; have GE27 := n3_; clear n0_ n1_ n2_ n3_; clear hb hbox hg) | ((with_reducible refine gate_callee (f := 9) rfl ?_); refine goesL_ (some 7) rfl rfl Try.func9 (by kernel_rfl) rfl #[.slice A0 l0.length c0] rfl zm ?_; (with_reducible refine (impl_ChainFault.calls k _ _ l0 t32 _ ?side1 ?side2 A3.out).mono ?_); (case side1 => repeat (first | exact (Kd.C_below HR0.out HB.out) | (with_reducible first | refine Kd.C_alloc ?_ _ | refine Kd.C_drewN ?_ _ | refine Kd.C_drew ?_))); (case side2 => exact HC0.out); rintro e w24 ⟨rfl, hb⟩; refine ⟨_, rfl, ?_⟩; have n0_ := Aside0.mk (blk_below (g := gb27) (o := .cells #[.int .i64 0, .slice none 0 0] 28 (0, 0)) zk hb); have n1_ := Aside0.mk (below_step zb hb); clear BK27; clear HB; have BK27 := n0_; have HB := n1_; clear n0_ n1_; (try clear hb); (try clear hb2); (try clear hk); (try clear hi); obtain ⟨hcz25_0, hcz25_1, hfz25_0, hfz25_1⟩ := Lv.blks2 BK27.out))
 refine bodyPost_ret (results_cell_row rfl _ _ gb27 28 #[.int .i64 t32, .slice none 0 0] (0, 0) _ rfl (by (with_reducible repeat (first | refine blk_drewN ?_ _ | refine blk_drew ?_ | refine blk_alloc ?_ _)); refine blk_put (cs := #[.int .i64 t32, .slice none 0 0]) ?_ 1 _ rfl; (with_reducible repeat (first | refine blk_drewN ?_ _ | refine blk_drew ?_ | refine blk_alloc ?_ _)); refine blk_put (cs := #[.int .i64 0, .slice none 0 0]) ?_ 0 _ rfl; (with_reducible repeat (first | refine blk_drewN ?_ _ | refine blk_drew ?_ | refine blk_alloc ?_ _)); exact BK27.out) Try.underlying28 rfl (by kernel_rfl)) rfl ?_
 exact ⟨_, ze, by first | exact Kd.R_nil _ _ _ _ _ | exact Kd.N_nil _ _ _ _ _ | exact Kd.V_nil _ _ _ _ _ | exact Kd.Q_nil _ _ _ _ _ | exact Kd.S_nil _ _ _ _ _, zb⟩
def laws_FnChains.T6 : Bool × List (List Nat × List Nat) := (true, [([], []), ([], []), ([], []), ([], []), ([0, 1, 2, 3], [0, 1, 2, 3]), ([4], [4]), ([], []), ([6], [6]), ([5, 7], [5, 7]), ([8, 4, 0, 1, 2, 3, 4, 5, 6, 7, 8], [8])])
def laws_FnChains.B6 : List Nat := [0, 0, 0, 0, 15, 31, 0, 64, 255, 511]
theorem laws_FnChains.tab6 : rtab .any (opsOf Try.f4 6) = laws_FnChains.T6 := by kernel_rfl
theorem laws_FnChains.bits6 : waitsOk laws_FnChains.T6.2 laws_FnChains.B6 = true := by kernel_rfl
def laws_FnChains.T10 : Bool × List (List Nat × List Nat) := (true, [([], []), ([0], [0]), ([1], [1]), ([2], [2]), ([3, 2], [3]), ([4], [4]), ([4], [4]), ([6, 4], [4, 6]), ([7, 4], [4, 7]), ([5, 8, 4], [4, 5, 8]), ([4, 9], [4, 9]), ([10, 4], [10]), ([11], [11]), ([12, 11], [11, 12]), ([13, 11, 11], [11, 13]), ([14], [14]), ([15, 14], [14, 15]), ([14], [14]), ([16, 17, 14], [14, 16, 17]), ([14, 18, 11], [11, 14, 18]), ([11, 19], [11, 19]), ([20, 14], [20]), ([21], [21]), ([22, 21], [21, 22]), ([21], [21]), ([24, 21], [21, 24]), ([23, 25, 21], [21, 23, 25]), ([21, 26], [21, 26]), ([27, 21], [27]), ([28], [28]), ([29, 28], [28, 29]), ([28], [28]), ([30, 31, 28, 28], [28, 30, 31]), ([32, 28], [28, 32]), ([28, 33], [28, 33]), ([34, 32], [34]), ([35], [35]), ([36, 35], [35, 36]), ([35], [35]), ([37, 38, 35, 35], [35, 37, 38]), ([35], [35]), ([35], [35]), ([40, 41, 39, 35], [35, 40, 41]), ([39, 42, 35], [35, 39, 42]), ([35, 43], [35, 43])])
def laws_FnChains.B10 : List Nat := [0, 1, 3, 7, 15, 31, 31, 95, 223, 511, 1023, 2047, 4095, 8191, 16383, 32767, 65535, 32767, 262143, 524287, 1048575, 2097151, 4194303, 8388607, 4194303, 20971519, 67108863, 134217727, 268435455, 536870911, 1073741823, 536870911, 4294967295, 8589934591, 17179869183, 34359738367, 68719476735, 137438953471, 68719476735, 549755813887, 68719476735, 68719476735, 4398046511103, 8796093022207, 17592186044415]
theorem laws_FnChains.tab10 : rtab .any (opsOf Try.f4 10) = laws_FnChains.T10 := by kernel_rfl
theorem laws_FnChains.bits10 : waitsOk laws_FnChains.T10.2 laws_FnChains.B10 = true := by kernel_rfl
def laws_FnChains.T15 : Bool × List (List Nat × List Nat) := (true, [([], []), ([0], [0]), ([], []), ([2], [2]), ([], []), ([1, 3, 4], [1, 3, 4]), ([5], [5]), ([], []), ([7], [7]), ([6, 8], [6, 8]), ([9, 5, 0, 1, 2, 3, 4, 5, 6, 7, 8, 9], [9])])
def laws_FnChains.B15 : List Nat := [0, 1, 0, 4, 0, 31, 63, 0, 128, 511, 1023]
theorem laws_FnChains.tab15 : rtab .any (opsOf Try.f4 15) = laws_FnChains.T15 := by kernel_rfl
theorem laws_FnChains.bits15 : waitsOk laws_FnChains.T15.2 laws_FnChains.B15 = true := by kernel_rfl
def laws_FnChains.T18 : Bool × List (List Nat × List Nat) := (true, [([], []), ([0], [0]), ([], []), ([1, 2], [1, 2]), ([], []), ([], []), ([4, 5, 3], [4, 5]), ([3, 6], [3, 6]), ([7, 6], [7]), ([8], [8]), ([8], [8]), ([10, 8], [8, 10]), ([11, 8], [8, 11]), ([9, 12, 8], [8, 9, 12]), ([8, 13], [8, 13]), ([14, 8], [14]), ([15], [15]), ([16, 15, 15], [15, 16]), ([17], [17]), ([18, 17], [17, 18]), ([17], [17]), ([19, 20, 17], [17, 19, 20]), ([17, 21, 15], [15, 17, 21]), ([15, 22], [15, 22]), ([23, 17], [23]), ([24], [24]), ([25, 24], [24, 25]), ([24], [24]), ([26, 27, 24, 24], [24, 26, 27]), ([28, 24], [24, 28]), ([24, 29], [24, 29]), ([30, 28], [30]), ([31], [31]), ([32, 31], [31, 32]), ([33, 31, 31], [31, 33]), ([34, 31], [31, 34]), ([31, 35], [31, 35]), ([36, 34], [36]), ([37], [37]), ([38, 37], [37, 38]), ([39, 37], [37, 39]), ([37, 40], [37, 40]), ([41, 37], [41]), ([42], [42]), ([43, 42], [42, 43]), ([42], [42]), ([44, 45, 42, 42], [42, 44, 45]), ([42], [42]), ([42], [42]), ([47, 48, 46, 42], [42, 47, 48]), ([46, 49, 42], [42, 46, 49]), ([42, 50], [42, 50]), ([51, 49, 0, 1, 2, 3, 4, 5, 6, 7, 8, 9, 10, 11, 12, 13, 14, 15, 16, 17, 18, 19, 20, 21, 22, 23, 24, 25, 26, 27, 28, 29, 30, 31, 32, 33, 34, 35, 36, 37, 38, 39, 40, 41, 42, 43, 44, 45, 46, 47, 48, 49, 50, 51], [51])])
def laws_FnChains.B18 : List Nat := [0, 1, 0, 7, 0, 0, 63, 127, 255, 511, 511, 1535, 3583, 8191, 16383, 32767, 65535, 131071, 262143, 524287, 262143, 2097151, 4194303, 8388607, 16777215, 33554431, 67108863, 33554431, 268435455, 536870911, 1073741823, 2147483647, 4294967295, 8589934591, 17179869183, 34359738367, 68719476735, 137438953471, 274877906943, 549755813887, 1099511627775, 2199023255551, 4398046511103, 8796093022207, 17592186044415, 8796093022207, 70368744177663, 8796093022207, 8796093022207, 562949953421311, 1125899906842623, 2251799813685247, 4503599627370495]
theorem laws_FnChains.tab18 : rtab .any (opsOf Try.f4 18) = laws_FnChains.T18 := by kernel_rfl
theorem laws_FnChains.bits18 : waitsOk laws_FnChains.T18.2 laws_FnChains.B18 = true := by kernel_rfl
end Go.Proofs.Ytkaammmkejiafaa.P
