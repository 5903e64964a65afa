import Derived.Test.YtonbnmaelepcbaaZz
import Derived.Test.YtonbnmaelepcbaaP0
import Derived.Test.YtonbnmaelepcbaaPCdgh0
import Derived.Test.YtonbnmaelepcbaaPDm1
import Derived.Test.YtonbnmaelepcbaaWRepsOne
import Derived.Test.YtonbnmaelepcbaaLv
import Derived.Test.YtonbnmaelepcbaaLv
namespace Go.Proofs.Ytonbnmaelepcbaa.P
open Go.RowKit Go.Proofs.YtonbnmaelepcbaaW.PrintWords Go.Proofs.YtonbnmaelepcbaaW.PrintLast Go.Proofs.YtonbnmaelepcbaaW.PrintMore
attribute [local go_sem] max2_int min2_int max_two min_two max_three min_three max_four min_four   -- for this text's walks alone
set_option linter.unusedVariables false
set_option linter.unusedSimpArgs false
set_option maxHeartbeats 8000000 in
set_option maxRecDepth 100000 in
theorem impl_seenValue.calls (A0 : Option Addr) (c0 : Nat) (l0 : List (S90)) (a1_0 : Int) (a1_1 : Int) (r1 : Int) (r2 : Int) (w : World) (hr0 : Kd.C k90 w A0 l0.length l0) (hc0 : l0.length ≤ c0) (h : impl_seenValue.f l0 a1_0 a1_1 = some (r1, r2)) :
 Calls Try.prog 83 #[.slice A0 l0.length c0, .agg #[.int .i64 a1_0, .int .i64 a1_1]] w fun e w' => e = .returned (.agg #[.int .i64 r1, .int .i64 r2]) ∧ Below w.heap.size w w' := by
 have hu116 := Try.underlying116
 have hu48 := Try.underlying48
 have HR0 := Aside0.mk hr0
 have HC0 := Aside0.mk hc0
 clear hr0 hc0
 have HB := Aside0.mk (Below.refl w.heap.size w)
 have H : ((impl_seen.f l0 a1_0 a1_1).bind fun t31 => (if t31 < 0 then (some (4, 0)) else (if 0 ≤ t31 then (if t31 < (l0.length : Int) then (if (rd_T90 l0 t31).f2 = true then (some (4, 0)) else (some (0, (rd_T90 l0 t31).f3))) else (none)) else (none)))) = some (r1, r2) := h
 clear h
 replace H := Option.bind_eq_some_iff.mp H
 obtain ⟨t31, A30, H⟩ := H
 replace H : (if t31 < 0 then (some (4, 0)) else (if 0 ≤ t31 then (if t31 < (l0.length : Int) then (if (rd_T90 l0 t31).f2 = true then (some (4, 0)) else (some (0, (rd_T90 l0 t31).f3))) else (none)) else (none))) = some (r1, r2) := H
 have A3 := Aside0.mk A30
 clear A30
 by_cases c4 : t31 < 0
 ·rw [if_pos c4] at H
  have c4b0 : decide (t31 < 0) = true := decide_eq_true c4
  clear c4
  simp only [Option.some.injEq, Prod.mk.injEq] at H
  obtain ⟨rfl, rfl⟩ := H
  go_enter Try.func83, Try.ntmps83
  go_wp2_with (first | ((with_reducible refine gate_dst (N := 3) rfl ?_); refine box_event ?hg (N := 3) ?hd (cs := #[.int .i64 a1_0, .int .i64 a1_1]) (t := 116) ?hr ?_; (case hd => rfl); (case hg => rfl); (case hr => first | (go_simp; done) | (go_simp; rfl)); intro gb27 hg w5 hbox hb; have n0_ := Aside0.mk (below_step zb hb); have n1_ := Aside0.mk (hbox); have n2_ := Aside0.mk ((by rw [hg]; exact (below_size zb) : w.heap.size ≤ gb27)); have n3_ := n2_; clear HB; have HB := n0_; have BK27 := n1_; have GW27 := n2_; have GE27 := n3_; clear n0_ n1_ n2_ n3_; clear hb hbox hg) | ((with_reducible refine gate_dst (N := 4) rfl ?_); refine box_event ?hg (N := 4) ?hd (cs := #[.int .i64 0, .int .i64 0]) (t := 48) ?hr ?_; (case hd => rfl); (case hg => rfl); (case hr => first | (go_simp; done) | (go_simp; rfl)); intro gb28 hg w6 hbox hb; have n0_ := Aside0.mk (blk_below (g := gb27) (o := .cells #[.int .i64 a1_0, .int .i64 a1_1] 116 (0, 0)) zk hb); have n1_ := Aside0.mk (below_step zb hb); have n2_ := Aside0.mk (hbox); have n3_ := Aside0.mk ((by rw [hg]; exact (below_size zb) : w.heap.size ≤ gb28)); have n4_ := n3_; have n5_ := Aside0.mk ((by rw [hg]; exact Nat.ne_of_lt (blk_lt (g := gb27) (o := .cells #[.int .i64 a1_0, .int .i64 a1_1] 116 (0, 0)) zk) : gb27 ≠ gb28)); have n6_ := Aside0.mk ((by rw [hg]; exact Nat.ne_of_gt (blk_lt (g := gb27) (o := .cells #[.int .i64 a1_0, .int .i64 a1_1] 116 (0, 0)) zk) : gb28 ≠ gb27)); clear BK27; clear HB; have BK27 := n0_; have HB := n1_; have BK28 := n2_; have GW28 := n3_; have GE28 := n4_; have NB389_390 := n5_; have NB390_389 := n6_; clear n0_ n1_ n2_ n3_ n4_ n5_ n6_; clear hb hbox hg; have hnb7 := NB389_390.out; have hnc7 := NB390_389.out; obtain ⟨hcz8_0, hcz8_1, hfz8_0, hfz8_1⟩ := Lv.blks2 BK27.out) | ((with_reducible refine gate_callee (f := 129) rfl ?_); refine goesL_ (some 8) rfl rfl Try.func129 (by kernel_rfl) rfl #[.slice A0 l0.length c0, .agg #[.int .i64 a1_0, .int .i64 a1_1]] rfl zm ?_; (with_reducible refine (impl_seen.calls _ _ l0 a1_0 a1_1 t31 _ ?side1 ?side2 A3.out).mono ?_); (case side1 => repeat (first | exact (Kd.C_below HR0.out HB.out) | (with_reducible first | refine Kd.C_alloc ?_ _ | refine Kd.C_drewN ?_ _ | refine Kd.C_drew ?_))); (case side2 => exact HC0.out); rintro e w9 ⟨rfl, hb⟩; refine ⟨_, rfl, ?_⟩; have n0_ := Aside0.mk (blk_below (g := gb27) (o := .cells #[.int .i64 a1_0, .int .i64 a1_1] 116 (0, 0)) zk hb); have n1_ := Aside0.mk (blk_below (g := gb28) (o := .cells #[.int .i64 0, .int .i64 0] 48 (0, 0)) zk hb); have n2_ := Aside0.mk (below_step zb hb); clear BK27; clear BK28; clear HB; have BK27 := n0_; have BK28 := n1_; have HB := n2_; clear n0_ n1_ n2_; (try clear hb); (try clear hb2); (try clear hk); (try clear hi); obtain ⟨hcz10_0, hcz10_1, hfz10_0, hfz10_1⟩ := Lv.blks2 BK28.out))
  refine bodyPost_ret (results_cell_row rfl _ _ gb28 48 #[.int .i64 4, .int .i64 0] (0, 0) _ rfl (by (with_reducible repeat (first | refine blk_drewN ?_ _ | refine blk_drew ?_ | refine blk_alloc ?_ _)); refine blk_put (cs := #[.int .i64 4, .int .i64 0]) ?_ 1 _ rfl; (with_reducible repeat (first | refine blk_drewN ?_ _ | refine blk_drew ?_ | refine blk_alloc ?_ _)); refine blk_put (cs := #[.int .i64 0, .int .i64 0]) ?_ 0 _ rfl; (with_reducible repeat (first | refine blk_drewN ?_ _ | refine blk_drew ?_ | refine blk_alloc ?_ _)); exact BK28.out) Try.underlying48 rfl (by kernel_rfl)) rfl ?_
  exact ⟨ze, zb⟩
 rw [if_neg c4] at H
 have c4b0 : decide (t31 < 0) = false := decide_eq_false c4
 clear c4
 by_cases c11 : 0 ≤ t31
 ·rw [if_pos c11] at H
  have c11b0 : decide (0 ≤ t31) = true := decide_eq_true c11
  clear c11
  by_cases c12 : t31 < (l0.length : Int)
  ·rw [if_pos c12] at H
   have c12b0 : decide (t31 < (l0.length : Int)) = true := decide_eq_true c12
   clear c12
   obtain ⟨bq13, hbq13⟩ : ∃ b_ : Bool, b_ = ((rd_T90 l0 t31).f2) := ⟨_, rfl⟩
   replace H : (if bq13 = true then (some (4, 0)) else (some (0, (rd_T90 l0 t31).f3))) = some (r1, r2) := by rw [← hbq13] at H; exact H
   have Nbq13 := Aside0.mk hbq13
   clear hbq13
   by_cases c14 : bq13 = true
   ·subst c14
    have H1 : (some (4, 0)) = some (r1, r2) := by rw [if_pos rfl] at H; exact H
    clear H
    have H := H1
    clear H1
    simp only [Option.some.injEq, Prod.mk.injEq] at H
    obtain ⟨rfl, rfl⟩ := H
    go_enter Try.func83, Try.ntmps83
    go_wp2_with (first | ((with_reducible refine gate_dst (N := 3) rfl ?_); refine box_event ?hg (N := 3) ?hd (cs := #[.int .i64 a1_0, .int .i64 a1_1]) (t := 116) ?hr ?_; (case hd => rfl); (case hg => rfl); (case hr => first | (go_simp; done) | (go_simp; rfl)); intro gb27 hg w15 hbox hb; have n0_ := Aside0.mk (below_step zb hb); have n1_ := Aside0.mk (hbox); have n2_ := Aside0.mk ((by rw [hg]; exact (below_size zb) : w.heap.size ≤ gb27)); have n3_ := n2_; clear HB; have HB := n0_; have BK27 := n1_; have GW27 := n2_; have GE27 := n3_; clear n0_ n1_ n2_ n3_; clear hb hbox hg) | ((with_reducible refine gate_dst (N := 4) rfl ?_); refine box_event ?hg (N := 4) ?hd (cs := #[.int .i64 0, .int .i64 0]) (t := 48) ?hr ?_; (case hd => rfl); (case hg => rfl); (case hr => first | (go_simp; done) | (go_simp; rfl)); intro gb28 hg w16 hbox hb; have n0_ := Aside0.mk (blk_below (g := gb27) (o := .cells #[.int .i64 a1_0, .int .i64 a1_1] 116 (0, 0)) zk hb); have n1_ := Aside0.mk (below_step zb hb); have n2_ := Aside0.mk (hbox); have n3_ := Aside0.mk ((by rw [hg]; exact (below_size zb) : w.heap.size ≤ gb28)); have n4_ := n3_; have n5_ := Aside0.mk ((by rw [hg]; exact Nat.ne_of_lt (blk_lt (g := gb27) (o := .cells #[.int .i64 a1_0, .int .i64 a1_1] 116 (0, 0)) zk) : gb27 ≠ gb28)); have n6_ := Aside0.mk ((by rw [hg]; exact Nat.ne_of_gt (blk_lt (g := gb27) (o := .cells #[.int .i64 a1_0, .int .i64 a1_1] 116 (0, 0)) zk) : gb28 ≠ gb27)); clear BK27; clear HB; have BK27 := n0_; have HB := n1_; have BK28 := n2_; have GW28 := n3_; have GE28 := n4_; have NB389_390 := n5_; have NB390_389 := n6_; clear n0_ n1_ n2_ n3_ n4_ n5_ n6_; clear hb hbox hg; have hnb17 := NB389_390.out; have hnc17 := NB390_389.out; obtain ⟨hcz18_0, hcz18_1, hfz18_0, hfz18_1⟩ := Lv.blks2 BK27.out) | ((with_reducible refine gate_callee (f := 129) rfl ?_); refine goesL_ (some 8) rfl rfl Try.func129 (by kernel_rfl) rfl #[.slice A0 l0.length c0, .agg #[.int .i64 a1_0, .int .i64 a1_1]] rfl zm ?_; (with_reducible refine (impl_seen.calls _ _ l0 a1_0 a1_1 t31 _ ?side1 ?side2 A3.out).mono ?_); (case side1 => repeat (first | exact (Kd.C_below HR0.out HB.out) | (with_reducible first | refine Kd.C_alloc ?_ _ | refine Kd.C_drewN ?_ _ | refine Kd.C_drew ?_))); (case side2 => exact HC0.out); rintro e w19 ⟨rfl, hb⟩; refine ⟨_, rfl, ?_⟩; have n0_ := Aside0.mk (blk_below (g := gb27) (o := .cells #[.int .i64 a1_0, .int .i64 a1_1] 116 (0, 0)) zk hb); have n1_ := Aside0.mk (blk_below (g := gb28) (o := .cells #[.int .i64 0, .int .i64 0] 48 (0, 0)) zk hb); have n2_ := Aside0.mk (below_step zb hb); clear BK27; clear BK28; clear HB; have BK27 := n0_; have BK28 := n1_; have HB := n2_; clear n0_ n1_ n2_; (try clear hb); (try clear hb2); (try clear hk); (try clear hi); have p392 : 0 ≤ (t31 : Int) := of_decide_eq_true za; have q29 : t31 < (l0.length : Int) := of_decide_eq_true za; obtain ⟨ad29, e392, hx29_0, hx29_1, hx29_2, hx29_3⟩ := at_T90 HR0.out t31 p392 q29; (try rw [← Nbq13.out] at hx29_2); cases e392; replace hx29_0 := (HB.out.cell (World.block_lt_of_cell? w _ hx29_0)).trans hx29_0; replace hx29_1 := (HB.out.cell (World.block_lt_of_cell? w _ hx29_1)).trans hx29_1; replace hx29_2 := (HB.out.cell (World.block_lt_of_cell? w _ hx29_2)).trans hx29_2; replace hx29_3 := (HB.out.cell (World.block_lt_of_cell? w _ hx29_3)).trans hx29_3; replace p392 := eq_true p392; replace q29 := eq_true q29; obtain ⟨hcz20_0, hcz20_1, hfz20_0, hfz20_1⟩ := Lv.blks2 BK28.out))
    refine bodyPost_ret (results_cell_row rfl _ _ gb28 48 #[.int .i64 4, .int .i64 0] (0, 0) _ rfl (by (with_reducible repeat (first | refine blk_drewN ?_ _ | refine blk_drew ?_ | refine blk_alloc ?_ _)); refine blk_put (cs := #[.int .i64 4, .int .i64 0]) ?_ 1 _ rfl; (with_reducible repeat (first | refine blk_drewN ?_ _ | refine blk_drew ?_ | refine blk_alloc ?_ _)); refine blk_put (cs := #[.int .i64 0, .int .i64 0]) ?_ 0 _ rfl; (with_reducible repeat (first | refine blk_drewN ?_ _ | refine blk_drew ?_ | refine blk_alloc ?_ _)); exact BK28.out) Try.underlying48 rfl (by kernel_rfl)) rfl ?_
    exact ⟨ze, zb⟩
   replace c14 := Bool.eq_false_iff.mpr c14
   subst c14
   have H1 : (some (0, (rd_T90 l0 t31).f3)) = some (r1, r2) := by rw [if_neg (show ¬ (false = true) by decide)] at H; exact H
   clear H
   have H := H1
   clear H1
   simp only [Option.some.injEq, Prod.mk.injEq] at H
   obtain ⟨rfl, rfl⟩ := H
   go_enter Try.func83, Try.ntmps83
   go_wp2_with (first | ((with_reducible refine gate_dst (N := 3) rfl ?_); refine box_event ?hg (N := 3) ?hd (cs := #[.int .i64 a1_0, .int .i64 a1_1]) (t := 116) ?hr ?_; (case hd => rfl); (case hg => rfl); (case hr => first | (go_simp; done) | (go_simp; rfl)); intro gb27 hg w21 hbox hb; have n0_ := Aside0.mk (below_step zb hb); have n1_ := Aside0.mk (hbox); have n2_ := Aside0.mk ((by rw [hg]; exact (below_size zb) : w.heap.size ≤ gb27)); have n3_ := n2_; clear HB; have HB := n0_; have BK27 := n1_; have GW27 := n2_; have GE27 := n3_; clear n0_ n1_ n2_ n3_; clear hb hbox hg) | ((with_reducible refine gate_dst (N := 4) rfl ?_); refine box_event ?hg (N := 4) ?hd (cs := #[.int .i64 0, .int .i64 0]) (t := 48) ?hr ?_; (case hd => rfl); (case hg => rfl); (case hr => first | (go_simp; done) | (go_simp; rfl)); intro gb28 hg w22 hbox hb; have n0_ := Aside0.mk (blk_below (g := gb27) (o := .cells #[.int .i64 a1_0, .int .i64 a1_1] 116 (0, 0)) zk hb); have n1_ := Aside0.mk (below_step zb hb); have n2_ := Aside0.mk (hbox); have n3_ := Aside0.mk ((by rw [hg]; exact (below_size zb) : w.heap.size ≤ gb28)); have n4_ := n3_; have n5_ := Aside0.mk ((by rw [hg]; exact Nat.ne_of_lt (blk_lt (g := gb27) (o := .cells #[.int .i64 a1_0, .int .i64 a1_1] 116 (0, 0)) zk) : gb27 ≠ gb28)); have n6_ := Aside0.mk ((by rw [hg]; exact Nat.ne_of_gt (blk_lt (g := gb27) (o := .cells #[.int .i64 a1_0, .int .i64 a1_1] 116 (0, 0)) zk) : gb28 ≠ gb27)); clear BK27; clear HB; have BK27 := n0_; have HB := n1_; have BK28 := n2_; have GW28 := n3_; have GE28 := n4_; have NB389_390 := n5_; have NB390_389 := n6_; clear n0_ n1_ n2_ n3_ n4_ n5_ n6_; clear hb hbox hg; have hnb23 := NB389_390.out; have hnc23 := NB390_389.out; obtain ⟨hcz24_0, hcz24_1, hfz24_0, hfz24_1⟩ := Lv.blks2 BK27.out) | ((with_reducible refine gate_callee (f := 129) rfl ?_); refine goesL_ (some 8) rfl rfl Try.func129 (by kernel_rfl) rfl #[.slice A0 l0.length c0, .agg #[.int .i64 a1_0, .int .i64 a1_1]] rfl zm ?_; (with_reducible refine (impl_seen.calls _ _ l0 a1_0 a1_1 t31 _ ?side1 ?side2 A3.out).mono ?_); (case side1 => repeat (first | exact (Kd.C_below HR0.out HB.out) | (with_reducible first | refine Kd.C_alloc ?_ _ | refine Kd.C_drewN ?_ _ | refine Kd.C_drew ?_))); (case side2 => exact HC0.out); rintro e w25 ⟨rfl, hb⟩; refine ⟨_, rfl, ?_⟩; have n0_ := Aside0.mk (blk_below (g := gb27) (o := .cells #[.int .i64 a1_0, .int .i64 a1_1] 116 (0, 0)) zk hb); have n1_ := Aside0.mk (blk_below (g := gb28) (o := .cells #[.int .i64 0, .int .i64 0] 48 (0, 0)) zk hb); have n2_ := Aside0.mk (below_step zb hb); clear BK27; clear BK28; clear HB; have BK27 := n0_; have BK28 := n1_; have HB := n2_; clear n0_ n1_ n2_; (try clear hb); (try clear hb2); (try clear hk); (try clear hi); have p392 : 0 ≤ (t31 : Int) := of_decide_eq_true za; have q29 : t31 < (l0.length : Int) := of_decide_eq_true za; obtain ⟨ad29, e392, hx29_0, hx29_1, hx29_2, hx29_3⟩ := at_T90 HR0.out t31 p392 q29; (try rw [← Nbq13.out] at hx29_2); cases e392; replace hx29_0 := (HB.out.cell (World.block_lt_of_cell? w _ hx29_0)).trans hx29_0; replace hx29_1 := (HB.out.cell (World.block_lt_of_cell? w _ hx29_1)).trans hx29_1; replace hx29_2 := (HB.out.cell (World.block_lt_of_cell? w _ hx29_2)).trans hx29_2; replace hx29_3 := (HB.out.cell (World.block_lt_of_cell? w _ hx29_3)).trans hx29_3; replace p392 := eq_true p392; replace q29 := eq_true q29; have p393 : 0 ≤ (t31 : Int) := of_decide_eq_true za; have q32 : t31 < (l0.length : Int) := of_decide_eq_true za; obtain ⟨ad32, e393, hx32_0, hx32_1, hx32_2, hx32_3⟩ := at_T90 HR0.out t31 p393 q32; (try rw [← Nbq13.out] at hx32_2); obtain rfl : ad29 = ad32 := (by injection e393); replace hx32_0 := (HB.out.cell (World.block_lt_of_cell? w _ hx32_0)).trans hx32_0; replace hx32_1 := (HB.out.cell (World.block_lt_of_cell? w _ hx32_1)).trans hx32_1; replace hx32_2 := (HB.out.cell (World.block_lt_of_cell? w _ hx32_2)).trans hx32_2; replace hx32_3 := (HB.out.cell (World.block_lt_of_cell? w _ hx32_3)).trans hx32_3; replace p393 := eq_true p393; replace q32 := eq_true q32; obtain ⟨hcz26_0, hcz26_1, hfz26_0, hfz26_1⟩ := Lv.blks2 BK28.out))
   refine bodyPost_ret (results_cell_row rfl _ _ gb28 48 #[.int .i64 0, .int .i64 ((rd_T90 l0 t31).f3)] (0, 0) _ rfl (by (with_reducible repeat (first | refine blk_drewN ?_ _ | refine blk_drew ?_ | refine blk_alloc ?_ _)); refine blk_put (cs := #[.int .i64 0, .int .i64 0]) ?_ 1 _ rfl; (with_reducible repeat (first | refine blk_drewN ?_ _ | refine blk_drew ?_ | refine blk_alloc ?_ _)); refine blk_put (cs := #[.int .i64 0, .int .i64 0]) ?_ 0 _ rfl; (with_reducible repeat (first | refine blk_drewN ?_ _ | refine blk_drew ?_ | refine blk_alloc ?_ _)); exact BK28.out) Try.underlying48 rfl (by kernel_rfl)) rfl ?_
   exact ⟨ze, zb⟩
  rw [if_neg c12] at H
  exact absurd H (by simp)
 rw [if_neg c11] at H
 exact absurd H (by simp)
set_option maxHeartbeats 8000000 in
set_option maxRecDepth 100000 in
theorem impl_Txn_view.calls (a0_0 : Int) (a0_1 : Int) (a0_2 : Int) (a0_3 : Int) (A0_4 : Option Addr) (c0_4 : Nat) (l0_4 : List (S96)) (r1 : Int) (r2 : Int) (w : World) (hr0_4 : Kd.C k96 w A0_4 l0_4.length l0_4) (hc0_4 : l0_4.length ≤ c0_4) (h : impl_Txn_view.f a0_0 a0_1 a0_2 a0_3 l0_4 = some (r1, r2)) :
 Calls Try.prog 84 #[.agg #[.int .i64 a0_0, .int .i64 a0_1, .int .i64 a0_2, .int .i64 a0_3, .slice A0_4 l0_4.length c0_4]] w fun e w' => e = .returned (.agg #[.int .i64 r1, .int .i64 r2]) ∧ Below w.heap.size w w' := by
 have hu83 := Try.underlying83
 have hu116 := Try.underlying116
 have HR0_4 := Aside0.mk hr0_4
 have HC0_4 := Aside0.mk hc0_4
 clear hr0_4 hc0_4
 have HB := Aside0.mk (Below.refl w.heap.size w)
 have H : (some (a0_1, a0_0)) = some (r1, r2) := h
 clear h
 simp only [Option.some.injEq, Prod.mk.injEq] at H
 obtain ⟨rfl, rfl⟩ := H
 go_enter Try.func84, Try.ntmps84
 go_wp2_with (first | ((with_reducible refine gate_dst (N := 1) rfl ?_); refine box_event ?hg (N := 1) ?hd (cs := #[.int .i64 a0_0, .int .i64 a0_1, .int .i64 a0_2, .int .i64 a0_3, .slice A0_4 l0_4.length c0_4]) (t := 83) ?hr ?_; (case hd => rfl); (case hg => rfl); (case hr => first | (go_simp; done) | (go_simp; rfl)); intro gb7 hg w2 hbox hb; have n0_ := Aside0.mk (below_step zb hb); have n1_ := Aside0.mk (hbox); have n2_ := Aside0.mk ((by rw [hg]; exact (below_size zb) : w.heap.size ≤ gb7)); have n3_ := n2_; clear HB; have HB := n0_; have BK7 := n1_; have GW7 := n2_; have GE7 := n3_; clear n0_ n1_ n2_ n3_; clear hb hbox hg) | ((with_reducible refine gate_dst (N := 2) rfl ?_); refine box_event ?hg (N := 2) ?hd (cs := #[.int .i64 0, .int .i64 0]) (t := 116) ?hr ?_; (case hd => rfl); (case hg => rfl); (case hr => first | (go_simp; done) | (go_simp; rfl)); intro gb8 hg w3 hbox hb; have n0_ := Aside0.mk (blk_below (g := gb7) (o := .cells #[.int .i64 a0_0, .int .i64 a0_1, .int .i64 a0_2, .int .i64 a0_3, .slice A0_4 l0_4.length c0_4] 83 (0, 0)) zk hb); have n1_ := Aside0.mk (below_step zb hb); have n2_ := Aside0.mk (hbox); have n3_ := Aside0.mk ((by rw [hg]; exact (below_size zb) : w.heap.size ≤ gb8)); have n4_ := n3_; have n5_ := Aside0.mk ((by rw [hg]; exact Nat.ne_of_lt (blk_lt (g := gb7) (o := .cells #[.int .i64 a0_0, .int .i64 a0_1, .int .i64 a0_2, .int .i64 a0_3, .slice A0_4 l0_4.length c0_4] 83 (0, 0)) zk) : gb7 ≠ gb8)); have n6_ := Aside0.mk ((by rw [hg]; exact Nat.ne_of_gt (blk_lt (g := gb7) (o := .cells #[.int .i64 a0_0, .int .i64 a0_1, .int .i64 a0_2, .int .i64 a0_3, .slice A0_4 l0_4.length c0_4] 83 (0, 0)) zk) : gb8 ≠ gb7)); clear BK7; clear HB; have BK7 := n0_; have HB := n1_; have BK8 := n2_; have GW8 := n3_; have GE8 := n4_; have NB394_395 := n5_; have NB395_394 := n6_; clear n0_ n1_ n2_ n3_ n4_ n5_ n6_; clear hb hbox hg; have hnb4 := NB394_395.out; have hnc4 := NB395_394.out; obtain ⟨hcz5_0, hcz5_1, hcz5_2, hcz5_3, hcz5_4, hfz5_0, hfz5_1, hfz5_2, hfz5_3, hfz5_4⟩ := Lv.blks5 BK7.out; obtain ⟨hcz6_0, hcz6_1, hfz6_0, hfz6_1⟩ := Lv.blks2 BK8.out))
 refine bodyPost_ret (results_cell_row rfl _ _ gb8 116 #[.int .i64 a0_1, .int .i64 a0_0] (0, 0) _ rfl (by (with_reducible repeat (first | refine blk_drewN ?_ _ | refine blk_drew ?_ | refine blk_alloc ?_ _)); refine blk_put (cs := #[.int .i64 a0_1, .int .i64 0]) ?_ 1 _ rfl; (with_reducible repeat (first | refine blk_drewN ?_ _ | refine blk_drew ?_ | refine blk_alloc ?_ _)); refine blk_put (cs := #[.int .i64 0, .int .i64 0]) ?_ 0 _ rfl; (with_reducible repeat (first | refine blk_drewN ?_ _ | refine blk_drew ?_ | refine blk_alloc ?_ _)); exact BK8.out) Try.underlying116 rfl (by kernel_rfl)) rfl ?_
 exact ⟨ze, zb⟩
end Go.Proofs.Ytonbnmaelepcbaa.P
