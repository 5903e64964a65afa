-- Printed by this session's own program over the kit's print (wip/tools/mp.py). Not trusted: Lean checks it.
import Derived.Test.YtdhdgkonghefeaaP0
import Derived.Test.YtdhdgkonghefeaaPCabcde0
import Derived.Test.YtdhdgkonghefeaaPCabcde1
import Derived.Test.YtdhdgkonghefeaaPCall0
import Derived.Test.YtdhdgkonghefeaaPCall3
import Derived.Test.YtdhdgkonghefeaaPCall4
import Derived.Test.YtdhdgkonghefeaaPCall5
import Derived.Test.YtdhdgkonghefeaaPCbcdf0
import Derived.Test.YtdhdgkonghefeaaPCde0
import Derived.Test.YtdhdgkonghefeaaPDm0
import Derived.Test.YtdhdgkonghefeaaPDm1
import Derived.Test.YtdhdgkonghefeaaWRepsOne
import Derived.Test.YtdhdgkonghefeaaLv
import Derived.Test.YtdhdgkonghefeaaLv
import Derived.Test.YtdhdgkonghefeaaLb
import Derived.IntWalk
import Derived.Shelf.Abstract
import Derived.Test.YtdhdgkonghefeaaZz
namespace Go.Proofs.Ytdhdgkonghefeaa.P
open Go.RowKit Go.Proofs.YtdhdgkonghefeaaW.PrintWords Go.Proofs.YtdhdgkonghefeaaW.PrintLast Go.Proofs.YtdhdgkonghefeaaW.PrintMore
attribute [local go_sem] max2_int min2_int max_two min_two max_three min_three max_four min_four   -- for this text's walks alone
set_option linter.unusedVariables false
set_option linter.unusedSimpArgs false

-- NEEDS Derived.Test.@N@Lv
/-! ### spec_PathTo: function 19 -/
set_option maxHeartbeats 8000000 in
set_option maxRecDepth 100000 in
theorem spec_PathTo.calls (a0_0 : Int) (A0_1 : Option Addr) (c0_1 : Nat) (l0_1 : List (S58)) (a1 : Int) (r1 : Int) (r2 : List Int) (w : World) (hr0_1 : Kd.C k58 w A0_1 l0_1.length l0_1) (hc0_1 : l0_1.length ≤ c0_1) (h : spec_PathTo.f a0_0 l0_1 a1 = some (r1, r2)) :
  Calls Try.prog 19 #[.agg #[.int .i64 a0_0, .slice A0_1 l0_1.length c0_1], .int .i64 a1] w fun e w' => ∃ v1_ : Value, e = .returned (.agg #[.int .i64 r1, v1_]) ∧ Kd.R (Kd.int .i64) 2 w' w.heap.size (fun _ => True) v1_ r2 ∧ Below w.heap.size w w' := by
 have hu29 := Try.underlying29
 have hu41 := Try.underlying41
 have HR0_1 := Aside0.mk hr0_1
 have HC0_1 := Aside0.mk hc0_1
 clear hr0_1 hc0_1
 have HB := Aside0.mk (Below.refl w.heap.size w)
 have H : ((spec_TreeFault.f a0_0 l0_1).bind fun t253 => (if t253 = 0 then ((spec_l4Key.f a1).bind fun t254 => (if t254 = true then ((spec_l4Path.f a0_0 l0_1 a1).bind fun t255 => (some (0, t255))) else (some (3, ([] : List Int))))) else (some (t253, ([] : List Int))))) = some (r1, r2) := h
 clear h
 replace H := Option.bind_eq_some_iff.mp H
 obtain ⟨t253, A30, H⟩ := H
 replace H : (if t253 = 0 then ((spec_l4Key.f a1).bind fun t254 => (if t254 = true then ((spec_l4Path.f a0_0 l0_1 a1).bind fun t255 => (some (0, t255))) else (some (3, ([] : List Int))))) else (some (t253, ([] : List Int)))) = some (r1, r2) := H
 have A3 := Aside0.mk A30
 clear A30
 by_cases c4 : t253 = 0
 ·rw [if_pos c4] at H
  have c4b0 : (t253 == 0) = true := beq_iff_eq.mpr c4
  have c4b1 : (t253 != 0) = false := bne_eq_false_iff_eq.mpr c4
  clear c4
  replace H := Option.bind_eq_some_iff.mp H
  obtain ⟨t254, A50, H⟩ := H
  replace H : (if t254 = true then ((spec_l4Path.f a0_0 l0_1 a1).bind fun t255 => (some (0, t255))) else (some (3, ([] : List Int)))) = some (r1, r2) := H
  have A5 := Aside0.mk A50
  clear A50
  by_cases c6 : t254 = true
  ·subst c6
   have H1 : ((spec_l4Path.f a0_0 l0_1 a1).bind fun t255 => (some (0, t255))) = some (r1, r2) := by rw [if_pos rfl] at H; exact H
   clear H
   have H := H1
   clear H1
   replace H := Option.bind_eq_some_iff.mp H
   obtain ⟨t255, A70, H⟩ := H
   replace H : (some (0, t255)) = some (r1, r2) := H
   have A7 := Aside0.mk A70
   clear A70
   simp only [Option.some.injEq, Prod.mk.injEq] at H
   obtain ⟨rfl, rfl⟩ := H
   go_enter Try.func19, Try.ntmps19
   go_wp2_with (first | ((with_reducible refine gate_dst (N := 2) rfl ?_); refine box_event ?hg (N := 2) ?hd (cs := #[.int .i64 a0_0, .slice A0_1 l0_1.length c0_1]) (t := 29) ?hr ?_; (case hd => rfl); (case hg => rfl); (case hr => first | (go_simp; done) | (go_simp; rfl)); intro gb251 hg w8 hbox hb; have n0_ := Aside0.mk (below_step (by repeat (first | (with_reducible first | exact HB.out | apply below_alloc | apply pw_below_drewN | apply below_drew1) | exact HB.out)) hb); have n1_ := Aside0.mk (hbox); have n2_ := Aside0.mk ((by rw [hg]; exact (below_size (by repeat (first | (with_reducible first | exact HB.out | apply below_alloc | apply pw_below_drewN | apply below_drew1) | exact HB.out))) : w.heap.size ≤ gb251)); have n3_ := Aside0.mk ((by rw [hg]; exact (below_size (by repeat (first | (with_reducible first | exact HB.out | apply below_alloc | apply pw_below_drewN | apply below_drew1) | exact HB.out))) : w.heap.size ≤ gb251)); clear HB; have HB := n0_; have BK251 := n1_; have GW251 := n2_; have GE251 := n3_; clear n0_ n1_ n2_ n3_; clear hb hbox hg) | ((with_reducible refine gate_dst (N := 4) rfl ?_); refine box_event ?hg (N := 4) ?hd (cs := #[.int .i64 0, .slice none 0 0]) (t := 41) ?hr ?_; (case hd => rfl); (case hg => rfl); (case hr => first | (go_simp; done) | (go_simp; rfl)); intro gb252 hg w9 hbox hb; have n0_ := Aside0.mk (blk_below (g := gb251) (o := .cells #[.int .i64 a0_0, .slice A0_1 l0_1.length c0_1] 29 (0, 0)) (by (with_reducible repeat (first | refine blk_drewN ?_ _ | refine blk_drew ?_ | refine blk_alloc ?_ _)); exact BK251.out) hb); have n1_ := Aside0.mk (below_step (by repeat (first | (with_reducible first | exact HB.out | apply below_alloc | apply pw_below_drewN | apply below_drew1 | refine below_set ?_ GE251.out) | exact HB.out)) hb); have n2_ := Aside0.mk (hbox); have n3_ := Aside0.mk ((by rw [hg]; exact (below_size (by repeat (first | (with_reducible first | exact HB.out | apply below_alloc | apply pw_below_drewN | apply below_drew1 | refine below_set ?_ GE251.out) | exact HB.out))) : w.heap.size ≤ gb252)); have n4_ := Aside0.mk ((by rw [hg]; exact (below_size (by repeat (first | (with_reducible first | exact HB.out | apply below_alloc | apply pw_below_drewN | apply below_drew1 | refine below_set ?_ GE251.out) | exact HB.out))) : w.heap.size ≤ gb252)); have n5_ := Aside0.mk ((by rw [hg]; exact Nat.ne_of_lt (blk_lt (g := gb251) (o := .cells #[.int .i64 a0_0, .slice A0_1 l0_1.length c0_1] 29 (0, 0)) (by (with_reducible repeat (first | refine blk_drewN ?_ _ | refine blk_drew ?_ | refine blk_alloc ?_ _)); exact BK251.out)) : gb251 ≠ gb252)); have n6_ := Aside0.mk ((by rw [hg]; exact Nat.ne_of_gt (blk_lt (g := gb251) (o := .cells #[.int .i64 a0_0, .slice A0_1 l0_1.length c0_1] 29 (0, 0)) (by (with_reducible repeat (first | refine blk_drewN ?_ _ | refine blk_drew ?_ | refine blk_alloc ?_ _)); exact BK251.out)) : gb252 ≠ gb251)); clear BK251; clear HB; have BK251 := n0_; have HB := n1_; have BK252 := n2_; have GW252 := n3_; have GE252 := n4_; have NB251_252 := n5_; have NB252_251 := n6_; clear n0_ n1_ n2_ n3_ n4_ n5_ n6_; clear hb hbox hg; have hnb10 := NB251_252.out; have hnc10 := NB252_251.out; obtain ⟨hcz11_0, hcz11_1, hfz11_0, hfz11_1⟩ := Go.Proofs.Ytdhdgkonghefeaa.Lv.blks2 BK251.out) | ((with_reducible refine gate_callee (f := 10) rfl ?_); refine goesL_ (some 7) rfl rfl Try.func10 (by kernel_rfl) rfl #[.agg #[.int .i64 a0_0, .slice A0_1 l0_1.length c0_1]] rfl (by (try simp only [List.map_toArray, List.map_cons, List.map_nil]); first | done | rfl | (simp only [List.length_drop, List.length_take]; rfl)) ?_; (with_reducible refine (spec_TreeFault.calls a0_0 _ _ l0_1 t253 _ ?side1 ?side2 A3.out).mono ?_); (case side1 => repeat (first | exact (Kd.C_below HR0_1.out HB.out) | (with_reducible refine Kd.C_alloc ?_ _) | (with_reducible refine Kd.C_drewN ?_ _) | (with_reducible refine Kd.C_drew ?_))); (case side2 => exact HC0_1.out); rintro e w12 ⟨rfl, hb⟩; refine ⟨_, rfl, ?_⟩; have n0_ := Aside0.mk (blk_below (g := gb251) (o := .cells #[.int .i64 a0_0, .slice A0_1 l0_1.length c0_1] 29 (0, 0)) (by (with_reducible repeat (first | refine blk_drewN ?_ _ | refine blk_drew ?_ | refine blk_alloc ?_ _)); exact BK251.out) hb); have n1_ := Aside0.mk (blk_below (g := gb252) (o := .cells #[.int .i64 0, .slice none 0 0] 41 (0, 0)) (by (with_reducible repeat (first | refine blk_drewN ?_ _ | refine blk_drew ?_ | refine blk_alloc ?_ _)); exact BK252.out) hb); have n2_ := Aside0.mk (below_step (by repeat (first | (with_reducible first | exact HB.out | apply below_alloc | apply pw_below_drewN | apply below_drew1 | refine below_set ?_ GE251.out | refine below_set ?_ GE252.out) | exact HB.out)) hb); clear BK251; clear BK252; clear HB; have BK251 := n0_; have BK252 := n1_; have HB := n2_; clear n0_ n1_ n2_; (try clear hb); (try clear hb2); (try clear hk); (try clear hi)) | ((with_reducible refine gate_callee (f := 49) rfl ?_); refine goesL_ (some 13) rfl rfl Try.func49 (by kernel_rfl) rfl #[.int .i64 a1] rfl (by (try simp only [List.map_toArray, List.map_cons, List.map_nil]); first | done | rfl | (simp only [List.length_drop, List.length_take]; rfl)) ?_; (with_reducible refine (spec_l4Key.calls a1 true _ A5.out).mono ?_); rintro e w' ⟨rfl, ⟨nd, rfl⟩⟩; refine ⟨_, rfl, ?_⟩; (repeat (rw [drewN_self w12]; generalize hq_ : World.drewN w12 _ = w12; have n0_ : Aside0 (w12.heap[gb251]? = some (.cells #[.int .i64 a0_0, .slice A0_1 l0_1.length c0_1] 29 (0, 0))) := ⟨by rw [← hq_]; exact (by (with_reducible repeat (first | refine blk_drewN ?_ _ | refine blk_drew ?_ | refine blk_alloc ?_ _)); exact BK251.out)⟩; have n1_ : Aside0 (w12.heap[gb252]? = some (.cells #[.int .i64 0, .slice none 0 0] 41 (0, 0))) := ⟨by rw [← hq_]; exact (by (with_reducible repeat (first | refine blk_drewN ?_ _ | refine blk_drew ?_ | refine blk_alloc ?_ _)); exact BK252.out)⟩; have n2_ : Aside0 (Below w.heap.size w w12) := ⟨by rw [← hq_]; exact (by repeat (first | (with_reducible first | exact HB.out | apply below_alloc | apply pw_below_drewN | apply below_drew1 | refine below_set ?_ GE251.out | refine below_set ?_ GE252.out) | exact HB.out))⟩; clear BK251 BK252 HB hq_; have BK251 := n0_; have BK252 := n1_; have HB := n2_; clear n0_ n1_ n2_)); (try (have hczrgb251_0 : w12.cell? ⟨gb251, 0, none⟩ = some (.int .i64 a0_0) := (blk_cell BK251.out 0).trans rfl)); (try (have hfzrgb251_0 := blk_frozen BK251.out 0)); (try (have hczrgb251_1 : w12.cell? ⟨gb251, 1, none⟩ = some (.slice A0_1 l0_1.length c0_1) := (blk_cell BK251.out 1).trans rfl)); (try (have hfzrgb251_1 := blk_frozen BK251.out 1)); (try (have hczrgb252_0 : w12.cell? ⟨gb252, 0, none⟩ = some (.int .i64 0) := (blk_cell BK252.out 0).trans rfl)); (try (have hfzrgb252_0 := blk_frozen BK252.out 0)); (try (have hczrgb252_1 : w12.cell? ⟨gb252, 1, none⟩ = some (.slice none 0 0) := (blk_cell BK252.out 1).trans rfl)); (try (have hfzrgb252_1 := blk_frozen BK252.out 1))) | ((with_reducible refine gate_callee (f := 47) rfl ?_); refine goesL_ (some 17) rfl rfl Try.func47 (by kernel_rfl) rfl #[.pointer (some ⟨gb251, 0, none⟩), .int .i64 a1] rfl (by (try simp only [List.map_toArray, List.map_cons, List.map_nil]); first | done | rfl | (simp only [List.length_drop, List.length_take]; rfl)) ?_; (with_reducible refine (spec_l4Path.calls a0_0 _ _ l0_1 a1 t255 _ ?side1 ?side2 A7.out).mono ?_); (case side1 => repeat (first | exact (Kd.C_below HR0_1.out HB.out) | (with_reducible refine Kd.C_alloc ?_ _) | (with_reducible refine Kd.C_drewN ?_ _) | (with_reducible refine Kd.C_drew ?_))); (case side2 => exact HC0_1.out); rintro e w13 ⟨v256, rfl, ho0, hb⟩; refine ⟨_, rfl, ?_⟩; have n0_ := Aside0.mk (Kd.R_lower ho0 (below_size (by repeat (first | (with_reducible first | exact HB.out | apply below_alloc | apply pw_below_drewN | apply below_drew1 | refine below_set ?_ GE251.out | refine below_set ?_ GE252.out) | exact HB.out)))); have n1_ := Aside0.mk (blk_below (g := gb251) (o := .cells #[.int .i64 a0_0, .slice A0_1 l0_1.length c0_1] 29 (0, 0)) (by (with_reducible repeat (first | refine blk_drewN ?_ _ | refine blk_drew ?_ | refine blk_alloc ?_ _)); exact BK251.out) hb); have n2_ := Aside0.mk (blk_below (g := gb252) (o := .cells #[.int .i64 0, .slice none 0 0] 41 (0, 0)) (by (with_reducible repeat (first | refine blk_drewN ?_ _ | refine blk_drew ?_ | refine blk_alloc ?_ _)); exact BK252.out) hb); have n3_ := Aside0.mk (below_step (by repeat (first | (with_reducible first | exact HB.out | apply below_alloc | apply pw_below_drewN | apply below_drew1 | refine below_set ?_ GE251.out | refine below_set ?_ GE252.out) | exact HB.out)) hb); clear BK251; clear BK252; clear HB; have HO257 := n0_; have BK251 := n1_; have BK252 := n2_; have HB := n3_; clear n0_ n1_ n2_ n3_; (try clear hb); (try clear hb2); (try clear hk); (try clear hi); (try clear ho0); obtain ⟨Ao14, co14, eo14⟩ := Kd.R_slice HO257.out; subst eo14; obtain ⟨hcz15_0, hcz15_1, hfz15_0, hfz15_1⟩ := Go.Proofs.Ytdhdgkonghefeaa.Lv.blks2 BK252.out))
   refine bodyPost_ret (results_cell_row rfl _ _ gb252 41 #[.int .i64 0, .slice Ao14 t255.length co14] (0, 0) _ rfl (by (with_reducible repeat (first | refine blk_drewN ?_ _ | refine blk_drew ?_ | refine blk_alloc ?_ _)); refine blk_put (cs := #[.int .i64 0, .slice none 0 0]) ?_ 1 _ rfl; (with_reducible repeat (first | refine blk_drewN ?_ _ | refine blk_drew ?_ | refine blk_alloc ?_ _)); refine blk_put (cs := #[.int .i64 0, .slice none 0 0]) ?_ 0 _ rfl; (with_reducible repeat (first | refine blk_drewN ?_ _ | refine blk_drew ?_ | refine blk_alloc ?_ _)); exact BK252.out) Try.underlying41 rfl (by kernel_rfl)) rfl ?_
   exact ⟨_, by first | rfl | (simp [errW_none, errW_some] <;> rfl) | (simp [*, errW_none, errW_some] <;> rfl), by (with_reducible repeat (first | apply Kd.R_alloc | apply Kd.R_drewN | apply Kd.R_drew)); exact Kd.R_mono (Kd.R_far (p := ⟨gb252, 1, none⟩) (Kd.R_far (p := ⟨gb252, 0, none⟩) (Kd.R_types HO257.out BK252.out (by decide)) (fun _ hk => hk.2) (.int .i64 0)) (fun _ hk => hk.2) (.slice Ao14 t255.length co14)) (fun _ hk => trivial), by repeat (first | (with_reducible first | exact HB.out | apply below_alloc | apply pw_below_drewN | apply below_drew1 | refine below_set ?_ GE251.out | refine below_set ?_ GE252.out) | exact HB.out)⟩
  ·replace c6 := Bool.eq_false_iff.mpr c6
   subst c6
   have H1 : (some (3, ([] : List Int))) = some (r1, r2) := by rw [if_neg (show ¬ (false = true) by decide)] at H; exact H
   clear H
   have H := H1
   clear H1
   simp only [Option.some.injEq, Prod.mk.injEq] at H
   obtain ⟨rfl, rfl⟩ := H
   go_enter Try.func19, Try.ntmps19
   go_wp2_with (first | ((with_reducible refine gate_dst (N := 2) rfl ?_); refine box_event ?hg (N := 2) ?hd (cs := #[.int .i64 a0_0, .slice A0_1 l0_1.length c0_1]) (t := 29) ?hr ?_; (case hd => rfl); (case hg => rfl); (case hr => first | (go_simp; done) | (go_simp; rfl)); intro gb251 hg w16 hbox hb; have n0_ := Aside0.mk (below_step (by repeat (first | (with_reducible first | exact HB.out | apply below_alloc | apply pw_below_drewN | apply below_drew1) | exact HB.out)) hb); have n1_ := Aside0.mk (hbox); have n2_ := Aside0.mk ((by rw [hg]; exact (below_size (by repeat (first | (with_reducible first | exact HB.out | apply below_alloc | apply pw_below_drewN | apply below_drew1) | exact HB.out))) : w.heap.size ≤ gb251)); have n3_ := Aside0.mk ((by rw [hg]; exact (below_size (by repeat (first | (with_reducible first | exact HB.out | apply below_alloc | apply pw_below_drewN | apply below_drew1) | exact HB.out))) : w.heap.size ≤ gb251)); clear HB; have HB := n0_; have BK251 := n1_; have GW251 := n2_; have GE251 := n3_; clear n0_ n1_ n2_ n3_; clear hb hbox hg) | ((with_reducible refine gate_dst (N := 4) rfl ?_); refine box_event ?hg (N := 4) ?hd (cs := #[.int .i64 0, .slice none 0 0]) (t := 41) ?hr ?_; (case hd => rfl); (case hg => rfl); (case hr => first | (go_simp; done) | (go_simp; rfl)); intro gb252 hg w17 hbox hb; have n0_ := Aside0.mk (blk_below (g := gb251) (o := .cells #[.int .i64 a0_0, .slice A0_1 l0_1.length c0_1] 29 (0, 0)) (by (with_reducible repeat (first | refine blk_drewN ?_ _ | refine blk_drew ?_ | refine blk_alloc ?_ _)); exact BK251.out) hb); have n1_ := Aside0.mk (below_step (by repeat (first | (with_reducible first | exact HB.out | apply below_alloc | apply pw_below_drewN | apply below_drew1 | refine below_set ?_ GE251.out) | exact HB.out)) hb); have n2_ := Aside0.mk (hbox); have n3_ := Aside0.mk ((by rw [hg]; exact (below_size (by repeat (first | (with_reducible first | exact HB.out | apply below_alloc | apply pw_below_drewN | apply below_drew1 | refine below_set ?_ GE251.out) | exact HB.out))) : w.heap.size ≤ gb252)); have n4_ := Aside0.mk ((by rw [hg]; exact (below_size (by repeat (first | (with_reducible first | exact HB.out | apply below_alloc | apply pw_below_drewN | apply below_drew1 | refine below_set ?_ GE251.out) | exact HB.out))) : w.heap.size ≤ gb252)); have n5_ := Aside0.mk ((by rw [hg]; exact Nat.ne_of_lt (blk_lt (g := gb251) (o := .cells #[.int .i64 a0_0, .slice A0_1 l0_1.length c0_1] 29 (0, 0)) (by (with_reducible repeat (first | refine blk_drewN ?_ _ | refine blk_drew ?_ | refine blk_alloc ?_ _)); exact BK251.out)) : gb251 ≠ gb252)); have n6_ := Aside0.mk ((by rw [hg]; exact Nat.ne_of_gt (blk_lt (g := gb251) (o := .cells #[.int .i64 a0_0, .slice A0_1 l0_1.length c0_1] 29 (0, 0)) (by (with_reducible repeat (first | refine blk_drewN ?_ _ | refine blk_drew ?_ | refine blk_alloc ?_ _)); exact BK251.out)) : gb252 ≠ gb251)); clear BK251; clear HB; have BK251 := n0_; have HB := n1_; have BK252 := n2_; have GW252 := n3_; have GE252 := n4_; have NB251_252 := n5_; have NB252_251 := n6_; clear n0_ n1_ n2_ n3_ n4_ n5_ n6_; clear hb hbox hg; have hnb18 := NB251_252.out; have hnc18 := NB252_251.out; obtain ⟨hcz19_0, hcz19_1, hfz19_0, hfz19_1⟩ := Go.Proofs.Ytdhdgkonghefeaa.Lv.blks2 BK251.out) | ((with_reducible refine gate_callee (f := 10) rfl ?_); refine goesL_ (some 7) rfl rfl Try.func10 (by kernel_rfl) rfl #[.agg #[.int .i64 a0_0, .slice A0_1 l0_1.length c0_1]] rfl (by (try simp only [List.map_toArray, List.map_cons, List.map_nil]); first | done | rfl | (simp only [List.length_drop, List.length_take]; rfl)) ?_; (with_reducible refine (spec_TreeFault.calls a0_0 _ _ l0_1 t253 _ ?side1 ?side2 A3.out).mono ?_); (case side1 => repeat (first | exact (Kd.C_below HR0_1.out HB.out) | (with_reducible refine Kd.C_alloc ?_ _) | (with_reducible refine Kd.C_drewN ?_ _) | (with_reducible refine Kd.C_drew ?_))); (case side2 => exact HC0_1.out); rintro e w20 ⟨rfl, hb⟩; refine ⟨_, rfl, ?_⟩; have n0_ := Aside0.mk (blk_below (g := gb251) (o := .cells #[.int .i64 a0_0, .slice A0_1 l0_1.length c0_1] 29 (0, 0)) (by (with_reducible repeat (first | refine blk_drewN ?_ _ | refine blk_drew ?_ | refine blk_alloc ?_ _)); exact BK251.out) hb); have n1_ := Aside0.mk (blk_below (g := gb252) (o := .cells #[.int .i64 0, .slice none 0 0] 41 (0, 0)) (by (with_reducible repeat (first | refine blk_drewN ?_ _ | refine blk_drew ?_ | refine blk_alloc ?_ _)); exact BK252.out) hb); have n2_ := Aside0.mk (below_step (by repeat (first | (with_reducible first | exact HB.out | apply below_alloc | apply pw_below_drewN | apply below_drew1 | refine below_set ?_ GE251.out | refine below_set ?_ GE252.out) | exact HB.out)) hb); clear BK251; clear BK252; clear HB; have BK251 := n0_; have BK252 := n1_; have HB := n2_; clear n0_ n1_ n2_; (try clear hb); (try clear hb2); (try clear hk); (try clear hi)) | ((with_reducible refine gate_callee (f := 49) rfl ?_); refine goesL_ (some 13) rfl rfl Try.func49 (by kernel_rfl) rfl #[.int .i64 a1] rfl (by (try simp only [List.map_toArray, List.map_cons, List.map_nil]); first | done | rfl | (simp only [List.length_drop, List.length_take]; rfl)) ?_; (with_reducible refine (spec_l4Key.calls a1 false _ A5.out).mono ?_); rintro e w' ⟨rfl, ⟨nd, rfl⟩⟩; refine ⟨_, rfl, ?_⟩; (repeat (rw [drewN_self w20]; generalize hq_ : World.drewN w20 _ = w20; have n0_ : Aside0 (w20.heap[gb251]? = some (.cells #[.int .i64 a0_0, .slice A0_1 l0_1.length c0_1] 29 (0, 0))) := ⟨by rw [← hq_]; exact (by (with_reducible repeat (first | refine blk_drewN ?_ _ | refine blk_drew ?_ | refine blk_alloc ?_ _)); exact BK251.out)⟩; have n1_ : Aside0 (w20.heap[gb252]? = some (.cells #[.int .i64 0, .slice none 0 0] 41 (0, 0))) := ⟨by rw [← hq_]; exact (by (with_reducible repeat (first | refine blk_drewN ?_ _ | refine blk_drew ?_ | refine blk_alloc ?_ _)); exact BK252.out)⟩; have n2_ : Aside0 (Below w.heap.size w w20) := ⟨by rw [← hq_]; exact (by repeat (first | (with_reducible first | exact HB.out | apply below_alloc | apply pw_below_drewN | apply below_drew1 | refine below_set ?_ GE251.out | refine below_set ?_ GE252.out) | exact HB.out))⟩; clear BK251 BK252 HB hq_; have BK251 := n0_; have BK252 := n1_; have HB := n2_; clear n0_ n1_ n2_)); (try (have hczrgb251_0 : w20.cell? ⟨gb251, 0, none⟩ = some (.int .i64 a0_0) := (blk_cell BK251.out 0).trans rfl)); (try (have hfzrgb251_0 := blk_frozen BK251.out 0)); (try (have hczrgb251_1 : w20.cell? ⟨gb251, 1, none⟩ = some (.slice A0_1 l0_1.length c0_1) := (blk_cell BK251.out 1).trans rfl)); (try (have hfzrgb251_1 := blk_frozen BK251.out 1)); (try (have hczrgb252_0 : w20.cell? ⟨gb252, 0, none⟩ = some (.int .i64 0) := (blk_cell BK252.out 0).trans rfl)); (try (have hfzrgb252_0 := blk_frozen BK252.out 0)); (try (have hczrgb252_1 : w20.cell? ⟨gb252, 1, none⟩ = some (.slice none 0 0) := (blk_cell BK252.out 1).trans rfl)); (try (have hfzrgb252_1 := blk_frozen BK252.out 1)); obtain ⟨hcz21_0, hcz21_1, hfz21_0, hfz21_1⟩ := Go.Proofs.Ytdhdgkonghefeaa.Lv.blks2 BK252.out))
   refine bodyPost_ret (results_cell_row rfl _ _ gb252 41 #[.int .i64 3, .slice none 0 0] (0, 0) _ rfl (by (with_reducible repeat (first | refine blk_drewN ?_ _ | refine blk_drew ?_ | refine blk_alloc ?_ _)); refine blk_put (cs := #[.int .i64 3, .slice none 0 0]) ?_ 1 _ rfl; (with_reducible repeat (first | refine blk_drewN ?_ _ | refine blk_drew ?_ | refine blk_alloc ?_ _)); refine blk_put (cs := #[.int .i64 0, .slice none 0 0]) ?_ 0 _ rfl; (with_reducible repeat (first | refine blk_drewN ?_ _ | refine blk_drew ?_ | refine blk_alloc ?_ _)); exact BK252.out) Try.underlying41 rfl (by kernel_rfl)) rfl ?_
   exact ⟨_, by first | rfl | (simp [errW_none, errW_some] <;> rfl) | (simp [*, errW_none, errW_some] <;> rfl), by first | exact Kd.R_nil _ _ _ _ _ | exact Kd.N_nil _ _ _ _ _ | exact Kd.V_nil _ _ _ _ _ | exact Kd.Q_nil _ _ _ _ _ | exact Kd.S_nil _ _ _ _ _, by repeat (first | (with_reducible first | exact HB.out | apply below_alloc | apply pw_below_drewN | apply below_drew1 | refine below_set ?_ GE251.out | refine below_set ?_ GE252.out) | exact HB.out)⟩
 ·rw [if_neg c4] at H
  have c4b0 : (t253 == 0) = false := beq_eq_false_iff_ne.mpr c4
  have c4b1 : (t253 != 0) = true := bne_iff_ne.mpr c4
  simp only [Option.some.injEq, Prod.mk.injEq] at H
  obtain ⟨rfl, rfl⟩ := H
  go_enter Try.func19, Try.ntmps19
  go_wp2_with (first | ((with_reducible refine gate_dst (N := 2) rfl ?_); refine box_event ?hg (N := 2) ?hd (cs := #[.int .i64 a0_0, .slice A0_1 l0_1.length c0_1]) (t := 29) ?hr ?_; (case hd => rfl); (case hg => rfl); (case hr => first | (go_simp; done) | (go_simp; rfl)); intro gb251 hg w22 hbox hb; have n0_ := Aside0.mk (below_step (by repeat (first | (with_reducible first | exact HB.out | apply below_alloc | apply pw_below_drewN | apply below_drew1) | exact HB.out)) hb); have n1_ := Aside0.mk (hbox); have n2_ := Aside0.mk ((by rw [hg]; exact (below_size (by repeat (first | (with_reducible first | exact HB.out | apply below_alloc | apply pw_below_drewN | apply below_drew1) | exact HB.out))) : w.heap.size ≤ gb251)); have n3_ := Aside0.mk ((by rw [hg]; exact (below_size (by repeat (first | (with_reducible first | exact HB.out | apply below_alloc | apply pw_below_drewN | apply below_drew1) | exact HB.out))) : w.heap.size ≤ gb251)); clear HB; have HB := n0_; have BK251 := n1_; have GW251 := n2_; have GE251 := n3_; clear n0_ n1_ n2_ n3_; clear hb hbox hg) | ((with_reducible refine gate_dst (N := 4) rfl ?_); refine box_event ?hg (N := 4) ?hd (cs := #[.int .i64 0, .slice none 0 0]) (t := 41) ?hr ?_; (case hd => rfl); (case hg => rfl); (case hr => first | (go_simp; done) | (go_simp; rfl)); intro gb252 hg w23 hbox hb; have n0_ := Aside0.mk (blk_below (g := gb251) (o := .cells #[.int .i64 a0_0, .slice A0_1 l0_1.length c0_1] 29 (0, 0)) (by (with_reducible repeat (first | refine blk_drewN ?_ _ | refine blk_drew ?_ | refine blk_alloc ?_ _)); exact BK251.out) hb); have n1_ := Aside0.mk (below_step (by repeat (first | (with_reducible first | exact HB.out | apply below_alloc | apply pw_below_drewN | apply below_drew1 | refine below_set ?_ GE251.out) | exact HB.out)) hb); have n2_ := Aside0.mk (hbox); have n3_ := Aside0.mk ((by rw [hg]; exact (below_size (by repeat (first | (with_reducible first | exact HB.out | apply below_alloc | apply pw_below_drewN | apply below_drew1 | refine below_set ?_ GE251.out) | exact HB.out))) : w.heap.size ≤ gb252)); have n4_ := Aside0.mk ((by rw [hg]; exact (below_size (by repeat (first | (with_reducible first | exact HB.out | apply below_alloc | apply pw_below_drewN | apply below_drew1 | refine below_set ?_ GE251.out) | exact HB.out))) : w.heap.size ≤ gb252)); have n5_ := Aside0.mk ((by rw [hg]; exact Nat.ne_of_lt (blk_lt (g := gb251) (o := .cells #[.int .i64 a0_0, .slice A0_1 l0_1.length c0_1] 29 (0, 0)) (by (with_reducible repeat (first | refine blk_drewN ?_ _ | refine blk_drew ?_ | refine blk_alloc ?_ _)); exact BK251.out)) : gb251 ≠ gb252)); have n6_ := Aside0.mk ((by rw [hg]; exact Nat.ne_of_gt (blk_lt (g := gb251) (o := .cells #[.int .i64 a0_0, .slice A0_1 l0_1.length c0_1] 29 (0, 0)) (by (with_reducible repeat (first | refine blk_drewN ?_ _ | refine blk_drew ?_ | refine blk_alloc ?_ _)); exact BK251.out)) : gb252 ≠ gb251)); clear BK251; clear HB; have BK251 := n0_; have HB := n1_; have BK252 := n2_; have GW252 := n3_; have GE252 := n4_; have NB251_252 := n5_; have NB252_251 := n6_; clear n0_ n1_ n2_ n3_ n4_ n5_ n6_; clear hb hbox hg; have hnb24 := NB251_252.out; have hnc24 := NB252_251.out; obtain ⟨hcz25_0, hcz25_1, hfz25_0, hfz25_1⟩ := Go.Proofs.Ytdhdgkonghefeaa.Lv.blks2 BK251.out) | ((with_reducible refine gate_callee (f := 10) rfl ?_); refine goesL_ (some 7) rfl rfl Try.func10 (by kernel_rfl) rfl #[.agg #[.int .i64 a0_0, .slice A0_1 l0_1.length c0_1]] rfl (by (try simp only [List.map_toArray, List.map_cons, List.map_nil]); first | done | rfl | (simp only [List.length_drop, List.length_take]; rfl)) ?_; (with_reducible refine (spec_TreeFault.calls a0_0 _ _ l0_1 t253 _ ?side1 ?side2 A3.out).mono ?_); (case side1 => repeat (first | exact (Kd.C_below HR0_1.out HB.out) | (with_reducible refine Kd.C_alloc ?_ _) | (with_reducible refine Kd.C_drewN ?_ _) | (with_reducible refine Kd.C_drew ?_))); (case side2 => exact HC0_1.out); rintro e w26 ⟨rfl, hb⟩; refine ⟨_, rfl, ?_⟩; have n0_ := Aside0.mk (blk_below (g := gb251) (o := .cells #[.int .i64 a0_0, .slice A0_1 l0_1.length c0_1] 29 (0, 0)) (by (with_reducible repeat (first | refine blk_drewN ?_ _ | refine blk_drew ?_ | refine blk_alloc ?_ _)); exact BK251.out) hb); have n1_ := Aside0.mk (blk_below (g := gb252) (o := .cells #[.int .i64 0, .slice none 0 0] 41 (0, 0)) (by (with_reducible repeat (first | refine blk_drewN ?_ _ | refine blk_drew ?_ | refine blk_alloc ?_ _)); exact BK252.out) hb); have n2_ := Aside0.mk (below_step (by repeat (first | (with_reducible first | exact HB.out | apply below_alloc | apply pw_below_drewN | apply below_drew1 | refine below_set ?_ GE251.out | refine below_set ?_ GE252.out) | exact HB.out)) hb); clear BK251; clear BK252; clear HB; have BK251 := n0_; have BK252 := n1_; have HB := n2_; clear n0_ n1_ n2_; (try clear hb); (try clear hb2); (try clear hk); (try clear hi); obtain ⟨hcz27_0, hcz27_1, hfz27_0, hfz27_1⟩ := Go.Proofs.Ytdhdgkonghefeaa.Lv.blks2 BK252.out))
  refine bodyPost_ret (results_cell_row rfl _ _ gb252 41 #[.int .i64 t253, .slice none 0 0] (0, 0) _ rfl (by (with_reducible repeat (first | refine blk_drewN ?_ _ | refine blk_drew ?_ | refine blk_alloc ?_ _)); refine blk_put (cs := #[.int .i64 t253, .slice none 0 0]) ?_ 1 _ rfl; (with_reducible repeat (first | refine blk_drewN ?_ _ | refine blk_drew ?_ | refine blk_alloc ?_ _)); refine blk_put (cs := #[.int .i64 0, .slice none 0 0]) ?_ 0 _ rfl; (with_reducible repeat (first | refine blk_drewN ?_ _ | refine blk_drew ?_ | refine blk_alloc ?_ _)); exact BK252.out) Try.underlying41 rfl (by kernel_rfl)) rfl ?_
  exact ⟨_, by first | rfl | (simp [errW_none, errW_some] <;> rfl) | (simp [*, errW_none, errW_some] <;> rfl), by first | exact Kd.R_nil _ _ _ _ _ | exact Kd.N_nil _ _ _ _ _ | exact Kd.V_nil _ _ _ _ _ | exact Kd.Q_nil _ _ _ _ _ | exact Kd.S_nil _ _ _ _ _, by repeat (first | (with_reducible first | exact HB.out | apply below_alloc | apply pw_below_drewN | apply below_drew1 | refine below_set ?_ GE251.out | refine below_set ?_ GE252.out) | exact HB.out)⟩

-- NEEDS Derived.Test.@N@Lv
/-! ### impl_PathTo: function 20 -/
set_option maxHeartbeats 8000000 in
set_option maxRecDepth 100000 in
theorem impl_PathTo.calls (k : Nat) (a0_0 : Int) (A0_1 : Option Addr) (c0_1 : Nat) (l0_1 : List (S58)) (a1 : Int) (r1 : Int) (r2 : List Int) (w : World) (hr0_1 : Kd.C k58 w A0_1 l0_1.length l0_1) (hc0_1 : l0_1.length ≤ c0_1) (h : impl_PathTo.f k a0_0 l0_1 a1 = some (r1, r2)) :
  Calls Try.prog 20 #[.agg #[.int .i64 a0_0, .slice A0_1 l0_1.length c0_1], .int .i64 a1] w fun e w' => ∃ v1_ : Value, e = .returned (.agg #[.int .i64 r1, v1_]) ∧ Kd.R (Kd.int .i64) 2 w' w.heap.size (fun _ => True) v1_ r2 ∧ Below w.heap.size w w' := by
 have hu29 := Try.underlying29
 have hu41 := Try.underlying41
 have HR0_1 := Aside0.mk hr0_1
 have HC0_1 := Aside0.mk hc0_1
 clear hr0_1 hc0_1
 have HB := Aside0.mk (Below.refl w.heap.size w)
 have H : ((impl_TreeFault.f a0_0 l0_1).bind fun t261 => (if t261 = 0 then ((impl_isTreeKey.f a1).bind fun t262 => (impl_PathTo.j0 k a1 t261 (!t262) a0_0 l0_1)) else (impl_PathTo.j0 k a1 t261 false a0_0 l0_1))) = some (r1, r2) := h
 clear h
 replace H := Option.bind_eq_some_iff.mp H
 obtain ⟨t261, A30, H⟩ := H
 replace H : (if t261 = 0 then ((impl_isTreeKey.f a1).bind fun t262 => (impl_PathTo.j0 k a1 t261 (!t262) a0_0 l0_1)) else (impl_PathTo.j0 k a1 t261 false a0_0 l0_1)) = some (r1, r2) := H
 have A3 := Aside0.mk A30
 clear A30
 have HC4 := Aside0.mk H
 clear H
 go_enter Try.func20, Try.ntmps20
 go_upto_region 2 with (first | ((with_reducible refine gate_dst (N := 2) rfl ?_); refine box_event ?hg (N := 2) ?hd (cs := #[.int .i64 a0_0, .slice A0_1 l0_1.length c0_1]) (t := 29) ?hr ?_; (case hd => rfl); (case hg => rfl); (case hr => first | (go_simp; done) | (go_simp; rfl)); intro gb259 hg w5 hbox hb; have n0_ := Aside0.mk (below_step (by repeat (first | (with_reducible first | exact HB.out | apply below_alloc | apply pw_below_drewN | apply below_drew1) | exact HB.out)) hb); have n1_ := Aside0.mk (hbox); have n2_ := Aside0.mk ((by rw [hg]; exact (below_size (by repeat (first | (with_reducible first | exact HB.out | apply below_alloc | apply pw_below_drewN | apply below_drew1) | exact HB.out))) : w.heap.size ≤ gb259)); have n3_ := Aside0.mk ((by rw [hg]; exact (below_size (by repeat (first | (with_reducible first | exact HB.out | apply below_alloc | apply pw_below_drewN | apply below_drew1) | exact HB.out))) : w.heap.size ≤ gb259)); clear HB; have HB := n0_; have BK259 := n1_; have GW259 := n2_; have GE259 := n3_; clear n0_ n1_ n2_ n3_; clear hb hbox hg) | ((with_reducible refine gate_dst (N := 4) rfl ?_); refine box_event ?hg (N := 4) ?hd (cs := #[.int .i64 0, .slice none 0 0]) (t := 41) ?hr ?_; (case hd => rfl); (case hg => rfl); (case hr => first | (go_simp; done) | (go_simp; rfl)); intro gb260 hg w6 hbox hb; have n0_ := Aside0.mk (blk_below (g := gb259) (o := .cells #[.int .i64 a0_0, .slice A0_1 l0_1.length c0_1] 29 (0, 0)) (by (with_reducible repeat (first | refine blk_drewN ?_ _ | refine blk_drew ?_ | refine blk_alloc ?_ _)); exact BK259.out) hb); have n1_ := Aside0.mk (below_step (by repeat (first | (with_reducible first | exact HB.out | apply below_alloc | apply pw_below_drewN | apply below_drew1 | refine below_set ?_ GE259.out) | exact HB.out)) hb); have n2_ := Aside0.mk (hbox); have n3_ := Aside0.mk ((by rw [hg]; exact (below_size (by repeat (first | (with_reducible first | exact HB.out | apply below_alloc | apply pw_below_drewN | apply below_drew1 | refine below_set ?_ GE259.out) | exact HB.out))) : w.heap.size ≤ gb260)); have n4_ := Aside0.mk ((by rw [hg]; exact (below_size (by repeat (first | (with_reducible first | exact HB.out | apply below_alloc | apply pw_below_drewN | apply below_drew1 | refine below_set ?_ GE259.out) | exact HB.out))) : w.heap.size ≤ gb260)); have n5_ := Aside0.mk ((by rw [hg]; exact Nat.ne_of_lt (blk_lt (g := gb259) (o := .cells #[.int .i64 a0_0, .slice A0_1 l0_1.length c0_1] 29 (0, 0)) (by (with_reducible repeat (first | refine blk_drewN ?_ _ | refine blk_drew ?_ | refine blk_alloc ?_ _)); exact BK259.out)) : gb259 ≠ gb260)); have n6_ := Aside0.mk ((by rw [hg]; exact Nat.ne_of_gt (blk_lt (g := gb259) (o := .cells #[.int .i64 a0_0, .slice A0_1 l0_1.length c0_1] 29 (0, 0)) (by (with_reducible repeat (first | refine blk_drewN ?_ _ | refine blk_drew ?_ | refine blk_alloc ?_ _)); exact BK259.out)) : gb260 ≠ gb259)); clear BK259; clear HB; have BK259 := n0_; have HB := n1_; have BK260 := n2_; have GW260 := n3_; have GE260 := n4_; have NB259_260 := n5_; have NB260_259 := n6_; clear n0_ n1_ n2_ n3_ n4_ n5_ n6_; clear hb hbox hg; have hnb7 := NB259_260.out; have hnc7 := NB260_259.out; obtain ⟨hcz8_0, hcz8_1, hfz8_0, hfz8_1⟩ := Go.Proofs.Ytdhdgkonghefeaa.Lv.blks2 BK259.out) | ((with_reducible refine gate_callee (f := 12) rfl ?_); refine goesL_ (some 7) rfl rfl Try.func12 (by kernel_rfl) rfl #[.agg #[.int .i64 a0_0, .slice A0_1 l0_1.length c0_1]] rfl (by (try simp only [List.map_toArray, List.map_cons, List.map_nil]); first | done | rfl | (simp only [List.length_drop, List.length_take]; rfl)) ?_; (with_reducible refine (impl_TreeFault.calls a0_0 _ _ l0_1 t261 _ ?side1 ?side2 A3.out).mono ?_); (case side1 => repeat (first | exact (Kd.C_below HR0_1.out HB.out) | (with_reducible refine Kd.C_alloc ?_ _) | (with_reducible refine Kd.C_drewN ?_ _) | (with_reducible refine Kd.C_drew ?_))); (case side2 => exact HC0_1.out); rintro e w9 ⟨rfl, hb⟩; refine ⟨_, rfl, ?_⟩; have n0_ := Aside0.mk (blk_below (g := gb259) (o := .cells #[.int .i64 a0_0, .slice A0_1 l0_1.length c0_1] 29 (0, 0)) (by (with_reducible repeat (first | refine blk_drewN ?_ _ | refine blk_drew ?_ | refine blk_alloc ?_ _)); exact BK259.out) hb); have n1_ := Aside0.mk (blk_below (g := gb260) (o := .cells #[.int .i64 0, .slice none 0 0] 41 (0, 0)) (by (with_reducible repeat (first | refine blk_drewN ?_ _ | refine blk_drew ?_ | refine blk_alloc ?_ _)); exact BK260.out) hb); have n2_ := Aside0.mk (below_step (by repeat (first | (with_reducible first | exact HB.out | apply below_alloc | apply pw_below_drewN | apply below_drew1 | refine below_set ?_ GE259.out | refine below_set ?_ GE260.out) | exact HB.out)) hb); clear BK259; clear BK260; clear HB; have BK259 := n0_; have BK260 := n1_; have HB := n2_; clear n0_ n1_ n2_; (try clear hb); (try clear hb2); (try clear hk); (try clear hi)))
 (try simp only [Act.put, List.setIfInBounds_toArray, List.set_cons_zero, List.set_cons_succ])
 go_cut [14] (fun v14 wc => ∃ (kq : Nat) (x14_3 : Bool), v14 = .bool x14_3 ∧ Aside0 (impl_PathTo.j0 kq a1 t261 x14_3 a0_0 l0_1 = some (r1, r2)) ∧ Aside0 (kq ≤ k) ∧ Aside0 (wc.heap[gb259]? = some (.cells #[.int .i64 a0_0, (.slice A0_1 l0_1.length c0_1)] 29 (0, 0))) ∧ Aside0 (wc.heap[gb260]? = some (.cells #[.int .i64 0, (.slice none 0 0)] 41 (0, 0))) ∧ Aside0 (Below w.heap.size w wc))
 case first =>
  have H := HC4.out
  clear HC4
  by_cases c10 : t261 = 0
  ·rw [if_pos c10] at H
   have c10b0 : (t261 == 0) = true := beq_iff_eq.mpr c10
   have c10b1 : (t261 != 0) = false := bne_eq_false_iff_eq.mpr c10
   clear c10
   (first | rw [c10b0] | (simp only [i64_w, i32_w]; rw [c10b0]) | skip)
   replace H := Option.bind_eq_some_iff.mp H
   obtain ⟨t262, A110, H⟩ := H
   replace H : (impl_PathTo.j0 k a1 t261 (!t262) a0_0 l0_1) = some (r1, r2) := H
   have A11 := Aside0.mk A110
   clear A110
   have H' := Aside0.mk H
   clear H
   go_wp2_with (first | (go_at_call 37; (with_reducible refine (impl_isTreeKey.calls a1 t262 _ A11.out).mono ?_); rintro e w' ⟨rfl, ⟨nd, rfl⟩⟩))
   go_meet
   case rel => exact ⟨_, (!t262), (by first | rfl | (simp; done) | (simp [*]; done)), H', ⟨by first | omega | exact Nat.le_refl _⟩, ⟨by (with_reducible repeat (first | refine blk_drewN ?_ _ | refine blk_drew ?_ | refine blk_alloc ?_ _)); exact BK259.out⟩, ⟨by (with_reducible repeat (first | refine blk_drewN ?_ _ | refine blk_drew ?_ | refine blk_alloc ?_ _)); exact BK260.out⟩, ⟨by repeat (first | (with_reducible first | exact HB.out | apply below_alloc | apply pw_below_drewN | apply below_drew1 | refine below_set ?_ GE259.out | refine below_set ?_ GE260.out) | exact HB.out)⟩⟩
  ·rw [if_neg c10] at H
   have c10b0 : (t261 == 0) = false := beq_eq_false_iff_ne.mpr c10
   have c10b1 : (t261 != 0) = true := bne_iff_ne.mpr c10
   (first | rw [c10b0] | (simp only [i64_w, i32_w]; rw [c10b0]) | skip)
   have H' := Aside0.mk H
   clear H
   go_wp2
   go_meet
   case rel => exact ⟨_, (false), (by first | rfl | (simp; done) | (simp [*]; done)), H', ⟨by first | omega | exact Nat.le_refl _⟩, ⟨by (with_reducible repeat (first | refine blk_drewN ?_ _ | refine blk_drew ?_ | refine blk_alloc ?_ _)); exact BK259.out⟩, ⟨by (with_reducible repeat (first | refine blk_drewN ?_ _ | refine blk_drew ?_ | refine blk_alloc ?_ _)); exact BK260.out⟩, ⟨by repeat (first | (with_reducible first | exact HB.out | apply below_alloc | apply pw_below_drewN | apply below_drew1 | refine below_set ?_ GE259.out | refine below_set ?_ GE260.out) | exact HB.out)⟩⟩
 case rest =>
  clear HC4
  try clear c1
  try clear c2
  try clear p2
  try clear c7
  try clear c10
  try clear c10b0
  try clear c10b1
  try clear hcz8_0 hcz8_1 hfz8_0 hfz8_1
  obtain ⟨kq, x14_3, rfl, HA, HJ3, BK259, BK260, HB⟩ := hcut
  cases kq with
  | zero => exact absurd HA.out (by simp [impl_PathTo.j0])
  | succ kj3 =>
   have H := HA.out
   clear HA
   simp only [impl_PathTo.j0] at H
   by_cases c12 : x14_3 = true
   ·subst c12
    have H1 : (some (3, ([] : List Int))) = some (r1, r2) := by rw [if_pos rfl] at H; exact H
    clear H
    have H := H1
    clear H1
    simp only [Option.some.injEq, Prod.mk.injEq] at H
    obtain ⟨rfl, rfl⟩ := H
    have hnb13 := NB260_259.out
    have hnc13 := NB259_260.out
    obtain ⟨hcz14_0, hcz14_1, hfz14_0, hfz14_1⟩ := Go.Proofs.Ytdhdgkonghefeaa.Lv.blks2 BK260.out
    go_wp2
    refine bodyPost_ret (results_cell_row rfl _ _ gb260 41 #[.int .i64 3, .slice none 0 0] (0, 0) _ rfl (by (with_reducible repeat (first | refine blk_drewN ?_ _ | refine blk_drew ?_ | refine blk_alloc ?_ _)); refine blk_put (cs := #[.int .i64 3, .slice none 0 0]) ?_ 1 _ rfl; (with_reducible repeat (first | refine blk_drewN ?_ _ | refine blk_drew ?_ | refine blk_alloc ?_ _)); refine blk_put (cs := #[.int .i64 0, .slice none 0 0]) ?_ 0 _ rfl; (with_reducible repeat (first | refine blk_drewN ?_ _ | refine blk_drew ?_ | refine blk_alloc ?_ _)); exact BK260.out) Try.underlying41 rfl (by kernel_rfl)) rfl ?_
    exact ⟨_, by first | rfl | (simp [errW_none, errW_some] <;> rfl) | (simp [*, errW_none, errW_some] <;> rfl), by first | exact Kd.R_nil _ _ _ _ _ | exact Kd.N_nil _ _ _ _ _ | exact Kd.V_nil _ _ _ _ _ | exact Kd.Q_nil _ _ _ _ _ | exact Kd.S_nil _ _ _ _ _, by repeat (first | (with_reducible first | exact HB.out | apply below_alloc | apply pw_below_drewN | apply below_drew1 | refine below_set ?_ GE259.out | refine below_set ?_ GE260.out) | exact HB.out)⟩
   ·replace c12 := Bool.eq_false_iff.mpr c12
    subst c12
    have H1 : (if t261 = 0 then ((impl_Tree_path.f kj3 a0_0 l0_1 a1).bind fun t263 => (some (0, t263))) else (some (t261, ([] : List Int)))) = some (r1, r2) := by rw [if_neg (show ¬ (false = true) by decide)] at H; exact H
    clear H
    have H := H1
    clear H1
    by_cases c15 : t261 = 0
    ·rw [if_pos c15] at H
     have c15b0 : (t261 == 0) = true := beq_iff_eq.mpr c15
     have c15b1 : (t261 != 0) = false := bne_eq_false_iff_eq.mpr c15
     clear c15
     replace H := Option.bind_eq_some_iff.mp H
     obtain ⟨t263, A160, H⟩ := H
     replace H : (some (0, t263)) = some (r1, r2) := H
     have A16 := Aside0.mk A160
     clear A160
     simp only [Option.some.injEq, Prod.mk.injEq] at H
     obtain ⟨rfl, rfl⟩ := H
     have hnb17 := NB259_260.out
     have hnc17 := NB260_259.out
     obtain ⟨hcz18_0, hcz18_1, hfz18_0, hfz18_1⟩ := Go.Proofs.Ytdhdgkonghefeaa.Lv.blks2 BK259.out
     go_wp2_with (first | ((with_reducible refine gate_callee (f := 48) rfl ?_); refine goesL_ (some 21) rfl rfl Try.func48 (by kernel_rfl) rfl #[.agg #[.int .i64 a0_0, .slice A0_1 l0_1.length c0_1], .int .i64 a1] rfl (by (try simp only [List.map_toArray, List.map_cons, List.map_nil]); first | done | rfl | (simp only [List.length_drop, List.length_take]; rfl)) ?_; (with_reducible refine (impl_Tree_path.calls kj3 a0_0 _ _ l0_1 a1 t263 _ ?side1 ?side2 A16.out).mono ?_); (case side1 => repeat (first | exact (Kd.C_below HR0_1.out HB.out) | (with_reducible refine Kd.C_alloc ?_ _) | (with_reducible refine Kd.C_drewN ?_ _) | (with_reducible refine Kd.C_drew ?_))); (case side2 => exact HC0_1.out); rintro e w19 ⟨v264, rfl, ho0, hb⟩; refine ⟨_, rfl, ?_⟩; have n0_ := Aside0.mk (Kd.R_lower ho0 (below_size (by repeat (first | (with_reducible first | exact HB.out | apply below_alloc | apply pw_below_drewN | apply below_drew1 | refine below_set ?_ GE259.out | refine below_set ?_ GE260.out) | exact HB.out)))); have n1_ := Aside0.mk (blk_below (g := gb259) (o := .cells #[.int .i64 a0_0, .slice A0_1 l0_1.length c0_1] 29 (0, 0)) (by (with_reducible repeat (first | refine blk_drewN ?_ _ | refine blk_drew ?_ | refine blk_alloc ?_ _)); exact BK259.out) hb); have n2_ := Aside0.mk (blk_below (g := gb260) (o := .cells #[.int .i64 0, .slice none 0 0] 41 (0, 0)) (by (with_reducible repeat (first | refine blk_drewN ?_ _ | refine blk_drew ?_ | refine blk_alloc ?_ _)); exact BK260.out) hb); have n3_ := Aside0.mk (below_step (by repeat (first | (with_reducible first | exact HB.out | apply below_alloc | apply pw_below_drewN | apply below_drew1 | refine below_set ?_ GE259.out | refine below_set ?_ GE260.out) | exact HB.out)) hb); clear BK259; clear BK260; clear HB; have HO265 := n0_; have BK259 := n1_; have BK260 := n2_; have HB := n3_; clear n0_ n1_ n2_ n3_; (try clear hb); (try clear hb2); (try clear hk); (try clear hi); (try clear ho0); obtain ⟨Ao20, co20, eo20⟩ := Kd.R_slice HO265.out; subst eo20; obtain ⟨hcz21_0, hcz21_1, hfz21_0, hfz21_1⟩ := Go.Proofs.Ytdhdgkonghefeaa.Lv.blks2 BK260.out))
     refine bodyPost_ret (results_cell_row rfl _ _ gb260 41 #[.int .i64 0, .slice Ao20 t263.length co20] (0, 0) _ rfl (by (with_reducible repeat (first | refine blk_drewN ?_ _ | refine blk_drew ?_ | refine blk_alloc ?_ _)); refine blk_put (cs := #[.int .i64 0, .slice none 0 0]) ?_ 1 _ rfl; (with_reducible repeat (first | refine blk_drewN ?_ _ | refine blk_drew ?_ | refine blk_alloc ?_ _)); refine blk_put (cs := #[.int .i64 0, .slice none 0 0]) ?_ 0 _ rfl; (with_reducible repeat (first | refine blk_drewN ?_ _ | refine blk_drew ?_ | refine blk_alloc ?_ _)); exact BK260.out) Try.underlying41 rfl (by kernel_rfl)) rfl ?_
     exact ⟨_, by first | rfl | (simp [errW_none, errW_some] <;> rfl) | (simp [*, errW_none, errW_some] <;> rfl), by (with_reducible repeat (first | apply Kd.R_alloc | apply Kd.R_drewN | apply Kd.R_drew)); exact Kd.R_mono (Kd.R_far (p := ⟨gb260, 1, none⟩) (Kd.R_far (p := ⟨gb260, 0, none⟩) (Kd.R_types HO265.out BK260.out (by decide)) (fun _ hk => hk.2) (.int .i64 0)) (fun _ hk => hk.2) (.slice Ao20 t263.length co20)) (fun _ hk => trivial), by repeat (first | (with_reducible first | exact HB.out | apply below_alloc | apply pw_below_drewN | apply below_drew1 | refine below_set ?_ GE259.out | refine below_set ?_ GE260.out) | exact HB.out)⟩
    ·rw [if_neg c15] at H
     have c15b0 : (t261 == 0) = false := beq_eq_false_iff_ne.mpr c15
     have c15b1 : (t261 != 0) = true := bne_iff_ne.mpr c15
     simp only [Option.some.injEq, Prod.mk.injEq] at H
     obtain ⟨rfl, rfl⟩ := H
     have hnb22 := NB260_259.out
     have hnc22 := NB259_260.out
     obtain ⟨hcz23_0, hcz23_1, hfz23_0, hfz23_1⟩ := Go.Proofs.Ytdhdgkonghefeaa.Lv.blks2 BK260.out
     go_wp2
     refine bodyPost_ret (results_cell_row rfl _ _ gb260 41 #[.int .i64 t261, .slice none 0 0] (0, 0) _ rfl (by (with_reducible repeat (first | refine blk_drewN ?_ _ | refine blk_drew ?_ | refine blk_alloc ?_ _)); refine blk_put (cs := #[.int .i64 t261, .slice none 0 0]) ?_ 1 _ rfl; (with_reducible repeat (first | refine blk_drewN ?_ _ | refine blk_drew ?_ | refine blk_alloc ?_ _)); refine blk_put (cs := #[.int .i64 0, .slice none 0 0]) ?_ 0 _ rfl; (with_reducible repeat (first | refine blk_drewN ?_ _ | refine blk_drew ?_ | refine blk_alloc ?_ _)); exact BK260.out) Try.underlying41 rfl (by kernel_rfl)) rfl ?_
     exact ⟨_, by first | rfl | (simp [errW_none, errW_some] <;> rfl) | (simp [*, errW_none, errW_some] <;> rfl), by first | exact Kd.R_nil _ _ _ _ _ | exact Kd.N_nil _ _ _ _ _ | exact Kd.V_nil _ _ _ _ _ | exact Kd.Q_nil _ _ _ _ _ | exact Kd.S_nil _ _ _ _ _, by repeat (first | (with_reducible first | exact HB.out | apply below_alloc | apply pw_below_drewN | apply below_drew1 | refine below_set ?_ GE259.out | refine below_set ?_ GE260.out) | exact HB.out)⟩

/-! ### laws_FnExactPathTo: function 6 -/
-- PROOF --
-- NEEDS Derived.Test.YtdhdgkonghefeaaLb
-- NEEDS Derived.Test.YtdhdgkonghefeaaLv
-- NEEDS Derived.IntWalk
-- NEEDS Derived.Shelf.Abstract
-- NEEDS Derived.Test.YtdhdgkonghefeaaZz
set_option maxHeartbeats 16000000 in
set_option maxRecDepth 100000 in
theorem laws_FnExactPathTo.calls (k : Nat) (a0_0 : Int) (A0_1 : Option Addr) (c0_1 : Nat) (l0_1 : List (S89)) (a1 : Int) (w : World) (hr0_1 : Kd.C k89 w A0_1 l0_1.length l0_1) (hc0_1 : l0_1.length ≤ c0_1) (h : laws_FnExactPathTo.f k a0_0 l0_1 a1 = some true) :
  Calls Try.prog 6 #[.agg #[.int .i64 a0_0, .slice A0_1 l0_1.length c0_1], .int .i64 a1] w fun e w' => e = .returned (.bool true) ∧ Below w.heap.size w w' := by
 have hu24 := Try.underlying24
 have hu29 := Try.underlying29
 have hu41 := Try.underlying41
 have HR1 := Aside0.mk hr0_1
 have HC1 := Aside0.mk hc0_1
 clear hr0_1 hc0_1
 have HB := Aside0.mk (Below.refl w.heap.size w)
 unfold laws_FnExactPathTo.f at h
 obtain ⟨t, ht, h⟩ := Option.bind_eq_some_iff.mp h
 have HT := Aside0.mk ht
 clear ht
 by_cases ct : t < 0
 ·skip
  have ct0 : decide (t < 0) = true := decide_eq_true ct
  have h := Aside0.mk h
  go_enter Try.func6, Try.ntmps6
  go_wp2_with fail
  have hb : Below w.heap.size w (w.alloc (Obj.cells #[.int .i64 a0_0, .slice A0_1 l0_1.length c0_1] 24)) := below_alloc (Below.refl _ _) _
  have hbx := blk_new w (Obj.cells #[.int .i64 a0_0, .slice A0_1 l0_1.length c0_1] 24)
  have hsz : w.heap.size + 1 = (w.alloc (Obj.cells #[.int .i64 a0_0, .slice A0_1 l0_1.length c0_1] 24)).heap.size := by simp
  replace HB := Aside0.mk (below_alloc HB.out (Obj.cells #[.int .i64 a0_0, .slice A0_1 l0_1.length c0_1] 24))
  have hbz := Aside0.mk hb
  have hbxz := Aside0.mk hbx
  have hszz := Aside0.mk hsz
  clear hb hbx hsz
  generalize w.alloc (Obj.cells #[.int .i64 a0_0, .slice A0_1 l0_1.length c0_1] 24) = u1 at HB hbz hbxz hszz ⊢
  have X1 := hbxz
  have z1 := hszz
  clear hbz hbxz hszz
  refine (laws_szTree.calls k a0_0 _ c0_1 l0_1 1048576 t _ (Kd.C_below HR1.out HB.out) HC1.out HT.out).mono ?_
  rintro e u2 ⟨rfl, hb⟩
  have hsz := hb.size
  replace HB := Aside0.mk (show Below w.heap.size w u2 from below_step HB.out hb)
  replace X1 := Aside0.mk (keepB hb X1.out)
  have z2 := Aside0.mk hsz
  clear hsz
  go_wp2_with fail
  go_ret
  exact ⟨rfl, HB.out⟩
 ·skip
  rw [if_neg ct] at h
  obtain ⟨⟨x0, x1⟩, hx, h⟩ := Option.bind_eq_some_iff.mp h
  have HX := Aside0.mk hx
  obtain ⟨⟨s1, s2⟩, hs, h⟩ := Option.bind_eq_some_iff.mp h
  have HS := Aside0.mk hs
  obtain ⟨⟨g1, g2⟩, hg, h⟩ := Option.bind_eq_some_iff.mp h
  have HG := Aside0.mk hg
  obtain ⟨q1, hq1, h⟩ := Option.bind_eq_some_iff.mp h
  cases q1 with
  | false => exact absurd h (by simp)
  | true =>
  rw [if_pos rfl] at h
  have HQ1 := Aside0.mk hq1
  obtain ⟨q2, hq2, h⟩ := Option.bind_eq_some_iff.mp h
  cases q2 with
  | false => exact absurd h (by simp)
  | true =>
  rw [if_pos rfl] at h
  have HQ2 := Aside0.mk hq2
  obtain ⟨⟨m1, m2⟩, hm, h⟩ := Option.bind_eq_some_iff.mp h
  have HM := Aside0.mk hm
  by_cases cm : m1 < 0
  ·exact absurd h (by rw [if_pos cm]; decide)
  rw [if_neg cm] at h
  obtain ⟨⟨n1, n2⟩, hn, h⟩ := Option.bind_eq_some_iff.mp h
  have HN := Aside0.mk hn
  obtain ⟨q3, hq3, h⟩ := Option.bind_eq_some_iff.mp h
  have HQ3 := Aside0.mk hq3
  by_cases cq : q3 < 0
  ·exact absurd h (by rw [if_pos cq]; decide)
  rw [if_neg cq] at h
  have cn : q3 = n1 := Decidable.byContradiction fun c => by rw [if_neg c] at h; simp at h
  subst cn
  clear h hx hs hg hq1 hq2 hm hn hq3
  have h : True := trivial
  have cm0 : decide (m1 < 0) = false := decide_eq_false cm
  have cq0 : decide (q3 < 0) = false := decide_eq_false cq
  have ct0 : decide (t < 0) = false := decide_eq_false ct
  have h := Aside0.mk h
  go_enter Try.func6, Try.ntmps6
  go_wp2_with fail
  have hb : Below w.heap.size w (w.alloc (Obj.cells #[.int .i64 a0_0, .slice A0_1 l0_1.length c0_1] 24)) := below_alloc (Below.refl _ _) _
  have hbx := blk_new w (Obj.cells #[.int .i64 a0_0, .slice A0_1 l0_1.length c0_1] 24)
  have hsz : w.heap.size + 1 = (w.alloc (Obj.cells #[.int .i64 a0_0, .slice A0_1 l0_1.length c0_1] 24)).heap.size := by simp
  replace HB := Aside0.mk (below_alloc HB.out (Obj.cells #[.int .i64 a0_0, .slice A0_1 l0_1.length c0_1] 24))
  have hbz := Aside0.mk hb
  have hbxz := Aside0.mk hbx
  have hszz := Aside0.mk hsz
  clear hb hbx hsz
  generalize w.alloc (Obj.cells #[.int .i64 a0_0, .slice A0_1 l0_1.length c0_1] 24) = u1 at HB hbz hbxz hszz ⊢
  have X1 := hbxz
  have z1 := hszz
  clear hbz hbxz hszz
  refine (laws_szTree.calls k a0_0 _ c0_1 l0_1 1048576 t _ (Kd.C_below HR1.out HB.out) HC1.out HT.out).mono ?_
  rintro e u2 ⟨rfl, hb⟩
  have hsz := hb.size
  replace HB := Aside0.mk (show Below w.heap.size w u2 from below_step HB.out hb)
  replace X1 := Aside0.mk (keepB hb X1.out)
  have z2 := Aside0.mk hsz
  clear hsz
  have cX1_0 : u2.cell? ⟨w.heap.size, 0, none⟩ = some (.int .i64 a0_0) := (blk_cell X1.out 0).trans rfl
  have cX1_1 : u2.cell? ⟨w.heap.size, 1, none⟩ = some (.slice A0_1 l0_1.length c0_1) := (blk_cell X1.out 1).trans rfl
  have lX1 : w.heap.size < u2.heap.size := blk_lt X1.out
  have nX1 : w.heap.size ≠ u2.heap.size := Nat.ne_of_lt (blk_lt X1.out)
  go_wp2_with fail
  clear cX1_0 cX1_1 lX1 nX1
  have hlo := Aside0.mk HB.out.size
  refine (laws_toTree.calls k a0_0 _ c0_1 l0_1 x0 x1 _ (Kd.C_below HR1.out HB.out) HC1.out HX.out).mono ?_
  rintro e u3 ⟨vy1, rfl, hs1, hb⟩
  have hsz := hb.size
  replace HB := Aside0.mk (show Below w.heap.size w u3 from below_step HB.out hb)
  replace X1 := Aside0.mk (keepB hb X1.out)
  have z3 := Aside0.mk hsz
  clear hsz
  obtain ⟨Ay1, cy1, e1⟩ := Kd.S_slice hs1
  subst e1
  have Sy1 := Aside0.mk (show Kd.S k58 58 u3 u2.heap.size (fun _ => True) (.slice Ay1 x1.length cy1) x1 from hs1)
  clear hs1
  clear hlo
  have cX1_0 : u3.cell? ⟨w.heap.size, 0, none⟩ = some (.int .i64 a0_0) := (blk_cell X1.out 0).trans rfl
  have cX1_1 : u3.cell? ⟨w.heap.size, 1, none⟩ = some (.slice A0_1 l0_1.length c0_1) := (blk_cell X1.out 1).trans rfl
  have lX1 : w.heap.size < u3.heap.size := blk_lt X1.out
  have nX1 : w.heap.size ≠ u3.heap.size := Nat.ne_of_lt (blk_lt X1.out)
  go_wp2_with fail
  clear cX1_0 cX1_1 lX1 nX1
  refine (spec_PathTo.calls x0 _ cy1 x1 a1 s1 s2 _ (Kd.S_reads' Sy1.out).2.2 (Kd.S_reads' Sy1.out).2.1 HS.out).mono ?_
  rintro e u4 ⟨vw, rfl, hr, hb⟩
  have hsz := hb.size
  replace HB := Aside0.mk (show Below w.heap.size w u4 from below_step HB.out hb)
  replace X1 := Aside0.mk (keepB hb X1.out)
  replace Sy1 := Aside0.mk (Kd.S_below Sy1.out hb)
  have z4 := Aside0.mk hsz
  clear hsz
  obtain ⟨Aw, cw, e1⟩ := Kd.R_slice hr
  subst e1
  have Rw := Aside0.mk (show Kd.R (Kd.int .i64) 2 u4 u3.heap.size (fun k_ => u3.heap.size ≤ k_ ∧ k_ < u4.heap.size) (.slice Aw s2.length cw) s2 from Kd.R_mono (Kd.R_bound hr) (fun k_ h_ => ⟨h_.2.1, h_.2.2.1⟩))
  clear hr
  clear Sy1
  have cX1_0 : u4.cell? ⟨w.heap.size, 0, none⟩ = some (.int .i64 a0_0) := (blk_cell X1.out 0).trans rfl
  have cX1_1 : u4.cell? ⟨w.heap.size, 1, none⟩ = some (.slice A0_1 l0_1.length c0_1) := (blk_cell X1.out 1).trans rfl
  have lX1 : w.heap.size < u4.heap.size := blk_lt X1.out
  have nX1 : w.heap.size ≠ u4.heap.size := Nat.ne_of_lt (blk_lt X1.out)
  go_wp2_with fail
  clear cX1_0 cX1_1 lX1 nX1
  have hb : Below u4.heap.size u4 (u4.alloc (Obj.cells #[.int .i64 s1, .slice Aw s2.length cw] 41)) := below_alloc (Below.refl _ _) _
  have hbx := blk_new u4 (Obj.cells #[.int .i64 s1, .slice Aw s2.length cw] 41)
  have hsz : u4.heap.size + 1 = (u4.alloc (Obj.cells #[.int .i64 s1, .slice Aw s2.length cw] 41)).heap.size := by simp
  replace HB := Aside0.mk (below_alloc HB.out (Obj.cells #[.int .i64 s1, .slice Aw s2.length cw] 41))
  replace X1 := Aside0.mk (keepB hb X1.out)
  replace Rw := Aside0.mk (Kd.R_below Rw.out hb)
  have hbz := Aside0.mk hb
  have hbxz := Aside0.mk hbx
  have hszz := Aside0.mk hsz
  clear hb hbx hsz
  generalize u4.alloc (Obj.cells #[.int .i64 s1, .slice Aw s2.length cw] 41) = u5 at HB hbz hbxz hszz X1 Rw ⊢
  have X5 := hbxz
  have z5 := hszz
  clear hbz hbxz hszz
  have hlo := Aside0.mk HB.out.size
  refine (laws_toTree.calls k a0_0 _ c0_1 l0_1 x0 x1 _ (Kd.C_below HR1.out HB.out) HC1.out HX.out).mono ?_
  rintro e u6 ⟨vx1, rfl, hs1, hb⟩
  have hsz := hb.size
  replace HB := Aside0.mk (show Below w.heap.size w u6 from below_step HB.out hb)
  replace X1 := Aside0.mk (keepB hb X1.out)
  replace Rw := Aside0.mk (Kd.R_below Rw.out hb)
  replace X5 := Aside0.mk (keepB hb X5.out)
  have z6 := Aside0.mk hsz
  clear hsz
  obtain ⟨Ax1, cx1, e1⟩ := Kd.S_slice hs1
  subst e1
  have Sx1 := Aside0.mk (show Kd.S k58 58 u6 w.heap.size (fun k_ => (u5.heap.size ≤ k_ ∧ k_ < u6.heap.size) ∧ ∃ q_, q_ ∈ [58, 2, 2] ∧ ∃ cells, u6.heap[k_]? = some (.cells cells q_ (0, 0))) (.slice Ax1 x1.length cx1) x1 from Kd.S_mono (Kd.S_lower (Kd.S_bound hs1) hlo.out) (fun k_ h_ => ⟨⟨h_.2.1, h_.2.2.1⟩, h_.2.2.2⟩))
  clear hs1
  clear hlo
  have cX1_0 : u6.cell? ⟨w.heap.size, 0, none⟩ = some (.int .i64 a0_0) := (blk_cell X1.out 0).trans rfl
  have cX1_1 : u6.cell? ⟨w.heap.size, 1, none⟩ = some (.slice A0_1 l0_1.length c0_1) := (blk_cell X1.out 1).trans rfl
  have lX1 : w.heap.size < u6.heap.size := blk_lt X1.out
  have nX1 : w.heap.size ≠ u6.heap.size := Nat.ne_of_lt (blk_lt X1.out)
  go_wp2_with fail
  clear cX1_0 cX1_1 lX1 nX1
  have hb : Below u6.heap.size u6 (u6.alloc (Obj.cells #[.int .i64 x0, .slice Ax1 x1.length cx1] 29)) := below_alloc (Below.refl _ _) _
  have hbx := blk_new u6 (Obj.cells #[.int .i64 x0, .slice Ax1 x1.length cx1] 29)
  have hsz : u6.heap.size + 1 = (u6.alloc (Obj.cells #[.int .i64 x0, .slice Ax1 x1.length cx1] 29)).heap.size := by simp
  replace HB := Aside0.mk (below_alloc HB.out (Obj.cells #[.int .i64 x0, .slice Ax1 x1.length cx1] 29))
  replace X1 := Aside0.mk (keepB hb X1.out)
  replace Rw := Aside0.mk (Kd.R_below Rw.out hb)
  replace X5 := Aside0.mk (keepB hb X5.out)
  replace Sx1 := Aside0.mk (Kd.S_below Sx1.out hb)
  have hbz := Aside0.mk hb
  have hbxz := Aside0.mk hbx
  have hszz := Aside0.mk hsz
  clear hb hbx hsz
  generalize u6.alloc (Obj.cells #[.int .i64 x0, .slice Ax1 x1.length cx1] 29) = u7 at HB hbz hbxz hszz X1 Rw X5 Sx1 ⊢
  have X7 := hbxz
  have z7 := hszz
  clear hbz hbxz hszz
  refine (impl_PathTo.calls k x0 _ cx1 x1 a1 g1 g2 _ (Kd.S_reads' Sx1.out).2.2 (Kd.S_reads' Sx1.out).2.1 HG.out).mono ?_
  rintro e u8 ⟨vg, rfl, hr, hb⟩
  have hsz := hb.size
  replace HB := Aside0.mk (show Below w.heap.size w u8 from below_step HB.out hb)
  replace X1 := Aside0.mk (keepB hb X1.out)
  replace Rw := Aside0.mk (Kd.R_below Rw.out hb)
  replace X5 := Aside0.mk (keepB hb X5.out)
  replace Sx1 := Aside0.mk (Kd.S_below Sx1.out hb)
  replace X7 := Aside0.mk (keepB hb X7.out)
  have z8 := Aside0.mk hsz
  clear hsz
  obtain ⟨Ag, cg, e1⟩ := Kd.R_slice hr
  subst e1
  have Rg := Aside0.mk (show Kd.R (Kd.int .i64) 2 u8 u7.heap.size (fun k_ => u7.heap.size ≤ k_ ∧ k_ < u8.heap.size) (.slice Ag g2.length cg) g2 from Kd.R_mono (Kd.R_bound hr) (fun k_ h_ => ⟨h_.2.1, h_.2.2.1⟩))
  clear hr
  have cX1_0 : u8.cell? ⟨w.heap.size, 0, none⟩ = some (.int .i64 a0_0) := (blk_cell X1.out 0).trans rfl
  have cX1_1 : u8.cell? ⟨w.heap.size, 1, none⟩ = some (.slice A0_1 l0_1.length c0_1) := (blk_cell X1.out 1).trans rfl
  have lX1 : w.heap.size < u8.heap.size := blk_lt X1.out
  have nX1 : w.heap.size ≠ u8.heap.size := Nat.ne_of_lt (blk_lt X1.out)
  have cX5_0 : u8.cell? ⟨u4.heap.size, 0, none⟩ = some (.int .i64 s1) := (blk_cell X5.out 0).trans rfl
  have cX5_1 : u8.cell? ⟨u4.heap.size, 1, none⟩ = some (.slice Aw s2.length cw) := (blk_cell X5.out 1).trans rfl
  have lX5 : u4.heap.size < u8.heap.size := blk_lt X5.out
  have nX5 : u4.heap.size ≠ u8.heap.size := Nat.ne_of_lt (blk_lt X5.out)
  have cX7_0 : u8.cell? ⟨u6.heap.size, 0, none⟩ = some (.int .i64 x0) := (blk_cell X7.out 0).trans rfl
  have cX7_1 : u8.cell? ⟨u6.heap.size, 1, none⟩ = some (.slice Ax1 x1.length cx1) := (blk_cell X7.out 1).trans rfl
  have lX7 : u6.heap.size < u8.heap.size := blk_lt X7.out
  have nX7 : u6.heap.size ≠ u8.heap.size := Nat.ne_of_lt (blk_lt X7.out)
  go_wp2_with fail
  clear cX1_0 cX1_1 lX1 nX1 cX5_0 cX5_1 lX5 nX5 cX7_0 cX7_1 lX7 nX7
  have hb : Below u8.heap.size u8 (u8.alloc (Obj.cells #[.int .i64 g1, .slice Ag g2.length cg] 41)) := below_alloc (Below.refl _ _) _
  have hbx := blk_new u8 (Obj.cells #[.int .i64 g1, .slice Ag g2.length cg] 41)
  have hsz : u8.heap.size + 1 = (u8.alloc (Obj.cells #[.int .i64 g1, .slice Ag g2.length cg] 41)).heap.size := by simp
  replace HB := Aside0.mk (below_alloc HB.out (Obj.cells #[.int .i64 g1, .slice Ag g2.length cg] 41))
  replace X1 := Aside0.mk (keepB hb X1.out)
  replace Rw := Aside0.mk (Kd.R_below Rw.out hb)
  replace X5 := Aside0.mk (keepB hb X5.out)
  replace Sx1 := Aside0.mk (Kd.S_below Sx1.out hb)
  replace X7 := Aside0.mk (keepB hb X7.out)
  replace Rg := Aside0.mk (Kd.R_below Rg.out hb)
  have hbz := Aside0.mk hb
  have hbxz := Aside0.mk hbx
  have hszz := Aside0.mk hsz
  clear hb hbx hsz
  generalize u8.alloc (Obj.cells #[.int .i64 g1, .slice Ag g2.length cg] 41) = u9 at HB hbz hbxz hszz X1 Rw X5 Sx1 X7 Rg ⊢
  have X9 := hbxz
  have z9 := hszz
  clear hbz hbxz hszz
  refine (laws_eqIntsResult.calls k g1 _ cg g2 s1 _ cw s2 true _ (Kd.R_reads' Rg.out).2.2 (Kd.R_reads' Rg.out).2.1 (Kd.R_reads' Rw.out).2.2 (Kd.R_reads' Rw.out).2.1 HQ1.out).mono ?_
  rintro e u10 ⟨rfl, hb⟩
  have hsz := hb.size
  replace HB := Aside0.mk (show Below w.heap.size w u10 from below_step HB.out hb)
  replace X1 := Aside0.mk (keepB hb X1.out)
  replace Rw := Aside0.mk (Kd.R_below Rw.out hb)
  replace X5 := Aside0.mk (keepB hb X5.out)
  replace Sx1 := Aside0.mk (Kd.S_below Sx1.out hb)
  replace X7 := Aside0.mk (keepB hb X7.out)
  replace Rg := Aside0.mk (Kd.R_below Rg.out hb)
  replace X9 := Aside0.mk (keepB hb X9.out)
  have z10 := Aside0.mk hsz
  clear hsz
  have cX1_0 : u10.cell? ⟨w.heap.size, 0, none⟩ = some (.int .i64 a0_0) := (blk_cell X1.out 0).trans rfl
  have cX1_1 : u10.cell? ⟨w.heap.size, 1, none⟩ = some (.slice A0_1 l0_1.length c0_1) := (blk_cell X1.out 1).trans rfl
  have lX1 : w.heap.size < u10.heap.size := blk_lt X1.out
  have nX1 : w.heap.size ≠ u10.heap.size := Nat.ne_of_lt (blk_lt X1.out)
  have cX5_0 : u10.cell? ⟨u4.heap.size, 0, none⟩ = some (.int .i64 s1) := (blk_cell X5.out 0).trans rfl
  have cX5_1 : u10.cell? ⟨u4.heap.size, 1, none⟩ = some (.slice Aw s2.length cw) := (blk_cell X5.out 1).trans rfl
  have lX5 : u4.heap.size < u10.heap.size := blk_lt X5.out
  have nX5 : u4.heap.size ≠ u10.heap.size := Nat.ne_of_lt (blk_lt X5.out)
  have cX7_0 : u10.cell? ⟨u6.heap.size, 0, none⟩ = some (.int .i64 x0) := (blk_cell X7.out 0).trans rfl
  have cX7_1 : u10.cell? ⟨u6.heap.size, 1, none⟩ = some (.slice Ax1 x1.length cx1) := (blk_cell X7.out 1).trans rfl
  have lX7 : u6.heap.size < u10.heap.size := blk_lt X7.out
  have nX7 : u6.heap.size ≠ u10.heap.size := Nat.ne_of_lt (blk_lt X7.out)
  have cX9_0 : u10.cell? ⟨u8.heap.size, 0, none⟩ = some (.int .i64 g1) := (blk_cell X9.out 0).trans rfl
  have cX9_1 : u10.cell? ⟨u8.heap.size, 1, none⟩ = some (.slice Ag g2.length cg) := (blk_cell X9.out 1).trans rfl
  have lX9 : u8.heap.size < u10.heap.size := blk_lt X9.out
  have nX9 : u8.heap.size ≠ u10.heap.size := Nat.ne_of_lt (blk_lt X9.out)
  go_wp2_with fail
  clear cX1_0 cX1_1 lX1 nX1 cX5_0 cX5_1 lX5 nX5 cX7_0 cX7_1 lX7 nX7 cX9_0 cX9_1 lX9 nX9
  refine start_ (n := 5) (S := fun W_ => W_.cell? ⟨u6.heap.size, 0, none⟩ = some (.int .i64 x0) ∧ W_.cell? ⟨u6.heap.size, 1, none⟩ = some (.slice Ax1 x1.length cx1) ∧ W_.cell? ⟨w.heap.size, 0, none⟩ = some (.int .i64 a0_0) ∧ W_.cell? ⟨w.heap.size, 1, none⟩ = some (.slice A0_1 l0_1.length c0_1)) (ds := []) #[false, false, false, false, false] (by kernel_rfl) rfl rfl ⟨(blk_cell X7.out 0).trans rfl, (blk_cell X7.out 1).trans rfl, (blk_cell X1.out 0).trans rfl, (blk_cell X1.out 1).trans rfl⟩ (fun hHeld => ?_)
  refine zt 0 31 ?_; refine zt 1 32 ?_
  refine one_ (i := 2) (N := some 33) #[true, true, true, false, false] rfl rfl (by kernel_rfl) (by decide) (fun K hK => ?_)
  refine goes_ Try.func11 (by kernel_rfl) rfl #[.agg #[.int .i64 a0_0, .slice A0_1 l0_1.length c0_1]] (by rfl) rfl rfl zm ?_
  with_reducible refine (laws_toTree.calls k a0_0 _ c0_1 l0_1 x0 x1 _ (Kd.C_drew (Kd.C_below HR1.out HB.out)) HC1.out HX.out).mono ?_
  rintro e ua ⟨vz1, rfl, hs1, hb⟩
  refine ⟨_, rfl, ?_⟩
  obtain ⟨Az1, cz1, e1⟩ := Kd.S_slice hs1
  subst e1
  have Sz1 := Aside0.mk hs1
  clear hs1
  replace hb : Below u10.heap.size u10 ua := below_step (below_drew (Below.refl _ _)) hb
  replace HB := Aside0.mk (show Below w.heap.size w ua from below_step HB.out hb)
  have hsz := Aside0.mk hb.size
  replace X1 := Aside0.mk (keepB hb X1.out)
  replace Rw := Aside0.mk (Kd.R_below Rw.out hb)
  replace X5 := Aside0.mk (keepB hb X5.out)
  replace Sx1 := Aside0.mk (Kd.S_below Sx1.out hb)
  replace X7 := Aside0.mk (keepB hb X7.out)
  replace Rg := Aside0.mk (Kd.R_below Rg.out hb)
  replace X9 := Aside0.mk (keepB hb X9.out)
  have z11 := hsz
  clear hsz
  refine hK.out _ _ ⟨(blk_cell X7.out 0).trans rfl, (blk_cell X7.out 1).trans rfl, (blk_cell X1.out 0).trans rfl, (blk_cell X1.out 1).trans rfl⟩ (fun hHeld => ?_)
  clear hK K
  refine norm_ (a' := ?_) ?_ ?_
  rotate_left
  ·show Act.put _ (some 33) _ = _
   simp only [Act.put, List.setIfInBounds_toArray, List.set_cons_zero, List.set_cons_succ, i64_w, i32_w]
   rfl
  refine one_ (i := 3) (N := some 34) #[true, true, true, true, false] rfl rfl (by kernel_rfl) (by decide) (fun K hK => ?_)
  refine goes_ Try.func13 (by kernel_rfl) rfl #[.agg #[.int .i64 x0, .slice Ax1 x1.length cx1], .agg #[.int .i64 x0, .slice Az1 x1.length cz1]] (by rfl) rfl rfl zm ?_
  with_reducible refine (laws_eqTree.calls k x0 _ cx1 x1 x0 _ cz1 x1 true _ (Kd.S_reads' Sx1.out).2.2 (Kd.S_reads' Sx1.out).2.1 (Kd.S_reads' Sz1.out).2.2 (Kd.S_reads' Sz1.out).2.1 HQ2.out).mono ?_
  rintro e ub ⟨rfl, hb⟩
  refine ⟨_, rfl, ?_⟩
  replace HB := Aside0.mk (show Below w.heap.size w ub from below_step HB.out hb)
  have hsz := Aside0.mk hb.size
  replace X1 := Aside0.mk (keepB hb X1.out)
  replace Rw := Aside0.mk (Kd.R_below Rw.out hb)
  replace X5 := Aside0.mk (keepB hb X5.out)
  replace Sx1 := Aside0.mk (Kd.S_below Sx1.out hb)
  replace X7 := Aside0.mk (keepB hb X7.out)
  replace Rg := Aside0.mk (Kd.R_below Rg.out hb)
  replace X9 := Aside0.mk (keepB hb X9.out)
  have z12 := hsz
  clear hsz
  refine hK.out _ _ ⟨(blk_cell X7.out 0).trans rfl, (blk_cell X7.out 1).trans rfl, (blk_cell X1.out 0).trans rfl, (blk_cell X1.out 1).trans rfl⟩ (fun hHeld => ?_)
  clear hK K
  refine norm_ (a' := ?_) ?_ ?_
  rotate_left
  ·show Act.put _ (some 34) _ = _
   simp only [Act.put, List.setIfInBounds_toArray, List.set_cons_zero, List.set_cons_succ, i64_w, i32_w]
   rfl
  refine zp 4 35 ?_
  refine done_ (by kernel_rfl) ?_
  have cX7_0 : ub.cell? ⟨u6.heap.size, 0, none⟩ = some (.int .i64 x0) := (blk_cell X7.out 0).trans rfl
  have cX7_1 : ub.cell? ⟨u6.heap.size, 1, none⟩ = some (.slice Ax1 x1.length cx1) := (blk_cell X7.out 1).trans rfl
  have lX7 : u6.heap.size < ub.heap.size := blk_lt X7.out
  have nX7 : u6.heap.size ≠ ub.heap.size := Nat.ne_of_lt (blk_lt X7.out)
  have cX9_0 : ub.cell? ⟨u8.heap.size, 0, none⟩ = some (.int .i64 g1) := (blk_cell X9.out 0).trans rfl
  have cX9_1 : ub.cell? ⟨u8.heap.size, 1, none⟩ = some (.slice Ag g2.length cg) := (blk_cell X9.out 1).trans rfl
  have lX9 : u8.heap.size < ub.heap.size := blk_lt X9.out
  have nX9 : u8.heap.size ≠ ub.heap.size := Nat.ne_of_lt (blk_lt X9.out)
  have cX5_0 : ub.cell? ⟨u4.heap.size, 0, none⟩ = some (.int .i64 s1) := (blk_cell X5.out 0).trans rfl
  have cX5_1 : ub.cell? ⟨u4.heap.size, 1, none⟩ = some (.slice Aw s2.length cw) := (blk_cell X5.out 1).trans rfl
  have lX5 : u4.heap.size < ub.heap.size := blk_lt X5.out
  have nX5 : u4.heap.size ≠ ub.heap.size := Nat.ne_of_lt (blk_lt X5.out)
  have cX1_0 : ub.cell? ⟨w.heap.size, 0, none⟩ = some (.int .i64 a0_0) := (blk_cell X1.out 0).trans rfl
  have cX1_1 : ub.cell? ⟨w.heap.size, 1, none⟩ = some (.slice A0_1 l0_1.length c0_1) := (blk_cell X1.out 1).trans rfl
  have lX1 : w.heap.size < ub.heap.size := blk_lt X1.out
  have nX1 : w.heap.size ≠ ub.heap.size := Nat.ne_of_lt (blk_lt X1.out)
  go_wp2_with fail
  clear cX7_0 cX7_1 lX7 nX7 cX9_0 cX9_1 lX9 nX9 cX5_0 cX5_1 lX5 nX5 cX1_0 cX1_1 lX1 nX1
  have hz0 := Aside0.mk HB.out.size
  refine (laws_markTree.calls k x0 (fun k_ => (u5.heap.size ≤ k_ ∧ k_ < u6.heap.size) ∧ ∃ q_, q_ ∈ [58, 2, 2] ∧ ∃ cells, u6.heap[k_]? = some (.cells cells q_ (0, 0))) _ x1 1 m1 m2 w _ HB.out Sx1.out HM.out).mono ?_
  rintro e u11 ⟨rfl, -, hB, hk⟩
  clear Sx1
  replace HB := Aside0.mk hB
  have hsz := Aside0.mk hk.1
  replace X1 := Aside0.mk ((hk.2 _ (blk_lt X1.out) (fun hp => by have h1 := hp.1; have qz1_ := z1.out; have qz2_ := z2.out; have qz3_ := z3.out; have qz4_ := z4.out; have qz5_ := z5.out; have qz6_ := z6.out; have qz7_ := z7.out; have qz8_ := z8.out; have qz9_ := z9.out; have qz10_ := z10.out; have qz11_ := z11.out; have qz12_ := z12.out; omega)).trans X1.out)
  replace Rw := Aside0.mk (Kd.R_step Rw.out (fun k_ ho_ hlt_ => hk.2 k_ hlt_ (fun hp => by have h1 := hp.1; have h2 := ho_; have qz1_ := z1.out; have qz2_ := z2.out; have qz3_ := z3.out; have qz4_ := z4.out; have qz5_ := z5.out; have qz6_ := z6.out; have qz7_ := z7.out; have qz8_ := z8.out; have qz9_ := z9.out; have qz10_ := z10.out; have qz11_ := z11.out; have qz12_ := z12.out; omega)))
  replace X5 := Aside0.mk ((hk.2 _ (blk_lt X5.out) (fun hp => by have h1 := hp.1; have qz1_ := z1.out; have qz2_ := z2.out; have qz3_ := z3.out; have qz4_ := z4.out; have qz5_ := z5.out; have qz6_ := z6.out; have qz7_ := z7.out; have qz8_ := z8.out; have qz9_ := z9.out; have qz10_ := z10.out; have qz11_ := z11.out; have qz12_ := z12.out; omega)).trans X5.out)
  replace X7 := Aside0.mk ((hk.2 _ (blk_lt X7.out) (fun hp => by have h1 := hp.1; have qz1_ := z1.out; have qz2_ := z2.out; have qz3_ := z3.out; have qz4_ := z4.out; have qz5_ := z5.out; have qz6_ := z6.out; have qz7_ := z7.out; have qz8_ := z8.out; have qz9_ := z9.out; have qz10_ := z10.out; have qz11_ := z11.out; have qz12_ := z12.out; omega)).trans X7.out)
  replace Rg := Aside0.mk (Kd.R_step Rg.out (fun k_ ho_ hlt_ => hk.2 k_ hlt_ (fun hp => by have h1 := hp.1; have h2 := ho_; have qz1_ := z1.out; have qz2_ := z2.out; have qz3_ := z3.out; have qz4_ := z4.out; have qz5_ := z5.out; have qz6_ := z6.out; have qz7_ := z7.out; have qz8_ := z8.out; have qz9_ := z9.out; have qz10_ := z10.out; have qz11_ := z11.out; have qz12_ := z12.out; omega)))
  replace X9 := Aside0.mk ((hk.2 _ (blk_lt X9.out) (fun hp => by have h1 := hp.1; have qz1_ := z1.out; have qz2_ := z2.out; have qz3_ := z3.out; have qz4_ := z4.out; have qz5_ := z5.out; have qz6_ := z6.out; have qz7_ := z7.out; have qz8_ := z8.out; have qz9_ := z9.out; have qz10_ := z10.out; have qz11_ := z11.out; have qz12_ := z12.out; omega)).trans X9.out)
  have z13 := hsz
  clear hsz hB hk hz0
  have cX9_0 : u11.cell? ⟨u8.heap.size, 0, none⟩ = some (.int .i64 g1) := (blk_cell X9.out 0).trans rfl
  have cX9_1 : u11.cell? ⟨u8.heap.size, 1, none⟩ = some (.slice Ag g2.length cg) := (blk_cell X9.out 1).trans rfl
  have lX9 : u8.heap.size < u11.heap.size := blk_lt X9.out
  have nX9 : u8.heap.size ≠ u11.heap.size := Nat.ne_of_lt (blk_lt X9.out)
  have cX5_0 : u11.cell? ⟨u4.heap.size, 0, none⟩ = some (.int .i64 s1) := (blk_cell X5.out 0).trans rfl
  have cX5_1 : u11.cell? ⟨u4.heap.size, 1, none⟩ = some (.slice Aw s2.length cw) := (blk_cell X5.out 1).trans rfl
  have lX5 : u4.heap.size < u11.heap.size := blk_lt X5.out
  have nX5 : u4.heap.size ≠ u11.heap.size := Nat.ne_of_lt (blk_lt X5.out)
  have cX1_0 : u11.cell? ⟨w.heap.size, 0, none⟩ = some (.int .i64 a0_0) := (blk_cell X1.out 0).trans rfl
  have cX1_1 : u11.cell? ⟨w.heap.size, 1, none⟩ = some (.slice A0_1 l0_1.length c0_1) := (blk_cell X1.out 1).trans rfl
  have lX1 : w.heap.size < u11.heap.size := blk_lt X1.out
  have nX1 : w.heap.size ≠ u11.heap.size := Nat.ne_of_lt (blk_lt X1.out)
  go_wp2_with fail
  clear cX9_0 cX9_1 lX9 nX9 cX5_0 cX5_1 lX5 nX5 cX1_0 cX1_1 lX1 nX1
  refine (laws_eqIntsResult.calls k g1 _ cg g2 s1 _ cw s2 true _ (Kd.R_reads' Rg.out).2.2 (Kd.R_reads' Rg.out).2.1 (Kd.R_reads' Rw.out).2.2 (Kd.R_reads' Rw.out).2.1 HQ1.out).mono ?_
  rintro e u12 ⟨rfl, hb⟩
  have hsz := hb.size
  replace HB := Aside0.mk (show Below w.heap.size w u12 from below_step HB.out hb)
  replace X1 := Aside0.mk (keepB hb X1.out)
  replace Rw := Aside0.mk (Kd.R_below Rw.out hb)
  replace X5 := Aside0.mk (keepB hb X5.out)
  replace X7 := Aside0.mk (keepB hb X7.out)
  replace Rg := Aside0.mk (Kd.R_below Rg.out hb)
  replace X9 := Aside0.mk (keepB hb X9.out)
  have z14 := Aside0.mk hsz
  clear hsz
  have cX9_0 : u12.cell? ⟨u8.heap.size, 0, none⟩ = some (.int .i64 g1) := (blk_cell X9.out 0).trans rfl
  have cX9_1 : u12.cell? ⟨u8.heap.size, 1, none⟩ = some (.slice Ag g2.length cg) := (blk_cell X9.out 1).trans rfl
  have lX9 : u8.heap.size < u12.heap.size := blk_lt X9.out
  have nX9 : u8.heap.size ≠ u12.heap.size := Nat.ne_of_lt (blk_lt X9.out)
  have cX5_0 : u12.cell? ⟨u4.heap.size, 0, none⟩ = some (.int .i64 s1) := (blk_cell X5.out 0).trans rfl
  have cX5_1 : u12.cell? ⟨u4.heap.size, 1, none⟩ = some (.slice Aw s2.length cw) := (blk_cell X5.out 1).trans rfl
  have lX5 : u4.heap.size < u12.heap.size := blk_lt X5.out
  have nX5 : u4.heap.size ≠ u12.heap.size := Nat.ne_of_lt (blk_lt X5.out)
  have cX1_0 : u12.cell? ⟨w.heap.size, 0, none⟩ = some (.int .i64 a0_0) := (blk_cell X1.out 0).trans rfl
  have cX1_1 : u12.cell? ⟨w.heap.size, 1, none⟩ = some (.slice A0_1 l0_1.length c0_1) := (blk_cell X1.out 1).trans rfl
  have lX1 : w.heap.size < u12.heap.size := blk_lt X1.out
  have nX1 : w.heap.size ≠ u12.heap.size := Nat.ne_of_lt (blk_lt X1.out)
  go_wp2_with fail
  clear cX9_0 cX9_1 lX9 nX9 cX5_0 cX5_1 lX5 nX5 cX1_0 cX1_1 lX1 nX1
  have hlo : w.heap.size ≤ u7.heap.size := by have hx_ := blk_lt X1.out; have qz1_ := z1.out; have qz2_ := z2.out; have qz3_ := z3.out; have qz4_ := z4.out; have qz5_ := z5.out; have qz6_ := z6.out; have qz7_ := z7.out; have qz8_ := z8.out; have qz9_ := z9.out; have qz10_ := z10.out; have qz11_ := z11.out; have qz12_ := z12.out; have qz13_ := z13.out; have qz14_ := z14.out; omega
  refine (laws_markIntsResult.calls k g1 (fun k_ => u7.heap.size ≤ k_ ∧ k_ < u8.heap.size) _ g2 1 q3 n2 w _ HB.out (Kd.R_lower Rg.out hlo) HN.out).mono ?_
  rintro e u13 ⟨rfl, hg2, hB, hk⟩
  clear Rg
  replace HB := Aside0.mk hB
  have hsz := Aside0.mk hk.1
  replace X1 := Aside0.mk ((hk.2 _ (blk_lt X1.out) (fun hp => by have h1 := hp; have qz1_ := z1.out; have qz2_ := z2.out; have qz3_ := z3.out; have qz4_ := z4.out; have qz5_ := z5.out; have qz6_ := z6.out; have qz7_ := z7.out; have qz8_ := z8.out; have qz9_ := z9.out; have qz10_ := z10.out; have qz11_ := z11.out; have qz12_ := z12.out; have qz13_ := z13.out; have qz14_ := z14.out; omega)).trans X1.out)
  replace Rw := Aside0.mk (Kd.R_step Rw.out (fun k_ ho_ hlt_ => hk.2 k_ hlt_ (fun hp => by have h1 := hp; have h2 := ho_; have qz1_ := z1.out; have qz2_ := z2.out; have qz3_ := z3.out; have qz4_ := z4.out; have qz5_ := z5.out; have qz6_ := z6.out; have qz7_ := z7.out; have qz8_ := z8.out; have qz9_ := z9.out; have qz10_ := z10.out; have qz11_ := z11.out; have qz12_ := z12.out; have qz13_ := z13.out; have qz14_ := z14.out; omega)))
  replace X5 := Aside0.mk ((hk.2 _ (blk_lt X5.out) (fun hp => by have h1 := hp; have qz1_ := z1.out; have qz2_ := z2.out; have qz3_ := z3.out; have qz4_ := z4.out; have qz5_ := z5.out; have qz6_ := z6.out; have qz7_ := z7.out; have qz8_ := z8.out; have qz9_ := z9.out; have qz10_ := z10.out; have qz11_ := z11.out; have qz12_ := z12.out; have qz13_ := z13.out; have qz14_ := z14.out; omega)).trans X5.out)
  replace X7 := Aside0.mk ((hk.2 _ (blk_lt X7.out) (fun hp => by have h1 := hp; have qz1_ := z1.out; have qz2_ := z2.out; have qz3_ := z3.out; have qz4_ := z4.out; have qz5_ := z5.out; have qz6_ := z6.out; have qz7_ := z7.out; have qz8_ := z8.out; have qz9_ := z9.out; have qz10_ := z10.out; have qz11_ := z11.out; have qz12_ := z12.out; have qz13_ := z13.out; have qz14_ := z14.out; omega)).trans X7.out)
  replace X9 := Aside0.mk ((hk.2 _ (blk_lt X9.out) (fun hp => by have h1 := hp; have qz1_ := z1.out; have qz2_ := z2.out; have qz3_ := z3.out; have qz4_ := z4.out; have qz5_ := z5.out; have qz6_ := z6.out; have qz7_ := z7.out; have qz8_ := z8.out; have qz9_ := z9.out; have qz10_ := z10.out; have qz11_ := z11.out; have qz12_ := z12.out; have qz13_ := z13.out; have qz14_ := z14.out; omega)).trans X9.out)
  have z15 := hsz
  clear hsz hB hk hlo
  obtain ⟨gl_, -, -⟩ := Kd.R_reads' hg2
  rw [gl_] at hg2
  have Rg := Aside0.mk hg2
  have GL := Aside0.mk gl_
  clear hg2 gl_
  have cX9_0 : u13.cell? ⟨u8.heap.size, 0, none⟩ = some (.int .i64 g1) := (blk_cell X9.out 0).trans rfl
  have cX9_1 : u13.cell? ⟨u8.heap.size, 1, none⟩ = some (.slice Ag g2.length cg) := (blk_cell X9.out 1).trans rfl
  have lX9 : u8.heap.size < u13.heap.size := blk_lt X9.out
  have nX9 : u8.heap.size ≠ u13.heap.size := Nat.ne_of_lt (blk_lt X9.out)
  have cX5_0 : u13.cell? ⟨u4.heap.size, 0, none⟩ = some (.int .i64 s1) := (blk_cell X5.out 0).trans rfl
  have cX5_1 : u13.cell? ⟨u4.heap.size, 1, none⟩ = some (.slice Aw s2.length cw) := (blk_cell X5.out 1).trans rfl
  have lX5 : u4.heap.size < u13.heap.size := blk_lt X5.out
  have nX5 : u4.heap.size ≠ u13.heap.size := Nat.ne_of_lt (blk_lt X5.out)
  have cX1_0 : u13.cell? ⟨w.heap.size, 0, none⟩ = some (.int .i64 a0_0) := (blk_cell X1.out 0).trans rfl
  have cX1_1 : u13.cell? ⟨w.heap.size, 1, none⟩ = some (.slice A0_1 l0_1.length c0_1) := (blk_cell X1.out 1).trans rfl
  have lX1 : w.heap.size < u13.heap.size := blk_lt X1.out
  have nX1 : w.heap.size ≠ u13.heap.size := Nat.ne_of_lt (blk_lt X1.out)
  go_wp2_with fail
  clear cX9_0 cX9_1 lX9 nX9 cX5_0 cX5_1 lX5 nX5 cX1_0 cX1_1 lX1 nX1
  rw [GL.out]
  refine (laws_heldIntsResult.calls k g1 _ cg n2 1 q3 _ (Kd.R_reads' Rg.out).2.2 (Kd.R_reads' Rg.out).2.1 HQ3.out).mono ?_
  rintro e u14 ⟨rfl, hb⟩
  have hsz := hb.size
  replace HB := Aside0.mk (show Below w.heap.size w u14 from below_step HB.out hb)
  replace X1 := Aside0.mk (keepB hb X1.out)
  replace Rw := Aside0.mk (Kd.R_below Rw.out hb)
  replace X5 := Aside0.mk (keepB hb X5.out)
  replace X7 := Aside0.mk (keepB hb X7.out)
  replace X9 := Aside0.mk (keepB hb X9.out)
  replace Rg := Aside0.mk (Kd.R_below Rg.out hb)
  have z16 := Aside0.mk hsz
  clear hsz
  have cX9_0 : u14.cell? ⟨u8.heap.size, 0, none⟩ = some (.int .i64 g1) := (blk_cell X9.out 0).trans rfl
  have cX9_1 : u14.cell? ⟨u8.heap.size, 1, none⟩ = some (.slice Ag g2.length cg) := (blk_cell X9.out 1).trans rfl
  have lX9 : u8.heap.size < u14.heap.size := blk_lt X9.out
  have nX9 : u8.heap.size ≠ u14.heap.size := Nat.ne_of_lt (blk_lt X9.out)
  have cX5_0 : u14.cell? ⟨u4.heap.size, 0, none⟩ = some (.int .i64 s1) := (blk_cell X5.out 0).trans rfl
  have cX5_1 : u14.cell? ⟨u4.heap.size, 1, none⟩ = some (.slice Aw s2.length cw) := (blk_cell X5.out 1).trans rfl
  have lX5 : u4.heap.size < u14.heap.size := blk_lt X5.out
  have nX5 : u4.heap.size ≠ u14.heap.size := Nat.ne_of_lt (blk_lt X5.out)
  have cX1_0 : u14.cell? ⟨w.heap.size, 0, none⟩ = some (.int .i64 a0_0) := (blk_cell X1.out 0).trans rfl
  have cX1_1 : u14.cell? ⟨w.heap.size, 1, none⟩ = some (.slice A0_1 l0_1.length c0_1) := (blk_cell X1.out 1).trans rfl
  have lX1 : w.heap.size < u14.heap.size := blk_lt X1.out
  have nX1 : w.heap.size ≠ u14.heap.size := Nat.ne_of_lt (blk_lt X1.out)
  go_wp2_with fail
  clear cX9_0 cX9_1 lX9 nX9 cX5_0 cX5_1 lX5 nX5 cX1_0 cX1_1 lX1 nX1
  have hlo := Aside0.mk HB.out.size
  refine (laws_toTree.calls k a0_0 _ c0_1 l0_1 x0 x1 _ (Kd.C_below HR1.out HB.out) HC1.out HX.out).mono ?_
  rintro e u15 ⟨vy1, rfl, hs1, hb⟩
  have hsz := hb.size
  replace HB := Aside0.mk (show Below w.heap.size w u15 from below_step HB.out hb)
  replace X1 := Aside0.mk (keepB hb X1.out)
  replace Rw := Aside0.mk (Kd.R_below Rw.out hb)
  replace X5 := Aside0.mk (keepB hb X5.out)
  replace X7 := Aside0.mk (keepB hb X7.out)
  replace X9 := Aside0.mk (keepB hb X9.out)
  replace Rg := Aside0.mk (Kd.R_below Rg.out hb)
  have z17 := Aside0.mk hsz
  clear hsz
  obtain ⟨Ay1, cy1, e1⟩ := Kd.S_slice hs1
  subst e1
  have Sy1 := Aside0.mk (show Kd.S k58 58 u15 u14.heap.size (fun _ => True) (.slice Ay1 x1.length cy1) x1 from hs1)
  clear hs1
  clear hlo
  have cX1_0 : u15.cell? ⟨w.heap.size, 0, none⟩ = some (.int .i64 a0_0) := (blk_cell X1.out 0).trans rfl
  have cX1_1 : u15.cell? ⟨w.heap.size, 1, none⟩ = some (.slice A0_1 l0_1.length c0_1) := (blk_cell X1.out 1).trans rfl
  have lX1 : w.heap.size < u15.heap.size := blk_lt X1.out
  have nX1 : w.heap.size ≠ u15.heap.size := Nat.ne_of_lt (blk_lt X1.out)
  have cX5_0 : u15.cell? ⟨u4.heap.size, 0, none⟩ = some (.int .i64 s1) := (blk_cell X5.out 0).trans rfl
  have cX5_1 : u15.cell? ⟨u4.heap.size, 1, none⟩ = some (.slice Aw s2.length cw) := (blk_cell X5.out 1).trans rfl
  have lX5 : u4.heap.size < u15.heap.size := blk_lt X5.out
  have nX5 : u4.heap.size ≠ u15.heap.size := Nat.ne_of_lt (blk_lt X5.out)
  have cX9_0 : u15.cell? ⟨u8.heap.size, 0, none⟩ = some (.int .i64 g1) := (blk_cell X9.out 0).trans rfl
  have cX9_1 : u15.cell? ⟨u8.heap.size, 1, none⟩ = some (.slice Ag g2.length cg) := (blk_cell X9.out 1).trans rfl
  have lX9 : u8.heap.size < u15.heap.size := blk_lt X9.out
  have nX9 : u8.heap.size ≠ u15.heap.size := Nat.ne_of_lt (blk_lt X9.out)
  go_wp2_with fail
  clear cX1_0 cX1_1 lX1 nX1 cX5_0 cX5_1 lX5 nX5 cX9_0 cX9_1 lX9 nX9
  refine (impl_PathTo.calls k x0 _ cy1 x1 a1 g1 g2 _ (Kd.S_reads' Sy1.out).2.2 (Kd.S_reads' Sy1.out).2.1 HG.out).mono ?_
  rintro e u16 ⟨vh, rfl, hr, hb⟩
  have hsz := hb.size
  replace HB := Aside0.mk (show Below w.heap.size w u16 from below_step HB.out hb)
  replace X1 := Aside0.mk (keepB hb X1.out)
  replace Rw := Aside0.mk (Kd.R_below Rw.out hb)
  replace X5 := Aside0.mk (keepB hb X5.out)
  replace X7 := Aside0.mk (keepB hb X7.out)
  replace X9 := Aside0.mk (keepB hb X9.out)
  replace Rg := Aside0.mk (Kd.R_below Rg.out hb)
  replace Sy1 := Aside0.mk (Kd.S_below Sy1.out hb)
  have z18 := Aside0.mk hsz
  clear hsz
  obtain ⟨Ah, ch, e1⟩ := Kd.R_slice hr
  subst e1
  have Rh := Aside0.mk (show Kd.R (Kd.int .i64) 2 u16 u15.heap.size (fun k_ => u15.heap.size ≤ k_ ∧ k_ < u16.heap.size) (.slice Ah g2.length ch) g2 from Kd.R_mono (Kd.R_bound hr) (fun k_ h_ => ⟨h_.2.1, h_.2.2.1⟩))
  clear hr
  clear Sy1
  have cX9_0 : u16.cell? ⟨u8.heap.size, 0, none⟩ = some (.int .i64 g1) := (blk_cell X9.out 0).trans rfl
  have cX9_1 : u16.cell? ⟨u8.heap.size, 1, none⟩ = some (.slice Ag g2.length cg) := (blk_cell X9.out 1).trans rfl
  have lX9 : u8.heap.size < u16.heap.size := blk_lt X9.out
  have nX9 : u8.heap.size ≠ u16.heap.size := Nat.ne_of_lt (blk_lt X9.out)
  have cX5_0 : u16.cell? ⟨u4.heap.size, 0, none⟩ = some (.int .i64 s1) := (blk_cell X5.out 0).trans rfl
  have cX5_1 : u16.cell? ⟨u4.heap.size, 1, none⟩ = some (.slice Aw s2.length cw) := (blk_cell X5.out 1).trans rfl
  have lX5 : u4.heap.size < u16.heap.size := blk_lt X5.out
  have nX5 : u4.heap.size ≠ u16.heap.size := Nat.ne_of_lt (blk_lt X5.out)
  have cX1_0 : u16.cell? ⟨w.heap.size, 0, none⟩ = some (.int .i64 a0_0) := (blk_cell X1.out 0).trans rfl
  have cX1_1 : u16.cell? ⟨w.heap.size, 1, none⟩ = some (.slice A0_1 l0_1.length c0_1) := (blk_cell X1.out 1).trans rfl
  have lX1 : w.heap.size < u16.heap.size := blk_lt X1.out
  have nX1 : w.heap.size ≠ u16.heap.size := Nat.ne_of_lt (blk_lt X1.out)
  go_wp2_with fail
  clear cX9_0 cX9_1 lX9 nX9 cX5_0 cX5_1 lX5 nX5 cX1_0 cX1_1 lX1 nX1
  have hb : Below u16.heap.size u16 (u16.alloc (Obj.cells #[.int .i64 g1, .slice Ah g2.length ch] 41)) := below_alloc (Below.refl _ _) _
  have hbx := blk_new u16 (Obj.cells #[.int .i64 g1, .slice Ah g2.length ch] 41)
  have hsz : u16.heap.size + 1 = (u16.alloc (Obj.cells #[.int .i64 g1, .slice Ah g2.length ch] 41)).heap.size := by simp
  replace HB := Aside0.mk (below_alloc HB.out (Obj.cells #[.int .i64 g1, .slice Ah g2.length ch] 41))
  replace X1 := Aside0.mk (keepB hb X1.out)
  replace Rw := Aside0.mk (Kd.R_below Rw.out hb)
  replace X5 := Aside0.mk (keepB hb X5.out)
  replace X7 := Aside0.mk (keepB hb X7.out)
  replace X9 := Aside0.mk (keepB hb X9.out)
  replace Rg := Aside0.mk (Kd.R_below Rg.out hb)
  replace Rh := Aside0.mk (Kd.R_below Rh.out hb)
  have hbz := Aside0.mk hb
  have hbxz := Aside0.mk hbx
  have hszz := Aside0.mk hsz
  clear hb hbx hsz
  generalize u16.alloc (Obj.cells #[.int .i64 g1, .slice Ah g2.length ch] 41) = u17 at HB hbz hbxz hszz X1 Rw X5 X7 X9 Rg Rh ⊢
  have X19 := hbxz
  have z19 := hszz
  clear hbz hbxz hszz
  refine (laws_eqIntsResult.calls k g1 _ ch g2 s1 _ cw s2 true _ (Kd.R_reads' Rh.out).2.2 (Kd.R_reads' Rh.out).2.1 (Kd.R_reads' Rw.out).2.2 (Kd.R_reads' Rw.out).2.1 HQ1.out).mono ?_
  rintro e u18 ⟨rfl, hb⟩
  have hsz := hb.size
  replace HB := Aside0.mk (show Below w.heap.size w u18 from below_step HB.out hb)
  replace X1 := Aside0.mk (keepB hb X1.out)
  replace Rw := Aside0.mk (Kd.R_below Rw.out hb)
  replace X5 := Aside0.mk (keepB hb X5.out)
  replace X7 := Aside0.mk (keepB hb X7.out)
  replace X9 := Aside0.mk (keepB hb X9.out)
  replace Rg := Aside0.mk (Kd.R_below Rg.out hb)
  replace Rh := Aside0.mk (Kd.R_below Rh.out hb)
  replace X19 := Aside0.mk (keepB hb X19.out)
  have z20 := Aside0.mk hsz
  clear hsz
  have cX9_0 : u18.cell? ⟨u8.heap.size, 0, none⟩ = some (.int .i64 g1) := (blk_cell X9.out 0).trans rfl
  have cX9_1 : u18.cell? ⟨u8.heap.size, 1, none⟩ = some (.slice Ag g2.length cg) := (blk_cell X9.out 1).trans rfl
  have lX9 : u8.heap.size < u18.heap.size := blk_lt X9.out
  have nX9 : u8.heap.size ≠ u18.heap.size := Nat.ne_of_lt (blk_lt X9.out)
  have cX5_0 : u18.cell? ⟨u4.heap.size, 0, none⟩ = some (.int .i64 s1) := (blk_cell X5.out 0).trans rfl
  have cX5_1 : u18.cell? ⟨u4.heap.size, 1, none⟩ = some (.slice Aw s2.length cw) := (blk_cell X5.out 1).trans rfl
  have lX5 : u4.heap.size < u18.heap.size := blk_lt X5.out
  have nX5 : u4.heap.size ≠ u18.heap.size := Nat.ne_of_lt (blk_lt X5.out)
  have cX1_0 : u18.cell? ⟨w.heap.size, 0, none⟩ = some (.int .i64 a0_0) := (blk_cell X1.out 0).trans rfl
  have cX1_1 : u18.cell? ⟨w.heap.size, 1, none⟩ = some (.slice A0_1 l0_1.length c0_1) := (blk_cell X1.out 1).trans rfl
  have lX1 : w.heap.size < u18.heap.size := blk_lt X1.out
  have nX1 : w.heap.size ≠ u18.heap.size := Nat.ne_of_lt (blk_lt X1.out)
  go_wp2_with fail
  clear cX9_0 cX9_1 lX9 nX9 cX5_0 cX5_1 lX5 nX5 cX1_0 cX1_1 lX1 nX1
  rw [GL.out]
  refine (laws_heldIntsResult.calls k g1 _ cg n2 1 q3 _ (Kd.R_reads' Rg.out).2.2 (Kd.R_reads' Rg.out).2.1 HQ3.out).mono ?_
  rintro e u19 ⟨rfl, hb⟩
  have hsz := hb.size
  replace HB := Aside0.mk (show Below w.heap.size w u19 from below_step HB.out hb)
  replace X1 := Aside0.mk (keepB hb X1.out)
  replace Rw := Aside0.mk (Kd.R_below Rw.out hb)
  replace X5 := Aside0.mk (keepB hb X5.out)
  replace X7 := Aside0.mk (keepB hb X7.out)
  replace X9 := Aside0.mk (keepB hb X9.out)
  replace Rg := Aside0.mk (Kd.R_below Rg.out hb)
  replace Rh := Aside0.mk (Kd.R_below Rh.out hb)
  replace X19 := Aside0.mk (keepB hb X19.out)
  have z21 := Aside0.mk hsz
  clear hsz
  go_wp2_with fail
  go_ret
  exact ⟨rfl, HB.out⟩


end Go.Proofs.Ytdhdgkonghefeaa.P
