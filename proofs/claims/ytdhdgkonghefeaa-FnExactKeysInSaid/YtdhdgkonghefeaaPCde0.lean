-- Printed by this session's own program over the kit's print (wip/tools/mp.py). Not trusted: Lean checks it.
import Derived.Test.YtdhdgkonghefeaaP0
import Derived.Test.YtdhdgkonghefeaaPCabcde0
import Derived.Test.YtdhdgkonghefeaaPDm0
import Derived.Test.YtdhdgkonghefeaaWRepsOne
import Derived.Test.YtdhdgkonghefeaaLv
import Derived.Test.YtdhdgkonghefeaaLb
import Derived.IntWalk
import Derived.Shelf.Abstract
import Derived.Test.YtdhdgkonghefeaaZz
import Derived.Test.YtdhdgkonghefeaaLv
import Derived.Test.YtdhdgkonghefeaaLv
namespace Go.Proofs.Ytdhdgkonghefeaa.P
open Go.RowKit Go.Proofs.YtdhdgkonghefeaaW.PrintWords Go.Proofs.YtdhdgkonghefeaaW.PrintLast Go.Proofs.YtdhdgkonghefeaaW.PrintMore
attribute [local go_sem] max2_int min2_int max_two min_two max_three min_three max_four min_four   -- for this text's walks alone
set_option linter.unusedVariables false
set_option linter.unusedSimpArgs false

-- NEEDS Derived.Test.@N@Lv
/-! ### laws_eqIntsResult: function 21 -/
set_option maxHeartbeats 8000000 in
set_option maxRecDepth 100000 in
theorem laws_eqIntsResult.calls (k : Nat) (a0_0 : Int) (A0_1 : Option Addr) (c0_1 : Nat) (l0_1 : List Int) (a1_0 : Int) (A1_1 : Option Addr) (c1_1 : Nat) (l1_1 : List Int) (r : Bool) (w : World) (hr0_1 : Kd.C (Kd.int .i64) w A0_1 l0_1.length l0_1) (hc0_1 : l0_1.length ≤ c0_1) (hr1_1 : Kd.C (Kd.int .i64) w A1_1 l1_1.length l1_1) (hc1_1 : l1_1.length ≤ c1_1) (h : laws_eqIntsResult.f k a0_0 l0_1 a1_0 l1_1 = some r) :
  Calls Try.prog 21 #[.agg #[.int .i64 a0_0, .slice A0_1 l0_1.length c0_1], .agg #[.int .i64 a1_0, .slice A1_1 l1_1.length c1_1]] w fun e w' => e = .returned (.bool r) ∧ Below w.heap.size w w' := by
 have hu41 := Try.underlying41
 have HR0_1 := Aside0.mk hr0_1
 have HC0_1 := Aside0.mk hc0_1
 clear hr0_1 hc0_1
 have HR1_1 := Aside0.mk hr1_1
 have HC1_1 := Aside0.mk hc1_1
 clear hr1_1 hc1_1
 have HB := Aside0.mk (Below.refl w.heap.size w)
 have H : (if a0_0 = a1_0 then ((laws_eqInt64S.f k l0_1 l1_1).bind fun t268 => (if t268 = true then (some true) else (some false))) else (some false)) = some r := h
 clear h
 by_cases c3 : a0_0 = a1_0
 ·rw [if_pos c3] at H
  have c3b0 : (a0_0 == a1_0) = true := beq_iff_eq.mpr c3
  have c3b1 : (a0_0 != a1_0) = false := bne_eq_false_iff_eq.mpr c3
  clear c3
  replace H := Option.bind_eq_some_iff.mp H
  obtain ⟨t268, A40, H⟩ := H
  replace H : (if t268 = true then (some true) else (some false)) = some r := H
  have A4 := Aside0.mk A40
  clear A40
  by_cases c5 : t268 = true
  ·subst c5
   have H1 : (some true) = some r := by rw [if_pos rfl] at H; exact H
   clear H
   have H := H1
   clear H1
   obtain rfl := Option.some.inj H
   go_enter Try.func21, Try.ntmps21
   go_wp2_with (first | ((with_reducible refine gate_dst (N := 2) rfl ?_); refine box_event ?hg (N := 2) ?hd (cs := #[.int .i64 a0_0, .slice A0_1 l0_1.length c0_1]) (t := 41) ?hr ?_; (case hd => rfl); (case hg => rfl); (case hr => first | (go_simp; done) | (go_simp; rfl)); intro gb266 hg w6 hbox hb; have n0_ := Aside0.mk (below_step (by repeat (first | (with_reducible first | exact HB.out | apply below_alloc | apply pw_below_drewN | apply below_drew1) | exact HB.out)) hb); have n1_ := Aside0.mk (hbox); have n2_ := Aside0.mk ((by rw [hg]; exact (below_size (by repeat (first | (with_reducible first | exact HB.out | apply below_alloc | apply pw_below_drewN | apply below_drew1) | exact HB.out))) : w.heap.size ≤ gb266)); have n3_ := Aside0.mk ((by rw [hg]; exact (below_size (by repeat (first | (with_reducible first | exact HB.out | apply below_alloc | apply pw_below_drewN | apply below_drew1) | exact HB.out))) : w.heap.size ≤ gb266)); clear HB; have HB := n0_; have BK266 := n1_; have GW266 := n2_; have GE266 := n3_; clear n0_ n1_ n2_ n3_; clear hb hbox hg) | ((with_reducible refine gate_dst (N := 3) rfl ?_); refine box_event ?hg (N := 3) ?hd (cs := #[.int .i64 a1_0, .slice A1_1 l1_1.length c1_1]) (t := 41) ?hr ?_; (case hd => rfl); (case hg => rfl); (case hr => first | (go_simp; done) | (go_simp; rfl)); intro gb267 hg w7 hbox hb; have n0_ := Aside0.mk (blk_below (g := gb266) (o := .cells #[.int .i64 a0_0, .slice A0_1 l0_1.length c0_1] 41 (0, 0)) (by (with_reducible repeat (first | refine blk_drewN ?_ _ | refine blk_drew ?_ | refine blk_alloc ?_ _)); exact BK266.out) hb); have n1_ := Aside0.mk (below_step (by repeat (first | (with_reducible first | exact HB.out | apply below_alloc | apply pw_below_drewN | apply below_drew1 | refine below_set ?_ GE266.out) | exact HB.out)) hb); have n2_ := Aside0.mk (hbox); have n3_ := Aside0.mk ((by rw [hg]; exact (below_size (by repeat (first | (with_reducible first | exact HB.out | apply below_alloc | apply pw_below_drewN | apply below_drew1 | refine below_set ?_ GE266.out) | exact HB.out))) : w.heap.size ≤ gb267)); have n4_ := Aside0.mk ((by rw [hg]; exact (below_size (by repeat (first | (with_reducible first | exact HB.out | apply below_alloc | apply pw_below_drewN | apply below_drew1 | refine below_set ?_ GE266.out) | exact HB.out))) : w.heap.size ≤ gb267)); have n5_ := Aside0.mk ((by rw [hg]; exact Nat.ne_of_lt (blk_lt (g := gb266) (o := .cells #[.int .i64 a0_0, .slice A0_1 l0_1.length c0_1] 41 (0, 0)) (by (with_reducible repeat (first | refine blk_drewN ?_ _ | refine blk_drew ?_ | refine blk_alloc ?_ _)); exact BK266.out)) : gb266 ≠ gb267)); have n6_ := Aside0.mk ((by rw [hg]; exact Nat.ne_of_gt (blk_lt (g := gb266) (o := .cells #[.int .i64 a0_0, .slice A0_1 l0_1.length c0_1] 41 (0, 0)) (by (with_reducible repeat (first | refine blk_drewN ?_ _ | refine blk_drew ?_ | refine blk_alloc ?_ _)); exact BK266.out)) : gb267 ≠ gb266)); clear BK266; clear HB; have BK266 := n0_; have HB := n1_; have BK267 := n2_; have GW267 := n3_; have GE267 := n4_; have NB266_267 := n5_; have NB267_266 := n6_; clear n0_ n1_ n2_ n3_ n4_ n5_ n6_; clear hb hbox hg; have hnb8 := NB266_267.out; have hnc8 := NB267_266.out; obtain ⟨hcz9_0, hcz9_1, hfz9_0, hfz9_1⟩ := Go.Proofs.Ytdhdgkonghefeaa.Lv.blks2 BK266.out; obtain ⟨hcz10_0, hcz10_1, hfz10_0, hfz10_1⟩ := Go.Proofs.Ytdhdgkonghefeaa.Lv.blks2 BK267.out) | ((with_reducible refine gate_callee (f := 50) rfl ?_); refine goesL_ (some 14) rfl rfl Try.func50 (by kernel_rfl) rfl #[.slice A0_1 l0_1.length c0_1, .slice A1_1 l1_1.length c1_1] rfl (by (try simp only [List.map_toArray, List.map_cons, List.map_nil]); first | done | rfl | (simp only [List.length_drop, List.length_take]; rfl)) ?_; (with_reducible refine (laws_eqInt64S.calls k _ _ l0_1 _ _ l1_1 true _ ?side1 ?side2 ?side3 ?side4 A4.out).mono ?_); (case side1 => repeat (first | exact (Kd.C_below HR0_1.out HB.out) | (with_reducible refine Kd.C_alloc ?_ _) | (with_reducible refine Kd.C_drewN ?_ _) | (with_reducible refine Kd.C_drew ?_))); (case side2 => exact HC0_1.out); (case side3 => repeat (first | exact (Kd.C_below HR1_1.out HB.out) | (with_reducible refine Kd.C_alloc ?_ _) | (with_reducible refine Kd.C_drewN ?_ _) | (with_reducible refine Kd.C_drew ?_))); (case side4 => exact HC1_1.out); rintro e w' ⟨rfl, ⟨nd, rfl⟩⟩; refine ⟨_, rfl, ?_⟩))
   go_ret
   exact ⟨by first | rfl | (simp [errW_none, errW_some] <;> rfl) | (simp [*, errW_none, errW_some] <;> rfl), by repeat (first | (with_reducible first | exact HB.out | apply below_alloc | apply pw_below_drewN | apply below_drew1 | refine below_set ?_ GE266.out | refine below_set ?_ GE267.out) | exact HB.out)⟩
  ·replace c5 := Bool.eq_false_iff.mpr c5
   subst c5
   have H1 : (some false) = some r := by rw [if_neg (show ¬ (false = true) by decide)] at H; exact H
   clear H
   have H := H1
   clear H1
   obtain rfl := Option.some.inj H
   go_enter Try.func21, Try.ntmps21
   go_wp2_with (first | ((with_reducible refine gate_dst (N := 2) rfl ?_); refine box_event ?hg (N := 2) ?hd (cs := #[.int .i64 a0_0, .slice A0_1 l0_1.length c0_1]) (t := 41) ?hr ?_; (case hd => rfl); (case hg => rfl); (case hr => first | (go_simp; done) | (go_simp; rfl)); intro gb266 hg w11 hbox hb; have n0_ := Aside0.mk (below_step (by repeat (first | (with_reducible first | exact HB.out | apply below_alloc | apply pw_below_drewN | apply below_drew1) | exact HB.out)) hb); have n1_ := Aside0.mk (hbox); have n2_ := Aside0.mk ((by rw [hg]; exact (below_size (by repeat (first | (with_reducible first | exact HB.out | apply below_alloc | apply pw_below_drewN | apply below_drew1) | exact HB.out))) : w.heap.size ≤ gb266)); have n3_ := Aside0.mk ((by rw [hg]; exact (below_size (by repeat (first | (with_reducible first | exact HB.out | apply below_alloc | apply pw_below_drewN | apply below_drew1) | exact HB.out))) : w.heap.size ≤ gb266)); clear HB; have HB := n0_; have BK266 := n1_; have GW266 := n2_; have GE266 := n3_; clear n0_ n1_ n2_ n3_; clear hb hbox hg) | ((with_reducible refine gate_dst (N := 3) rfl ?_); refine box_event ?hg (N := 3) ?hd (cs := #[.int .i64 a1_0, .slice A1_1 l1_1.length c1_1]) (t := 41) ?hr ?_; (case hd => rfl); (case hg => rfl); (case hr => first | (go_simp; done) | (go_simp; rfl)); intro gb267 hg w12 hbox hb; have n0_ := Aside0.mk (blk_below (g := gb266) (o := .cells #[.int .i64 a0_0, .slice A0_1 l0_1.length c0_1] 41 (0, 0)) (by (with_reducible repeat (first | refine blk_drewN ?_ _ | refine blk_drew ?_ | refine blk_alloc ?_ _)); exact BK266.out) hb); have n1_ := Aside0.mk (below_step (by repeat (first | (with_reducible first | exact HB.out | apply below_alloc | apply pw_below_drewN | apply below_drew1 | refine below_set ?_ GE266.out) | exact HB.out)) hb); have n2_ := Aside0.mk (hbox); have n3_ := Aside0.mk ((by rw [hg]; exact (below_size (by repeat (first | (with_reducible first | exact HB.out | apply below_alloc | apply pw_below_drewN | apply below_drew1 | refine below_set ?_ GE266.out) | exact HB.out))) : w.heap.size ≤ gb267)); have n4_ := Aside0.mk ((by rw [hg]; exact (below_size (by repeat (first | (with_reducible first | exact HB.out | apply below_alloc | apply pw_below_drewN | apply below_drew1 | refine below_set ?_ GE266.out) | exact HB.out))) : w.heap.size ≤ gb267)); have n5_ := Aside0.mk ((by rw [hg]; exact Nat.ne_of_lt (blk_lt (g := gb266) (o := .cells #[.int .i64 a0_0, .slice A0_1 l0_1.length c0_1] 41 (0, 0)) (by (with_reducible repeat (first | refine blk_drewN ?_ _ | refine blk_drew ?_ | refine blk_alloc ?_ _)); exact BK266.out)) : gb266 ≠ gb267)); have n6_ := Aside0.mk ((by rw [hg]; exact Nat.ne_of_gt (blk_lt (g := gb266) (o := .cells #[.int .i64 a0_0, .slice A0_1 l0_1.length c0_1] 41 (0, 0)) (by (with_reducible repeat (first | refine blk_drewN ?_ _ | refine blk_drew ?_ | refine blk_alloc ?_ _)); exact BK266.out)) : gb267 ≠ gb266)); clear BK266; clear HB; have BK266 := n0_; have HB := n1_; have BK267 := n2_; have GW267 := n3_; have GE267 := n4_; have NB266_267 := n5_; have NB267_266 := n6_; clear n0_ n1_ n2_ n3_ n4_ n5_ n6_; clear hb hbox hg; have hnb13 := NB266_267.out; have hnc13 := NB267_266.out; obtain ⟨hcz14_0, hcz14_1, hfz14_0, hfz14_1⟩ := Go.Proofs.Ytdhdgkonghefeaa.Lv.blks2 BK266.out; obtain ⟨hcz15_0, hcz15_1, hfz15_0, hfz15_1⟩ := Go.Proofs.Ytdhdgkonghefeaa.Lv.blks2 BK267.out) | ((with_reducible refine gate_callee (f := 50) rfl ?_); refine goesL_ (some 14) rfl rfl Try.func50 (by kernel_rfl) rfl #[.slice A0_1 l0_1.length c0_1, .slice A1_1 l1_1.length c1_1] rfl (by (try simp only [List.map_toArray, List.map_cons, List.map_nil]); first | done | rfl | (simp only [List.length_drop, List.length_take]; rfl)) ?_; (with_reducible refine (laws_eqInt64S.calls k _ _ l0_1 _ _ l1_1 false _ ?side1 ?side2 ?side3 ?side4 A4.out).mono ?_); (case side1 => repeat (first | exact (Kd.C_below HR0_1.out HB.out) | (with_reducible refine Kd.C_alloc ?_ _) | (with_reducible refine Kd.C_drewN ?_ _) | (with_reducible refine Kd.C_drew ?_))); (case side2 => exact HC0_1.out); (case side3 => repeat (first | exact (Kd.C_below HR1_1.out HB.out) | (with_reducible refine Kd.C_alloc ?_ _) | (with_reducible refine Kd.C_drewN ?_ _) | (with_reducible refine Kd.C_drew ?_))); (case side4 => exact HC1_1.out); rintro e w' ⟨rfl, ⟨nd, rfl⟩⟩; refine ⟨_, rfl, ?_⟩))
   go_ret
   exact ⟨by first | rfl | (simp [errW_none, errW_some] <;> rfl) | (simp [*, errW_none, errW_some] <;> rfl), by repeat (first | (with_reducible first | exact HB.out | apply below_alloc | apply pw_below_drewN | apply below_drew1 | refine below_set ?_ GE266.out | refine below_set ?_ GE267.out) | exact HB.out)⟩
 ·rw [if_neg c3] at H
  have c3b0 : (a0_0 == a1_0) = false := beq_eq_false_iff_ne.mpr c3
  have c3b1 : (a0_0 != a1_0) = true := bne_iff_ne.mpr c3
  obtain rfl := Option.some.inj H
  go_enter Try.func21, Try.ntmps21
  go_wp2_with (first | ((with_reducible refine gate_dst (N := 2) rfl ?_); refine box_event ?hg (N := 2) ?hd (cs := #[.int .i64 a0_0, .slice A0_1 l0_1.length c0_1]) (t := 41) ?hr ?_; (case hd => rfl); (case hg => rfl); (case hr => first | (go_simp; done) | (go_simp; rfl)); intro gb266 hg w16 hbox hb; have n0_ := Aside0.mk (below_step (by repeat (first | (with_reducible first | exact HB.out | apply below_alloc | apply pw_below_drewN | apply below_drew1) | exact HB.out)) hb); have n1_ := Aside0.mk (hbox); have n2_ := Aside0.mk ((by rw [hg]; exact (below_size (by repeat (first | (with_reducible first | exact HB.out | apply below_alloc | apply pw_below_drewN | apply below_drew1) | exact HB.out))) : w.heap.size ≤ gb266)); have n3_ := Aside0.mk ((by rw [hg]; exact (below_size (by repeat (first | (with_reducible first | exact HB.out | apply below_alloc | apply pw_below_drewN | apply below_drew1) | exact HB.out))) : w.heap.size ≤ gb266)); clear HB; have HB := n0_; have BK266 := n1_; have GW266 := n2_; have GE266 := n3_; clear n0_ n1_ n2_ n3_; clear hb hbox hg) | ((with_reducible refine gate_dst (N := 3) rfl ?_); refine box_event ?hg (N := 3) ?hd (cs := #[.int .i64 a1_0, .slice A1_1 l1_1.length c1_1]) (t := 41) ?hr ?_; (case hd => rfl); (case hg => rfl); (case hr => first | (go_simp; done) | (go_simp; rfl)); intro gb267 hg w17 hbox hb; have n0_ := Aside0.mk (blk_below (g := gb266) (o := .cells #[.int .i64 a0_0, .slice A0_1 l0_1.length c0_1] 41 (0, 0)) (by (with_reducible repeat (first | refine blk_drewN ?_ _ | refine blk_drew ?_ | refine blk_alloc ?_ _)); exact BK266.out) hb); have n1_ := Aside0.mk (below_step (by repeat (first | (with_reducible first | exact HB.out | apply below_alloc | apply pw_below_drewN | apply below_drew1 | refine below_set ?_ GE266.out) | exact HB.out)) hb); have n2_ := Aside0.mk (hbox); have n3_ := Aside0.mk ((by rw [hg]; exact (below_size (by repeat (first | (with_reducible first | exact HB.out | apply below_alloc | apply pw_below_drewN | apply below_drew1 | refine below_set ?_ GE266.out) | exact HB.out))) : w.heap.size ≤ gb267)); have n4_ := Aside0.mk ((by rw [hg]; exact (below_size (by repeat (first | (with_reducible first | exact HB.out | apply below_alloc | apply pw_below_drewN | apply below_drew1 | refine below_set ?_ GE266.out) | exact HB.out))) : w.heap.size ≤ gb267)); have n5_ := Aside0.mk ((by rw [hg]; exact Nat.ne_of_lt (blk_lt (g := gb266) (o := .cells #[.int .i64 a0_0, .slice A0_1 l0_1.length c0_1] 41 (0, 0)) (by (with_reducible repeat (first | refine blk_drewN ?_ _ | refine blk_drew ?_ | refine blk_alloc ?_ _)); exact BK266.out)) : gb266 ≠ gb267)); have n6_ := Aside0.mk ((by rw [hg]; exact Nat.ne_of_gt (blk_lt (g := gb266) (o := .cells #[.int .i64 a0_0, .slice A0_1 l0_1.length c0_1] 41 (0, 0)) (by (with_reducible repeat (first | refine blk_drewN ?_ _ | refine blk_drew ?_ | refine blk_alloc ?_ _)); exact BK266.out)) : gb267 ≠ gb266)); clear BK266; clear HB; have BK266 := n0_; have HB := n1_; have BK267 := n2_; have GW267 := n3_; have GE267 := n4_; have NB266_267 := n5_; have NB267_266 := n6_; clear n0_ n1_ n2_ n3_ n4_ n5_ n6_; clear hb hbox hg; have hnb18 := NB266_267.out; have hnc18 := NB267_266.out; obtain ⟨hcz19_0, hcz19_1, hfz19_0, hfz19_1⟩ := Go.Proofs.Ytdhdgkonghefeaa.Lv.blks2 BK266.out; obtain ⟨hcz20_0, hcz20_1, hfz20_0, hfz20_1⟩ := Go.Proofs.Ytdhdgkonghefeaa.Lv.blks2 BK267.out))
  go_ret
  exact ⟨by first | rfl | (simp [errW_none, errW_some] <;> rfl) | (simp [*, errW_none, errW_some] <;> rfl), by repeat (first | (with_reducible first | exact HB.out | apply below_alloc | apply pw_below_drewN | apply below_drew1 | refine below_set ?_ GE266.out | refine below_set ?_ GE267.out) | exact HB.out)⟩

/-! ### laws_markInt64S: function 52 -/
set_option maxHeartbeats 8000000 in
set_option maxRecDepth 100000 in
theorem laws_markInt64S.calls (k : Nat) (P0_ : Nat → Prop) (u9000_ : Value) (l0 : List Int) (a1 : Int) (r1 : Int) (r2 : List Int) (w0 w : World) (hB : Below w0.heap.size w0 w) (ho0 : Kd.R (Kd.int .i64) 2 w w0.heap.size P0_ u9000_ l0) (h : laws_markInt64S.f k l0 a1 = some (r1, r2)) :
  Calls Try.prog 52 #[u9000_, .int .i64 a1] w fun e w' => e = .returned (.int .i64 r1) ∧ Kd.R (Kd.int .i64) 2 w' w0.heap.size (fun k_ => (P0_ k_ ∨ w.heap.size ≤ k_)) u9000_ r2 ∧ Below w0.heap.size w0 w' ∧ Kept w w' (fun k_ => P0_ k_) := by
 have HO0 := Aside0.mk (show Kd.R (Kd.int .i64) 2 w w0.heap.size (fun k_ => (P0_ k_ ∨ w.heap.size ≤ k_)) u9000_ l0 from Kd.R_mono ho0 (fun k_ hk => (.inl hk)))
 have HK := Aside0.mk (Kept.refl w (fun k_ => P0_ k_))
 have HW0 := Aside0.mk hB.size
 have HB := Aside0.mk hB
 clear hB
 have H : (laws_markInt64S.l0 k l0 a1 0) = some (r1, r2) := h
 clear h
 have H' := Aside0.mk H
 clear H
 go_enter Try.func52, Try.ntmps52
 go_wp2
 go_loopg [1, 5] k (fun kq v1 v5 w' => ∃ (x0_1 : List Int) (x1_1 : Int) (x5_1 : Int), v1 = .int .i64 x1_1 ∧ v5 = .int .i64 x5_1 ∧ Aside0 (laws_markInt64S.l0 kq x0_1 x1_1 x5_1 = some (r1, r2)) ∧ Aside0 (kq ≤ k) ∧ Aside0 (Kd.R (Kd.int .i64) 2 w' w0.heap.size (fun k_ => (P0_ k_ ∨ w.heap.size ≤ k_)) u9000_ x0_1) ∧ Aside0 (Kept w w' (fun k_ => P0_ k_)) ∧ Aside0 (Below w0.heap.size w0 w'))
 case atStart => exact ⟨(l0), (a1), (0), (by first | rfl | (simp; done) | (simp [*]; done)), (by first | rfl | (simp; done) | (simp [*]; done)), H', ⟨Nat.le_refl _⟩, ⟨by (with_reducible repeat (first | apply Kd.R_alloc | apply Kd.R_drewN | apply Kd.R_drew)); exact HO0.out⟩, ⟨by repeat (first | (with_reducible first | exact HK.out | apply Kept.alloc | apply Kept.drewN | apply Kept.drew) | exact HK.out)⟩, ⟨by repeat (first | (with_reducible first | exact HB.out | apply below_alloc | apply pw_below_drewN | apply below_drew1) | exact HB.out)⟩⟩
 case round =>
  clear H'
  try clear p2
  obtain ⟨x0_1, x1_1, x5_1, rfl, rfl, HA, HK1, HO_0, HK, HB⟩ := hrel
  cases gk with
  | zero => exact absurd HA.out (by simp [laws_markInt64S.l0])
  | succ k1 =>
   have H := HA.out
   clear HA
   simp only [laws_markInt64S.l0] at H
   by_cases c3 : x5_1 < (x0_1.length : Int)
   ·rw [if_pos c3] at H
    have c3b0 : decide (x5_1 < (x0_1.length : Int)) = true := decide_eq_true c3
    clear c3
    by_cases c4 : 0 ≤ x5_1
    ·rw [if_pos c4] at H
     have c4b0 : decide (0 ≤ x5_1) = true := decide_eq_true c4
     clear c4
     obtain ⟨y269, hy269⟩ : ∃ y_ : List Int, y_ = (x0_1.set (x5_1 : Int).toNat x1_1) := ⟨_, rfl⟩
     replace H : (laws_markInt64S.l0 k1 y269 (wrap64 (x1_1 + 1)) (wrap64 (x5_1 + 1))) = some (r1, r2) := by first | (rw [hy269]; with_reducible exact H) | (have H2_ := (Option.bind_some _ _).symm.trans H; rw [hy269]; with_reducible exact H2_) | (have H2_ := (Option.bind_some _ _).symm.trans H; with_reducible exact H2_) | with_reducible exact H | (rw [hy269]; exact H) | exact H
     have Ny269 := Aside0.mk hy269
     clear hy269
     have H' := Aside0.mk H
     clear H
     obtain ⟨Ao6, co6, eo6⟩ := Kd.R_slice HO_0.out
     subst eo6
     have p5 : 0 ≤ (x5_1 : Int) := of_decide_eq_true (by first | (with_reducible assumption) | assumption)
     have q5 : (x5_1 : Int) < ((x0_1.length : Int) : Int) := of_decide_eq_true (by first | (with_reducible assumption) | assumption)
     obtain ⟨go5, co5, eo5, gb5, gl5, cl5, HG5⟩ := Kd.R_form HO_0.out (by omega)
     (first | cases eo5 | (injection eo5 with ea_ en_ ec_; (first | subst ea_ | (injection ea_ with ea_; subst ea_)); subst ec_; clear en_))
     have GB5 := Aside0.mk gb5
     have GG5 := Aside0.mk HG5
     clear gb5 gl5 HG5
     have HMgo5 := Aside0.mk (show (P0_ go5 ∨ w.heap.size ≤ go5) from (HO_0.out.1 _ rfl))
     obtain ⟨hx5_0, hf5_0⟩ := Kd.R_celln 0 HO_0.out (x5_1 : Int) p5 q5
     replace p5 := eq_true p5
     replace q5 := eq_true q5
     have HP7 := Kd.R_putg HO_0.out (x5_1 : Int) x1_1
     go_wp2_with (first | ((with_reducible refine gate_store (t := 2) (p := 15) rfl ?_); refine store_event (t := 2) (p := 15) (v := ?vo_w8) (w1 := (wr.setCell ⟨go5, (x5_1 : Int).toNat, none⟩ (.int .i64 x1_1))) ?hg ?ho ?hn ?hr ?_; (case ho => rfl); (case hg => rfl); (case hn => rfl); (case hr => first | (go_simp; done) | (go_simp; rfl)); intro w8 hw; have hg : wr.grownBy w8 (some go5) := (by rw [hw]; exact HP7.2); have hp_ : Kd.R (Kd.int .i64) 2 w8 w0.heap.size (fun k_ => (P0_ k_ ∨ w.heap.size ≤ k_)) (.slice (some ⟨go5, 0, none⟩) x0_1.length co6) y269 := (by rw [hw, Ny269.out]; exact HP7.1); clear HP7; have n0_ := Aside0.mk (hp_); have n1_ := Aside0.mk ((by rw [hw]; exact below_set (HB.out) GB5.out : Below w0.heap.size w0 w8)); have n2_ := Aside0.mk (Kept.of_grown (S := (fun k_ => P0_ k_)) hg (by repeat (first | (with_reducible first | exact HK.out | apply Kept.alloc | apply Kept.drewN | apply Kept.drew) | exact HK.out)) (fun k_ e_ => (HO_0.out.1 k_ e_))); clear HO_0; clear HB; clear HK; have HO_0 := n0_; have HB := n1_; have HK := n2_; clear n0_ n1_ n2_; clear hg hw hp_))
     go_roundg k1
     case measure => have := HK1.out; omega
     case rel => exact ⟨(y269), (wrap64 (x1_1 + 1)), (wrap64 (x5_1 + 1)), (by first | rfl | (simp; done) | (simp [*]; done)), (by first | rfl | (simp; done) | (simp [*]; done)), H', ⟨by have := HK1.out; omega⟩, ⟨by (with_reducible repeat (first | apply Kd.R_alloc | apply Kd.R_drewN | apply Kd.R_drew)); exact HO_0.out⟩, ⟨by repeat (first | (with_reducible first | exact HK.out | apply Kept.alloc | apply Kept.drewN | apply Kept.drew) | exact HK.out)⟩, ⟨by repeat (first | (with_reducible first | exact HB.out | apply below_alloc | apply pw_below_drewN | apply below_drew1) | exact HB.out)⟩⟩
    ·rw [if_neg c4] at H
     exact absurd H (by simp)
   ·rw [if_neg c3] at H
    have c3b0 : decide (x5_1 < (x0_1.length : Int)) = false := decide_eq_false c3
    clear c3
    simp only [Option.some.injEq, Prod.mk.injEq] at H
    obtain ⟨rfl, rfl⟩ := H
    obtain ⟨Ao9, co9, eo9⟩ := Kd.R_slice HO_0.out
    subst eo9
    go_wp2
    go_ret
    exact ⟨by first | rfl | (simp [errW_none, errW_some] <;> rfl) | (simp [*, errW_none, errW_some] <;> rfl), by (with_reducible repeat (first | apply Kd.R_alloc | apply Kd.R_drewN | apply Kd.R_drew)); exact HO_0.out, by repeat (first | (with_reducible first | exact HB.out | apply below_alloc | apply pw_below_drewN | apply below_drew1) | exact HB.out), by repeat (first | (with_reducible first | exact HK.out | apply Kept.alloc | apply Kept.drewN | apply Kept.drew) | exact HK.out)⟩

/-! ### laws_markTree: function 22 -/
-- PROOF --
-- NEEDS Derived.Test.YtdhdgkonghefeaaLb
-- NEEDS Derived.Test.YtdhdgkonghefeaaLv
-- NEEDS Derived.IntWalk
-- NEEDS Derived.Shelf.Abstract
-- NEEDS Derived.Test.YtdhdgkonghefeaaZz
theorem FrM.refl (P : Nat → Prop) (w : World) : FrM P w w := ⟨Kept.refl w P, fun b cs h => ⟨cs, h, rfl⟩, fun b cs h => h⟩
theorem FrM.trans {P : Nat → Prop} {w w1 w2 : World} (h : FrM P w w1) (k : FrM P w1 w2) : FrM P w w2 :=
 ⟨h.1.then_ k.1 (fun _ hk => Or.inl hk), fun b cs hb => by
  obtain ⟨c1, h1, e1⟩ := h.2.1 b cs hb
  obtain ⟨c2, h2, e2⟩ := k.2.1 b c1 h1
  exact ⟨c2, h2, e2.trans e1⟩, fun b cs hb => k.2.2 b cs (h.2.2 b cs hb)⟩
theorem FrM.row {P : Nat → Prop} {w w1 : World} (h : FrM P w w1) {A : Option Addr} {m : Nat} (hr : RowOk w P A m) : RowOk w1 P A m := by
 rcases hr with h0 | ⟨b, e, hp, cs, hb, hm⟩
 ·exact Or.inl h0
 ·obtain ⟨c1, h1, e1⟩ := h.2.1 b cs hb
  exact Or.inr ⟨b, e, hp, c1, h1, by omega⟩
theorem FrM.below {P : Nat → Prop} {w w1 : World} (h : Below w.heap.size w w1) : FrM P w w1 := ⟨Kept.of_below h P, fun b cs hb => ⟨cs, blk_below hb h, rfl⟩, fun b cs hb => blk_below hb h⟩
theorem FrM.set {P : Nat → Prop} {w : World} {b : Nat} {cs : Array Value} (hb : w.heap[b]? = some (.cells cs 2 (0, 0))) (hp : P b) (i : Nat) (u : Value) : FrM P w (w.setCell ⟨b, i, none⟩ u) := by
 refine ⟨(Kept.refl w P).setCell (Or.inl hp) u, fun c ds hc => ?_, fun c ds hc => ?_⟩
 ·by_cases e : c = b
  ·subst e
   rw [hb] at hc; cases hc
   exact ⟨_, blk_set hb i u, by simp⟩
  ·exact ⟨ds, blk_far hc (p := ⟨b, i, none⟩) e u, rfl⟩
 ·have e : c ≠ b := fun e => by subst e; rw [hb] at hc; simp at hc
  exact blk_far hc (p := ⟨b, i, none⟩) e u
theorem row_cell {w : World} {b m i : Nat} {cs : Array Value} (hb : w.heap[b]? = some (.cells cs 2 (0, 0))) (hm : m ≤ cs.size) (hi : i < m) : (∃ v, w.cell? ⟨b, i, none⟩ = some v) ∧ w.frozen? ⟨b, i, none⟩ = false :=
 ⟨⟨cs[i]'(by omega), by rw [blk_cell hb i]; exact Array.getElem?_eq_getElem (by omega)⟩, blk_frozen hb i⟩
set_option maxHeartbeats 4000000 in
set_option maxRecDepth 100000 in
theorem markInts.weak (A : Option Addr) (m c : Nat) (a : Int) (P : Nat → Prop) (w0 w : World) (hP : ∀ b, P b → w0.heap.size ≤ b) (hB : Below w0.heap.size w0 w) (hr : RowOk w P A m) (hm : m ≤ 1125899906842624) (ha : 0 ≤ a) (ha2 : a + (m : Int) ≤ 1125899906842624) :
  Calls Try.prog 52 #[.slice A m c, .int .i64 a] w fun e w' => e = .returned (.int .i64 (a + (m : Int))) ∧ FrM P w w' ∧ Below w0.heap.size w0 w' := by
 have HP := Aside0.mk hP
 have HB0 := Aside0.mk hB
 have HR0 := Aside0.mk hr
 have HF0 := Aside0.mk (FrM.refl P w)
 clear hP hB hr
 go_enter Try.func52, Try.ntmps52
 go_wp2
 go_loopg [1, 5] (m + 1) (fun gg v1 v5 wr => ∃ i : Nat, v1 = .int .i64 (a + (i : Int)) ∧ v5 = .int .i64 (i : Int) ∧ Aside0 (i ≤ m) ∧ Aside0 (m - i < gg) ∧ Aside0 (FrM P w wr) ∧ Aside0 (Below w0.heap.size w0 wr))
 case atStart => exact ⟨0, by simp, rfl, ⟨by omega⟩, ⟨by omega⟩, HF0, HB0⟩
 case round =>
  clear HF0 HB0
  obtain ⟨i, rfl, rfl, HI, HG, HF, HB⟩ := hrel
  by_cases hlt : i < m
  ·have c3 : decide ((i : Int) < (m : Int)) = true := decide_eq_true (by omega)
   have c3' : decide (i < m) = true := decide_eq_true hlt
   have hrr := HF.out.row HR0.out
   rcases hrr with h0 | ⟨b, e, hp, cs, hb, hms⟩
   ·omega
   subst e
   obtain ⟨⟨v, hv⟩, hf⟩ := row_cell hb hms hlt
   have HFF := Aside0.mk (FrM.set hb hp i (.int .i64 (a + (i : Int))))
   have HBB := Aside0.mk (below_set (j := i) (v := .int .i64 (a + (i : Int))) HB.out (HP.out b hp))
   have e9 : wrap64 (a + (i : Int) + 1) = a + ((i + 1 : Nat) : Int) := by rw [Lb.w64 (by omega) (by omega)]; omega
   have hi0 : (0 : Int) ≤ (i : Int) := by omega
   have hi1 : (i : Int) < (m : Int) := by omega
   clear hms hb hp
   go_wp2
   go_roundg (m - i)
   case measure => have := HG.out; omega
   case rel => exact ⟨i + 1, by first | rfl | rw [e9] | (congr 1; omega), by first | rfl | rw [Lb.w64n (by omega)] | go_num, ⟨by omega⟩, ⟨by omega⟩, ⟨HF.out.trans HFF.out⟩, HBB⟩
  ·have hE : i = m := by have := HI.out; omega
   have c3 : decide ((i : Int) < (m : Int)) = false := decide_eq_false (by omega)
   have c3' : decide (i < m) = false := decide_eq_false hlt
   subst hE
   go_wp2
   go_ret
   exact ⟨rfl, HF.out, HB.out⟩
theorem keepB {w w1 : World} {g : Nat} {o : Obj} (hb : Below w.heap.size w w1) (h : w.heap[g]? = some o) : w1.heap[g]? = some o := blk_below h hb
theorem NodesOk.step {w w1 : World} {P : Nat → Prop} {g : Nat} {l : List S58} (h : NodesOk w P g l) (k : FrM P w w1) : NodesOk w1 P g l := by
 obtain ⟨cs, hb, hc⟩ := h
 exact ⟨cs, k.2.2 g cs hb, fun i hi => by
  obtain ⟨b, A1, c1, A2, c2, h0, h1, h2, h3, h4⟩ := hc i hi
  exact ⟨b, A1, c1, A2, c2, h0, h1, h2, k.row h3, k.row h4⟩⟩
theorem NodesOk.mark {w : World} {P : Nat → Prop} {g : Nat} {l : List S58} (h : NodesOk w P g l) (hp : P g) (j : Nat) (x : Bool) : NodesOk (w.setCell ⟨g, j * 3, none⟩ (.bool x)) P g l ∧ Kept w (w.setCell ⟨g, j * 3, none⟩ (.bool x)) P := by
 obtain ⟨cs, hb, hc⟩ := h
 refine ⟨⟨cs.setIfInBounds (j * 3) (.bool x), blk_set hb _ _, fun i hi => ?_⟩, (Kept.refl w P).setCell (Or.inl hp) _⟩
 obtain ⟨b, A1, c1, A2, c2, h0, h1, h2, h3, h4⟩ := hc i hi
 have hrow : ∀ {A : Option Addr} {m : Nat}, RowOk w P A m → RowOk (w.setCell ⟨g, j * 3, none⟩ (.bool x)) P A m := fun hr => by
  rcases hr with h0 | ⟨b, e, hpb, ds, hd, hm⟩
  ·exact Or.inl h0
  ·exact Or.inr ⟨b, e, hpb, ds, blk_far hd (p := ⟨g, j * 3, none⟩) (fun e => by subst e; rw [hb] at hd; simp at hd) _, hm⟩
 have hlt : i * 3 < cs.size := (Array.getElem?_eq_some_iff.1 h0).1
 by_cases e : i = j
 ·subst e
  exact ⟨x, A1, c1, A2, c2, by rw [Array.getElem?_setIfInBounds, if_pos rfl, if_pos hlt], by rw [Array.getElem?_setIfInBounds, if_neg (by omega)]; exact h1, by rw [Array.getElem?_setIfInBounds, if_neg (by omega)]; exact h2, hrow h3, hrow h4⟩
 ·exact ⟨b, A1, c1, A2, c2, by rw [Array.getElem?_setIfInBounds, if_neg (by omega)]; exact h0, by rw [Array.getElem?_setIfInBounds, if_neg (by omega)]; exact h1, by rw [Array.getElem?_setIfInBounds, if_neg (by omega)]; exact h2, hrow h3, hrow h4⟩
theorem nodesW_take {l : List S58} {i : Nat} (h : i < l.length) : nodesW (l.take (i + 1)) = nodesW (l.take i) + nodeW (l.getD i z58) := by
 unfold nodesW
 rw [List.take_succ_eq_append_getElem h, List.map_append, List.sum_append, Lb.getD_at h]
 simp
theorem nodesW_le {l : List S58} (i : Nat) : nodesW (l.take i) ≤ nodesW l := by
 unfold nodesW
 have h := List.take_append_drop i l
 have : ((l.take i).map nodeW).sum + ((l.drop i).map nodeW).sum = (l.map nodeW).sum := by rw [← List.sum_append, ← List.map_append, h]
 omega
theorem row_of_R {w : World} {base : Nat} {ok P : Nat → Prop} {v : Value} {xs : List Int} (h : Kd.R (Kd.int .i64) 2 w base ok v xs) (hok : ∀ k, ok k → P k) : ∃ A c, v = .slice A xs.length c ∧ RowOk w P A xs.length := by
 by_cases h0 : 0 < xs.length
 ·obtain ⟨g, cap, e, -, -, cells, hb⟩ := Kd.R_form h h0
  subst e
  refine ⟨_, _, rfl, Or.inr ⟨g, rfl, hok g (h.1 g rfl), cells, hb, ?_⟩⟩
  have hc := (Kd.R_celln 0 h ((xs.length - 1 : Nat) : Int) (by omega) (by omega)).1
  rw [Int.toNat_natCast, blk_cell hb] at hc
  have := (Array.getElem?_eq_some_iff.1 hc).1
  omega
 ·obtain ⟨A, c, e⟩ := Kd.R_slice h
  exact ⟨A, c, e, Or.inl (by omega)⟩
theorem nodes_of_S {w : World} {base g cap n : Nat} {P : Nat → Prop} {l : List S58} (h : Kd.S k58 58 w base P (.slice (some ⟨g, 0, none⟩) n cap) l) : NodesOk w P g l := by
 obtain ⟨cells, hb⟩ := Kd.S_typed h g rfl
 obtain ⟨hn, -, -⟩ := Kd.S_reads' h
 refine ⟨cells, hb, fun i hi => ?_⟩
 obtain ⟨oki, c, -, hM, hcc, -, hoki, -⟩ := Kd.S_elem h z58 (i : Int) (by omega) (by omega)
 rw [Int.toNat_natCast] at hM hcc
 obtain ⟨v1, v2, rfl, h1, h2⟩ := k58_openM hM
 obtain ⟨A1, c1, rfl, r1⟩ := row_of_R h1 (fun k hk => (hoki k hk).1)
 obtain ⟨A2, c2, rfl, r2⟩ := row_of_R h2 (fun k hk => (hoki k hk).1)
 have q : ∀ j u, [Value.bool (l.getD i z58).f0, Value.slice A1 (l.getD i z58).f1.length c1, Value.slice A2 (l.getD i z58).f2.length c2][j]? = some u → cells[i * 3 + j]? = some u := fun j u hj => by rw [← blk_cell hb]; exact hcc j u hj
 exact ⟨_, A1, c1, A2, c2, q 0 _ rfl, q 1 _ rfl, q 2 _ rfl, r1, r2⟩
set_option maxHeartbeats 8000000 in
set_option maxRecDepth 100000 in
theorem markNodes.weak (A : Option Addr) (c : Nat) (l : List S58) (a : Int) (P : Nat → Prop) (w0 w : World) (hP : ∀ b, P b → w0.heap.size ≤ b) (hB : Below w0.heap.size w0 w) (hn : l.length = 0 ∨ ∃ g, A = some ⟨g, 0, none⟩ ∧ P g ∧ NodesOk w P g l) (hl : l.length ≤ 1048576) (ha : 0 ≤ a) (ha2 : a + (nodesW l : Int) ≤ 1125899906842624) :
  Calls Try.prog 51 #[.slice A l.length c, .int .i64 a] w fun e w' => e = .returned (.int .i64 (a + (nodesW l : Int))) ∧ Kept w w' P ∧ Below w0.heap.size w0 w' := by
 have hu58 := Try.underlying58
 have HP := Aside0.mk hP
 have HB0 := Aside0.mk hB
 have HN0 := Aside0.mk hn
 have HF0 := Aside0.mk (Kept.refl w P)
 clear hP hB hn
 go_enter Try.func51, Try.ntmps51
 go_wp2
 go_loopg [1, 5] (l.length + 1) (fun gg v1 v5 wr => ∃ i : Nat, v1 = .int .i64 (a + (nodesW (l.take i) : Int)) ∧ v5 = .int .i64 (i : Int) ∧ Aside0 (i ≤ l.length) ∧ Aside0 (l.length - i < gg) ∧ Aside0 (l.length = 0 ∨ ∃ g, A = some ⟨g, 0, none⟩ ∧ P g ∧ NodesOk wr P g l) ∧ Aside0 (Kept w wr P) ∧ Aside0 (Below w0.heap.size w0 wr))
 case atStart => exact ⟨0, by simp [nodesW], rfl, ⟨by omega⟩, ⟨by omega⟩, HN0, HF0, HB0⟩
 case round =>
  clear HF0 HB0 HN0
  obtain ⟨i, rfl, rfl, HI, HG, HN, HF, HB⟩ := hrel
  by_cases hlt : i < l.length
  ·have c3 : decide ((i : Int) < (l.length : Int)) = true := decide_eq_true (by omega)
   have c3' : decide (i < l.length) = true := decide_eq_true hlt
   rcases HN.out with h0 | ⟨g, e, hp, hno⟩
   ·omega
   subst e
   have htk := nodesW_take hlt
   have hle := nodesW_le (l := l) (i + 1)
   have hi0 : (0 : Int) ≤ (i : Int) := by omega
   have hi1 : (i : Int) < (l.length : Int) := by omega
   obtain ⟨S0, hS0⟩ : ∃ s, s = nodesW (l.take i) := ⟨_, rfl⟩
   obtain ⟨x, hx⟩ : ∃ x, x = l.getD i z58 := ⟨_, rfl⟩
   rw [← hS0, ← hx] at htk
   rw [htk] at hle
   rw [← hS0]
   unfold nodeW at hle htk
   have HP1 := Aside0.mk (fun v : Bool => hno.mark hp i v)
   have HTK := Aside0.mk htk
   have HPG := Aside0.mk hp
   obtain ⟨cs, hb, hcc⟩ := hno
   obtain ⟨b, A1, c1, A2, c2, h0, h1, h2, h3, h4⟩ := hcc i hlt
   have a0_ : wr.cell? ⟨g, i * 3, none⟩ = some (.bool b) := (blk_cell hb _).trans h0
   have f0_ : wr.frozen? ⟨g, i * 3, none⟩ = false := blk_frozen hb _
   have hxx := Aside0.mk hx
   have hev : wrap64 (a + (S0 : Int) + 1) = a + (S0 : Int) + 1 := Lb.w64 (by omega) (by omega)
   clear hb hcc h0 h1 h2 h3 h4 htk hS0 hx hp
   go_upto_region 5 with fail
   obtain ⟨hN1, hK1⟩ := HP1.out ((a + (S0 : Int)) % 3 == 0)
   have HB6 := Aside0.mk (below_set (j := i * 3) (v := .bool ((a + (S0 : Int)) % 3 == 0)) HB.out (HP.out g HPG.out))
   clear a0_ f0_ HP1
   generalize wr.setCell ⟨g, i * 3, none⟩ (.bool ((a + (S0 : Int)) % 3 == 0)) = w6 at hN1 hK1 HB6 ⊢
   have HK6 := Aside0.mk (HF.out.then_ hK1 (fun _ hk => Or.inl hk))
   clear hK1
   have HNN := Aside0.mk hN1
   obtain ⟨cs, hb, hcc⟩ := hN1
   obtain ⟨b2, A1, c1, A2, c2, h0, h1, h2, h3, h4⟩ := hcc i hlt
   rw [← hxx.out] at h1 h2 h3 h4
   have a1_ : w6.cell? ⟨g, i * 3 + 1, none⟩ = some (.slice A1 x.f1.length c1) := (blk_cell hb _).trans h1
   have HBK := Aside0.mk hb
   have H2 := Aside0.mk h2
   have H3 := Aside0.mk h3
   have H4 := Aside0.mk h4
   have hle1 : a + (S0 : Int) + 1 + (x.f1.length : Int) + (x.f2.length : Int) ≤ 1125899906842624 := by omega
   have hle2 : x.f1.length ≤ 1125899906842624 := by omega
   have hle3 : x.f2.length ≤ 1125899906842624 := by omega
   have hle4 : a + (S0 : Int) + 1 + (x.f1.length : Int) ≤ 1125899906842624 := by omega
   have hle5 : 0 ≤ a + (S0 : Int) + 1 := by omega
   have hle6 : 0 ≤ a + (S0 : Int) + 1 + (x.f1.length : Int) := by omega
   have HTK2 := Aside0.mk (show a + (S0 : Int) + 1 + (x.f1.length : Int) + (x.f2.length : Int) = a + (nodesW (l.take (i + 1)) : Int) by have := HTK.out; omega)
   clear hb hcc h0 h1 h2 h3 h4 hle
   go_wp2_with (first | (go_at_call 52; refine (markInts.weak A2 x.f2.length c2 (a + (S0 : Int) + 1 + (x.f1.length : Int)) P w0 w7 HP.out HB7.out (HF7.out.row H4.out) hle3 hle6 hle1).mono ?_; rintro e w8 ⟨rfl, hF8, hB8⟩; have HF8 := Aside0.mk hF8; have HB8 := Aside0.mk hB8; clear hF8 hB8) | (go_at_call 52; refine (markInts.weak A1 x.f1.length c1 (a + (S0 : Int) + 1) P w0 w6 HP.out HB6.out H3.out hle2 hle5 hle4).mono ?_; rintro e w7 ⟨rfl, hF7, hB7⟩; have HF7 := Aside0.mk hF7; have HB7 := Aside0.mk hB7; clear hF7 hB7; have a2_ : w7.cell? ⟨g, i * 3 + 2, none⟩ = some (.slice A2 x.f2.length c2) := (blk_cell (HF7.out.2.2 g cs HBK.out) _).trans H2.out))
   go_roundg (l.length - i)
   case measure => have := HG.out; omega
   case rel => exact ⟨i + 1, by first | rfl | rw [HTK2.out], by first | rfl | rw [Lb.w64n (by omega)] | go_num, ⟨by omega⟩, ⟨by omega⟩, ⟨Or.inr ⟨g, rfl, HPG.out, (HNN.out.step HF7.out).step HF8.out⟩⟩, ⟨(HK6.out.then_ HF7.out.1 (fun _ hk => Or.inl hk)).then_ HF8.out.1 (fun _ hk => Or.inl hk)⟩, HB8⟩
  ·have hE : i = l.length := by have := HI.out; omega
   have c3 : decide ((i : Int) < (l.length : Int)) = false := decide_eq_false (by omega)
   have c3' : decide (i < l.length) = false := decide_eq_false hlt
   subst hE
   rw [List.take_length]
   go_wp2
   go_ret
   exact ⟨rfl, HF.out, HB.out⟩
set_option maxHeartbeats 4000000 in
set_option maxRecDepth 100000 in
theorem laws_markTree.at (k : Nat) (a0_0 : Int) (P : Nat → Prop) (A : Option Addr) (c : Nat) (l0 : List S58) (a1 : Int) (r1 : Int) (r2 : List S58) (w0 w : World) (hB : Below w0.heap.size w0 w) (hS : Kd.S k58 58 w w0.heap.size P (.slice A l0.length c) l0) (h : laws_markTree.f k a0_0 l0 a1 = some (r1, r2)) :
  Calls Try.prog 22 #[.agg #[.int .i64 a0_0, .slice A l0.length c], .int .i64 a1] w fun e w' => e = .returned (.int .i64 r1) ∧ True ∧ Below w0.heap.size w0 w' ∧ Kept w w' P := by
 have hu29 := Try.underlying29
 unfold laws_markTree.f at h
 by_cases hc : 0 ≤ a1 ∧ a1 + (nodesW l0 : Int) ≤ 1125899906842624 ∧ l0.length ≤ 1048576
 case neg => rw [if_neg hc] at h; cases h
 rw [if_pos hc] at h
 obtain ⟨h1, h2, h3⟩ := hc
 cases h
 replace hS := Kd.S_bound hS
 generalize hP' : (fun k => P k ∧ w0.heap.size ≤ k ∧ k < w.heap.size ∧ ∃ q, q ∈ 58 :: k58.E ∧ ∃ cells, w.heap[k]? = some (.cells cells q (0, 0))) = P' at hS
 have hPa : ∀ b, P' b → w0.heap.size ≤ b := by rw [← hP']; exact fun b hb => hb.2.1
 have hPb : ∀ b, P' b → P b := by rw [← hP']; exact fun b hb => hb.1
 clear hP'
 have hN : l0.length = 0 ∨ ∃ g, A = some ⟨g, 0, none⟩ ∧ P' g ∧ NodesOk w P' g l0 := by
  by_cases h0 : 0 < l0.length
  ·obtain ⟨g, cap, e, -, -, -⟩ := Kd.S_form hS h0
   cases e
   exact Or.inr ⟨g, rfl, (Kd.S_R hS).1 g rfl, nodes_of_S hS⟩
  ·exact Or.inl (by omega)
 have BX := Aside0.mk (blk_new w (.cells #[.int .i64 a0_0, .slice A l0.length c] 29))
 have BW := Aside0.mk (below_alloc (Below.refl w.heap.size w) (.cells #[.int .i64 a0_0, .slice A l0.length c] 29))
 have HB := Aside0.mk (below_step hB BW.out)
 have HN := Aside0.mk (show l0.length = 0 ∨ ∃ g, A = some ⟨g, 0, none⟩ ∧ P' g ∧ NodesOk (w.alloc (.cells #[.int .i64 a0_0, .slice A l0.length c] 29)) P' g l0 from hN.imp id (fun ⟨g, e, hp, hn⟩ => ⟨g, e, hp, hn.step (FrM.below BW.out)⟩))
 have HPA := Aside0.mk hPa
 have HPB := Aside0.mk hPb
 clear hN hB hS hPa hPb
 go_enter Try.func22, Try.ntmps22
 go_upto_region 1 with fail
 generalize w.alloc (.cells #[.int .i64 a0_0, .slice A l0.length c] 29) = W0 at BX BW HB HN ⊢
 obtain ⟨t0_, t1_, -, -⟩ := Lv.blks2 BX.out
 go_wp2_with (go_at_call 51; refine (markNodes.weak A c l0 a1 P' w0 W0 HPA.out HB.out HN.out h3 h1 h2).mono ?_; rintro e w2 ⟨rfl, hK2, hB2⟩; have HK2 := Aside0.mk hK2; have HB2 := Aside0.mk hB2; clear hK2 hB2)
 go_ret
 exact ⟨rfl, trivial, HB2.out, ((Kept.of_below BW.out P').then_ HK2.out (fun _ hk => Or.inl hk)).mono HPB.out⟩
theorem laws_markTree.calls (k : Nat) (a0_0 : Int) (P : Nat → Prop) (u9_ : Value) (l0 : List S58) (a1 : Int) (r1 : Int) (r2 : List S58) (w0 w : World) (hB : Below w0.heap.size w0 w) (hS : Kd.S k58 58 w w0.heap.size P u9_ l0) (h : laws_markTree.f k a0_0 l0 a1 = some (r1, r2)) :
  Calls Try.prog 22 #[.agg #[.int .i64 a0_0, u9_], .int .i64 a1] w fun e w' => e = .returned (.int .i64 r1) ∧ True ∧ Below w0.heap.size w0 w' ∧ Kept w w' P := by
 obtain ⟨A, c, rfl⟩ := Kd.S_slice hS
 exact laws_markTree.at k a0_0 P A c l0 a1 r1 r2 w0 w hB hS h


-- NEEDS Derived.Test.@N@Lv
/-! ### laws_markIntsResult: function 23 -/
set_option maxHeartbeats 8000000 in
set_option maxRecDepth 100000 in
theorem laws_markIntsResult.calls (k : Nat) (a0_0 : Int) (P0_1_ : Nat → Prop) (u9000_ : Value) (l0_1 : List Int) (a1 : Int) (r1 : Int) (r2 : List Int) (w0 w : World) (hB : Below w0.heap.size w0 w) (ho0_1 : Kd.R (Kd.int .i64) 2 w w0.heap.size P0_1_ u9000_ l0_1) (h : laws_markIntsResult.f k a0_0 l0_1 a1 = some (r1, r2)) :
  Calls Try.prog 23 #[.agg #[.int .i64 a0_0, u9000_], .int .i64 a1] w fun e w' => e = .returned (.int .i64 r1) ∧ Kd.R (Kd.int .i64) 2 w' w0.heap.size (fun k_ => (P0_1_ k_ ∨ w.heap.size ≤ k_)) u9000_ r2 ∧ Below w0.heap.size w0 w' ∧ Kept w w' (fun k_ => P0_1_ k_) := by
 have hu41 := Try.underlying41
 have HO0_1 := Aside0.mk (show Kd.R (Kd.int .i64) 2 w w0.heap.size (fun k_ => (P0_1_ k_ ∨ w.heap.size ≤ k_)) u9000_ l0_1 from Kd.R_mono ho0_1 (fun k_ hk => (.inl hk)))
 have HK := Aside0.mk (Kept.refl w (fun k_ => P0_1_ k_))
 have HW0 := Aside0.mk hB.size
 have HB := Aside0.mk hB
 clear hB
 have H : ((laws_markInt64S.f k l0_1 a1).bind fun bt271 => (some (bt271.1, bt271.2))) = some (r1, r2) := h
 clear h
 replace H := Option.bind_eq_some_iff.mp H
 obtain ⟨⟨t271, t272⟩, A30, H⟩ := H
 replace H : (some (t271, t272)) = some (r1, r2) := H
 have A3 := Aside0.mk A30
 clear A30
 simp only [Option.some.injEq, Prod.mk.injEq] at H
 obtain ⟨rfl, rfl⟩ := H
 obtain ⟨Ao4, co4, eo4⟩ := Kd.R_slice HO0_1.out
 subst eo4
 go_enter Try.func23, Try.ntmps23
 go_wp2_with (first | ((with_reducible refine gate_dst (N := 2) rfl ?_); refine box_event ?hg (N := 2) ?hd (cs := #[.int .i64 a0_0, .slice Ao4 l0_1.length co4]) (t := 41) ?hr ?_; (case hd => rfl); (case hg => rfl); (case hr => first | (go_simp; done) | (go_simp; rfl)); intro gb270 hg w5 hbox hb; have n0_ := Aside0.mk (Kd.R_below (by (with_reducible repeat (first | apply Kd.R_alloc | apply Kd.R_drewN | apply Kd.R_drew)); exact HO0_1.out) hb); have n1_ := Aside0.mk (Kept.below (S := (fun k_ => P0_1_ k_)) (by repeat (first | (with_reducible first | exact HK.out | apply Kept.alloc | apply Kept.drewN | apply Kept.drew) | exact HK.out)) hb); have n2_ := Aside0.mk (below_step (by repeat (first | (with_reducible first | exact HB.out | apply below_alloc | apply pw_below_drewN | apply below_drew1) | exact HB.out)) hb); have n3_ := Aside0.mk (hbox); have n4_ := Aside0.mk ((by rw [hg]; exact (by first | exact HK.out.1 | exact (show Kept w _ (fun k_ => P0_1_ k_) from by repeat (first | (with_reducible first | exact HK.out | apply Kept.alloc | apply Kept.drewN | apply Kept.drew) | exact HK.out)).1) : w.heap.size ≤ gb270)); have n5_ := Aside0.mk ((by rw [hg]; exact (below_size (by repeat (first | (with_reducible first | exact HB.out | apply below_alloc | apply pw_below_drewN | apply below_drew1) | exact HB.out))) : w0.heap.size ≤ gb270)); clear HO0_1; clear HK; clear HB; have HO0_1 := n0_; have HK := n1_; have HB := n2_; have BK270 := n3_; have GW270 := n4_; have GE270 := n5_; clear n0_ n1_ n2_ n3_ n4_ n5_; clear hb hbox hg; obtain ⟨hcz6_0, hcz6_1, hfz6_0, hfz6_1⟩ := Go.Proofs.Ytdhdgkonghefeaa.Lv.blks2 BK270.out) | ((with_reducible refine gate_callee (f := 52) rfl ?_); refine goesL_ (some 8) rfl rfl Try.func52 (by kernel_rfl) rfl #[.slice Ao4 l0_1.length co4, .int .i64 a1] rfl (by (try simp only [List.map_toArray, List.map_cons, List.map_nil]); first | done | rfl | (simp only [List.length_drop, List.length_take]; rfl)) ?_; (with_reducible refine (laws_markInt64S.calls k (fun k_ => some k_ = (.slice Ao4 l0_1.length co4 : Value).ownBlock) (.slice Ao4 l0_1.length co4) l0_1 a1 t271 t272 w0 _ ?side1 ?side2 A3.out).mono ?_); (case side1 => repeat (first | (with_reducible first | exact HB.out | apply below_alloc | apply pw_below_drewN | apply below_drew1 | refine below_set ?_ GE270.out) | exact HB.out)); (case side2 => exact Kd.R_tight rfl HO0_1.out); rintro e w7 ⟨rfl, hy0, hb, hkp⟩; refine ⟨_, rfl, ?_⟩; have n0_ := Aside0.mk (Kd.R_reok rfl hy0 (fun k_ e_ => HO0_1.out.1 k_ e_)); have n1_ := Aside0.mk (blk_kept (by (with_reducible repeat (first | refine blk_drewN ?_ _ | refine blk_drew ?_ | refine blk_alloc ?_ _)); exact BK270.out) hkp (fun hs_ => (fun e_ => (Kd.R_ne HO0_1.out BK270.out (by decide)) e_) hs_)); have n2_ := Aside0.mk (Kept.then_ (S := (fun k_ => P0_1_ k_)) (by repeat (first | (with_reducible first | exact HK.out | apply Kept.alloc | apply Kept.drewN | apply Kept.drew | refine Kept.setCell ?_ (.inr GW270.out) _) | exact HK.out)) hkp (fun k_ hs_ => (fun e_ => (HO0_1.out.1 k_ e_.symm)) hs_)); have n3_ := Aside0.mk (hb); clear HO0_1; clear BK270; clear HK; clear HB; have HO0_1 := n0_; have BK270 := n1_; have HK := n2_; have HB := n3_; clear n0_ n1_ n2_ n3_; (try clear hb); (try clear hkp); (try clear hy0)))
 go_ret
 exact ⟨by first | rfl | (simp [errW_none, errW_some] <;> rfl) | (simp [*, errW_none, errW_some] <;> rfl), by (with_reducible repeat (first | apply Kd.R_alloc | apply Kd.R_drewN | apply Kd.R_drew)); exact HO0_1.out, by repeat (first | (with_reducible first | exact HB.out | apply below_alloc | apply pw_below_drewN | apply below_drew1 | refine below_set ?_ GE270.out) | exact HB.out), by repeat (first | (with_reducible first | exact HK.out | apply Kept.alloc | apply Kept.drewN | apply Kept.drew | refine Kept.setCell ?_ (.inr GW270.out) _) | exact HK.out)⟩

/-! ### laws_heldInt64S: function 53 -/
set_option maxHeartbeats 8000000 in
set_option maxRecDepth 100000 in
theorem laws_heldInt64S.calls (k : Nat) (A0 : Option Addr) (c0 : Nat) (l0 : List Int) (a1 : Int) (r : Int) (w : World) (hr0 : Kd.C (Kd.int .i64) w A0 l0.length l0) (hc0 : l0.length ≤ c0) (h : laws_heldInt64S.f k l0 a1 = some r) :
  Calls Try.prog 53 #[.slice A0 l0.length c0, .int .i64 a1] w fun e w' => e = .returned (.int .i64 r) ∧ Drawn0 w w' := by
 have HR0 := Aside0.mk hr0
 have HC0 := Aside0.mk hc0
 clear hr0 hc0
 have H : (laws_heldInt64S.l0 k l0 a1 0) = some r := h
 clear h
 have H' := Aside0.mk H
 clear H
 go_enter Try.func53, Try.ntmps53
 go_wp2
 go_loopg [1, 5] k (fun kq v1 v5 w' => ∃ (x1_1 : Int) (x5_1 : Int), v1 = .int .i64 x1_1 ∧ v5 = .int .i64 x5_1 ∧ Aside0 (laws_heldInt64S.l0 kq l0 x1_1 x5_1 = some r) ∧ Aside0 (kq ≤ k) ∧ Drawn0 w w')
 case atStart => exact ⟨(a1), (0), (by first | rfl | (simp; done) | (simp [*]; done)), (by first | rfl | (simp; done) | (simp [*]; done)), H', ⟨Nat.le_refl _⟩, by repeat (first | exact Drawn0.refl _ | apply Drawn0.step)⟩
 case round =>
  clear H'
  try clear p2
  obtain ⟨x1_1, x5_1, rfl, rfl, HA, HK1, ⟨m1, rfl⟩⟩ := hrel
  cases gk with
  | zero => exact absurd HA.out (by simp [laws_heldInt64S.l0])
  | succ k1 =>
   have H := HA.out
   clear HA
   simp only [laws_heldInt64S.l0] at H
   by_cases c3 : x5_1 < (l0.length : Int)
   ·rw [if_pos c3] at H
    have c3b0 : decide (x5_1 < (l0.length : Int)) = true := decide_eq_true c3
    clear c3
    by_cases c4 : 0 ≤ x5_1
    ·rw [if_pos c4] at H
     have c4b0 : decide (0 ≤ x5_1) = true := decide_eq_true c4
     clear c4
     by_cases c5 : (rd l0 x5_1) = x1_1
     ·rw [if_pos c5] at H
      have c5b0 : ((rd l0 x5_1) == x1_1) = true := beq_iff_eq.mpr c5
      have c5b1 : ((rd l0 x5_1) != x1_1) = false := bne_eq_false_iff_eq.mpr c5
      clear c5
      have H' := Aside0.mk H
      clear H
      have p273 : 0 ≤ (x5_1 : Int) := of_decide_eq_true (by first | (with_reducible assumption) | assumption)
      have q273 : x5_1 < (l0.length : Int) := of_decide_eq_true (by first | (with_reducible assumption) | assumption)
      obtain ⟨ad273, e273, hx273_0⟩ := Kd.at_int HR0.out x5_1 p273 q273
      cases e273
      replace p273 := eq_true p273
      replace q273 := eq_true q273
      go_wp2
      go_roundg k1
      case measure => have := HK1.out; omega
      case rel => exact ⟨(wrap64 (x1_1 + 1)), (wrap64 (x5_1 + 1)), (by first | rfl | (simp; done) | (simp [*]; done)), (by first | rfl | (simp; done) | (simp [*]; done)), H', ⟨by have := HK1.out; omega⟩, by repeat (first | exact Drawn0.refl _ | apply Drawn0.step)⟩
     ·rw [if_neg c5] at H
      have c5b0 : ((rd l0 x5_1) == x1_1) = false := beq_eq_false_iff_ne.mpr c5
      have c5b1 : ((rd l0 x5_1) != x1_1) = true := bne_iff_ne.mpr c5
      obtain rfl := Option.some.inj H
      have p273 : 0 ≤ (x5_1 : Int) := of_decide_eq_true (by first | (with_reducible assumption) | assumption)
      have q273 : x5_1 < (l0.length : Int) := of_decide_eq_true (by first | (with_reducible assumption) | assumption)
      obtain ⟨ad273, e273, hx273_0⟩ := Kd.at_int HR0.out x5_1 p273 q273
      cases e273
      replace p273 := eq_true p273
      replace q273 := eq_true q273
      go_wp2
      go_ret
      exact ⟨by first | rfl | (simp; done) | (simp [*]; done), by repeat (first | exact Drawn0.refl _ | apply Drawn0.step)⟩
    ·rw [if_neg c4] at H
     exact absurd H (by simp)
   ·rw [if_neg c3] at H
    have c3b0 : decide (x5_1 < (l0.length : Int)) = false := decide_eq_false c3
    clear c3
    obtain rfl := Option.some.inj H
    go_wp2
    go_ret
    exact ⟨by first | rfl | (simp; done) | (simp [*]; done), by repeat (first | exact Drawn0.refl _ | apply Drawn0.step)⟩

-- NEEDS Derived.Test.@N@Lv
/-! ### laws_heldIntsResult: function 24 -/
set_option maxHeartbeats 8000000 in
set_option maxRecDepth 100000 in
theorem laws_heldIntsResult.calls (k : Nat) (a0_0 : Int) (A0_1 : Option Addr) (c0_1 : Nat) (l0_1 : List Int) (a1 : Int) (r : Int) (w : World) (hr0_1 : Kd.C (Kd.int .i64) w A0_1 l0_1.length l0_1) (hc0_1 : l0_1.length ≤ c0_1) (h : laws_heldIntsResult.f k a0_0 l0_1 a1 = some r) :
  Calls Try.prog 24 #[.agg #[.int .i64 a0_0, .slice A0_1 l0_1.length c0_1], .int .i64 a1] w fun e w' => e = .returned (.int .i64 r) ∧ Below w.heap.size w w' := by
 have hu41 := Try.underlying41
 have HR0_1 := Aside0.mk hr0_1
 have HC0_1 := Aside0.mk hc0_1
 clear hr0_1 hc0_1
 have HB := Aside0.mk (Below.refl w.heap.size w)
 have H : ((laws_heldInt64S.f k l0_1 a1).bind fun t275 => (if t275 < 0 then (some (-1)) else (some t275))) = some r := h
 clear h
 replace H := Option.bind_eq_some_iff.mp H
 obtain ⟨t275, A30, H⟩ := H
 replace H : (if t275 < 0 then (some (-1)) else (some t275)) = some r := H
 have A3 := Aside0.mk A30
 clear A30
 by_cases c4 : t275 < 0
 ·rw [if_pos c4] at H
  have c4b0 : decide (t275 < 0) = true := decide_eq_true c4
  clear c4
  obtain rfl := Option.some.inj H
  go_enter Try.func24, Try.ntmps24
  go_wp2_with (first | ((with_reducible refine gate_dst (N := 2) rfl ?_); refine box_event ?hg (N := 2) ?hd (cs := #[.int .i64 a0_0, .slice A0_1 l0_1.length c0_1]) (t := 41) ?hr ?_; (case hd => rfl); (case hg => rfl); (case hr => first | (go_simp; done) | (go_simp; rfl)); intro gb274 hg w5 hbox hb; have n0_ := Aside0.mk (below_step (by repeat (first | (with_reducible first | exact HB.out | apply below_alloc | apply pw_below_drewN | apply below_drew1) | exact HB.out)) hb); have n1_ := Aside0.mk (hbox); have n2_ := Aside0.mk ((by rw [hg]; exact (below_size (by repeat (first | (with_reducible first | exact HB.out | apply below_alloc | apply pw_below_drewN | apply below_drew1) | exact HB.out))) : w.heap.size ≤ gb274)); have n3_ := Aside0.mk ((by rw [hg]; exact (below_size (by repeat (first | (with_reducible first | exact HB.out | apply below_alloc | apply pw_below_drewN | apply below_drew1) | exact HB.out))) : w.heap.size ≤ gb274)); clear HB; have HB := n0_; have BK274 := n1_; have GW274 := n2_; have GE274 := n3_; clear n0_ n1_ n2_ n3_; clear hb hbox hg; obtain ⟨hcz6_0, hcz6_1, hfz6_0, hfz6_1⟩ := Go.Proofs.Ytdhdgkonghefeaa.Lv.blks2 BK274.out) | ((with_reducible refine gate_callee (f := 53) rfl ?_); refine goesL_ (some 8) rfl rfl Try.func53 (by kernel_rfl) rfl #[.slice A0_1 l0_1.length c0_1, .int .i64 a1] rfl (by (try simp only [List.map_toArray, List.map_cons, List.map_nil]); first | done | rfl | (simp only [List.length_drop, List.length_take]; rfl)) ?_; (with_reducible refine (laws_heldInt64S.calls k _ _ l0_1 a1 t275 _ ?side1 ?side2 A3.out).mono ?_); (case side1 => repeat (first | exact (Kd.C_below HR0_1.out HB.out) | (with_reducible refine Kd.C_alloc ?_ _) | (with_reducible refine Kd.C_drewN ?_ _) | (with_reducible refine Kd.C_drew ?_))); (case side2 => exact HC0_1.out); rintro e w' ⟨rfl, ⟨nd, rfl⟩⟩; refine ⟨_, rfl, ?_⟩))
  go_ret
  exact ⟨by first | rfl | (simp [errW_none, errW_some] <;> rfl) | (simp [*, errW_none, errW_some] <;> rfl), by repeat (first | (with_reducible first | exact HB.out | apply below_alloc | apply pw_below_drewN | apply below_drew1 | refine below_set ?_ GE274.out) | exact HB.out)⟩
 ·rw [if_neg c4] at H
  have c4b0 : decide (t275 < 0) = false := decide_eq_false c4
  clear c4
  obtain rfl := Option.some.inj H
  go_enter Try.func24, Try.ntmps24
  go_wp2_with (first | ((with_reducible refine gate_dst (N := 2) rfl ?_); refine box_event ?hg (N := 2) ?hd (cs := #[.int .i64 a0_0, .slice A0_1 l0_1.length c0_1]) (t := 41) ?hr ?_; (case hd => rfl); (case hg => rfl); (case hr => first | (go_simp; done) | (go_simp; rfl)); intro gb274 hg w7 hbox hb; have n0_ := Aside0.mk (below_step (by repeat (first | (with_reducible first | exact HB.out | apply below_alloc | apply pw_below_drewN | apply below_drew1) | exact HB.out)) hb); have n1_ := Aside0.mk (hbox); have n2_ := Aside0.mk ((by rw [hg]; exact (below_size (by repeat (first | (with_reducible first | exact HB.out | apply below_alloc | apply pw_below_drewN | apply below_drew1) | exact HB.out))) : w.heap.size ≤ gb274)); have n3_ := Aside0.mk ((by rw [hg]; exact (below_size (by repeat (first | (with_reducible first | exact HB.out | apply below_alloc | apply pw_below_drewN | apply below_drew1) | exact HB.out))) : w.heap.size ≤ gb274)); clear HB; have HB := n0_; have BK274 := n1_; have GW274 := n2_; have GE274 := n3_; clear n0_ n1_ n2_ n3_; clear hb hbox hg; obtain ⟨hcz8_0, hcz8_1, hfz8_0, hfz8_1⟩ := Go.Proofs.Ytdhdgkonghefeaa.Lv.blks2 BK274.out) | ((with_reducible refine gate_callee (f := 53) rfl ?_); refine goesL_ (some 8) rfl rfl Try.func53 (by kernel_rfl) rfl #[.slice A0_1 l0_1.length c0_1, .int .i64 a1] rfl (by (try simp only [List.map_toArray, List.map_cons, List.map_nil]); first | done | rfl | (simp only [List.length_drop, List.length_take]; rfl)) ?_; (with_reducible refine (laws_heldInt64S.calls k _ _ l0_1 a1 t275 _ ?side1 ?side2 A3.out).mono ?_); (case side1 => repeat (first | exact (Kd.C_below HR0_1.out HB.out) | (with_reducible refine Kd.C_alloc ?_ _) | (with_reducible refine Kd.C_drewN ?_ _) | (with_reducible refine Kd.C_drew ?_))); (case side2 => exact HC0_1.out); rintro e w' ⟨rfl, ⟨nd, rfl⟩⟩; refine ⟨_, rfl, ?_⟩))
  go_ret
  exact ⟨by first | rfl | (simp [errW_none, errW_some] <;> rfl) | (simp [*, errW_none, errW_some] <;> rfl), by repeat (first | (with_reducible first | exact HB.out | apply below_alloc | apply pw_below_drewN | apply below_drew1 | refine below_set ?_ GE274.out) | exact HB.out)⟩

end Go.Proofs.Ytdhdgkonghefeaa.P
