-- Printed by this session's own program over the kit's print (wip/tools/mp.py). Not trusted: Lean checks it.
import Derived.Test.YtpdfpbnlablhoaaP0
import Derived.Test.YtpdfpbnlablhoaaPCabc0
import Derived.Test.YtpdfpbnlablhoaaPCabcd0
import Derived.Test.YtpdfpbnlablhoaaPCbcd0
import Derived.Test.YtpdfpbnlablhoaaPD0
import Derived.Test.YtpdfpbnlablhoaaWRepsOne
import Derived.Test.YtpdfpbnlablhoaaWTab
import Derived.Test.YtpdfpbnlablhoaaLi
import Derived.Shelf.Abstract
namespace Go.Proofs.Ytpdfpbnlablhoaa.P
open Go.RowKit Go.Proofs.YtpdfpbnlablhoaaW.PrintWords Go.Proofs.YtpdfpbnlablhoaaW.PrintLast Go.Proofs.YtpdfpbnlablhoaaW.PrintMore
attribute [local go_sem] max2_int min2_int max_two min_two max_three min_three max_four min_four   -- for this text's walks alone
set_option linter.unusedVariables false
set_option linter.unusedSimpArgs false

/-! ### spec_SetCell: function 17 -/
def spec_SetCell.T8 : Bool × List (List Nat × List Nat) := (true, [([], []), ([0], [0]), ([], []), ([], []), ([3], [3]), ([], []), ([], []), ([4, 5, 6], [4, 5, 6]), ([1, 2, 7], [1, 2, 7]), ([8], [8]), ([9, 7, 0, 1, 2, 3, 4, 5, 6, 7, 8, 9], [9])])
def spec_SetCell.B8 : List Nat := [0, 1, 0, 0, 8, 0, 0, 120, 255, 511, 1023]
theorem spec_SetCell.tab8 : rtab .any (opsOf Try.f17 8) = spec_SetCell.T8 := by kernel_rfl
theorem spec_SetCell.bits8 : waitsOk spec_SetCell.T8.2 spec_SetCell.B8 = true := by kernel_rfl
set_option maxHeartbeats 8000000 in
set_option maxRecDepth 100000 in
theorem spec_SetCell.calls (k : Nat) (a0_0 : Int) (a0_1 : Int) (A0_2 : Option Addr) (c0_2 : Nat) (l0_2 : List (S49)) (a1 : Int) (a2 : Int) (a3 : Int) (r1 : Int) (r2 : Int) (r3 : Int) (r4 : List (S49)) (w : World) (hr0_2 : Kd.C k49 w A0_2 l0_2.length l0_2) (hc0_2 : l0_2.length ≤ c0_2) (h : spec_SetCell.f k a0_0 a0_1 l0_2 a1 a2 a3 = some (r1, r2, r3, r4)) :
  Calls Try.prog 17 #[.agg #[.int .i64 a0_0, .int .i64 a0_1, .slice A0_2 l0_2.length c0_2], .int .i64 a1, .int .i64 a2, .int .i64 a3] w fun e w' => ∃ v3_ : Value, e = .returned (.agg #[.int .i64 r1, .int .i64 r2, .int .i64 r3, v3_]) ∧ Kd.R k49 49 w' w.heap.size (fun _ => True) v3_ r4 ∧ Below w.heap.size w w' := by
 have hu28 := Try.underlying28
 have hu30 := Try.underlying30
 have HR0_2 := Aside0.mk hr0_2
 have HC0_2 := Aside0.mk hc0_2
 clear hr0_2 hc0_2
 have HB := Aside0.mk (Below.refl w.heap.size w)
 have H : ((spec_PageFault.f k a0_0 a0_1 l0_2).bind fun t316 => (if t316 = 0 then ((spec_l1Key.f a1).bind fun t317 => (if t317 = true then ((spec_l1Value.f a2).bind fun t318 => (if t318 = true then ((spec_l1Lsn.f a3).bind fun t319 => (spec_SetCell.j0 k a1 a2 a3 (!t319) a0_0 a0_1 l0_2)) else (spec_SetCell.j0 k a1 a2 a3 true a0_0 a0_1 l0_2))) else (spec_SetCell.j0 k a1 a2 a3 true a0_0 a0_1 l0_2))) else (some (t316, 0, 0, ([] : List (S49)))))) = some (r1, r2, r3, r4) := h
 clear h
 replace H := Option.bind_eq_some_iff.mp H
 obtain ⟨t316, A50, H⟩ := H
 replace H : (if t316 = 0 then ((spec_l1Key.f a1).bind fun t317 => (if t317 = true then ((spec_l1Value.f a2).bind fun t318 => (if t318 = true then ((spec_l1Lsn.f a3).bind fun t319 => (spec_SetCell.j0 k a1 a2 a3 (!t319) a0_0 a0_1 l0_2)) else (spec_SetCell.j0 k a1 a2 a3 true a0_0 a0_1 l0_2))) else (spec_SetCell.j0 k a1 a2 a3 true a0_0 a0_1 l0_2))) else (some (t316, 0, 0, ([] : List (S49))))) = some (r1, r2, r3, r4) := H
 have A5 := Aside0.mk A50
 clear A50
 by_cases c6 : t316 = 0
 ·rw [if_pos c6] at H
  have c6b0 : (t316 == 0) = true := beq_iff_eq.mpr c6
  have c6b1 : (t316 != 0) = false := bne_eq_false_iff_eq.mpr c6
  clear c6
  have HC7 := Aside0.mk H
  clear H
  go_enter Try.func17, Try.ntmps17
  go_upto_region 4 with (first | ((with_reducible refine gate_dst (N := 4) rfl ?_); refine box_event ?hg (N := 4) ?hd (cs := #[.int .i64 a0_0, .int .i64 a0_1, .slice A0_2 l0_2.length c0_2]) (t := 28) ?hr ?_; (case hd => rfl); (case hg => rfl); (case hr => first | (go_simp; done) | (go_simp; rfl)); intro gb314 hg w8 hbox hb; have n0_ := Aside0.mk (below_step (by repeat (first | (with_reducible first | exact HB.out | apply below_alloc | apply pw_below_drewN | apply below_drew1) | exact HB.out)) hb); have n1_ := Aside0.mk (hbox); have n2_ := Aside0.mk ((by rw [hg]; exact (below_size (by repeat (first | (with_reducible first | exact HB.out | apply below_alloc | apply pw_below_drewN | apply below_drew1) | exact HB.out))) : w.heap.size ≤ gb314)); have n3_ := Aside0.mk ((by rw [hg]; exact (below_size (by repeat (first | (with_reducible first | exact HB.out | apply below_alloc | apply pw_below_drewN | apply below_drew1) | exact HB.out))) : w.heap.size ≤ gb314)); clear HB; have HB := n0_; have BK314 := n1_; have GW314 := n2_; have GE314 := n3_; clear n0_ n1_ n2_ n3_; clear hb hbox hg) | ((with_reducible refine gate_dst (N := 8) rfl ?_); refine box_event ?hg (N := 8) ?hd (cs := #[.int .i64 0, .int .i64 0, .int .i64 0, .slice none 0 0]) (t := 30) ?hr ?_; (case hd => rfl); (case hg => rfl); (case hr => first | (go_simp; done) | (go_simp; rfl)); intro gb315 hg w9 hbox hb; have n0_ := Aside0.mk (blk_below (g := gb314) (o := .cells #[.int .i64 a0_0, .int .i64 a0_1, .slice A0_2 l0_2.length c0_2] 28 (0, 0)) (by (with_reducible repeat (first | refine blk_drewN ?_ _ | refine blk_drew ?_ | refine blk_alloc ?_ _)); exact BK314.out) hb); have n1_ := Aside0.mk (below_step (by repeat (first | (with_reducible first | exact HB.out | apply below_alloc | apply pw_below_drewN | apply below_drew1 | refine below_set ?_ GE314.out) | exact HB.out)) hb); have n2_ := Aside0.mk (hbox); have n3_ := Aside0.mk ((by rw [hg]; exact (below_size (by repeat (first | (with_reducible first | exact HB.out | apply below_alloc | apply pw_below_drewN | apply below_drew1 | refine below_set ?_ GE314.out) | exact HB.out))) : w.heap.size ≤ gb315)); have n4_ := Aside0.mk ((by rw [hg]; exact (below_size (by repeat (first | (with_reducible first | exact HB.out | apply below_alloc | apply pw_below_drewN | apply below_drew1 | refine below_set ?_ GE314.out) | exact HB.out))) : w.heap.size ≤ gb315)); have n5_ := Aside0.mk ((by rw [hg]; exact Nat.ne_of_lt (blk_lt (g := gb314) (o := .cells #[.int .i64 a0_0, .int .i64 a0_1, .slice A0_2 l0_2.length c0_2] 28 (0, 0)) (by (with_reducible repeat (first | refine blk_drewN ?_ _ | refine blk_drew ?_ | refine blk_alloc ?_ _)); exact BK314.out)) : gb314 ≠ gb315)); have n6_ := Aside0.mk ((by rw [hg]; exact Nat.ne_of_gt (blk_lt (g := gb314) (o := .cells #[.int .i64 a0_0, .int .i64 a0_1, .slice A0_2 l0_2.length c0_2] 28 (0, 0)) (by (with_reducible repeat (first | refine blk_drewN ?_ _ | refine blk_drew ?_ | refine blk_alloc ?_ _)); exact BK314.out)) : gb315 ≠ gb314)); clear BK314; clear HB; have BK314 := n0_; have HB := n1_; have BK315 := n2_; have GW315 := n3_; have GE315 := n4_; have NB314_315 := n5_; have NB315_314 := n6_; clear n0_ n1_ n2_ n3_ n4_ n5_ n6_; clear hb hbox hg; have hnb10 := NB314_315.out; have hnc10 := NB315_314.out; have hcz11_0 : w9.cell? ⟨gb314, 0, none⟩ = some (.int .i64 a0_0) := (blk_cell BK314.out 0).trans rfl; have hcz11_1 : w9.cell? ⟨gb314, 1, none⟩ = some (.int .i64 a0_1) := (blk_cell BK314.out 1).trans rfl; have hcz11_2 : w9.cell? ⟨gb314, 2, none⟩ = some (.slice A0_2 l0_2.length c0_2) := (blk_cell BK314.out 2).trans rfl; have hfz11_0 := blk_frozen BK314.out 0; have hfz11_1 := blk_frozen BK314.out 1; have hfz11_2 := blk_frozen BK314.out 2) | ((with_reducible refine gate_callee (f := 28) rfl ?_); refine goesL_ (some 11) rfl rfl Try.func28 (by kernel_rfl) rfl #[.agg #[.int .i64 a0_0, .int .i64 a0_1, .slice A0_2 l0_2.length c0_2]] rfl (by (try simp only [List.map_toArray, List.map_cons, List.map_nil]); first | done | rfl | (simp only [List.length_drop, List.length_take]; rfl)) ?_; (with_reducible refine (spec_PageFault.calls k a0_0 a0_1 _ _ l0_2 t316 _ ?side1 ?side2 A5.out).mono ?_); (case side1 => repeat (first | exact (Kd.C_below HR0_2.out HB.out) | (with_reducible refine Kd.C_alloc ?_ _) | (with_reducible refine Kd.C_drewN ?_ _) | (with_reducible refine Kd.C_drew ?_))); (case side2 => exact HC0_2.out); rintro e w12 ⟨rfl, hb⟩; refine ⟨_, rfl, ?_⟩; have n0_ := Aside0.mk (blk_below (g := gb314) (o := .cells #[.int .i64 a0_0, .int .i64 a0_1, .slice A0_2 l0_2.length c0_2] 28 (0, 0)) (by (with_reducible repeat (first | refine blk_drewN ?_ _ | refine blk_drew ?_ | refine blk_alloc ?_ _)); exact BK314.out) hb); have n1_ := Aside0.mk (blk_below (g := gb315) (o := .cells #[.int .i64 0, .int .i64 0, .int .i64 0, .slice none 0 0] 30 (0, 0)) (by (with_reducible repeat (first | refine blk_drewN ?_ _ | refine blk_drew ?_ | refine blk_alloc ?_ _)); exact BK315.out) hb); have n2_ := Aside0.mk (below_step (by repeat (first | (with_reducible first | exact HB.out | apply below_alloc | apply pw_below_drewN | apply below_drew1 | refine below_set ?_ GE314.out | refine below_set ?_ GE315.out) | exact HB.out)) hb); clear BK314; clear BK315; clear HB; have BK314 := n0_; have BK315 := n1_; have HB := n2_; clear n0_ n1_ n2_; (try clear hb); (try clear hb2); (try clear hk); (try clear hi)))
  (try simp only [Act.put, List.setIfInBounds_toArray, List.set_cons_zero, List.set_cons_succ])
  go_cut [28] (fun v28 wc => ∃ (kq : Nat) (x28_6 : Bool), v28 = .bool x28_6 ∧ Aside0 (spec_SetCell.j0 kq a1 a2 a3 x28_6 a0_0 a0_1 l0_2 = some (r1, r2, r3, r4)) ∧ Aside0 (kq ≤ k) ∧ Aside0 (wc.heap[gb314]? = some (.cells #[.int .i64 a0_0, .int .i64 a0_1, (.slice A0_2 l0_2.length c0_2)] 28 (0, 0))) ∧ Aside0 (wc.heap[gb315]? = some (.cells #[.int .i64 0, .int .i64 0, .int .i64 0, (.slice none 0 0)] 30 (0, 0))) ∧ Aside0 (Below w.heap.size w wc))
  case first =>
   have H := HC7.out
   clear HC7
   replace H := Option.bind_eq_some_iff.mp H
   obtain ⟨t317, A130, H⟩ := H
   replace H : (if t317 = true then ((spec_l1Value.f a2).bind fun t318 => (if t318 = true then ((spec_l1Lsn.f a3).bind fun t319 => (spec_SetCell.j0 k a1 a2 a3 (!t319) a0_0 a0_1 l0_2)) else (spec_SetCell.j0 k a1 a2 a3 true a0_0 a0_1 l0_2))) else (spec_SetCell.j0 k a1 a2 a3 true a0_0 a0_1 l0_2)) = some (r1, r2, r3, r4) := H
   have A13 := Aside0.mk A130
   clear A130
   by_cases c14 : t317 = true
   ·subst c14
    have H1 : ((spec_l1Value.f a2).bind fun t318 => (if t318 = true then ((spec_l1Lsn.f a3).bind fun t319 => (spec_SetCell.j0 k a1 a2 a3 (!t319) a0_0 a0_1 l0_2)) else (spec_SetCell.j0 k a1 a2 a3 true a0_0 a0_1 l0_2))) = some (r1, r2, r3, r4) := by rw [if_pos rfl] at H; exact H
    clear H
    have H := H1
    clear H1
    replace H := Option.bind_eq_some_iff.mp H
    obtain ⟨t318, A150, H⟩ := H
    replace H : (if t318 = true then ((spec_l1Lsn.f a3).bind fun t319 => (spec_SetCell.j0 k a1 a2 a3 (!t319) a0_0 a0_1 l0_2)) else (spec_SetCell.j0 k a1 a2 a3 true a0_0 a0_1 l0_2)) = some (r1, r2, r3, r4) := H
    have A15 := Aside0.mk A150
    clear A150
    by_cases c16 : t318 = true
    ·subst c16
     have H1 : ((spec_l1Lsn.f a3).bind fun t319 => (spec_SetCell.j0 k a1 a2 a3 (!t319) a0_0 a0_1 l0_2)) = some (r1, r2, r3, r4) := by rw [if_pos rfl] at H; exact H
     clear H
     have H := H1
     clear H1
     replace H := Option.bind_eq_some_iff.mp H
     obtain ⟨t319, A170, H⟩ := H
     replace H : (spec_SetCell.j0 k a1 a2 a3 (!t319) a0_0 a0_1 l0_2) = some (r1, r2, r3, r4) := H
     have A17 := Aside0.mk A170
     clear A170
     have H' := Aside0.mk H
     clear H
     go_wp2_with (first | ((with_reducible refine gate_callee (f := 36) rfl ?_); refine goesL_ (some 17) rfl rfl Try.func36 (by kernel_rfl) rfl #[.int .i64 a1] rfl (by (try simp only [List.map_toArray, List.map_cons, List.map_nil]); first | done | rfl | (simp only [List.length_drop, List.length_take]; rfl)) ?_; (with_reducible refine (spec_l1Key.calls a1 true _ A13.out).mono ?_); rintro e w' ⟨rfl, ⟨nd, rfl⟩⟩; refine ⟨_, rfl, ?_⟩) | (go_at_call 48; (with_reducible refine (spec_l1Value.calls a2 true _ A15.out).mono ?_); rintro e w' ⟨rfl, ⟨nd, rfl⟩⟩) | (go_at_call 37; (with_reducible refine (spec_l1Lsn.calls a3 t319 _ A17.out).mono ?_); rintro e w' ⟨rfl, ⟨nd, rfl⟩⟩))
     go_meet
     case rel => exact ⟨_, (!t319), (by first | rfl | (simp; done) | (simp [*]; done)), H', ⟨by first | omega | exact Nat.le_refl _⟩, ⟨by (with_reducible repeat (first | refine blk_drewN ?_ _ | refine blk_drew ?_ | refine blk_alloc ?_ _)); exact BK314.out⟩, ⟨by (with_reducible repeat (first | refine blk_drewN ?_ _ | refine blk_drew ?_ | refine blk_alloc ?_ _)); exact BK315.out⟩, ⟨by repeat (first | (with_reducible first | exact HB.out | apply below_alloc | apply pw_below_drewN | apply below_drew1 | refine below_set ?_ GE314.out | refine below_set ?_ GE315.out) | exact HB.out)⟩⟩
    ·replace c16 := Bool.eq_false_iff.mpr c16
     subst c16
     have H1 : (spec_SetCell.j0 k a1 a2 a3 true a0_0 a0_1 l0_2) = some (r1, r2, r3, r4) := by rw [if_neg (show ¬ (false = true) by decide)] at H; exact H
     clear H
     have H := H1
     clear H1
     have H' := Aside0.mk H
     clear H
     go_wp2_with (first | ((with_reducible refine gate_callee (f := 36) rfl ?_); refine goesL_ (some 17) rfl rfl Try.func36 (by kernel_rfl) rfl #[.int .i64 a1] rfl (by (try simp only [List.map_toArray, List.map_cons, List.map_nil]); first | done | rfl | (simp only [List.length_drop, List.length_take]; rfl)) ?_; (with_reducible refine (spec_l1Key.calls a1 true _ A13.out).mono ?_); rintro e w' ⟨rfl, ⟨nd, rfl⟩⟩; refine ⟨_, rfl, ?_⟩) | (go_at_call 48; (with_reducible refine (spec_l1Value.calls a2 false _ A15.out).mono ?_); rintro e w' ⟨rfl, ⟨nd, rfl⟩⟩))
     go_meet
     case rel => exact ⟨_, (true), (by first | rfl | (simp; done) | (simp [*]; done)), H', ⟨by first | omega | exact Nat.le_refl _⟩, ⟨by (with_reducible repeat (first | refine blk_drewN ?_ _ | refine blk_drew ?_ | refine blk_alloc ?_ _)); exact BK314.out⟩, ⟨by (with_reducible repeat (first | refine blk_drewN ?_ _ | refine blk_drew ?_ | refine blk_alloc ?_ _)); exact BK315.out⟩, ⟨by repeat (first | (with_reducible first | exact HB.out | apply below_alloc | apply pw_below_drewN | apply below_drew1 | refine below_set ?_ GE314.out | refine below_set ?_ GE315.out) | exact HB.out)⟩⟩
   ·replace c14 := Bool.eq_false_iff.mpr c14
    subst c14
    have H1 : (spec_SetCell.j0 k a1 a2 a3 true a0_0 a0_1 l0_2) = some (r1, r2, r3, r4) := by rw [if_neg (show ¬ (false = true) by decide)] at H; exact H
    clear H
    have H := H1
    clear H1
    have H' := Aside0.mk H
    clear H
    go_wp2_with (first | ((with_reducible refine gate_callee (f := 36) rfl ?_); refine goesL_ (some 17) rfl rfl Try.func36 (by kernel_rfl) rfl #[.int .i64 a1] rfl (by (try simp only [List.map_toArray, List.map_cons, List.map_nil]); first | done | rfl | (simp only [List.length_drop, List.length_take]; rfl)) ?_; (with_reducible refine (spec_l1Key.calls a1 false _ A13.out).mono ?_); rintro e w' ⟨rfl, ⟨nd, rfl⟩⟩; refine ⟨_, rfl, ?_⟩))
    go_meet
    case rel => exact ⟨_, (true), (by first | rfl | (simp; done) | (simp [*]; done)), H', ⟨by first | omega | exact Nat.le_refl _⟩, ⟨by (with_reducible repeat (first | refine blk_drewN ?_ _ | refine blk_drew ?_ | refine blk_alloc ?_ _)); exact BK314.out⟩, ⟨by (with_reducible repeat (first | refine blk_drewN ?_ _ | refine blk_drew ?_ | refine blk_alloc ?_ _)); exact BK315.out⟩, ⟨by repeat (first | (with_reducible first | exact HB.out | apply below_alloc | apply pw_below_drewN | apply below_drew1 | refine below_set ?_ GE314.out | refine below_set ?_ GE315.out) | exact HB.out)⟩⟩
  case rest =>
   clear HC7
   try clear c1
   try clear c2
   try clear p2
   try clear c3
   try clear c6
   try clear c6b0
   try clear c6b1
   try clear c10
   try clear c14
   try clear c16
   try clear c17
   try clear hcz11_0
   try clear hcz11_1
   try clear hcz11_2
   try clear hfz11_0
   try clear hfz11_1
   try clear hfz11_2
   obtain ⟨kq, x28_6, rfl, HA, HJ6, BK314, BK315, HB⟩ := hcut
   cases kq with
   | zero => exact absurd HA.out (by simp [spec_SetCell.j0])
   | succ kj6 =>
    have H := HA.out
    clear HA
    simp only [spec_SetCell.j0] at H
    by_cases c18 : x28_6 = true
    ·subst c18
     have H1 : (some (3, 0, 0, ([] : List (S49)))) = some (r1, r2, r3, r4) := by rw [if_pos rfl] at H; exact H
     clear H
     have H := H1
     clear H1
     simp only [Option.some.injEq, Prod.mk.injEq] at H
     obtain ⟨rfl, rfl, rfl, rfl⟩ := H
     have hnb19 := NB315_314.out
     have hnc19 := NB314_315.out
     have hcz20_0 : wc.cell? ⟨gb315, 0, none⟩ = some (.int .i64 0) := (blk_cell BK315.out 0).trans rfl
     have hcz20_1 : wc.cell? ⟨gb315, 1, none⟩ = some (.int .i64 0) := (blk_cell BK315.out 1).trans rfl
     have hcz20_2 : wc.cell? ⟨gb315, 2, none⟩ = some (.int .i64 0) := (blk_cell BK315.out 2).trans rfl
     have hcz20_3 : wc.cell? ⟨gb315, 3, none⟩ = some (.slice none 0 0) := (blk_cell BK315.out 3).trans rfl
     have hfz20_0 := blk_frozen BK315.out 0
     have hfz20_1 := blk_frozen BK315.out 1
     have hfz20_2 := blk_frozen BK315.out 2
     have hfz20_3 := blk_frozen BK315.out 3
     go_wp2
     refine bodyPost_ret (results_cell_row rfl _ _ gb315 30 #[.int .i64 3, .int .i64 0, .int .i64 0, .slice none 0 0] (0, 0) _ rfl (by (with_reducible repeat (first | refine blk_drewN ?_ _ | refine blk_drew ?_ | refine blk_alloc ?_ _)); refine blk_put (cs := #[.int .i64 3, .int .i64 0, .int .i64 0, .slice none 0 0]) ?_ 3 _ rfl; (with_reducible repeat (first | refine blk_drewN ?_ _ | refine blk_drew ?_ | refine blk_alloc ?_ _)); refine blk_put (cs := #[.int .i64 3, .int .i64 0, .int .i64 0, .slice none 0 0]) ?_ 2 _ rfl; (with_reducible repeat (first | refine blk_drewN ?_ _ | refine blk_drew ?_ | refine blk_alloc ?_ _)); refine blk_put (cs := #[.int .i64 3, .int .i64 0, .int .i64 0, .slice none 0 0]) ?_ 1 _ rfl; (with_reducible repeat (first | refine blk_drewN ?_ _ | refine blk_drew ?_ | refine blk_alloc ?_ _)); refine blk_put (cs := #[.int .i64 0, .int .i64 0, .int .i64 0, .slice none 0 0]) ?_ 0 _ rfl; (with_reducible repeat (first | refine blk_drewN ?_ _ | refine blk_drew ?_ | refine blk_alloc ?_ _)); exact BK315.out) Try.underlying30 rfl (by kernel_rfl)) rfl ?_
     exact ⟨_, by first | rfl | (simp [errW_none, errW_some] <;> rfl) | (simp [*, errW_none, errW_some] <;> rfl), by first | exact Kd.R_nil _ _ _ _ _ | exact Kd.N_nil _ _ _ _ _ | exact Kd.V_nil _ _ _ _ _ | exact Kd.Q_nil _ _ _ _ _ | exact Kd.S_nil _ _ _ _ _, by repeat (first | (with_reducible first | exact HB.out | apply below_alloc | apply pw_below_drewN | apply below_drew1 | refine below_set ?_ GE314.out | refine below_set ?_ GE315.out) | exact HB.out)⟩
    ·replace c18 := Bool.eq_false_iff.mpr c18
     subst c18
     have H1 : (if (l0_2.length : Int) ≥ 12 then ((spec_l1Find.f kj6 l0_2 a1).bind fun t320 => (if t320 < 0 then (some (2, 0, 0, ([] : List (S49)))) else ((spec_l1With.f kj6 l0_2 a1 a2).bind fun t321 => (some (0, a0_0, a3, t321))))) else ((spec_l1With.f kj6 l0_2 a1 a2).bind fun t324 => (some (0, a0_0, a3, t324)))) = some (r1, r2, r3, r4) := by rw [if_neg (show ¬ (false = true) by decide)] at H; exact H
     clear H
     have H := H1
     clear H1
     by_cases c21 : (l0_2.length : Int) ≥ 12
     ·rw [if_pos c21] at H
      have c21b0 : decide (12 ≤ (l0_2.length : Int)) = true := decide_eq_true c21
      have c21b1 : decide (12 ≤ l0_2.length) = true := decide_eq_true (by omega)
      clear c21
      replace H := Option.bind_eq_some_iff.mp H
      obtain ⟨t320, A220, H⟩ := H
      replace H : (if t320 < 0 then (some (2, 0, 0, ([] : List (S49)))) else ((spec_l1With.f kj6 l0_2 a1 a2).bind fun t321 => (some (0, a0_0, a3, t321)))) = some (r1, r2, r3, r4) := H
      have A22 := Aside0.mk A220
      clear A220
      by_cases c23 : t320 < 0
      ·rw [if_pos c23] at H
       have c23b0 : decide (t320 < 0) = true := decide_eq_true c23
       clear c23
       simp only [Option.some.injEq, Prod.mk.injEq] at H
       obtain ⟨rfl, rfl, rfl, rfl⟩ := H
       have hnb24 := NB314_315.out
       have hnc24 := NB315_314.out
       have hcz25_0 : wc.cell? ⟨gb314, 0, none⟩ = some (.int .i64 a0_0) := (blk_cell BK314.out 0).trans rfl
       have hcz25_1 : wc.cell? ⟨gb314, 1, none⟩ = some (.int .i64 a0_1) := (blk_cell BK314.out 1).trans rfl
       have hcz25_2 : wc.cell? ⟨gb314, 2, none⟩ = some (.slice A0_2 l0_2.length c0_2) := (blk_cell BK314.out 2).trans rfl
       have hfz25_0 := blk_frozen BK314.out 0
       have hfz25_1 := blk_frozen BK314.out 1
       have hfz25_2 := blk_frozen BK314.out 2
       go_wp2_with (first | (go_at_call 38; (with_reducible refine (spec_l1Find.calls kj6 _ _ l0_2 a1 t320 _ ?side1 ?side2 A22.out).mono ?_); (case side1 => repeat (first | exact (Kd.C_below HR0_2.out HB.out) | (with_reducible refine Kd.C_alloc ?_ _) | (with_reducible refine Kd.C_drewN ?_ _) | (with_reducible refine Kd.C_drew ?_))); (case side2 => exact HC0_2.out); rintro e w' ⟨rfl, ⟨nd, rfl⟩⟩; (try (rw [drewN_self wc]; generalize hq_ : World.drewN wc _ = wc; have n0_ : Aside0 (wc.heap[gb314]? = some (.cells #[.int .i64 a0_0, .int .i64 a0_1, .slice A0_2 l0_2.length c0_2] 28 (0, 0))) := ⟨by rw [← hq_]; exact (by (with_reducible repeat (first | refine blk_drewN ?_ _ | refine blk_drew ?_ | refine blk_alloc ?_ _)); exact BK314.out)⟩; have n1_ : Aside0 (wc.heap[gb315]? = some (.cells #[.int .i64 0, .int .i64 0, .int .i64 0, .slice none 0 0] 30 (0, 0))) := ⟨by rw [← hq_]; exact (by (with_reducible repeat (first | refine blk_drewN ?_ _ | refine blk_drew ?_ | refine blk_alloc ?_ _)); exact BK315.out)⟩; have n2_ : Aside0 (Below w.heap.size w wc) := ⟨by rw [← hq_]; exact (by repeat (first | (with_reducible first | exact HB.out | apply below_alloc | apply pw_below_drewN | apply below_drew1 | refine below_set ?_ GE314.out | refine below_set ?_ GE315.out) | exact HB.out))⟩; clear BK314 BK315 HB hq_; have BK314 := n0_; have BK315 := n1_; have HB := n2_; clear n0_ n1_ n2_)); have hcz26_0 : wc.cell? ⟨gb315, 0, none⟩ = some (.int .i64 0) := (blk_cell BK315.out 0).trans rfl; have hcz26_1 : wc.cell? ⟨gb315, 1, none⟩ = some (.int .i64 0) := (blk_cell BK315.out 1).trans rfl; have hcz26_2 : wc.cell? ⟨gb315, 2, none⟩ = some (.int .i64 0) := (blk_cell BK315.out 2).trans rfl; have hcz26_3 : wc.cell? ⟨gb315, 3, none⟩ = some (.slice none 0 0) := (blk_cell BK315.out 3).trans rfl; have hfz26_0 := blk_frozen BK315.out 0; have hfz26_1 := blk_frozen BK315.out 1; have hfz26_2 := blk_frozen BK315.out 2; have hfz26_3 := blk_frozen BK315.out 3))
       refine bodyPost_ret (results_cell_row rfl _ _ gb315 30 #[.int .i64 2, .int .i64 0, .int .i64 0, .slice none 0 0] (0, 0) _ rfl (by (with_reducible repeat (first | refine blk_drewN ?_ _ | refine blk_drew ?_ | refine blk_alloc ?_ _)); refine blk_put (cs := #[.int .i64 2, .int .i64 0, .int .i64 0, .slice none 0 0]) ?_ 3 _ rfl; (with_reducible repeat (first | refine blk_drewN ?_ _ | refine blk_drew ?_ | refine blk_alloc ?_ _)); refine blk_put (cs := #[.int .i64 2, .int .i64 0, .int .i64 0, .slice none 0 0]) ?_ 2 _ rfl; (with_reducible repeat (first | refine blk_drewN ?_ _ | refine blk_drew ?_ | refine blk_alloc ?_ _)); refine blk_put (cs := #[.int .i64 2, .int .i64 0, .int .i64 0, .slice none 0 0]) ?_ 1 _ rfl; (with_reducible repeat (first | refine blk_drewN ?_ _ | refine blk_drew ?_ | refine blk_alloc ?_ _)); refine blk_put (cs := #[.int .i64 0, .int .i64 0, .int .i64 0, .slice none 0 0]) ?_ 0 _ rfl; (with_reducible repeat (first | refine blk_drewN ?_ _ | refine blk_drew ?_ | refine blk_alloc ?_ _)); exact BK315.out) Try.underlying30 rfl (by kernel_rfl)) rfl ?_
       exact ⟨_, by first | rfl | (simp [errW_none, errW_some] <;> rfl) | (simp [*, errW_none, errW_some] <;> rfl), by first | exact Kd.R_nil _ _ _ _ _ | exact Kd.N_nil _ _ _ _ _ | exact Kd.V_nil _ _ _ _ _ | exact Kd.Q_nil _ _ _ _ _ | exact Kd.S_nil _ _ _ _ _, by repeat (first | (with_reducible first | exact HB.out | apply below_alloc | apply pw_below_drewN | apply below_drew1 | refine below_set ?_ GE314.out | refine below_set ?_ GE315.out) | exact HB.out)⟩
      ·rw [if_neg c23] at H
       have c23b0 : decide (t320 < 0) = false := decide_eq_false c23
       clear c23
       replace H := Option.bind_eq_some_iff.mp H
       obtain ⟨t321, A270, H⟩ := H
       replace H : (some (0, a0_0, a3, t321)) = some (r1, r2, r3, r4) := H
       have A27 := Aside0.mk A270
       clear A270
       simp only [Option.some.injEq, Prod.mk.injEq] at H
       obtain ⟨rfl, rfl, rfl, rfl⟩ := H
       have hnb28 := NB314_315.out
       have hnc28 := NB315_314.out
       have hcz29_0 : wc.cell? ⟨gb314, 0, none⟩ = some (.int .i64 a0_0) := (blk_cell BK314.out 0).trans rfl
       have hcz29_1 : wc.cell? ⟨gb314, 1, none⟩ = some (.int .i64 a0_1) := (blk_cell BK314.out 1).trans rfl
       have hcz29_2 : wc.cell? ⟨gb314, 2, none⟩ = some (.slice A0_2 l0_2.length c0_2) := (blk_cell BK314.out 2).trans rfl
       have hfz29_0 := blk_frozen BK314.out 0
       have hfz29_1 := blk_frozen BK314.out 1
       have hfz29_2 := blk_frozen BK314.out 2
       try go_wp2_with (first | (go_at_call 38; (with_reducible refine (spec_l1Find.calls kj6 _ _ l0_2 a1 t320 _ ?side1 ?side2 A22.out).mono ?_); (case side1 => repeat (first | exact (Kd.C_below HR0_2.out HB.out) | (with_reducible refine Kd.C_alloc ?_ _) | (with_reducible refine Kd.C_drewN ?_ _) | (with_reducible refine Kd.C_drew ?_))); (case side2 => exact HC0_2.out); rintro e w' ⟨rfl, ⟨nd, rfl⟩⟩; (try (rw [drewN_self wc]; generalize hq_ : World.drewN wc _ = wc; have n0_ : Aside0 (wc.heap[gb314]? = some (.cells #[.int .i64 a0_0, .int .i64 a0_1, .slice A0_2 l0_2.length c0_2] 28 (0, 0))) := ⟨by rw [← hq_]; exact (by (with_reducible repeat (first | refine blk_drewN ?_ _ | refine blk_drew ?_ | refine blk_alloc ?_ _)); exact BK314.out)⟩; have n1_ : Aside0 (wc.heap[gb315]? = some (.cells #[.int .i64 0, .int .i64 0, .int .i64 0, .slice none 0 0] 30 (0, 0))) := ⟨by rw [← hq_]; exact (by (with_reducible repeat (first | refine blk_drewN ?_ _ | refine blk_drew ?_ | refine blk_alloc ?_ _)); exact BK315.out)⟩; have n2_ : Aside0 (Below w.heap.size w wc) := ⟨by rw [← hq_]; exact (by repeat (first | (with_reducible first | exact HB.out | apply below_alloc | apply pw_below_drewN | apply below_drew1 | refine below_set ?_ GE314.out | refine below_set ?_ GE315.out) | exact HB.out))⟩; clear BK314 BK315 HB hq_; have BK314 := n0_; have BK315 := n1_; have HB := n2_; clear n0_ n1_ n2_))))
       have n0_ := Aside0.mk (blk_drew BK314.out)
       have n1_ := Aside0.mk (blk_drew BK315.out)
       have n2_ := Aside0.mk (below_drew1 HB.out)
       clear BK314
       clear BK315
       clear HB
       have BK314 := n0_
       have BK315 := n1_
       have HB := n2_
       clear n0_ n1_ n2_
       refine start_ (n := 11) (S := fun w' => w'.cell? ⟨gb314, 0, none⟩ = some (.int .i64 a0_0) ∧ w'.cell? ⟨gb314, 1, none⟩ = some (.int .i64 a0_1) ∧ w'.cell? ⟨gb314, 2, none⟩ = some (.slice A0_2 l0_2.length c0_2)) (ds := []) #[false, false, false, false, false, false, false, false, false, false, false] (by kernel_rfl) rfl rfl ⟨(blk_cell BK314.out 0).trans rfl, (blk_cell BK314.out 1).trans rfl, (blk_cell BK314.out 2).trans rfl⟩ (fun hHeld => ?_); refine with_tabW spec_SetCell.tab8 spec_SetCell.bits8 (fun HT_ HW_ => ?_)
       generalize wc.drew = w30 at BK314 BK315 HB hHeld ⊢
       refine pure_ (i := 0) (N := some 42) (v := ?_) (a' := ?_) #[true, false, false, false, false, false, false, false, false, false, false] rfl rfl (any_of HT_.out (by kernel_rfl)) (fun _ _ _ h => h) (Or.inl ⟨by rfl, ?_⟩) ?_ ?_
       rotate_left
       ·intro w'
        go_simp
        with_reducible rfl
       rotate_left
       ·simp only [Act.put, List.setIfInBounds_toArray, List.set_cons_zero, List.set_cons_succ, i64_w, i32_w]
        rfl
       refine pure_ (i := 2) (N := some 44) (v := ?_) (a' := ?_) #[true, false, true, false, false, false, false, false, false, false, false] rfl rfl (any_of HT_.out (by kernel_rfl)) (fun _ _ _ h => h) (Or.inl ⟨by rfl, ?_⟩) ?_ ?_
       rotate_left
       ·intro w'
        go_simp
        with_reducible rfl
       rotate_left
       ·simp only [Act.put, List.setIfInBounds_toArray, List.set_cons_zero, List.set_cons_succ, i64_w, i32_w]
        rfl
       refine pure_ (i := 3) (N := some 45) (v := ?_) (a' := ?_) #[true, false, true, true, false, false, false, false, false, false, false] rfl rfl (any_of HT_.out (by kernel_rfl)) (fun _ _ _ h => h) (Or.inl ⟨by rfl, ?_⟩) ?_ ?_
       rotate_left
       ·intro w'
        go_simp
        with_reducible rfl
       rotate_left
       ·simp only [Act.put, List.setIfInBounds_toArray, List.set_cons_zero, List.set_cons_succ, i64_w, i32_w]
        rfl
       refine pure_ (i := 5) (N := some 47) (v := ?_) (a' := ?_) #[true, false, true, true, false, true, false, false, false, false, false] rfl rfl (any_of HT_.out (by kernel_rfl)) (fun _ _ _ h => h) (Or.inl ⟨by rfl, ?_⟩) ?_ ?_
       rotate_left
       ·intro w'
        go_simp
        with_reducible rfl
       rotate_left
       ·simp only [Act.put, List.setIfInBounds_toArray, List.set_cons_zero, List.set_cons_succ, i64_w, i32_w]
        rfl
       refine pure_ (i := 6) (N := some 48) (v := ?_) (a' := ?_) #[true, false, true, true, false, true, true, false, false, false, false] rfl rfl (any_of HT_.out (by kernel_rfl)) (fun _ _ _ h => h) (Or.inl ⟨by rfl, ?_⟩) ?_ ?_
       rotate_left
       ·intro w'
        go_simp
        with_reducible rfl
       rotate_left
       ·simp only [Act.put, List.setIfInBounds_toArray, List.set_cons_zero, List.set_cons_succ, i64_w, i32_w]
        rfl
       refine take_ (i := 1) (N := some 43) (v := ?_) (a' := ?_) #[true, true, true, true, false, true, true, false, false, false, false] rfl rfl (take_ofW HT_.out HW_.out (by kernel_rfl)) (fun _ _ _ h => h) (Or.inl ⟨by rfl, ?_⟩) hHeld ?_ ?_
       rotate_left
       ·rintro w' ⟨s0, s1, s2⟩
        go_simp
        with_reducible rfl
       rotate_left
       ·simp only [Act.put, List.setIfInBounds_toArray, List.set_cons_zero, List.set_cons_succ, i64_w, i32_w]
        rfl
       refine take_ (i := 4) (N := some 46) (v := ?_) (a' := ?_) #[true, true, true, true, true, true, true, false, false, false, false] rfl rfl (take_ofW HT_.out HW_.out (by kernel_rfl)) (fun _ _ _ h => h) (Or.inl ⟨by rfl, ?_⟩) hHeld ?_ ?_
       rotate_left
       ·rintro w' ⟨s0, s1, s2⟩
        go_simp
        with_reducible rfl
       rotate_left
       ·simp only [Act.put, List.setIfInBounds_toArray, List.set_cons_zero, List.set_cons_succ, i64_w, i32_w]
        rfl
       refine one_ (i := 7) (N := some 49) #[true, true, true, true, true, true, true, true, false, false, false] rfl rfl (one_of HT_.out (by kernel_rfl)) (by decide) (fun K hK => ?_)
       refine goes_ Try.func49 (by kernel_rfl) rfl #[.slice A0_2 l0_2.length c0_2, .int .i64 a1, .int .i64 a2] (by rfl) rfl rfl (by (try simp only [List.map_toArray, List.map_cons, List.map_nil]); first | done | rfl | (simp only [List.length_drop, List.length_take]; rfl)) ?_
       with_reducible refine (spec_l1With.calls kj6 _ _ l0_2 a1 a2 t321 _ ?side1 ?side2 A27.out).mono ?_
       (case side1 => repeat (first | exact (Kd.C_below HR0_2.out HB.out) | (with_reducible refine Kd.C_alloc ?_ _) | (with_reducible refine Kd.C_drewN ?_ _) | (with_reducible refine Kd.C_drew ?_)))
       (case side2 => exact HC0_2.out)
       rintro e w31 ⟨v322, rfl, ho0, hb⟩
       refine ⟨_, rfl, ?_⟩
       have n0_ := Aside0.mk (Kd.R_lower ho0 (below_size (by repeat (first | (with_reducible first | exact HB.out | apply below_alloc | apply pw_below_drewN | apply below_drew1 | refine below_set ?_ GE314.out | refine below_set ?_ GE315.out) | exact HB.out))))
       have n1_ := Aside0.mk (blk_below (g := gb314) (o := .cells #[.int .i64 a0_0, .int .i64 a0_1, .slice A0_2 l0_2.length c0_2] 28 (0, 0)) (by (with_reducible repeat (first | refine blk_drewN ?_ _ | refine blk_drew ?_ | refine blk_alloc ?_ _)); exact BK314.out) hb)
       have n2_ := Aside0.mk (blk_below (g := gb315) (o := .cells #[.int .i64 0, .int .i64 0, .int .i64 0, .slice none 0 0] 30 (0, 0)) (by (with_reducible repeat (first | refine blk_drewN ?_ _ | refine blk_drew ?_ | refine blk_alloc ?_ _)); exact BK315.out) hb)
       have n3_ := Aside0.mk (below_step (by repeat (first | (with_reducible first | exact HB.out | apply below_alloc | apply pw_below_drewN | apply below_drew1 | refine below_set ?_ GE314.out | refine below_set ?_ GE315.out) | exact HB.out)) hb)
       clear BK314
       clear BK315
       clear HB
       have HO323 := n0_
       have BK314 := n1_
       have BK315 := n2_
       have HB := n3_
       clear n0_ n1_ n2_ n3_
       (try clear hb)
       (try clear hb2)
       (try clear hk)
       (try clear hi)
       (try clear ho0)
       obtain ⟨Ao32, co32, eo32⟩ := Kd.R_slice HO323.out
       (first | subst eo32 | (injection eo32 with f1_ f2_ f3_; have f4_ := f1_.symm; have f5_ := f3_.symm; clear f1_ f2_ f3_; subst f4_; subst f5_))
       refine hK.out _ _ ⟨(blk_cell BK314.out 0).trans rfl, (blk_cell BK314.out 1).trans rfl, (blk_cell BK314.out 2).trans rfl⟩ (fun hHeld => ?_)
       clear hK K
       refine norm_ (a' := ?_) ?_ ?_
       rotate_left
       ·show Act.put _ (some 49) _ = _
        simp only [Act.put, List.setIfInBounds_toArray, List.set_cons_zero, List.set_cons_succ, i64_w, i32_w]
        rfl
       refine pure_ (i := 8) (N := some 50) (v := ?_) (a' := ?_) #[true, true, true, true, true, true, true, true, true, false, false] rfl rfl (any_of HT_.out (by kernel_rfl)) (fun _ _ _ h => h) (Or.inl ⟨by rfl, ?_⟩) ?_ ?_
       rotate_left
       ·intro w'
        go_simp
        with_reducible rfl
       rotate_left
       ·simp only [Act.put, List.setIfInBounds_toArray, List.set_cons_zero, List.set_cons_succ, i64_w, i32_w]
        rfl
       refine pure_ (i := 9) (N := some 51) (v := ?_) (a' := ?_) #[true, true, true, true, true, true, true, true, true, true, false] rfl rfl (any_of HT_.out (by kernel_rfl)) (fun _ _ _ h => h) (Or.inl ⟨by rfl, ?_⟩) ?_ ?_
       rotate_left
       ·intro w'
        go_simp
        with_reducible rfl
       rotate_left
       ·simp only [Act.put, List.setIfInBounds_toArray, List.set_cons_zero, List.set_cons_succ, i64_w, i32_w]
        rfl
       refine one_ (i := 10) (N := none) #[true, true, true, true, true, true, true, true, true, true, true] rfl rfl (one_of HT_.out (by kernel_rfl)) (by decide) (fun K hK => ?_)
       have hs33 : w31.cell? ⟨gb315, 0, none⟩ = some (.int .i64 0) := (blk_cell BK315.out 0).trans rfl
       have hfs33 := blk_frozen BK315.out 0
       have hns33_0 := NB314_315.out
       have hms33_0 := NB315_314.out
       have hs34 : w31.cell? ⟨gb315, 1, none⟩ = some (.int .i64 0) := (blk_cell BK315.out 1).trans rfl
       have hfs34 := blk_frozen BK315.out 1
       have hns34_0 := NB314_315.out
       have hms34_0 := NB315_314.out
       have hs35 : w31.cell? ⟨gb315, 2, none⟩ = some (.int .i64 0) := (blk_cell BK315.out 2).trans rfl
       have hfs35 := blk_frozen BK315.out 2
       have hns35_0 := NB314_315.out
       have hms35_0 := NB315_314.out
       have hs36 : w31.cell? ⟨gb315, 3, none⟩ = some (.slice none 0 0) := (blk_cell BK315.out 3).trans rfl
       have hfs36 := blk_frozen BK315.out 3
       have hns36_0 := NB314_315.out
       have hms36_0 := NB315_314.out
       refine skip_ (w1 := ?_) (by rfl) rfl ?_ ?_
       rotate_left
       ·go_simp
        rfl
       refine hK.out _ _ ⟨((cell_far (p := ⟨gb315, _, none⟩) NB314_315.out _).trans (((cell_far (p := ⟨gb315, _, none⟩) NB314_315.out _).trans (((cell_far (p := ⟨gb315, _, none⟩) NB314_315.out _).trans (((cell_far (p := ⟨gb315, _, none⟩) NB314_315.out _).trans (hHeld.1)))))))), ((cell_far (p := ⟨gb315, _, none⟩) NB314_315.out _).trans (((cell_far (p := ⟨gb315, _, none⟩) NB314_315.out _).trans (((cell_far (p := ⟨gb315, _, none⟩) NB314_315.out _).trans (((cell_far (p := ⟨gb315, _, none⟩) NB314_315.out _).trans (hHeld.2.1)))))))), ((cell_far (p := ⟨gb315, _, none⟩) NB314_315.out _).trans (((cell_far (p := ⟨gb315, _, none⟩) NB314_315.out _).trans (((cell_far (p := ⟨gb315, _, none⟩) NB314_315.out _).trans (((cell_far (p := ⟨gb315, _, none⟩) NB314_315.out _).trans (hHeld.2.2))))))))⟩ (fun hHeld => ?_)
       clear hK K
       refine done_ (done_of HT_.out (by kernel_rfl)) ?_
       try go_wp2
       refine bodyPost_ret (results_cell_row rfl _ _ gb315 30 #[.int .i64 0, .int .i64 a0_0, .int .i64 a3, .slice Ao32 t321.length co32] (0, 0) _ rfl (by (with_reducible repeat (first | refine blk_drewN ?_ _ | refine blk_drew ?_ | refine blk_alloc ?_ _)); refine blk_put (cs := #[.int .i64 0, .int .i64 a0_0, .int .i64 a3, .slice none 0 0]) ?_ 3 _ rfl; (with_reducible repeat (first | refine blk_drewN ?_ _ | refine blk_drew ?_ | refine blk_alloc ?_ _)); refine blk_put (cs := #[.int .i64 0, .int .i64 a0_0, .int .i64 0, .slice none 0 0]) ?_ 2 _ rfl; (with_reducible repeat (first | refine blk_drewN ?_ _ | refine blk_drew ?_ | refine blk_alloc ?_ _)); refine blk_put (cs := #[.int .i64 0, .int .i64 0, .int .i64 0, .slice none 0 0]) ?_ 1 _ rfl; (with_reducible repeat (first | refine blk_drewN ?_ _ | refine blk_drew ?_ | refine blk_alloc ?_ _)); refine blk_put (cs := #[.int .i64 0, .int .i64 0, .int .i64 0, .slice none 0 0]) ?_ 0 _ rfl; (with_reducible repeat (first | refine blk_drewN ?_ _ | refine blk_drew ?_ | refine blk_alloc ?_ _)); exact BK315.out) Try.underlying30 rfl (by kernel_rfl)) rfl ?_
       exact ⟨_, by first | rfl | (simp [errW_none, errW_some] <;> rfl) | (simp [*, errW_none, errW_some] <;> rfl), by (with_reducible repeat (first | apply Kd.R_alloc | apply Kd.R_drewN | apply Kd.R_drew)); exact Kd.R_mono (Kd.R_far (p := ⟨gb315, 3, none⟩) (Kd.R_far (p := ⟨gb315, 2, none⟩) (Kd.R_far (p := ⟨gb315, 1, none⟩) (Kd.R_far (p := ⟨gb315, 0, none⟩) (Kd.R_types HO323.out BK315.out (by decide)) (fun _ hk => hk.2) (.int .i64 0)) (fun _ hk => hk.2) (.int .i64 a0_0)) (fun _ hk => hk.2) (.int .i64 a3)) (fun _ hk => hk.2) (.slice Ao32 t321.length co32)) (fun _ hk => trivial), by repeat (first | (with_reducible first | exact HB.out | apply below_alloc | apply pw_below_drewN | apply below_drew1 | refine below_set ?_ GE314.out | refine below_set ?_ GE315.out) | exact HB.out)⟩
     ·rw [if_neg c21] at H
      have c21b0 : decide (12 ≤ (l0_2.length : Int)) = false := decide_eq_false c21
      have c21b1 : decide (12 ≤ l0_2.length) = false := decide_eq_false (by omega)
      clear c21
      replace H := Option.bind_eq_some_iff.mp H
      obtain ⟨t324, A370, H⟩ := H
      replace H : (some (0, a0_0, a3, t324)) = some (r1, r2, r3, r4) := H
      have A37 := Aside0.mk A370
      clear A370
      simp only [Option.some.injEq, Prod.mk.injEq] at H
      obtain ⟨rfl, rfl, rfl, rfl⟩ := H
      have hnb38 := NB314_315.out
      have hnc38 := NB315_314.out
      have hcz39_0 : wc.cell? ⟨gb314, 0, none⟩ = some (.int .i64 a0_0) := (blk_cell BK314.out 0).trans rfl
      have hcz39_1 : wc.cell? ⟨gb314, 1, none⟩ = some (.int .i64 a0_1) := (blk_cell BK314.out 1).trans rfl
      have hcz39_2 : wc.cell? ⟨gb314, 2, none⟩ = some (.slice A0_2 l0_2.length c0_2) := (blk_cell BK314.out 2).trans rfl
      have hfz39_0 := blk_frozen BK314.out 0
      have hfz39_1 := blk_frozen BK314.out 1
      have hfz39_2 := blk_frozen BK314.out 2
      try go_wp2
      have n0_ := Aside0.mk (blk_drew BK314.out)
      have n1_ := Aside0.mk (blk_drew BK315.out)
      have n2_ := Aside0.mk (below_drew1 HB.out)
      clear BK314
      clear BK315
      clear HB
      have BK314 := n0_
      have BK315 := n1_
      have HB := n2_
      clear n0_ n1_ n2_
      refine start_ (n := 11) (S := fun w' => w'.cell? ⟨gb314, 0, none⟩ = some (.int .i64 a0_0) ∧ w'.cell? ⟨gb314, 1, none⟩ = some (.int .i64 a0_1) ∧ w'.cell? ⟨gb314, 2, none⟩ = some (.slice A0_2 l0_2.length c0_2)) (ds := []) #[false, false, false, false, false, false, false, false, false, false, false] (by kernel_rfl) rfl rfl ⟨(blk_cell BK314.out 0).trans rfl, (blk_cell BK314.out 1).trans rfl, (blk_cell BK314.out 2).trans rfl⟩ (fun hHeld => ?_); refine with_tabW spec_SetCell.tab8 spec_SetCell.bits8 (fun HT_ HW_ => ?_)
      generalize wc.drew = w40 at BK314 BK315 HB hHeld ⊢
      refine pure_ (i := 0) (N := some 42) (v := ?_) (a' := ?_) #[true, false, false, false, false, false, false, false, false, false, false] rfl rfl (any_of HT_.out (by kernel_rfl)) (fun _ _ _ h => h) (Or.inl ⟨by rfl, ?_⟩) ?_ ?_
      rotate_left
      ·intro w'
       go_simp
       with_reducible rfl
      rotate_left
      ·simp only [Act.put, List.setIfInBounds_toArray, List.set_cons_zero, List.set_cons_succ, i64_w, i32_w]
       rfl
      refine pure_ (i := 2) (N := some 44) (v := ?_) (a' := ?_) #[true, false, true, false, false, false, false, false, false, false, false] rfl rfl (any_of HT_.out (by kernel_rfl)) (fun _ _ _ h => h) (Or.inl ⟨by rfl, ?_⟩) ?_ ?_
      rotate_left
      ·intro w'
       go_simp
       with_reducible rfl
      rotate_left
      ·simp only [Act.put, List.setIfInBounds_toArray, List.set_cons_zero, List.set_cons_succ, i64_w, i32_w]
       rfl
      refine pure_ (i := 3) (N := some 45) (v := ?_) (a' := ?_) #[true, false, true, true, false, false, false, false, false, false, false] rfl rfl (any_of HT_.out (by kernel_rfl)) (fun _ _ _ h => h) (Or.inl ⟨by rfl, ?_⟩) ?_ ?_
      rotate_left
      ·intro w'
       go_simp
       with_reducible rfl
      rotate_left
      ·simp only [Act.put, List.setIfInBounds_toArray, List.set_cons_zero, List.set_cons_succ, i64_w, i32_w]
       rfl
      refine pure_ (i := 5) (N := some 47) (v := ?_) (a' := ?_) #[true, false, true, true, false, true, false, false, false, false, false] rfl rfl (any_of HT_.out (by kernel_rfl)) (fun _ _ _ h => h) (Or.inl ⟨by rfl, ?_⟩) ?_ ?_
      rotate_left
      ·intro w'
       go_simp
       with_reducible rfl
      rotate_left
      ·simp only [Act.put, List.setIfInBounds_toArray, List.set_cons_zero, List.set_cons_succ, i64_w, i32_w]
       rfl
      refine pure_ (i := 6) (N := some 48) (v := ?_) (a' := ?_) #[true, false, true, true, false, true, true, false, false, false, false] rfl rfl (any_of HT_.out (by kernel_rfl)) (fun _ _ _ h => h) (Or.inl ⟨by rfl, ?_⟩) ?_ ?_
      rotate_left
      ·intro w'
       go_simp
       with_reducible rfl
      rotate_left
      ·simp only [Act.put, List.setIfInBounds_toArray, List.set_cons_zero, List.set_cons_succ, i64_w, i32_w]
       rfl
      refine take_ (i := 1) (N := some 43) (v := ?_) (a' := ?_) #[true, true, true, true, false, true, true, false, false, false, false] rfl rfl (take_ofW HT_.out HW_.out (by kernel_rfl)) (fun _ _ _ h => h) (Or.inl ⟨by rfl, ?_⟩) hHeld ?_ ?_
      rotate_left
      ·rintro w' ⟨s0, s1, s2⟩
       go_simp
       with_reducible rfl
      rotate_left
      ·simp only [Act.put, List.setIfInBounds_toArray, List.set_cons_zero, List.set_cons_succ, i64_w, i32_w]
       rfl
      refine take_ (i := 4) (N := some 46) (v := ?_) (a' := ?_) #[true, true, true, true, true, true, true, false, false, false, false] rfl rfl (take_ofW HT_.out HW_.out (by kernel_rfl)) (fun _ _ _ h => h) (Or.inl ⟨by rfl, ?_⟩) hHeld ?_ ?_
      rotate_left
      ·rintro w' ⟨s0, s1, s2⟩
       go_simp
       with_reducible rfl
      rotate_left
      ·simp only [Act.put, List.setIfInBounds_toArray, List.set_cons_zero, List.set_cons_succ, i64_w, i32_w]
       rfl
      refine one_ (i := 7) (N := some 49) #[true, true, true, true, true, true, true, true, false, false, false] rfl rfl (one_of HT_.out (by kernel_rfl)) (by decide) (fun K hK => ?_)
      refine goes_ Try.func49 (by kernel_rfl) rfl #[.slice A0_2 l0_2.length c0_2, .int .i64 a1, .int .i64 a2] (by rfl) rfl rfl (by (try simp only [List.map_toArray, List.map_cons, List.map_nil]); first | done | rfl | (simp only [List.length_drop, List.length_take]; rfl)) ?_
      with_reducible refine (spec_l1With.calls kj6 _ _ l0_2 a1 a2 t324 _ ?side1 ?side2 A37.out).mono ?_
      (case side1 => repeat (first | exact (Kd.C_below HR0_2.out HB.out) | (with_reducible refine Kd.C_alloc ?_ _) | (with_reducible refine Kd.C_drewN ?_ _) | (with_reducible refine Kd.C_drew ?_)))
      (case side2 => exact HC0_2.out)
      rintro e w41 ⟨v325, rfl, ho0, hb⟩
      refine ⟨_, rfl, ?_⟩
      have n0_ := Aside0.mk (Kd.R_lower ho0 (below_size (by repeat (first | (with_reducible first | exact HB.out | apply below_alloc | apply pw_below_drewN | apply below_drew1 | refine below_set ?_ GE314.out | refine below_set ?_ GE315.out) | exact HB.out))))
      have n1_ := Aside0.mk (blk_below (g := gb314) (o := .cells #[.int .i64 a0_0, .int .i64 a0_1, .slice A0_2 l0_2.length c0_2] 28 (0, 0)) (by (with_reducible repeat (first | refine blk_drewN ?_ _ | refine blk_drew ?_ | refine blk_alloc ?_ _)); exact BK314.out) hb)
      have n2_ := Aside0.mk (blk_below (g := gb315) (o := .cells #[.int .i64 0, .int .i64 0, .int .i64 0, .slice none 0 0] 30 (0, 0)) (by (with_reducible repeat (first | refine blk_drewN ?_ _ | refine blk_drew ?_ | refine blk_alloc ?_ _)); exact BK315.out) hb)
      have n3_ := Aside0.mk (below_step (by repeat (first | (with_reducible first | exact HB.out | apply below_alloc | apply pw_below_drewN | apply below_drew1 | refine below_set ?_ GE314.out | refine below_set ?_ GE315.out) | exact HB.out)) hb)
      clear BK314
      clear BK315
      clear HB
      have HO326 := n0_
      have BK314 := n1_
      have BK315 := n2_
      have HB := n3_
      clear n0_ n1_ n2_ n3_
      (try clear hb)
      (try clear hb2)
      (try clear hk)
      (try clear hi)
      (try clear ho0)
      obtain ⟨Ao42, co42, eo42⟩ := Kd.R_slice HO326.out
      (first | subst eo42 | (injection eo42 with f1_ f2_ f3_; have f4_ := f1_.symm; have f5_ := f3_.symm; clear f1_ f2_ f3_; subst f4_; subst f5_))
      refine hK.out _ _ ⟨(blk_cell BK314.out 0).trans rfl, (blk_cell BK314.out 1).trans rfl, (blk_cell BK314.out 2).trans rfl⟩ (fun hHeld => ?_)
      clear hK K
      refine norm_ (a' := ?_) ?_ ?_
      rotate_left
      ·show Act.put _ (some 49) _ = _
       simp only [Act.put, List.setIfInBounds_toArray, List.set_cons_zero, List.set_cons_succ, i64_w, i32_w]
       rfl
      refine pure_ (i := 8) (N := some 50) (v := ?_) (a' := ?_) #[true, true, true, true, true, true, true, true, true, false, false] rfl rfl (any_of HT_.out (by kernel_rfl)) (fun _ _ _ h => h) (Or.inl ⟨by rfl, ?_⟩) ?_ ?_
      rotate_left
      ·intro w'
       go_simp
       with_reducible rfl
      rotate_left
      ·simp only [Act.put, List.setIfInBounds_toArray, List.set_cons_zero, List.set_cons_succ, i64_w, i32_w]
       rfl
      refine pure_ (i := 9) (N := some 51) (v := ?_) (a' := ?_) #[true, true, true, true, true, true, true, true, true, true, false] rfl rfl (any_of HT_.out (by kernel_rfl)) (fun _ _ _ h => h) (Or.inl ⟨by rfl, ?_⟩) ?_ ?_
      rotate_left
      ·intro w'
       go_simp
       with_reducible rfl
      rotate_left
      ·simp only [Act.put, List.setIfInBounds_toArray, List.set_cons_zero, List.set_cons_succ, i64_w, i32_w]
       rfl
      refine one_ (i := 10) (N := none) #[true, true, true, true, true, true, true, true, true, true, true] rfl rfl (one_of HT_.out (by kernel_rfl)) (by decide) (fun K hK => ?_)
      have hs43 : w41.cell? ⟨gb315, 0, none⟩ = some (.int .i64 0) := (blk_cell BK315.out 0).trans rfl
      have hfs43 := blk_frozen BK315.out 0
      have hns43_0 := NB314_315.out
      have hms43_0 := NB315_314.out
      have hs44 : w41.cell? ⟨gb315, 1, none⟩ = some (.int .i64 0) := (blk_cell BK315.out 1).trans rfl
      have hfs44 := blk_frozen BK315.out 1
      have hns44_0 := NB314_315.out
      have hms44_0 := NB315_314.out
      have hs45 : w41.cell? ⟨gb315, 2, none⟩ = some (.int .i64 0) := (blk_cell BK315.out 2).trans rfl
      have hfs45 := blk_frozen BK315.out 2
      have hns45_0 := NB314_315.out
      have hms45_0 := NB315_314.out
      have hs46 : w41.cell? ⟨gb315, 3, none⟩ = some (.slice none 0 0) := (blk_cell BK315.out 3).trans rfl
      have hfs46 := blk_frozen BK315.out 3
      have hns46_0 := NB314_315.out
      have hms46_0 := NB315_314.out
      refine skip_ (w1 := ?_) (by rfl) rfl ?_ ?_
      rotate_left
      ·go_simp
       rfl
      refine hK.out _ _ ⟨((cell_far (p := ⟨gb315, _, none⟩) NB314_315.out _).trans (((cell_far (p := ⟨gb315, _, none⟩) NB314_315.out _).trans (((cell_far (p := ⟨gb315, _, none⟩) NB314_315.out _).trans (((cell_far (p := ⟨gb315, _, none⟩) NB314_315.out _).trans (hHeld.1)))))))), ((cell_far (p := ⟨gb315, _, none⟩) NB314_315.out _).trans (((cell_far (p := ⟨gb315, _, none⟩) NB314_315.out _).trans (((cell_far (p := ⟨gb315, _, none⟩) NB314_315.out _).trans (((cell_far (p := ⟨gb315, _, none⟩) NB314_315.out _).trans (hHeld.2.1)))))))), ((cell_far (p := ⟨gb315, _, none⟩) NB314_315.out _).trans (((cell_far (p := ⟨gb315, _, none⟩) NB314_315.out _).trans (((cell_far (p := ⟨gb315, _, none⟩) NB314_315.out _).trans (((cell_far (p := ⟨gb315, _, none⟩) NB314_315.out _).trans (hHeld.2.2))))))))⟩ (fun hHeld => ?_)
      clear hK K
      refine done_ (done_of HT_.out (by kernel_rfl)) ?_
      try go_wp2
      refine bodyPost_ret (results_cell_row rfl _ _ gb315 30 #[.int .i64 0, .int .i64 a0_0, .int .i64 a3, .slice Ao42 t324.length co42] (0, 0) _ rfl (by (with_reducible repeat (first | refine blk_drewN ?_ _ | refine blk_drew ?_ | refine blk_alloc ?_ _)); refine blk_put (cs := #[.int .i64 0, .int .i64 a0_0, .int .i64 a3, .slice none 0 0]) ?_ 3 _ rfl; (with_reducible repeat (first | refine blk_drewN ?_ _ | refine blk_drew ?_ | refine blk_alloc ?_ _)); refine blk_put (cs := #[.int .i64 0, .int .i64 a0_0, .int .i64 0, .slice none 0 0]) ?_ 2 _ rfl; (with_reducible repeat (first | refine blk_drewN ?_ _ | refine blk_drew ?_ | refine blk_alloc ?_ _)); refine blk_put (cs := #[.int .i64 0, .int .i64 0, .int .i64 0, .slice none 0 0]) ?_ 1 _ rfl; (with_reducible repeat (first | refine blk_drewN ?_ _ | refine blk_drew ?_ | refine blk_alloc ?_ _)); refine blk_put (cs := #[.int .i64 0, .int .i64 0, .int .i64 0, .slice none 0 0]) ?_ 0 _ rfl; (with_reducible repeat (first | refine blk_drewN ?_ _ | refine blk_drew ?_ | refine blk_alloc ?_ _)); exact BK315.out) Try.underlying30 rfl (by kernel_rfl)) rfl ?_
      exact ⟨_, by first | rfl | (simp [errW_none, errW_some] <;> rfl) | (simp [*, errW_none, errW_some] <;> rfl), by (with_reducible repeat (first | apply Kd.R_alloc | apply Kd.R_drewN | apply Kd.R_drew)); exact Kd.R_mono (Kd.R_far (p := ⟨gb315, 3, none⟩) (Kd.R_far (p := ⟨gb315, 2, none⟩) (Kd.R_far (p := ⟨gb315, 1, none⟩) (Kd.R_far (p := ⟨gb315, 0, none⟩) (Kd.R_types HO326.out BK315.out (by decide)) (fun _ hk => hk.2) (.int .i64 0)) (fun _ hk => hk.2) (.int .i64 a0_0)) (fun _ hk => hk.2) (.int .i64 a3)) (fun _ hk => hk.2) (.slice Ao42 t324.length co42)) (fun _ hk => trivial), by repeat (first | (with_reducible first | exact HB.out | apply below_alloc | apply pw_below_drewN | apply below_drew1 | refine below_set ?_ GE314.out | refine below_set ?_ GE315.out) | exact HB.out)⟩
 ·rw [if_neg c6] at H
  have c6b0 : (t316 == 0) = false := beq_eq_false_iff_ne.mpr c6
  have c6b1 : (t316 != 0) = true := bne_iff_ne.mpr c6
  simp only [Option.some.injEq, Prod.mk.injEq] at H
  obtain ⟨rfl, rfl, rfl, rfl⟩ := H
  go_enter Try.func17, Try.ntmps17
  go_wp2_with (first | ((with_reducible refine gate_dst (N := 4) rfl ?_); refine box_event ?hg (N := 4) ?hd (cs := #[.int .i64 a0_0, .int .i64 a0_1, .slice A0_2 l0_2.length c0_2]) (t := 28) ?hr ?_; (case hd => rfl); (case hg => rfl); (case hr => first | (go_simp; done) | (go_simp; rfl)); intro gb314 hg w47 hbox hb; have n0_ := Aside0.mk (below_step (by repeat (first | (with_reducible first | exact HB.out | apply below_alloc | apply pw_below_drewN | apply below_drew1) | exact HB.out)) hb); have n1_ := Aside0.mk (hbox); have n2_ := Aside0.mk ((by rw [hg]; exact (below_size (by repeat (first | (with_reducible first | exact HB.out | apply below_alloc | apply pw_below_drewN | apply below_drew1) | exact HB.out))) : w.heap.size ≤ gb314)); have n3_ := Aside0.mk ((by rw [hg]; exact (below_size (by repeat (first | (with_reducible first | exact HB.out | apply below_alloc | apply pw_below_drewN | apply below_drew1) | exact HB.out))) : w.heap.size ≤ gb314)); clear HB; have HB := n0_; have BK314 := n1_; have GW314 := n2_; have GE314 := n3_; clear n0_ n1_ n2_ n3_; clear hb hbox hg) | ((with_reducible refine gate_dst (N := 8) rfl ?_); refine box_event ?hg (N := 8) ?hd (cs := #[.int .i64 0, .int .i64 0, .int .i64 0, .slice none 0 0]) (t := 30) ?hr ?_; (case hd => rfl); (case hg => rfl); (case hr => first | (go_simp; done) | (go_simp; rfl)); intro gb315 hg w48 hbox hb; have n0_ := Aside0.mk (blk_below (g := gb314) (o := .cells #[.int .i64 a0_0, .int .i64 a0_1, .slice A0_2 l0_2.length c0_2] 28 (0, 0)) (by (with_reducible repeat (first | refine blk_drewN ?_ _ | refine blk_drew ?_ | refine blk_alloc ?_ _)); exact BK314.out) hb); have n1_ := Aside0.mk (below_step (by repeat (first | (with_reducible first | exact HB.out | apply below_alloc | apply pw_below_drewN | apply below_drew1 | refine below_set ?_ GE314.out) | exact HB.out)) hb); have n2_ := Aside0.mk (hbox); have n3_ := Aside0.mk ((by rw [hg]; exact (below_size (by repeat (first | (with_reducible first | exact HB.out | apply below_alloc | apply pw_below_drewN | apply below_drew1 | refine below_set ?_ GE314.out) | exact HB.out))) : w.heap.size ≤ gb315)); have n4_ := Aside0.mk ((by rw [hg]; exact (below_size (by repeat (first | (with_reducible first | exact HB.out | apply below_alloc | apply pw_below_drewN | apply below_drew1 | refine below_set ?_ GE314.out) | exact HB.out))) : w.heap.size ≤ gb315)); have n5_ := Aside0.mk ((by rw [hg]; exact Nat.ne_of_lt (blk_lt (g := gb314) (o := .cells #[.int .i64 a0_0, .int .i64 a0_1, .slice A0_2 l0_2.length c0_2] 28 (0, 0)) (by (with_reducible repeat (first | refine blk_drewN ?_ _ | refine blk_drew ?_ | refine blk_alloc ?_ _)); exact BK314.out)) : gb314 ≠ gb315)); have n6_ := Aside0.mk ((by rw [hg]; exact Nat.ne_of_gt (blk_lt (g := gb314) (o := .cells #[.int .i64 a0_0, .int .i64 a0_1, .slice A0_2 l0_2.length c0_2] 28 (0, 0)) (by (with_reducible repeat (first | refine blk_drewN ?_ _ | refine blk_drew ?_ | refine blk_alloc ?_ _)); exact BK314.out)) : gb315 ≠ gb314)); clear BK314; clear HB; have BK314 := n0_; have HB := n1_; have BK315 := n2_; have GW315 := n3_; have GE315 := n4_; have NB314_315 := n5_; have NB315_314 := n6_; clear n0_ n1_ n2_ n3_ n4_ n5_ n6_; clear hb hbox hg; have hnb49 := NB314_315.out; have hnc49 := NB315_314.out; have hcz50_0 : w48.cell? ⟨gb314, 0, none⟩ = some (.int .i64 a0_0) := (blk_cell BK314.out 0).trans rfl; have hcz50_1 : w48.cell? ⟨gb314, 1, none⟩ = some (.int .i64 a0_1) := (blk_cell BK314.out 1).trans rfl; have hcz50_2 : w48.cell? ⟨gb314, 2, none⟩ = some (.slice A0_2 l0_2.length c0_2) := (blk_cell BK314.out 2).trans rfl; have hfz50_0 := blk_frozen BK314.out 0; have hfz50_1 := blk_frozen BK314.out 1; have hfz50_2 := blk_frozen BK314.out 2) | ((with_reducible refine gate_callee (f := 28) rfl ?_); refine goesL_ (some 11) rfl rfl Try.func28 (by kernel_rfl) rfl #[.agg #[.int .i64 a0_0, .int .i64 a0_1, .slice A0_2 l0_2.length c0_2]] rfl (by (try simp only [List.map_toArray, List.map_cons, List.map_nil]); first | done | rfl | (simp only [List.length_drop, List.length_take]; rfl)) ?_; (with_reducible refine (spec_PageFault.calls k a0_0 a0_1 _ _ l0_2 t316 _ ?side1 ?side2 A5.out).mono ?_); (case side1 => repeat (first | exact (Kd.C_below HR0_2.out HB.out) | (with_reducible refine Kd.C_alloc ?_ _) | (with_reducible refine Kd.C_drewN ?_ _) | (with_reducible refine Kd.C_drew ?_))); (case side2 => exact HC0_2.out); rintro e w51 ⟨rfl, hb⟩; refine ⟨_, rfl, ?_⟩; have n0_ := Aside0.mk (blk_below (g := gb314) (o := .cells #[.int .i64 a0_0, .int .i64 a0_1, .slice A0_2 l0_2.length c0_2] 28 (0, 0)) (by (with_reducible repeat (first | refine blk_drewN ?_ _ | refine blk_drew ?_ | refine blk_alloc ?_ _)); exact BK314.out) hb); have n1_ := Aside0.mk (blk_below (g := gb315) (o := .cells #[.int .i64 0, .int .i64 0, .int .i64 0, .slice none 0 0] 30 (0, 0)) (by (with_reducible repeat (first | refine blk_drewN ?_ _ | refine blk_drew ?_ | refine blk_alloc ?_ _)); exact BK315.out) hb); have n2_ := Aside0.mk (below_step (by repeat (first | (with_reducible first | exact HB.out | apply below_alloc | apply pw_below_drewN | apply below_drew1 | refine below_set ?_ GE314.out | refine below_set ?_ GE315.out) | exact HB.out)) hb); clear BK314; clear BK315; clear HB; have BK314 := n0_; have BK315 := n1_; have HB := n2_; clear n0_ n1_ n2_; (try clear hb); (try clear hb2); (try clear hk); (try clear hi); have hcz52_0 : w51.cell? ⟨gb315, 0, none⟩ = some (.int .i64 0) := (blk_cell BK315.out 0).trans rfl; have hcz52_1 : w51.cell? ⟨gb315, 1, none⟩ = some (.int .i64 0) := (blk_cell BK315.out 1).trans rfl; have hcz52_2 : w51.cell? ⟨gb315, 2, none⟩ = some (.int .i64 0) := (blk_cell BK315.out 2).trans rfl; have hcz52_3 : w51.cell? ⟨gb315, 3, none⟩ = some (.slice none 0 0) := (blk_cell BK315.out 3).trans rfl; have hfz52_0 := blk_frozen BK315.out 0; have hfz52_1 := blk_frozen BK315.out 1; have hfz52_2 := blk_frozen BK315.out 2; have hfz52_3 := blk_frozen BK315.out 3))
  refine bodyPost_ret (results_cell_row rfl _ _ gb315 30 #[.int .i64 t316, .int .i64 0, .int .i64 0, .slice none 0 0] (0, 0) _ rfl (by (with_reducible repeat (first | refine blk_drewN ?_ _ | refine blk_drew ?_ | refine blk_alloc ?_ _)); refine blk_put (cs := #[.int .i64 t316, .int .i64 0, .int .i64 0, .slice none 0 0]) ?_ 3 _ rfl; (with_reducible repeat (first | refine blk_drewN ?_ _ | refine blk_drew ?_ | refine blk_alloc ?_ _)); refine blk_put (cs := #[.int .i64 t316, .int .i64 0, .int .i64 0, .slice none 0 0]) ?_ 2 _ rfl; (with_reducible repeat (first | refine blk_drewN ?_ _ | refine blk_drew ?_ | refine blk_alloc ?_ _)); refine blk_put (cs := #[.int .i64 t316, .int .i64 0, .int .i64 0, .slice none 0 0]) ?_ 1 _ rfl; (with_reducible repeat (first | refine blk_drewN ?_ _ | refine blk_drew ?_ | refine blk_alloc ?_ _)); refine blk_put (cs := #[.int .i64 0, .int .i64 0, .int .i64 0, .slice none 0 0]) ?_ 0 _ rfl; (with_reducible repeat (first | refine blk_drewN ?_ _ | refine blk_drew ?_ | refine blk_alloc ?_ _)); exact BK315.out) Try.underlying30 rfl (by kernel_rfl)) rfl ?_
  exact ⟨_, by first | rfl | (simp [errW_none, errW_some] <;> rfl) | (simp [*, errW_none, errW_some] <;> rfl), by first | exact Kd.R_nil _ _ _ _ _ | exact Kd.N_nil _ _ _ _ _ | exact Kd.V_nil _ _ _ _ _ | exact Kd.Q_nil _ _ _ _ _ | exact Kd.S_nil _ _ _ _ _, by repeat (first | (with_reducible first | exact HB.out | apply below_alloc | apply pw_below_drewN | apply below_drew1 | refine below_set ?_ GE314.out | refine below_set ?_ GE315.out) | exact HB.out)⟩

/-! ### slices_Insert_impl_Cell: function 78 -/
-- PROOF --
-- NEEDS Derived.Test.@N@Li
-- NEEDS Derived.Shelf.Abstract
def slices_Insert_impl_Cell.enc (x : S49) : List Value := [.int .i64 x.f0, .int .i64 x.f1]
theorem slices_Insert_impl_Cell.one_ : ∀ x, ∀ u ∈ slices_Insert_impl_Cell.enc x, u.oneCell' = true := by intro x u hu; simp [slices_Insert_impl_Cell.enc] at hu; rcases hu with rfl | rfl <;> rfl
set_option maxHeartbeats 8000000 in
set_option maxRecDepth 100000 in
theorem slices_Insert_impl_Cell.ends (P0_ : Nat → Prop) (u9000_ : Value) (l0 : List (S49)) (a1 : Int) (A2 : Option Addr) (c2 : Nat) (l2 : List (S49)) (r : List (S49)) (w0 w : World) (hB : Below w0.heap.size w0 w) (ho0 : Kd.R k49 49 w w0.heap.size P0_ u9000_ l0) (hr2 : ∀ W_, Kept w W_ (fun k_ => P0_ k_) → Kd.C k49 W_ A2 l2.length l2) (hc2 : l2.length ≤ c2) (ha1_ : a1 = (l0.length : Int)) (hm_ : 0 < l2.length) (h : slices_Insert_impl_Cell.f0 l0 a1 l2 = some r) :
  Calls Try.prog 78 #[u9000_, .int .i64 a1, .slice A2 l2.length c2] w fun e w' => ∃ v0_ : Value, e = .returned (v0_) ∧ Kd.R k49 49 w' w0.heap.size (fun k_ => (P0_ k_ ∨ w.heap.size ≤ k_)) v0_ r ∧ Below w0.heap.size w0 w' ∧ Kept w w' (fun k_ => P0_ k_) := by
 have HO0 := Aside0.mk (show Kd.R k49 49 w w0.heap.size (fun k_ => (P0_ k_ ∨ w.heap.size ≤ k_)) u9000_ l0 from Kd.R_mono ho0 (fun k_ hk => (.inl hk)))
 have HR2 := Aside0.mk hr2
 have HC2 := Aside0.mk hc2
 clear hr2 hc2
 have HK := Aside0.mk (Kept.refl w (fun k_ => P0_ k_))
 have HW0 := Aside0.mk hB.size
 have HB := Aside0.mk hB
 clear hB
 have H : (if l0.length + l2.length < 8796093022208 then (some (l0 ++ l2)) else (none)) = some r := h
 clear h
 by_cases c4 : l0.length + l2.length < 8796093022208
 ·rw [if_pos c4] at H
  have LMc4 := Aside0.mk c4
  clear c4
  obtain ⟨y327, hy327⟩ : ∃ y_ : List (S49), y_ = (l0 ++ l2) := ⟨_, rfl⟩
  replace H : (some y327) = some r := by first | (rw [hy327]; with_reducible exact H) | (have H2_ := (Option.bind_some _ _).symm.trans H; rw [hy327]; with_reducible exact H2_) | (have H2_ := (Option.bind_some _ _).symm.trans H; with_reducible exact H2_) | with_reducible exact H | (rw [hy327]; exact H) | exact H
  have Ny327 := Aside0.mk hy327
  clear hy327
  obtain rfl := Option.some.inj H
  subst ha1_
  have hz1_ : ¬ ((l2.length : Int) = 0) := by omega
  have hz2_ : (0 : Int) ≤ (l0.length : Int) := by omega
  obtain ⟨Au_, cu_, eu_, hcu_, _⟩ := Kd.R_reads HO0.out
  subst eu_
  have hq_ : l0.length ≤ cu_ := hcu_
  go_enter Try.func78, Try.ntmps78
  go_wp2_with (first | ((with_reducible refine gate_builtin (b := .append) (xs := #[.tmp 23, .tmp 24]) rfl ?_); at_builtin; refine Kd.R_append_rows k49 (w0 := w0) w0.heap.size rfl (.tmp 23) (.tmp 24) 26 49 (.agg #[(.int .i64 0), (.int .i64 0)]) 16 rfl Try.underlying26 info49 rfl (by decide) (by omega) (.slice Au_ l0.length cu_) l0 l2 _ _ _ (fun k_ => (P0_ k_ ∨ w.heap.size ≤ k_)) (fun _ => False) rfl rfl ?aO ?aR (fun _ _ h => h) (fun _ h => h.elim) ?aF ?aB ?aS ?aL ?_; (case aR => exact Kd.C_kept_now HR2.out (by repeat (first | (with_reducible first | exact HK.out | apply Kept.alloc | apply Kept.drewN | apply Kept.drew) | exact HK.out))); (case aB => exact (by repeat (first | (with_reducible first | exact HB.out | apply below_alloc | apply pw_below_drewN | apply below_drew1) | exact HB.out))); (case aF => exact (fun k_ hk => (.inr (Nat.le_trans (by first | exact HK.out.1 | exact (show Kept w _ (fun k_ => P0_ k_) from by repeat (first | (with_reducible first | exact HK.out | apply Kept.alloc | apply Kept.drewN | apply Kept.drew) | exact HK.out)).1) hk)))); (case aO => exact (by (with_reducible repeat (first | apply Kd.R_alloc | apply Kd.R_drewN | apply Kd.R_drew)); exact HO0.out)); (case aS => exact (below_size (by repeat (first | (with_reducible first | exact HB.out | apply below_alloc | apply pw_below_drewN | apply below_drew1) | exact HB.out)))); (case aL => have := LMc4.out; omega); intro v328 w5 ho hb hg hat; rw [← Ny327.out] at ho; have n0_ := Aside0.mk (hb); have n1_ := Aside0.mk (Kept.of_grown (S := (fun k_ => P0_ k_)) hg (by repeat (first | (with_reducible first | exact HK.out | apply Kept.alloc | apply Kept.drewN | apply Kept.drew) | exact HK.out)) (fun k_ e_ => (HO0.out.1 k_ e_))); have n2_ := Aside0.mk (ho); clear HB; clear HK; clear HO0; have HB := n0_; have HK := n1_; have HO329 := n2_; clear n0_ n1_ n2_; clear ho hb hg hat))
  all_goals go_ret
  all_goals exact ⟨_, by first | rfl | (simp [errW_none, errW_some] <;> rfl) | (simp [*, errW_none, errW_some] <;> rfl), by (with_reducible repeat (first | apply Kd.R_alloc | apply Kd.R_drewN | apply Kd.R_drew)); exact HO329.out, by repeat (first | (with_reducible first | exact HB.out | apply below_alloc | apply pw_below_drewN | apply below_drew1) | exact HB.out), by repeat (first | (with_reducible first | exact HK.out | apply Kept.alloc | apply Kept.drewN | apply Kept.drew) | exact HK.out)⟩
 ·rw [if_neg c4] at H
  exact absurd H (by simp)

open Go.Proofs.Ytpdfpbnlablhoaa.Li
set_option maxHeartbeats 8000000 in
set_option maxRecDepth 100000 in
theorem slices_Insert_impl_Cell.shift (g cap : Nat) (sp : List Value) (i : Nat) (ad : Addr) (c2 : Nat) (l0 l2 : List S49) (w : World) (hg : w.heap[g]? = some (.cells (l0.flatMap slices_Insert_impl_Cell.enc ++ sp).toArray 49 (0, 0))) (hn : l0.length ≤ cap) (hm : cap ≤ maxLen)
  (hs : (l0.flatMap slices_Insert_impl_Cell.enc ++ sp).length = cap * 2) (hi : i < l0.length) (hroom : l0.length + l2.length ≤ cap) (hl2 : 0 < l2.length) (hne : ad.block ≠ g)
  (hv : ∀ j v, (l2.flatMap slices_Insert_impl_Cell.enc)[j]? = some v → w.cell? (ad.add j) = some v) (tA : TypeId) (kA : Nat) (hsa : w.shape? ad.block = some (tA, kA)) (hkA : kA ≠ 0) :
  Calls Try.prog 78 #[.slice (some ⟨g, 0, none⟩) l0.length cap, .int .i64 i, .slice (some ad) l2.length c2] w fun e w' =>
   e = .returned (.slice (some ⟨g, 0, none⟩) (l0.length + l2.length) cap) ∧ ∃ (N : Array Value) (q : Nat) (sp' : List Value), w' = (w.drewN q).setRow g N ∧ N = ((l0.take i ++ (l2 ++ l0.drop i)).flatMap slices_Insert_impl_Cell.enc ++ sp').toArray ∧ N.size = cap * 2 := by
 have hsz : ∀ w, (Go.sizeOf 49).run Try.prog w = .ok 2 w := by
  intro w
  obtain ⟨i0, hi0, hz0⟩ := info_parts info49
  simp [Go.sizeOf, typeInfo, hi0, hz0]
 have hov : ∀ lb cb, (callFunc 88 #[.slice (some ad) l2.length c2, .slice (some ⟨g, (i + l2.length) * 2, none⟩) lb cb]).run Try.prog w = .ok (.value (.bool false)) w := by
  intro lb cb
  rw [run_callFunc_extern Try.func88 (by kernel_rfl) (by kernel_rfl) (by kernel_rfl) (e := Extern.SlicesOverlaps.overlaps #[26, 26] #[4]) (by kernel_rfl),
   run_overlaps_own w 26 4 49 Try.underlying26 2 hsz ad ⟨g, (i + l2.length) * 2, none⟩ l2.length c2 lb cb hne tA kA hsa hkA _ 49 hg (by rw [List.size_toArray, hs]; omega)]
  rfl
 obtain ⟨X2, hX2⟩ : ∃ X2, X2 = (l0.drop i).flatMap slices_Insert_impl_Cell.enc := ⟨_, rfl⟩
 obtain ⟨V, hV⟩ : ∃ V, V = l2.flatMap slices_Insert_impl_Cell.enc := ⟨_, rfl⟩
 obtain ⟨C0, hC0⟩ : ∃ C0, C0 = (l0.flatMap slices_Insert_impl_Cell.enc ++ sp).toArray := ⟨_, rfl⟩
 obtain ⟨N1, hN1⟩ : ∃ N1, N1 = (C0.toList.take ((i + l2.length) * 2) ++ X2 ++ C0.toList.drop ((i + l2.length) * 2 + X2.length)).toArray := ⟨_, rfl⟩
 obtain ⟨N2, hN2⟩ : ∃ N2, N2 = (N1.toList.take (i * 2) ++ V ++ N1.toList.drop (i * 2 + V.length)).toArray := ⟨_, rfl⟩
 have hlE : ∀ x, (slices_Insert_impl_Cell.enc x).length = 2 := fun _ => rfl
 have h1E : ∀ x, ∀ u ∈ slices_Insert_impl_Cell.enc x, u.oneCell' = true := slices_Insert_impl_Cell.one_
 have lX2 : X2.length = (l0.length - i) * 2 := by rw [hX2, flat_len hlE, List.length_drop]
 have lV : V.length = l2.length * 2 := by rw [hV, flat_len hlE]
 have lC0 : C0.size = cap * 2 := by rw [hC0]; simpa using hs
 have lC0' : C0.toList.length = cap * 2 := by rw [hC0]; simpa using hs
 have oX2 : ∀ v ∈ X2, v.oneCell' = true := by rw [hX2]; exact one_flat h1E _
 have oV : ∀ v ∈ V, v.oneCell' = true := by rw [hV]; exact one_flat h1E _
 have hX : l0.flatMap slices_Insert_impl_Cell.enc = (l0.take i).flatMap slices_Insert_impl_Cell.enc ++ X2 := by rw [hX2, ← List.flatMap_append, List.take_append_drop]
 have lX1 : ((l0.take i).flatMap slices_Insert_impl_Cell.enc).length = i * 2 := by rw [flat_len hlE, List.length_take]; omega
 rw [← hC0] at hg
 have sX2 : ∀ j v, X2[j]? = some v → w.cell? ⟨g, i * 2 + j, none⟩ = some v := by
  intro j v hj
  have hjl := (List.getElem?_eq_some_iff.1 hj).1
  simp only [World.cell?, hg]
  rw [hC0, hX]
  simp only [List.getElem?_toArray]
  rw [List.append_assoc, List.getElem?_append_right (by omega), lX1, show i * 2 + j - i * 2 = j by omega, List.getElem?_append_left hjl]
  exact hj
 have lN1 : N1.size = cap * 2 := by rw [hN1]; simp [lC0, lX2]; omega
 have lN2 : N2.size = cap * 2 := by rw [hN2]; simp [lN1, lV]; omega
 have eN2 : ∃ sp', N2 = ((l0.take i ++ (l2 ++ l0.drop i)).flatMap slices_Insert_impl_Cell.enc ++ sp').toArray := by
  refine ⟨C0.toList.drop ((i + l2.length) * 2 + X2.length), ?_⟩
  rw [hN2, hN1, hV, List.flatMap_append, List.flatMap_append, ← hX2, ← hV]
  congr 1
  have e1 : (C0.toList.take ((i + l2.length) * 2) ++ X2 ++ C0.toList.drop ((i + l2.length) * 2 + X2.length)).take (i * 2) = (l0.take i).flatMap slices_Insert_impl_Cell.enc := by
   rw [List.append_assoc, List.take_append_of_le_length (by rw [List.length_take, lC0']; omega), List.take_take, Nat.min_eq_left (by omega), hC0, hX]
   simp only [List.append_assoc]
   rw [List.take_append_of_le_length (by omega), ← lX1, List.take_length]
  have e2 : (C0.toList.take ((i + l2.length) * 2) ++ X2 ++ C0.toList.drop ((i + l2.length) * 2 + X2.length)).drop (i * 2 + V.length) = X2 ++ C0.toList.drop ((i + l2.length) * 2 + X2.length) := by
   rw [List.append_assoc, List.drop_append, List.drop_of_length_le (by rw [List.length_take, lC0', lV]; omega), List.length_take, lC0', lV, show i * 2 + l2.length * 2 - min ((i + l2.length) * 2) (cap * 2) = 0 by omega]
   simp
  simp only [List.toList_toArray]
  rw [e1, e2]
  simp [List.append_assoc]
 have hsz2 : (Try.prog.info? 49).map (·.size) = some 2 := by
  obtain ⟨i0, hi0, h0, h1, h2⟩ := info_parts info49
  rw [hi0]; simp [h1]
 have hgg : ∀ W : World, W.heap = w.heap → (W.setRow g N1).heap[g]? = some (.cells N1 49 (0, 0)) := fun W hW => setRow_heap W g C0 N1 49 (0, 0) (by rw [hW]; exact hg)
 have HN2 := Aside0.mk hN2
 have HN1 := Aside0.mk hN1
 have HS := Aside0.mk hs
 have HX2 := Aside0.mk sX2
 have HV := Aside0.mk (show ∀ j v, V[j]? = some v → w.cell? (ad.add j) = some v by rw [hV]; exact hv)
 have HE := Aside0.mk eN2
 have HL := Aside0.mk (And.intro lX2 (And.intro lV (And.intro lC0 lN1)))
 clear hX hN1 hN2 hC0 hV hX2 hs sX2 hv eN2 lX1 lX2 lV lC0 lC0' lN1
 have hc63 : cap ≤ 9223372036854775807 := by unfold maxLen at hm; omega
 have hz1 : ¬ ((l2.length : Int) = 0) := by omega
 have hz2 : ¬ ((i : Int) = (l0.length : Int)) := by omega
 have hw1 : IntKind.i64.wrap ((i : Int) + (l2.length : Int)) = (i : Int) + (l2.length : Int) := by rw [IntKind.wrap_i64]; omega
 have hw2 : IntKind.i64.wrap ((l0.length : Int) + (l2.length : Int)) = (l0.length : Int) + (l2.length : Int) := by rw [IntKind.wrap_i64]; omega
 have hb1 : (0 : Int) ≤ (i : Int) + (l2.length : Int) := by omega
 have hin : i ≤ l0.length := by omega
 have htn : ((i : Int) + (l2.length : Int)).toNat = i + l2.length := by omega
 have htn2 : ((l0.length : Int) + (l2.length : Int)).toNat = l0.length + l2.length := by omega
 have hb2 : ¬ (cap = i + l2.length) := by omega
 have hb3 : (i : Int) ≤ (l0.length : Int) + (l2.length : Int) := by omega
 have hb4 : ¬ (cap = i) := by omega
 have hb5 : ¬ ((cap : Int) < (l0.length : Int) + (l2.length : Int)) := by omega
 have mixed : Try.prog.follows Departure.mixedOrders = true := by kernel_rfl

 go_enter Try.func78, Try.ntmps78
 go_wp2_with (simp only [hov])
 go_region_law_o (refine step_copyK (w := w.drew) rfl _ _ 26 26 rfl 49 2 Try.underlying26 hsz2 g ((i + l2.length) * 2) (l0.length + l2.length - (i + l2.length)) (cap - (i + l2.length)) ⟨g, i * 2, none⟩ (l0.length + l2.length - i) (cap - i) (by simp [Act.eval, Act.put]) (by simp [Act.eval, Act.put]) C0 49 hg X2 (by rw [HL.out.1]; simp only [Nat.min_def]; split <;> omega) (fun j v hj => by rw [Addr.add_lit]; exact HX2.out j v hj) (by have := HL.out; rw [this.2.2.1, this.1]; omega) oX2 N1 HN1.out ?_)
 go_wp2_with ((with_reducible refine gate_builtin (b := .copy) (xs := #[.tmp 80, .tmp 81]) rfl ?_); refine wpList_copyK rfl _ _ 26 26 rfl 49 2 Try.underlying26 hsz2 g (i * 2) (l0.length + l2.length - i) (cap - i) ad l2.length c2 rfl rfl N1 49 (hgg _ rfl) V (by rw [HL.out.2.1]; simp only [Nat.min_def]; split <;> omega) (fun j v hj => by rw [cell_setRow_other _ _ _ _ (by unfold Addr.add; split <;> exact hne)]; exact HV.out j v hj) (by have := HL.out; rw [this.2.2.2, this.2.1]; omega) oV N2 HN2.out ?_)
 go_ret
 refine ⟨rfl, N2, 1, ?_⟩
 obtain ⟨sp', he⟩ := HE.out
 exact ⟨sp', by rw [setRow_setRow]; rfl, he, lN2⟩
set_option maxHeartbeats 8000000 in
set_option maxRecDepth 100000 in
theorem slices_Insert_impl_Cell.grow (g cap : Nat) (sp : List Value) (i : Nat) (ad : Addr) (c2 : Nat) (l0 l2 : List S49) (w : World) (hg : w.heap[g]? = some (.cells (l0.flatMap slices_Insert_impl_Cell.enc ++ sp).toArray 49 (0, 0))) (hn : l0.length ≤ cap) (hm : cap ≤ maxLen)
  (hs : (l0.flatMap slices_Insert_impl_Cell.enc ++ sp).length = cap * 2) (hi : i < l0.length) (hroom : cap < l0.length + l2.length) (hbig : (l0.length + l2.length) * 16 ≤ 140737488355328) (hl2 : 0 < l2.length) (hvb : ad.block < w.heap.size)
  (hv : ∀ j v, (l2.flatMap slices_Insert_impl_Cell.enc)[j]? = some v → w.cell? (ad.add j) = some v) :
  Calls Try.prog 78 #[.slice (some ⟨g, 0, none⟩) l0.length cap, .int .i64 i, .slice (some ad) l2.length c2] w fun e w' =>
   ∃ (G : Nat) (R N : Array Value) (q : Nat) (sp' : List Value), e = .returned (.slice (some ⟨w.heap.size, 0, none⟩) (l0.length + l2.length) G) ∧ w' = ((w.drewN q).alloc (.cells R 49)).setRow w.heap.size N ∧
    N = ((l0.take i ++ (l2 ++ l0.drop i)).flatMap slices_Insert_impl_Cell.enc ++ sp').toArray ∧ N.size = G * 2 ∧ l0.length + l2.length ≤ G ∧ G ≤ maxLen := by
 obtain ⟨i0, hi0, hz0, hzs, hzb⟩ := info_parts info49
 have hc63 : cap ≤ 9223372036854775807 := by unfold maxLen at hm; omega
 obtain ⟨X1, hX1⟩ : ∃ X1, X1 = (l0.take i).flatMap slices_Insert_impl_Cell.enc := ⟨_, rfl⟩
 obtain ⟨X2, hX2⟩ : ∃ X2, X2 = (l0.drop i).flatMap slices_Insert_impl_Cell.enc := ⟨_, rfl⟩
 obtain ⟨V, hV⟩ : ∃ V, V = l2.flatMap slices_Insert_impl_Cell.enc := ⟨_, rfl⟩
 obtain ⟨C0, hC0⟩ : ∃ C0, C0 = (l0.flatMap slices_Insert_impl_Cell.enc ++ sp).toArray := ⟨_, rfl⟩
 obtain ⟨G, hG⟩ : ∃ G, G = grownCap w (l0.length + l2.length) cap 49 := ⟨_, rfl⟩
 obtain ⟨z, hz⟩ : ∃ z : Value, z = (.agg #[(.int .i64 0), (.int .i64 0)]) := ⟨_, rfl⟩
 obtain ⟨ROW, hROW⟩ : ∃ ROW : Array Value, ROW = X1.toArray ++ Builtin.zeroCells z.cells (l0.length + l2.length - i) ++ Builtin.zeroCells z.cells (G - (l0.length + l2.length)) := ⟨_, rfl⟩
 obtain ⟨NA, hNA⟩ : ∃ NA, NA = (ROW.toList.take (i * 2) ++ V ++ ROW.toList.drop (i * 2 + V.length)).toArray := ⟨_, rfl⟩
 obtain ⟨NB, hNB⟩ : ∃ NB, NB = (NA.toList.take ((i + l2.length) * 2) ++ X2 ++ NA.toList.drop ((i + l2.length) * 2 + X2.length)).toArray := ⟨_, rfl⟩
 have hlE : ∀ x, (slices_Insert_impl_Cell.enc x).length = 2 := fun _ => rfl
 have h1E : ∀ x, ∀ u ∈ slices_Insert_impl_Cell.enc x, u.oneCell' = true := slices_Insert_impl_Cell.one_
 have lX1 : X1.length = i * 2 := by rw [hX1, flat_len hlE, List.length_take]; omega
 have lX2 : X2.length = (l0.length - i) * 2 := by rw [hX2, flat_len hlE, List.length_drop]
 have lV : V.length = l2.length * 2 := by rw [hV, flat_len hlE]
 have hGn : l0.length + l2.length ≤ G := by rw [hG]; exact grownCap_ge w _ _ _
 have hGm : G ≤ maxLen := by rw [hG]; exact grownCap_le_maxLen w _ _ _ (by unfold maxLen; omega)
 have hG63 : G ≤ 9223372036854775807 := by unfold maxLen at hGm; omega
 have lR : ROW.size = G * 2 := by rw [hROW, hz]; simp [Builtin.zeroCells, Value.cells, lX1]; omega
 have lR' : ROW.toList.length = G * 2 := by rw [Array.length_toList, lR]
 have lNA : NA.size = G * 2 := by rw [hNA]; simp [lR, lV]; omega
 have lNA' : NA.toList.length = G * 2 := by rw [Array.length_toList, lNA]
 have lNB : NB.size = G * 2 := by rw [hNB]; simp [lNA, lX2]; omega
 have oX2 : ∀ v ∈ X2, v.oneCell' = true := by rw [hX2]; exact one_flat h1E _
 have oV : ∀ v ∈ V, v.oneCell' = true := by rw [hV]; exact one_flat h1E _
 have hX : l0.flatMap slices_Insert_impl_Cell.enc = X1 ++ X2 := by rw [hX1, hX2, ← List.flatMap_append, List.take_append_drop]
 rw [← hC0] at hg
 have sX : ∀ j v, (X1 ++ X2)[j]? = some v → w.cell? ⟨g, j, none⟩ = some v := by
  intro j v hj
  have hjl := (List.getElem?_eq_some_iff.1 hj).1
  simp only [World.cell?, hg]
  rw [hC0, hX]
  simp only [List.getElem?_toArray]
  rw [List.getElem?_append_left hjl]
  exact hj
 have hgb : g < w.heap.size := (Array.getElem?_eq_some_iff.1 hg).1
 have eNB : ∃ sp', NB = ((l0.take i ++ (l2 ++ l0.drop i)).flatMap slices_Insert_impl_Cell.enc ++ sp').toArray := by
  refine ⟨NA.toList.drop ((i + l2.length) * 2 + X2.length), ?_⟩
  rw [hNB, List.flatMap_append, List.flatMap_append, ← hX2, ← hV, ← hX1]
  congr 1
  have e1 : NA.toList.take ((i + l2.length) * 2) = X1 ++ V := by
   rw [hNA]
   simp only [List.toList_toArray]
   have e0 : ROW.toList.take (i * 2) = X1 := by
    rw [hROW]
    simp only [Array.toList_append, List.append_assoc]
    rw [List.take_append_of_le_length (by omega), ← lX1, List.take_length]
   rw [e0, List.take_append_of_le_length (by rw [List.length_append]; omega), List.take_of_length_le (by rw [List.length_append]; omega)]
  rw [e1]
  simp [List.append_assoc]
 have hsz2 : (Try.prog.info? 49).map (·.size) = some 2 := by rw [hi0]; simp [hzs]
 have hik : i + (l0.length + l2.length - i) = l0.length + l2.length := by omega
 have hkk : (l0.length : Int) + (l2.length : Int) - (i : Int) = ((l0.length + l2.length - i : Nat) : Int) := by omega
 have hold : (Builtin.firstCells i0.size i (.slice (some ⟨g, 0, none⟩) i cap)).run Try.prog w.drew = .ok X1.toArray w.drew := by
  rw [hzs]
  exact run_firstCells_some w.drew 2 i ⟨g, 0, none⟩ i cap X1 lX1 (fun j v hj => by
   rw [Addr.add_lit, Nat.zero_add]
   exact sX j v (by rw [List.getElem?_append_left (List.getElem?_eq_some_iff.1 hj).1]; exact hj))
 have hrz : ∀ ty, (Builtin.append_ #[26, 3] ty #[.slice (some ⟨g, 0, none⟩) i cap, .int .i64 ((l0.length : Int) + (l2.length : Int) - (i : Int))]).run Try.prog w =
   .ok (.slice (some ⟨w.heap.size, 0, none⟩) (l0.length + l2.length) G) (w.drew.alloc (.cells ROW 49)) := fun ty => by
  have h := Lib.run_append_grow_zeros w 26 3 ty 49 i0 z .i64 .i64 Try.underlying26 Try.underlying3 hi0 (by rw [hz0, hz]) (some ⟨g, 0, none⟩) i cap X1 hold (l0.length + l2.length - i) (by omega) (by omega) (by omega) (by omega) (by rw [hzb]; omega) (by rw [hzb, hik]; exact growslice_fits hroom hbig)
  rw [hik, ← hG, ← hROW] at h
  rw [hkk]
  exact h
 have hgA : ∀ W : World, W.heap = (w.drew.alloc (.cells ROW 49)).heap → W.heap[w.heap.size]? = some (.cells ROW 49 (0, 0)) := fun W hW => by rw [hW]; exact heap_alloc_new w.drew _
 have hgB : ∀ W : World, W.heap = ((w.drew.alloc (.cells ROW 49)).setRow w.heap.size NA).heap → W.heap[w.heap.size]? = some (.cells NA 49 (0, 0)) := fun W hW => by rw [hW]; exact setRow_heap _ _ ROW NA 49 (0, 0) (hgA _ rfl)
 have hoA : ∀ W : World, W.heap = (w.drew.alloc (.cells ROW 49)).heap → ∀ a : Addr, a.block < w.heap.size → W.cell? a = w.cell? a := fun W hW a ha => by
  have : W.heap[a.block]? = w.heap[a.block]? := by rw [hW]; simp [World.alloc, Array.getElem?_push, Nat.ne_of_lt ha]; rfl
  simp [World.cell?, this]
 have hoB : ∀ W : World, W.heap = ((w.drew.alloc (.cells ROW 49)).setRow w.heap.size NA).heap → ∀ a : Addr, a.block < w.heap.size → W.cell? a = w.cell? a := fun W hW a ha => by
  have : W.heap[a.block]? = w.heap[a.block]? := by rw [hW, setRow_other _ _ _ _ (Nat.ne_of_lt ha)]; simp [World.alloc, Array.getElem?_push, Nat.ne_of_lt ha]; rfl
  simp [World.cell?, this]
 have hvj : ∀ j, (ad.add j).block = ad.block := fun j => by unfold Addr.add; split <;> rfl
 have sA : ∀ W : World, W.heap = (w.drew.alloc (.cells ROW 49)).heap → ∀ j v, V[j]? = some v → W.cell? (ad.add j) = some v := fun W hW j v hj => by
  rw [hoA W hW _ (by rw [hvj]; exact hvb)]
  rw [hV] at hj
  exact hv j v hj
 have sB : ∀ W : World, W.heap = ((w.drew.alloc (.cells ROW 49)).setRow w.heap.size NA).heap → ∀ j v, X2[j]? = some v → W.cell? ((⟨g, i * 2, none⟩ : Addr).add j) = some v := fun W hW j v hj => by
  rw [Addr.add_lit, hoB W hW _ hgb]
  exact sX _ v (by rw [List.getElem?_append_right (by omega), lX1, show i * 2 + j - i * 2 = j by omega]; exact hj)
 have hz1 : ¬ ((l2.length : Int) = 0) := by omega
 have hz2 : ¬ ((i : Int) = (l0.length : Int)) := by omega
 have hz3 : (cap : Int) < (l0.length : Int) + (l2.length : Int) := by omega
 have hGi : ¬ (G = i) := by omega
 have hGim : ¬ (G = i + l2.length) := by omega
 have hci : ¬ (cap = i) := by omega
 have hw1 : IntKind.i64.wrap ((i : Int) + (l2.length : Int)) = (i : Int) + (l2.length : Int) := by rw [IntKind.wrap_i64]; omega
 have hw2 : IntKind.i64.wrap ((l0.length : Int) + (l2.length : Int)) = (l0.length : Int) + (l2.length : Int) := by rw [IntKind.wrap_i64]; omega
 have hb1 : (0 : Int) ≤ (i : Int) + (l2.length : Int) := by omega
 have hin : i ≤ l0.length := by omega
 have htn : ((i : Int) + (l2.length : Int)).toNat = i + l2.length := by omega
 have hb3 : (i : Int) ≤ (l0.length : Int) := by omega
 have mixed : Try.prog.follows Departure.mixedOrders = true := by kernel_rfl
 have HL := Aside0.mk (And.intro lX2 (And.intro lV (And.intro lR lNA)))
 have HLB := Aside0.mk (And.intro lNB (And.intro hGn hGm))
 have HRZ := Aside0.mk hrz
 have HGA := Aside0.mk hgA
 have HGB := Aside0.mk hgB
 have HSA := Aside0.mk sA
 have HSB := Aside0.mk sB
 have HNA := Aside0.mk hNA
 have HNB := Aside0.mk hNB
 have HE := Aside0.mk eNB
 clear hX hNA hNB hC0 hV hX1 hX2 hs hv eNB lX1 lX2 lV lR lR' lNA lNA' lNB hgA hgB sA sB sX hoA hoB hold hrz hkk hik hz hROW hG hg hz0 hzs hzb hvj hGm
 go_enter Try.func78, Try.ntmps78
 go_wp2_with (first
  | ((with_reducible refine gate_builtin (b := .append) (xs := #[.tmp 34, .tmp 39]) rfl ?_); refine Lib.wpList_append_run _ rfl _ _ _ _ rfl _ _ rfl rfl _ _ (HRZ.out _) ?_)
  | ((with_reducible refine gate_builtin (b := .copy) (xs := #[.tmp 43, .tmp 44]) rfl ?_); refine wpList_copyK rfl _ _ 26 26 rfl 49 2 Try.underlying26 hsz2 w.heap.size (i * 2) (l0.length + l2.length - i) (G - i) ad l2.length c2 rfl rfl ROW 49 (HGA.out _ rfl) V (by rw [HL.out.2.1]; simp only [Nat.min_def]; split <;> omega) (HSA.out _ rfl) (by have := HL.out; rw [this.2.2.1, this.2.1]; omega) oV NA HNA.out ?_))
 go_region_law_o (refine step_copyK rfl _ _ 26 26 rfl 49 2 Try.underlying26 hsz2 w.heap.size ((i + l2.length) * 2) (l0.length + l2.length - (i + l2.length)) (G - (i + l2.length)) ⟨g, i * 2, none⟩ (l0.length - i) (cap - i) (by simp [Act.eval, Act.put]) (by simp [Act.eval, Act.put]) NA 49 (HGB.out _ rfl) X2 (by rw [HL.out.1]; simp only [Nat.min_def]; split <;> omega) (HSB.out _ rfl) (by have := HL.out; rw [this.2.2.2, this.1]; omega) oX2 NB HNB.out ?_)
 go_wp2
 go_ret
 obtain ⟨sp', he⟩ := HE.out
 refine ⟨G, ROW, NB, 2, sp', rfl, ?_, he, HLB.out.1, HLB.out.2.1, HLB.out.2.2⟩
 exact setRow_setRow ((w.drewN 2).alloc (.cells ROW 49)) w.heap.size NA NB
set_option maxHeartbeats 4000000 in
theorem slices_Insert_impl_Cell.calls (P0_ : Nat → Prop) (u9000_ : Value) (l0 : List (S49)) (a1 : Int) (A2 : Option Addr) (c2 : Nat) (l2 : List (S49)) (r : List (S49)) (w0 w : World) (hB : Below w0.heap.size w0 w) (ho0 : Kd.R k49 49 w w0.heap.size P0_ u9000_ l0) (hr2 : ∀ W_, Kept w W_ (fun k_ => P0_ k_) → Kd.C k49 W_ A2 l2.length l2) (hc2 : l2.length ≤ c2) (h : slices_Insert_impl_Cell.f l0 a1 l2 = some r) :
 Calls Try.prog 78 #[u9000_, .int .i64 a1, .slice A2 l2.length c2] w fun e w' => ∃ v0_ : Value, e = .returned (v0_) ∧ Kd.R k49 49 w' w0.heap.size (fun k_ => (P0_ k_ ∨ w.heap.size ≤ k_)) v0_ r ∧ Below w0.heap.size w0 w' ∧ Kept w w' (fun k_ => P0_ k_) := by
 unfold slices_Insert_impl_Cell.f at h
 by_cases h1 : 0 ≤ a1
 case neg => rw [if_neg h1] at h; cases h
 by_cases h2 : a1 ≤ (l0.length : Int)
 case neg => rw [if_pos h1, if_neg h2] at h; cases h
 by_cases h3 : 0 < l2.length
 case neg => rw [if_pos h1, if_pos h2, if_neg h3] at h; cases h
 by_cases h4 : l0.length + l2.length < 8796093022208
 case neg => rw [if_pos h1, if_pos h2, if_pos h3, if_neg h4] at h; cases h
 rw [if_pos h1, if_pos h2, if_pos h3, if_pos h4] at h
 obtain ⟨i, rfl⟩ : ∃ i : Nat, a1 = (i : Int) := ⟨a1.toNat, by omega⟩
 simp only [Int.toNat_natCast] at h
 by_cases hi : i = l0.length
 ·subst hi
  refine slices_Insert_impl_Cell.ends P0_ u9000_ l0 (l0.length : Int) A2 c2 l2 r w0 w hB ho0 hr2 hc2 rfl h3 ?_
  rw [← h]
  unfold slices_Insert_impl_Cell.f0
  rw [if_pos h4]
  simp
 ·have hlt : i < l0.length := by omega
  obtain rfl := Option.some.inj h
  obtain ⟨ad, rfl, hv⟩ := reads_open (enc := slices_Insert_impl_Cell.enc) (fun w x c hk => k49_open hk) (fun _ => rfl) (hr2 w (Kept.refl w _)) h3
  have hlen : (l0.take i ++ (l2 ++ l0.drop i)).length = l0.length + l2.length := by simp; omega
  obtain ⟨x, t, rfl⟩ : ∃ x t, l2 = x :: t := by cases l2 with | nil => simp at h3 | cons x t => exact ⟨x, t, rfl⟩
  have hv0 := hv 0 _ rfl
  rw [Addr.add_zero'] at hv0
  rcases own_open (enc := slices_Insert_impl_Cell.enc) (fun w base ok x c hk => k49_openM hk) ho0 with ⟨rfl, rfl⟩ | ⟨g, cap, sp, rfl, hb, hok, hg, hn, hm, hs⟩
  ·simp at hlt
  ·have hne : ad.block ≠ g := by
    intro e
    obtain ⟨ad2, e2, hv2⟩ := reads_open (enc := slices_Insert_impl_Cell.enc) (fun w x c hk => k49_open hk) (fun _ => rfl) (hr2 _ ((Kept.refl w (fun k_ => P0_ k_)).setCell (p := ad) (.inl (by rw [e]; exact hok)) (.slice none 0 0))) h3
    obtain rfl := Option.some.inj e2
    have q := hv2 0 _ rfl
    rw [Addr.add_zero', World.cell?_setCell_same _ _ _ hv0] at q
    cases q
   have hvb : ad.block < w.heap.size := World.block_lt_of_cell? w ad hv0
   obtain ⟨tA, kA, hsa, hkA⟩ := shape_of_cell hv0
   by_cases hroom : l0.length + (x :: t).length ≤ cap
   ·refine (slices_Insert_impl_Cell.shift g cap sp i ad c2 l0 (x :: t) w hg hn hm hs hlt hroom h3 hne hv tA kA hsa hkA).mono ?_
    rintro e w' ⟨rfl, N, q, sp', rfl, hN, hNs⟩
    have hg' : ((w.drewN q).setRow g N).heap[g]? = some (.cells N 49 (0, 0)) := setRow_heap _ _ _ _ _ _ hg
    refine ⟨_, rfl, ?_, below_setRow (pw_below_drewN hB _) hb _, kept_setRow ((Kept.refl w _).drewN q) (.inl hok) _⟩
    rw [← hlen]
    exact own_shut (enc := slices_Insert_impl_Cell.enc) (sp := sp') (fun w base ok x => k49_mkM w base ok x) (fun _ => rfl) hb (.inl hok) (by rw [hg', hN]) (by rw [hlen]; exact hroom) hm (by rw [hN, List.size_toArray] at hNs; exact hNs)
   ·refine (slices_Insert_impl_Cell.grow g cap sp i ad c2 l0 (x :: t) w hg hn hm hs hlt (by omega) (by omega) h3 hvb hv).mono ?_
    rintro e w' ⟨G, R, N, q, sp', rfl, rfl, hN, hNs, hG, hGm⟩
    have hg' : (((w.drewN q).alloc (.cells R 49)).setRow w.heap.size N).heap[w.heap.size]? = some (.cells N 49 (0, 0)) := setRow_heap _ _ R _ _ _ (heap_alloc_new (w.drewN q) _)
    refine ⟨_, rfl, ?_, below_setRow ((pw_below_drewN hB _).alloc hB.size _) hB.size _, kept_setRow (((Kept.refl w _).drewN q).alloc _) (.inr (Nat.le_refl _)) _⟩
    rw [← hlen]
    exact own_shut (enc := slices_Insert_impl_Cell.enc) (sp := sp') (fun w base ok x => k49_mkM w base ok x) (fun _ => rfl) hB.size (.inr (Nat.le_refl _)) (by rw [hg', hN]) (by rw [hlen]; exact hG) hGm (by rw [hN, List.size_toArray] at hNs; exact hNs)

/-! ### impl_withCell: function 51 -/
set_option maxHeartbeats 8000000 in
set_option maxRecDepth 100000 in
theorem impl_withCell.calls (A0 : Option Addr) (c0 : Nat) (l0 : List (S49)) (a1 : Int) (a2 : Int) (r : List (S49)) (w : World) (hr0 : Kd.C k49 w A0 l0.length l0) (hc0 : l0.length ≤ c0) (h : impl_withCell.f l0 a1 a2 = some r) :
  Calls Try.prog 51 #[.slice A0 l0.length c0, .int .i64 a1, .int .i64 a2] w fun e w' => ∃ v0_ : Value, e = .returned (v0_) ∧ Kd.R k49 49 w' w.heap.size (fun _ => True) v0_ r ∧ Below w.heap.size w w' := by
 have hu49 := Try.underlying49
 have HR0 := Aside0.mk hr0
 have HC0 := Aside0.mk hc0
 clear hr0 hc0
 have HB := Aside0.mk (Below.refl w.heap.size w)
 have H : ((slices_Clone_impl_Cell.f l0).bind fun t330 => ((impl_place.f t330 a1).bind fun bt333 => (if bt333.2 = true then (if 0 ≤ bt333.1 then (if bt333.1 < (t330.length : Int) then (some (t330.set (bt333.1 : Int).toNat (⟨(rd_T49 t330 bt333.1).f0, a2⟩ : S49))) else (none)) else (none)) else ((slices_Insert_impl_Cell.f t330 bt333.1 (([(⟨a1, a2⟩ : S49)] : List (S49)))).bind fun t339 => (some t339))))) = some r := h
 clear h
 replace H := Option.bind_eq_some_iff.mp H
 obtain ⟨t330, A40, H⟩ := H
 replace H : ((impl_place.f t330 a1).bind fun bt333 => (if bt333.2 = true then (if 0 ≤ bt333.1 then (if bt333.1 < (t330.length : Int) then (some (t330.set (bt333.1 : Int).toNat (⟨(rd_T49 t330 bt333.1).f0, a2⟩ : S49))) else (none)) else (none)) else ((slices_Insert_impl_Cell.f t330 bt333.1 (([(⟨a1, a2⟩ : S49)] : List (S49)))).bind fun t339 => (some t339)))) = some r := H
 have A4 := Aside0.mk A40
 clear A40
 replace H := Option.bind_eq_some_iff.mp H
 obtain ⟨⟨t333, t334⟩, A50, H⟩ := H
 replace H : (if t334 = true then (if 0 ≤ t333 then (if t333 < (t330.length : Int) then (some (t330.set (t333 : Int).toNat (⟨(rd_T49 t330 t333).f0, a2⟩ : S49))) else (none)) else (none)) else ((slices_Insert_impl_Cell.f t330 t333 (([(⟨a1, a2⟩ : S49)] : List (S49)))).bind fun t339 => (some t339))) = some r := H
 have A5 := Aside0.mk A50
 clear A50
 by_cases c6 : t334 = true
 ·subst c6
  have H1 : (if 0 ≤ t333 then (if t333 < (t330.length : Int) then (some (t330.set (t333 : Int).toNat (⟨(rd_T49 t330 t333).f0, a2⟩ : S49))) else (none)) else (none)) = some r := by rw [if_pos rfl] at H; exact H
  clear H
  have H := H1
  clear H1
  by_cases c7 : 0 ≤ t333
  ·rw [if_pos c7] at H
   have c7b0 : decide (0 ≤ t333) = true := decide_eq_true c7
   clear c7
   by_cases c8 : t333 < (t330.length : Int)
   ·rw [if_pos c8] at H
    have c8b0 : decide (t333 < (t330.length : Int)) = true := decide_eq_true c8
    clear c8
    obtain ⟨y335, hy335⟩ : ∃ y_ : List (S49), y_ = (t330.set (t333 : Int).toNat (⟨(rd_T49 t330 t333).f0, a2⟩ : S49)) := ⟨_, rfl⟩
    replace H : (some y335) = some r := by first | (rw [hy335]; with_reducible exact H) | (have H2_ := (Option.bind_some _ _).symm.trans H; rw [hy335]; with_reducible exact H2_) | (have H2_ := (Option.bind_some _ _).symm.trans H; with_reducible exact H2_) | with_reducible exact H | (rw [hy335]; exact H) | exact H
    have Ny335 := Aside0.mk hy335
    clear hy335
    obtain rfl := Option.some.inj H
    go_enter Try.func51, Try.ntmps51
    go_wp2_with (first | ((with_reducible refine gate_callee (f := 74) rfl ?_); refine goesL_ (some 11) rfl rfl Try.func74 (by kernel_rfl) rfl #[.slice A0 l0.length c0] rfl (by (try simp only [List.map_toArray, List.map_cons, List.map_nil]); first | done | rfl | (simp only [List.length_drop, List.length_take]; rfl)) ?_; (with_reducible refine (slices_Clone_impl_Cell.calls _ _ l0 t330 _ ?side1 ?side2 A4.out).mono ?_); (case side1 => repeat (first | exact HR0.out | (with_reducible refine Kd.C_alloc ?_ _) | (with_reducible refine Kd.C_drewN ?_ _) | (with_reducible refine Kd.C_drew ?_))); (case side2 => exact HC0.out); rintro e w10 ⟨v331, rfl, ho0, hb⟩; refine ⟨_, rfl, ?_⟩; have n0_ := Aside0.mk (Kd.R_lower ho0 (below_size (by repeat (first | (with_reducible first | exact HB.out | apply below_alloc | apply pw_below_drewN | apply below_drew1) | exact HB.out)))); have n1_ := Aside0.mk (below_step (by repeat (first | (with_reducible first | exact HB.out | apply below_alloc | apply pw_below_drewN | apply below_drew1) | exact HB.out)) hb); clear HB; have HO332 := n0_; have HB := n1_; clear n0_ n1_; (try clear hb); (try clear hb2); (try clear hk); (try clear hi); (try clear ho0); obtain ⟨Ao11, co11, eo11⟩ := Kd.R_slice HO332.out; subst eo11) | ((with_reducible refine gate_callee (f := 43) rfl ?_); refine goesL_ (some 15) rfl rfl Try.func43 (by kernel_rfl) rfl #[.slice Ao11 t330.length co11, .int .i64 a1] rfl (by (try simp only [List.map_toArray, List.map_cons, List.map_nil]); first | done | rfl | (simp only [List.length_drop, List.length_take]; rfl)) ?_; (with_reducible refine (impl_place.calls _ _ t330 a1 t333 true _ ?side1 ?side2 A5.out).mono ?_); (case side1 => repeat (first | exact (Kd.R_reads' HO332.out).2.2 | (with_reducible refine Kd.C_alloc ?_ _) | (with_reducible refine Kd.C_drewN ?_ _) | (with_reducible refine Kd.C_drew ?_))); (case side2 => exact (Kd.R_reads' HO332.out).2.1); rintro e w12 ⟨rfl, hb⟩; refine ⟨_, rfl, ?_⟩; have n0_ := Aside0.mk (Kd.R_below (by (with_reducible repeat (first | apply Kd.R_alloc | apply Kd.R_drewN | apply Kd.R_drew)); exact HO332.out) hb); have n1_ := Aside0.mk (below_step (by repeat (first | (with_reducible first | exact HB.out | apply below_alloc | apply pw_below_drewN | apply below_drew1) | exact HB.out)) hb); clear HO332; clear HB; have HO332 := n0_; have HB := n1_; clear n0_ n1_; (try clear hb); (try clear hb2); (try clear hk); (try clear hi); have p9 : 0 ≤ (t333 : Int) := of_decide_eq_true (by first | (with_reducible assumption) | assumption); have q9 : (t333 : Int) < ((t330.length : Int) : Int) := of_decide_eq_true (by first | (with_reducible assumption) | assumption); obtain ⟨go9, co9, eo9, gb9, gl9, cl9, HG9⟩ := Kd.R_form HO332.out (by omega); (first | cases eo9 | (injection eo9 with ea_ en_ ec_; (first | subst ea_ | (injection ea_ with ea_; subst ea_)); subst ec_; clear en_)); have GB9 := Aside0.mk gb9; have GG9 := Aside0.mk HG9; clear gb9 gl9 HG9; obtain ⟨ce9, hcl9, hM9, hcc9, hfr9⟩ := Kd.R_elem HO332.out z49 (t333 : Int) p9 q9; obtain rfl := k49_openM hM9; have hx9_0 : w12.cell? ⟨go9, (t333 : Int).toNat * 2, none⟩ = some (.int .i64 ((rd_T49 t330 t333).f0)) := hcc9 0 _ rfl; have hx9_1 : w12.cell? ⟨go9, (t333 : Int).toNat * 2 + 1, none⟩ = some (.int .i64 ((rd_T49 t330 t333).f1)) := hcc9 1 _ rfl; have hf9_0 : w12.frozen? ⟨go9, (t333 : Int).toNat * 2, none⟩ = false := hfr9 0; have hf9_1 : w12.frozen? ⟨go9, (t333 : Int).toNat * 2 + 1, none⟩ = false := hfr9 1; clear hcl9 hcc9 hfr9; (try clear hM9); replace p9 := eq_true p9; replace q9 := eq_true q9; have HX13 := Aside0.mk (show Kd.R k49 49 w12 w.heap.size (fun _ => True) (.slice (some ⟨go9, 0, none⟩) t330.length co11) t330 from (by (with_reducible repeat (first | apply Kd.R_alloc | apply Kd.R_drewN | apply Kd.R_drew)); exact HO332.out)); obtain ⟨ce13, hcl13, hM13, hcc13, hfr13⟩ := Kd.R_elem HX13.out z49 (t333 : Int) (of_decide_eq_true (by first | (with_reducible assumption) | assumption)) (by have h_ : (t333 : Int) < ((t330.length : Int) : Int) := of_decide_eq_true (by first | (with_reducible assumption) | assumption); first | exact h_ | (have e_ := (Kd.R_reads' HO332.out).1; omega) | simpa using h_); obtain rfl := k49_openM hM13; have HP13 := Kd.R_seg HX13.out (t333 : Int) (of_decide_eq_true (by first | (with_reducible assumption) | assumption)) (by have h_ : (t333 : Int) < ((t330.length : Int) : Int) := of_decide_eq_true (by first | (with_reducible assumption) | assumption); first | exact h_ | (have e_ := (Kd.R_reads' HO332.out).1; omega) | simpa using h_) (seg := [.int .i64 a2]) (j := 1) hcl13 hcc13 (show 2 ≤ 2 from by decide) (x' := (⟨(rd_T49 t330 t333).f0, a2⟩ : S49)) (k49_mkM _ _ _ (⟨(rd_T49 t330 t333).f0, a2⟩ : S49) ) (fun _ hk => hk); have hx13_1 := hcc13 1 _ rfl; (try simp only [show (k49).sz = 2 from rfl, Nat.mul_one, Nat.add_zero] at hx13_1); have hf13_1 := hfr13 1; (try simp only [show (k49).sz = 2 from rfl, Nat.mul_one, Nat.add_zero] at hf13_1); clear hcl13 hcc13 hfr13; (try clear hM13)) | ((with_reducible refine gate_store (t := 2) (p := 23) rfl ?_); refine store_event (t := 2) (p := 23) (v := ?vo_w14) (w1 := (w12.setCell ⟨go9, (t333 : Int).toNat * 2 + 1, none⟩ (.int .i64 a2))) ?hg ?ho ?hn ?hr ?_; (case ho => rfl); (case hg => rfl); (case hn => rfl); (case hr => first | (go_simp; done) | (go_simp; rfl)); intro w14 hw; have hg : w12.grownBy w14 (some go9) := (by rw [hw]; exact HP13.2); have hp_ : Kd.R k49 49 w14 w.heap.size (fun _ => True) (.slice (some ⟨go9, 0, none⟩) t330.length co11) y335 := (by rw [hw, Ny335.out]; exact HP13.1); clear HP13; have n0_ := Aside0.mk (hp_); have n1_ := Aside0.mk ((by rw [hw]; exact below_set (HB.out) GB9.out : Below w.heap.size w w14)); clear HO332; clear HB; have HO332 := n0_; have HB := n1_; clear n0_ n1_; clear hg hw hp_))
    go_ret
    exact ⟨_, by first | rfl | (simp [errW_none, errW_some] <;> rfl) | (simp [*, errW_none, errW_some] <;> rfl), by (with_reducible repeat (first | apply Kd.R_alloc | apply Kd.R_drewN | apply Kd.R_drew)); exact HO332.out, by repeat (first | (with_reducible first | exact HB.out | apply below_alloc | apply pw_below_drewN | apply below_drew1) | exact HB.out)⟩
   ·rw [if_neg c8] at H
    exact absurd H (by simp)
  ·rw [if_neg c7] at H
   exact absurd H (by simp)
 ·replace c6 := Bool.eq_false_iff.mpr c6
  subst c6
  have H1 : ((slices_Insert_impl_Cell.f t330 t333 (([(⟨a1, a2⟩ : S49)] : List (S49)))).bind fun t339 => (some t339)) = some r := by rw [if_neg (show ¬ (false = true) by decide)] at H; exact H
  clear H
  have H := H1
  clear H1
  obtain ⟨y336, hy336⟩ : ∃ y_ : List (S49), y_ = (([(⟨a1, a2⟩ : S49)] : List (S49))) := ⟨_, rfl⟩
  replace H : ((slices_Insert_impl_Cell.f t330 t333 y336).bind fun t339 => (some t339)) = some r := by first | (rw [hy336]; with_reducible exact H) | (have H2_ := (Option.bind_some _ _).symm.trans H; rw [hy336]; with_reducible exact H2_) | (have H2_ := (Option.bind_some _ _).symm.trans H; with_reducible exact H2_) | with_reducible exact H | (rw [hy336]; exact H) | exact H
  have Ny336 := Aside0.mk hy336
  clear hy336
  replace H := Option.bind_eq_some_iff.mp H
  obtain ⟨t339, A150, H⟩ := H
  replace H : (some t339) = some r := H
  have A15 := Aside0.mk A150
  clear A150
  obtain rfl := Option.some.inj H
  go_enter Try.func51, Try.ntmps51
  go_wp2_with (first | ((with_reducible refine gate_callee (f := 74) rfl ?_); refine goesL_ (some 11) rfl rfl Try.func74 (by kernel_rfl) rfl #[.slice A0 l0.length c0] rfl (by (try simp only [List.map_toArray, List.map_cons, List.map_nil]); first | done | rfl | (simp only [List.length_drop, List.length_take]; rfl)) ?_; (with_reducible refine (slices_Clone_impl_Cell.calls _ _ l0 t330 _ ?side1 ?side2 A4.out).mono ?_); (case side1 => repeat (first | exact HR0.out | (with_reducible refine Kd.C_alloc ?_ _) | (with_reducible refine Kd.C_drewN ?_ _) | (with_reducible refine Kd.C_drew ?_))); (case side2 => exact HC0.out); rintro e w16 ⟨v331, rfl, ho0, hb⟩; refine ⟨_, rfl, ?_⟩; have n0_ := Aside0.mk (Kd.R_lower ho0 (below_size (by repeat (first | (with_reducible first | exact HB.out | apply below_alloc | apply pw_below_drewN | apply below_drew1) | exact HB.out)))); have n1_ := Aside0.mk (below_step (by repeat (first | (with_reducible first | exact HB.out | apply below_alloc | apply pw_below_drewN | apply below_drew1) | exact HB.out)) hb); clear HB; have HO332 := n0_; have HB := n1_; clear n0_ n1_; (try clear hb); (try clear hb2); (try clear hk); (try clear hi); (try clear ho0); obtain ⟨Ao17, co17, eo17⟩ := Kd.R_slice HO332.out; subst eo17) | ((with_reducible refine gate_callee (f := 43) rfl ?_); refine goesL_ (some 15) rfl rfl Try.func43 (by kernel_rfl) rfl #[.slice Ao17 t330.length co17, .int .i64 a1] rfl (by (try simp only [List.map_toArray, List.map_cons, List.map_nil]); first | done | rfl | (simp only [List.length_drop, List.length_take]; rfl)) ?_; (with_reducible refine (impl_place.calls _ _ t330 a1 t333 false _ ?side1 ?side2 A5.out).mono ?_); (case side1 => repeat (first | exact (Kd.R_reads' HO332.out).2.2 | (with_reducible refine Kd.C_alloc ?_ _) | (with_reducible refine Kd.C_drewN ?_ _) | (with_reducible refine Kd.C_drew ?_))); (case side2 => exact (Kd.R_reads' HO332.out).2.1); rintro e w18 ⟨rfl, hb⟩; refine ⟨_, rfl, ?_⟩; have n0_ := Aside0.mk (Kd.R_below (by (with_reducible repeat (first | apply Kd.R_alloc | apply Kd.R_drewN | apply Kd.R_drew)); exact HO332.out) hb); have n1_ := Aside0.mk (below_step (by repeat (first | (with_reducible first | exact HB.out | apply below_alloc | apply pw_below_drewN | apply below_drew1) | exact HB.out)) hb); clear HO332; clear HB; have HO332 := n0_; have HB := n1_; clear n0_ n1_; (try clear hb); (try clear hb2); (try clear hk); (try clear hi)) | ((with_reducible refine gate_dst (N := 30) rfl ?_); refine Kd.R_lit k49 _ 49 ?hg (N := 30) ?hd (xs := ([(⟨a1, a2⟩ : S49)] : List (S49))) (inner := [.int .i64 a1, .int .i64 a2]) (ok := fun _ => True) (okp := fun _ => True) ?hr ?hp (fun _ hk => hk) trivial (Below.refl _ _) (Nat.le_refl _) (by simp) ?_; (case hd => rfl); (case hg => rfl); (case hr => first | (go_simp; done) | (go_simp; rfl)); (case hp => exact (Reps.c2 (show Kd.M k49 _ _ _ (⟨a1, a2⟩ : S49) [.int .i64 a1, .int .i64 a2] from (k49_mkM _ _ _ (⟨a1, a2⟩ : S49) )) (Reps.none _ _))); intro v337 w19 ho20 hb hg_ hnew_; clear hg_ hnew_; (first | rw [← Ny336.out] at ho20 | (simp only [Int.reduceToNat] at ho20; rw [← Ny336.out] at ho20)); have n0_ := Aside0.mk (Kd.R_elder' (by (with_reducible repeat (first | apply Kd.R_alloc | apply Kd.R_drewN | apply Kd.R_drew)); exact HO332.out) (Kd.R_base ho20) hb); have n1_ := Aside0.mk (Kd.R_lower (Kd.R_new' ho20 (Kd.R_lt (by (with_reducible repeat (first | apply Kd.R_alloc | apply Kd.R_drewN | apply Kd.R_drew)); exact HO332.out))) (below_size (by repeat (first | (with_reducible first | exact HB.out | apply below_alloc | apply pw_below_drewN | apply below_drew1) | exact HB.out)))); have n2_ := Aside0.mk (below_step (by repeat (first | (with_reducible first | exact HB.out | apply below_alloc | apply pw_below_drewN | apply below_drew1) | exact HB.out)) hb); clear HO332; clear HB; have HO332 := n0_; have HO338 := n1_; have HB := n2_; clear n0_ n1_ n2_; clear hb ho20; obtain ⟨Ao21, co21, eo21⟩ := Kd.R_slice HO338.out; subst eo21) | ((with_reducible refine gate_callee (f := 78) rfl ?_); refine goesL_ (some 31) rfl rfl Try.func78 (by kernel_rfl) rfl #[.slice Ao17 t330.length co17, .int .i64 t333, .slice Ao21 y336.length co21] rfl (by (try simp only [List.map_toArray, List.map_cons, List.map_nil]); first | done | rfl | (simp only [List.length_drop, List.length_take]; rfl)) ?_; (with_reducible refine (slices_Insert_impl_Cell.calls (fun k_ => some k_ = (.slice Ao17 t330.length co17 : Value).ownBlock) (.slice Ao17 t330.length co17) t330 t333 _ _ y336 t339 w _ ?side1 ?side2 ?side3 ?side4 A15.out).mono ?_); (case side1 => repeat (first | (with_reducible first | exact HB.out | apply below_alloc | apply pw_below_drewN | apply below_drew1) | exact HB.out)); (case side2 => exact Kd.R_tight rfl HO332.out); (case side3 => exact Kd.C_kept_own (HO338.out) (fun k_ hk_ hs_ => (hk_.2) hs_)); (case side4 => exact (Kd.R_reads' HO338.out).2.1); rintro e w22 ⟨v340, rfl, ho0, hb, hkp⟩; refine ⟨_, rfl, ?_⟩; have n0_ := Aside0.mk (Kd.R_mono (ok' := fun k_ => some k_ ≠ (v340 : Value).ownBlock) (Kd.R_keptB (HO338.out) hkp (fun k_ hk_ hs_ => (hk_.2) hs_)) (fun k_ hk_ => fun e_ => Or.elim (ho0.1 k_ e_.symm) (fun hs_ => hk_.2.1 hs_) (fun hn_ => Nat.not_le.2 hk_.2.2 hn_))); have n1_ := Aside0.mk (Kd.R_mono (ok' := fun k_ => some k_ ≠ (.slice Ao21 y336.length co21 : Value).ownBlock) ho0 (fun k_ hk_ => Or.elim hk_ (fun hs_ => fun e_ => (((HO338.out).1 k_ e_.symm).2) hs_) (fun hn_ => (Kd.fresh' (Kd.R_lt (by (with_reducible repeat (first | apply Kd.R_alloc | apply Kd.R_drewN | apply Kd.R_drew)); exact HO338.out)) k_ hn_)))); have n2_ := Aside0.mk (hb); clear HO338; clear HB; clear HO332; have HO338 := n0_; have HO341 := n1_; have HB := n2_; clear n0_ n1_ n2_; (try clear hb); (try clear hkp); (try clear ho0)))
  go_ret
  exact ⟨_, by first | rfl | (simp [errW_none, errW_some] <;> rfl) | (simp [*, errW_none, errW_some] <;> rfl), by (with_reducible repeat (first | apply Kd.R_alloc | apply Kd.R_drewN | apply Kd.R_drew)); exact Kd.R_mono HO341.out (fun _ hk => trivial), by repeat (first | (with_reducible first | exact HB.out | apply below_alloc | apply pw_below_drewN | apply below_drew1) | exact HB.out)⟩

end Go.Proofs.Ytpdfpbnlablhoaa.P
