import Derived.Test.YtkaammmkejiafaaZz
import Derived.Test.YtkaammmkejiafaaP0
import Derived.Test.YtkaammmkejiafaaPCall0
import Derived.Test.YtkaammmkejiafaaPCb0
import Derived.Test.YtkaammmkejiafaaPDall0
import Derived.Test.YtkaammmkejiafaaPDb0
import Derived.Test.YtkaammmkejiafaaWRepsOne
import Derived.Test.YtkaammmkejiafaaWTab
import Derived.Test.YtkaammmkejiafaaLv
import Derived.Lib.SliceRun
namespace Go.Proofs.Ytkaammmkejiafaa.P
open Go.RowKit Go.Proofs.YtkaammmkejiafaaW.PrintWords Go.Proofs.YtkaammmkejiafaaW.PrintLast Go.Proofs.YtkaammmkejiafaaW.PrintMore
attribute [local go_sem] max2_int min2_int max_two min_two max_three min_three max_four min_four   -- for this text's walks alone
set_option linter.unusedVariables false
set_option linter.unusedSimpArgs false
def spec_DrawPushVersion.T6 : Bool × List (List Nat × List Nat) := (true, [([], []), ([], []), ([], []), ([], []), ([2, 3], [2, 3]), ([0, 4, 0], [0]), ([1, 5, 0, 1, 5], [1]), ([6, 0, 1, 5, 6], []), ([4, 7, 0, 1, 2, 3, 4, 5, 6, 7], [4])])
def spec_DrawPushVersion.B6 : List Nat := [0, 0, 0, 0, 12, 29, 63, 127, 255]
theorem spec_DrawPushVersion.tab6 : rtab .any (opsOf Try.f12 6) = spec_DrawPushVersion.T6 := by kernel_rfl
theorem spec_DrawPushVersion.bits6 : waitsOk spec_DrawPushVersion.T6.2 spec_DrawPushVersion.B6 = true := by kernel_rfl
def spec_DrawPushVersion.T7 : Bool × List (List Nat × List Nat) := (true, [([], []), ([], []), ([], []), ([], []), ([3], [3]), ([4], [4]), ([2, 5, 4], [2, 5]), ([0, 6, 0], [0]), ([1, 7, 0, 1, 7], [1]), ([8, 0, 1, 7, 8], []), ([6, 9, 0, 1, 2, 3, 4, 5, 6, 7, 8, 9], [6])])
def spec_DrawPushVersion.B7 : List Nat := [0, 0, 0, 0, 8, 24, 60, 125, 255, 511, 1023]
theorem spec_DrawPushVersion.tab7 : rtab .any (opsOf Try.f12 7) = spec_DrawPushVersion.T7 := by kernel_rfl
theorem spec_DrawPushVersion.bits7 : waitsOk spec_DrawPushVersion.T7.2 spec_DrawPushVersion.B7 = true := by kernel_rfl
set_option maxHeartbeats 8000000 in
set_option maxRecDepth 100000 in
theorem spec_DrawPushVersion.calls (k : Nat) (A0 : Option Addr) (c0 : Nat) (l0 : List Int) (r1 : List (S51)) (r2 : Int) (r3 : Int) (r4 : Bool) (r5 : Int) (w : World) (hr0 : Kd.C (Kd.int .u8) w A0 l0.length l0) (hc0 : l0.length ≤ c0) (h : spec_DrawPushVersion.f k l0 = some (r1, r2, r3, r4, r5)) :
 Calls Try.prog 12 #[.slice A0 l0.length c0] w fun e w' => ∃ v0_ : Value, e = .returned (.tuple #[v0_, .agg #[.int .i64 r2, .int .i64 r3], .bool r4, .int .i64 r5]) ∧ Kd.R k51 51 w' w.heap.size (fun _ => True) v0_ r1 ∧ Below w.heap.size w w' := by
 have hu32 := Try.underlying32
 have HR0 := Aside0.mk hr0
 have HC0 := Aside0.mk hc0
 clear hr0 hc0
 have HB := Aside0.mk (Below.refl w.heap.size w)
 have H : ((spec_l1Source.f l0).bind fun bt47 => ((spec_l5With.f k l0).bind fun bt48 => ((spec_l1Chance.f bt47.1 bt47.2 2).bind fun bt52 => (if bt52.1 = true then ((spec_l5Writer.f bt48.1).bind fun t54 => ((spec_l1Max.f 1 t54).bind fun t50 => (spec_DrawPushVersion.j0 k bt48.1 bt47.1 bt52.2 900 t50))) else (spec_DrawPushVersion.j0 k bt48.1 bt47.1 bt52.2 bt48.2.1 bt48.2.2))))) = some (r1, r2, r3, r4, r5) := h
 clear h
 replace H := Option.bind_eq_some_iff.mp H
 obtain ⟨⟨t47, t65⟩, A20, H⟩ := H
 replace H : ((spec_l5With.f k l0).bind fun bt48 => ((spec_l1Chance.f t47 t65 2).bind fun bt52 => (if bt52.1 = true then ((spec_l5Writer.f bt48.1).bind fun t54 => ((spec_l1Max.f 1 t54).bind fun t50 => (spec_DrawPushVersion.j0 k bt48.1 t47 bt52.2 900 t50))) else (spec_DrawPushVersion.j0 k bt48.1 t47 bt52.2 bt48.2.1 bt48.2.2)))) = some (r1, r2, r3, r4, r5) := H
 have A2 := Aside0.mk A20
 clear A20
 replace H := Option.bind_eq_some_iff.mp H
 obtain ⟨⟨t48, t55, t56⟩, A30, H⟩ := H
 replace H : ((spec_l1Chance.f t47 t65 2).bind fun bt52 => (if bt52.1 = true then ((spec_l5Writer.f t48).bind fun t54 => ((spec_l1Max.f 1 t54).bind fun t50 => (spec_DrawPushVersion.j0 k t48 t47 bt52.2 900 t50))) else (spec_DrawPushVersion.j0 k t48 t47 bt52.2 t55 t56))) = some (r1, r2, r3, r4, r5) := H
 have A3 := Aside0.mk A30
 clear A30
 replace H := Option.bind_eq_some_iff.mp H
 obtain ⟨⟨t52, t53⟩, A40, H⟩ := H
 replace H : (if t52 = true then ((spec_l5Writer.f t48).bind fun t54 => ((spec_l1Max.f 1 t54).bind fun t50 => (spec_DrawPushVersion.j0 k t48 t47 t53 900 t50))) else (spec_DrawPushVersion.j0 k t48 t47 t53 t55 t56)) = some (r1, r2, r3, r4, r5) := H
 have A4 := Aside0.mk A40
 clear A40
 have HC5 := Aside0.mk H
 clear H
 go_enter Try.func12, Try.ntmps12
 go_upto_if 17 with (first | ((with_reducible refine gate_dst (N := 3) rfl ?_); refine box_event ?hg (N := 3) ?hd (cs := #[.int .i64 0, .int .i64 0]) (t := 32) ?hr ?_; (case hd => rfl); (case hg => rfl); (case hr => first | (go_simp; done) | (go_simp; rfl)); intro gb43 hg w6 hbox hb; have n0_ := Aside0.mk (below_step zb hb); have n1_ := Aside0.mk (hbox); have n2_ := Aside0.mk ((by rw [hg]; exact (below_size zb) : w.heap.size ≤ gb43)); have n3_ := n2_; clear HB; have HB := n0_; have BK43 := n1_; have GW43 := n2_; have GE43 := n3_; clear n0_ n1_ n2_ n3_; clear hb hbox hg) | ((with_reducible refine gate_callee (f := 19) rfl ?_); refine goesL_ (some 10) rfl rfl Try.func19 (by kernel_rfl) rfl #[.slice A0 l0.length c0] rfl zm ?_; (with_reducible refine (spec_l1Source.calls _ _ l0 t47 t65 w _ ?side1 ?side2 ?side3 A2.out).mono ?_); (case side1 => repeat (first | (with_reducible first | exact HB.out | apply below_alloc | apply pw_below_drewN | apply below_drew1 | refine below_set ?_ GE43.out) | exact HB.out)); (case side2 => exact HR0.out); (case side3 => exact HC0.out); rintro e w7 ⟨g363, rfl, hi, hb, hb2⟩; refine ⟨_, rfl, ?_⟩; have n0_ := Aside0.mk (blk_below (g := gb43) (o := .cells #[.int .i64 0, .int .i64 0] 32 (0, 0)) zk hb2); have n1_ := Aside0.mk (hb); have n2_ := Aside0.mk (hi); have n3_ := Aside0.mk (IsS60.ne_blk hi (blk_below (g := gb43) (o := .cells #[.int .i64 0, .int .i64 0] 32 (0, 0)) zk hb2) (by decide)); have n4_ := Aside0.mk (Ne.symm (IsS60.ne_blk hi (blk_below (g := gb43) (o := .cells #[.int .i64 0, .int .i64 0] 32 (0, 0)) zk hb2) (by decide))); clear BK43; clear HB; have BK43 := n0_; have HB := n1_; have HI363 := n2_; have NB363_360 := n3_; have NB360_363 := n4_; clear n0_ n1_ n2_ n3_ n4_; (try clear hb); (try clear hb2); (try clear hk); (try clear hi)) | ((with_reducible refine gate_callee (f := 33) rfl ?_); refine goesL_ (some 13) rfl rfl Try.func33 (by kernel_rfl) rfl #[.slice A0 l0.length c0] rfl zm ?_; (with_reducible refine (spec_l5With.calls k _ _ l0 t48 t55 t56 _ ?side1 ?side2 A3.out).mono ?_); (case side1 => repeat (first | exact (Kd.C_below HR0.out HB.out) | (with_reducible first | refine Kd.C_alloc ?_ _ | refine Kd.C_drewN ?_ _ | refine Kd.C_drew ?_))); (case side2 => exact HC0.out); rintro e w8 ⟨v76, rfl, ho0, hb⟩; refine ⟨_, rfl, ?_⟩; have n0_ := Aside0.mk (Kd.R_lower ho0 (below_size (by repeat (first | (with_reducible first | exact HB.out | apply below_alloc | apply pw_below_drewN | apply below_drew1 | refine below_set ?_ (IsS60.ge HI363.out) | refine below_set ?_ GE43.out) | exact HB.out)))); have n1_ := Aside0.mk (blk_below (g := gb43) (o := .cells #[.int .i64 0, .int .i64 0] 32 (0, 0)) zk hb); have n2_ := Aside0.mk (IsS60.below (by repeat (first | (with_reducible first | exact HI363.out | apply IsS60.alloc | apply IsS60.drewN | apply IsS60.drew | refine IsS60.far ?_ NB363_360.out _ | apply IsS60.set_1) | exact HI363.out)) hb); have n3_ := Aside0.mk (below_step (by repeat (first | (with_reducible first | exact HB.out | apply below_alloc | apply pw_below_drewN | apply below_drew1 | refine below_set ?_ (IsS60.ge HI363.out) | refine below_set ?_ GE43.out) | exact HB.out)) hb); clear BK43; clear HI363; clear HB; have HO49 := n0_; have BK43 := n1_; have HI363 := n2_; have HB := n3_; clear n0_ n1_ n2_ n3_; (try clear hb); (try clear hb2); (try clear hk); (try clear hi); (try clear ho0)) | ((with_reducible refine gate_dst (N := 8) rfl ?_); refine box_event ?hg (N := 8) ?hd (cs := #[.int .i64 0, .int .i64 0]) (t := 32) ?hr ?_; (case hd => rfl); (case hg => rfl); (case hr => first | (go_simp; done) | (go_simp; rfl)); intro gb44 hg w9 hbox hb; have n0_ := Aside0.mk (Kd.R_below (by (with_reducible repeat (first | apply Kd.R_alloc | apply Kd.R_drewN | apply Kd.R_drew)); exact HO49.out) hb); have n1_ := Aside0.mk (blk_below (g := gb43) (o := .cells #[.int .i64 0, .int .i64 0] 32 (0, 0)) zk hb); have n2_ := Aside0.mk (IsS60.below (by repeat (first | (with_reducible first | exact HI363.out | apply IsS60.alloc | apply IsS60.drewN | apply IsS60.drew | refine IsS60.far ?_ NB363_360.out _ | apply IsS60.set_1) | exact HI363.out)) hb); have n3_ := Aside0.mk (below_step (by repeat (first | (with_reducible first | exact HB.out | apply below_alloc | apply pw_below_drewN | apply below_drew1 | refine below_set ?_ (IsS60.ge HI363.out) | refine below_set ?_ GE43.out) | exact HB.out)) hb); have n4_ := Aside0.mk (hbox); have n5_ := Aside0.mk ((by rw [hg]; exact (below_size (by repeat (first | (with_reducible first | exact HB.out | apply below_alloc | apply pw_below_drewN | apply below_drew1 | refine below_set ?_ (IsS60.ge HI363.out) | refine below_set ?_ GE43.out) | exact HB.out))) : w.heap.size ≤ gb44)); have n6_ := n5_; have n7_ := Aside0.mk ((by rw [hg]; exact Nat.ne_of_lt (blk_lt (g := gb43) (o := .cells #[.int .i64 0, .int .i64 0] 32 (0, 0)) zk) : gb43 ≠ gb44)); have n8_ := Aside0.mk ((by rw [hg]; exact Nat.ne_of_gt (blk_lt (g := gb43) (o := .cells #[.int .i64 0, .int .i64 0] 32 (0, 0)) zk) : gb44 ≠ gb43)); have n9_ := Aside0.mk ((by rw [hg]; exact Nat.ne_of_lt (IsS60.lt (show IsS60 w _ g363 t47 t65 from by repeat (first | (with_reducible first | exact HI363.out | apply IsS60.alloc | apply IsS60.drewN | apply IsS60.drew | refine IsS60.far ?_ NB363_360.out _ | apply IsS60.set_1) | exact HI363.out))) : g363 ≠ gb44)); have n10_ := Aside0.mk ((by rw [hg]; exact Nat.ne_of_gt (IsS60.lt (show IsS60 w _ g363 t47 t65 from by repeat (first | (with_reducible first | exact HI363.out | apply IsS60.alloc | apply IsS60.drewN | apply IsS60.drew | refine IsS60.far ?_ NB363_360.out _ | apply IsS60.set_1) | exact HI363.out))) : gb44 ≠ g363)); clear HO49; clear BK43; clear HI363; clear HB; have HO49 := n0_; have BK43 := n1_; have HI363 := n2_; have HB := n3_; have BK44 := n4_; have GW44 := n5_; have GE44 := n6_; have NB360_369 := n7_; have NB369_360 := n8_; have NB363_369 := n9_; have NB369_363 := n10_; clear n0_ n1_ n2_ n3_ n4_ n5_ n6_ n7_ n8_ n9_ n10_; clear hb hbox hg; have hnb10 := NB369_360.out; have hnc10 := NB360_369.out; have hnb11 := NB369_363.out; have hnc11 := NB363_369.out; obtain ⟨hcz12_0, hcz12_1, hfz12_0, hfz12_1⟩ := Lv.blks2 BK44.out) | ((with_reducible refine gate_callee (f := 34) rfl ?_); refine goesL_ (some 17) rfl rfl Try.func34 (by kernel_rfl) rfl #[.pointer (some ⟨g363, 0, none⟩), .int .i64 2] rfl zm ?_; (with_reducible refine (spec_l1Chance.calls g363 t47 t65 2 t52 t53 w _ ?side1 ?side2 A4.out).mono ?_); (case side1 => first | exact (IsS60.far (p := ⟨gb44, 1, none⟩) (IsS60.far (p := ⟨gb44, 0, none⟩) HI363.out NB363_369.out _) NB363_369.out _) | (repeat (first | (with_reducible first | exact HI363.out | apply IsS60.alloc | apply IsS60.drewN | apply IsS60.drew | refine IsS60.far ?_ NB363_360.out _ | refine IsS60.far ?_ NB363_369.out _ | apply IsS60.set_1) | exact HI363.out))); (case side2 => repeat (first | (with_reducible first | exact HB.out | apply below_alloc | apply pw_below_drewN | apply below_drew1 | refine below_set ?_ (IsS60.ge HI363.out) | refine below_set ?_ GE43.out | refine below_set ?_ GE44.out) | exact HB.out)); rintro e w13 ⟨rfl, hi, hb, hk⟩; refine ⟨_, rfl, ?_⟩; have n0_ := Aside0.mk (KeepBut.blk hk (g' := gb43) (o := .cells #[.int .i64 0, .int .i64 0] 32 (0, 0)) (by (with_reducible repeat (first | refine blk_drewN ?_ _ | refine blk_drew ?_ | refine blk_alloc ?_ _)); refine blk_far ?_ NB360_369.out _; (with_reducible repeat (first | refine blk_drewN ?_ _ | refine blk_drew ?_ | refine blk_alloc ?_ _)); refine blk_far ?_ NB360_369.out _; (with_reducible repeat (first | refine blk_drewN ?_ _ | refine blk_drew ?_ | refine blk_alloc ?_ _)); exact BK43.out) NB360_363.out (by simp)); have n1_ := Aside0.mk (Kd.R_mono (Kd.R_keep (IsS60.apart (show IsS60 w _ g363 t47 t65 from by first | exact (IsS60.far (p := ⟨gb44, 1, none⟩) (IsS60.far (p := ⟨gb44, 0, none⟩) HI363.out NB363_369.out _) NB363_369.out _) | (repeat (first | (with_reducible first | exact HI363.out | apply IsS60.alloc | apply IsS60.drewN | apply IsS60.drew | refine IsS60.far ?_ NB363_360.out _ | refine IsS60.far ?_ NB363_369.out _ | apply IsS60.set_1) | exact HI363.out))) (by (with_reducible repeat (first | apply Kd.R_alloc | apply Kd.R_drewN | apply Kd.R_drew)); exact (Kd.R_mono (Kd.R_far (p := ⟨gb44, 1, none⟩) (Kd.R_far (p := ⟨gb44, 0, none⟩) (Kd.R_types HO49.out BK44.out (by decide)) (fun _ hk => hk.2) (.int .i64 t55)) (fun _ hk => hk.2) (.int .i64 t56)) (fun _ h_ => h_.1))) (by decide)) hk (fun _ h => h.2)) (fun _ h => h.1)); have n2_ := Aside0.mk (KeepBut.blk hk (g' := gb44) (o := .cells #[.int .i64 t55, .int .i64 t56] 32 (0, 0)) (by (with_reducible repeat (first | refine blk_drewN ?_ _ | refine blk_drew ?_ | refine blk_alloc ?_ _)); refine blk_put (cs := #[.int .i64 t55, .int .i64 0]) ?_ 1 _ rfl; (with_reducible repeat (first | refine blk_drewN ?_ _ | refine blk_drew ?_ | refine blk_alloc ?_ _)); refine blk_put (cs := #[.int .i64 0, .int .i64 0]) ?_ 0 _ rfl; (with_reducible repeat (first | refine blk_drewN ?_ _ | refine blk_drew ?_ | refine blk_alloc ?_ _)); exact BK44.out) NB369_363.out (by simp)); have n3_ := Aside0.mk (hb); have n4_ := Aside0.mk (hi); clear BK43; clear HO49; clear BK44; clear HB; clear HI363; have BK43 := n0_; have HO49 := n1_; have BK44 := n2_; have HB := n3_; have HI363 := n4_; clear n0_ n1_ n2_ n3_ n4_; (try clear hb); (try clear hb2); (try clear hk); (try clear hi)))
 (try simp only [Act.put, List.setIfInBounds_toArray, List.set_cons_zero, List.set_cons_succ])
 go_cut [] (fun wc => ∃ (kq : Nat) (x45_4 : Int) (x46_4 : Int), Aside0 (spec_DrawPushVersion.j0 kq t48 t47 t53 x45_4 x46_4 = some (r1, r2, r3, r4, r5)) ∧ Aside0 (kq ≤ k) ∧ Aside0 (Kd.R k51 51 wc w.heap.size (fun _ => True) v76 t48) ∧ Aside0 (wc.heap[gb43]? = some (.cells #[.int .i64 0, .int .i64 0] 32 (0, 0))) ∧ Aside0 (wc.heap[gb44]? = some (.cells #[.int .i64 x45_4, .int .i64 x46_4] 32 (0, 0))) ∧ Aside0 (IsS60 w wc g363 t47 t53) ∧ Aside0 (Below w.heap.size w wc))
 case first =>
  have H := HC5.out
  clear HC5
  by_cases c14 : t52 = true
  ·subst c14
   have H1 : ((spec_l5Writer.f t48).bind fun t54 => ((spec_l1Max.f 1 t54).bind fun t50 => (spec_DrawPushVersion.j0 k t48 t47 t53 900 t50))) = some (r1, r2, r3, r4, r5) := by rw [if_pos rfl] at H; exact H
   clear H
   have H := H1
   clear H1
   replace H := Option.bind_eq_some_iff.mp H
   obtain ⟨t54, A69, H⟩ := H
   replace H : ((spec_l1Max.f 1 t54).bind fun t50 => (spec_DrawPushVersion.j0 k t48 t47 t53 900 t50)) = some (r1, r2, r3, r4, r5) := H
   have A15 := Aside0.mk A69
   clear A69
   replace H := Option.bind_eq_some_iff.mp H
   obtain ⟨t50, A70, H⟩ := H
   replace H : (spec_DrawPushVersion.j0 k t48 t47 t53 900 t50) = some (r1, r2, r3, r4, r5) := H
   have A16 := Aside0.mk A70
   clear A70
   have H' := Aside0.mk H
   clear H
   obtain ⟨Ao17, co17, eo17⟩ := Kd.R_slice HO49.out
   subst eo17
   go_wp2_with (first | ((with_reducible refine gate_callee (f := 36) rfl ?_); refine goesL_ (some 19) rfl rfl Try.func36 (by kernel_rfl) rfl #[.slice Ao17 t48.length co17] rfl zm ?_; (with_reducible refine (spec_l5Writer.calls _ _ t48 t54 _ ?side1 ?side2 A15.out).mono ?_); (case side1 => repeat (first | exact (Kd.R_reads' HO49.out).2.2 | (with_reducible first | refine Kd.C_alloc ?_ _ | refine Kd.C_drewN ?_ _ | refine Kd.C_drew ?_))); (case side2 => exact (Kd.R_reads' HO49.out).2.1); rintro e w' ⟨rfl, ⟨nd, rfl⟩⟩; refine ⟨_, rfl, ?_⟩; (repeat (rw [drewN_self w13]; generalize hq_ : World.drewN w13 _ = w13; have n0_ : Aside0 (Kd.R k51 51 w13 w.heap.size (fun _ => True) (.slice Ao17 t48.length co17) t48) := ⟨by rw [← hq_]; exact (by (with_reducible repeat (first | apply Kd.R_alloc | apply Kd.R_drewN | apply Kd.R_drew)); exact HO49.out)⟩; have n1_ : Aside0 (w13.heap[gb43]? = some (.cells #[.int .i64 0, .int .i64 0] 32 (0, 0))) := ⟨by rw [← hq_]; exact zk⟩; have n2_ : Aside0 (w13.heap[gb44]? = some (.cells #[.int .i64 t55, .int .i64 t56] 32 (0, 0))) := ⟨by rw [← hq_]; exact zk⟩; have n3_ : Aside0 (IsS60 w w13 g363 t47 t53) := ⟨by rw [← hq_]; exact (by repeat (first | (with_reducible first | exact HI363.out | apply IsS60.alloc | apply IsS60.drewN | apply IsS60.drew | refine IsS60.far ?_ NB363_360.out _ | refine IsS60.far ?_ NB363_369.out _ | apply IsS60.set_1) | exact HI363.out))⟩; have n4_ : Aside0 (Below w.heap.size w w13) := ⟨by rw [← hq_]; exact (by repeat (first | (with_reducible first | exact HB.out | apply below_alloc | apply pw_below_drewN | apply below_drew1 | refine below_set ?_ (IsS60.ge HI363.out) | refine below_set ?_ GE43.out | refine below_set ?_ GE44.out) | exact HB.out))⟩; clear HO49 BK43 BK44 HI363 HB hq_; have HO49 := n0_; have BK43 := n1_; have BK44 := n2_; have HI363 := n3_; have HB := n4_; clear n0_ n1_ n2_ n3_ n4_)); (try (have hczrgb360_0 : w13.cell? ⟨gb43, 0, none⟩ = some (.int .i64 0) := (blk_cell BK43.out 0).trans rfl)); (try (have hfzrgb360_0 := blk_frozen BK43.out 0)); (try (have hczrgb360_1 : w13.cell? ⟨gb43, 1, none⟩ = some (.int .i64 0) := (blk_cell BK43.out 1).trans rfl)); (try (have hfzrgb360_1 := blk_frozen BK43.out 1)); (try (have hczrgb369_0 : w13.cell? ⟨gb44, 0, none⟩ = some (.int .i64 t55) := (blk_cell BK44.out 0).trans rfl)); (try (have hfzrgb369_0 := blk_frozen BK44.out 0)); (try (have hczrgb369_1 : w13.cell? ⟨gb44, 1, none⟩ = some (.int .i64 t56) := (blk_cell BK44.out 1).trans rfl)); (try (have hfzrgb369_1 := blk_frozen BK44.out 1))) | ((with_reducible refine gate_callee (f := 35) rfl ?_); refine goesL_ (some 20) rfl rfl Try.func35 (by kernel_rfl) rfl #[.int .i64 1, .int .i64 t54] rfl zm ?_; (with_reducible refine (spec_l1Max.calls 1 t54 t50 _ A16.out).mono ?_); rintro e w' ⟨rfl, ⟨nd, rfl⟩⟩; refine ⟨_, rfl, ?_⟩; (repeat (rw [drewN_self w13]; generalize hq_ : World.drewN w13 _ = w13; have n0_ : Aside0 (Kd.R k51 51 w13 w.heap.size (fun _ => True) (.slice Ao17 t48.length co17) t48) := ⟨by rw [← hq_]; exact (by (with_reducible repeat (first | apply Kd.R_alloc | apply Kd.R_drewN | apply Kd.R_drew)); exact HO49.out)⟩; have n1_ : Aside0 (w13.heap[gb43]? = some (.cells #[.int .i64 0, .int .i64 0] 32 (0, 0))) := ⟨by rw [← hq_]; exact zk⟩; have n2_ : Aside0 (w13.heap[gb44]? = some (.cells #[.int .i64 t55, .int .i64 t56] 32 (0, 0))) := ⟨by rw [← hq_]; exact zk⟩; have n3_ : Aside0 (IsS60 w w13 g363 t47 t53) := ⟨by rw [← hq_]; exact (by repeat (first | (with_reducible first | exact HI363.out | apply IsS60.alloc | apply IsS60.drewN | apply IsS60.drew | refine IsS60.far ?_ NB363_360.out _ | refine IsS60.far ?_ NB363_369.out _ | apply IsS60.set_1) | exact HI363.out))⟩; have n4_ : Aside0 (Below w.heap.size w w13) := ⟨by rw [← hq_]; exact (by repeat (first | (with_reducible first | exact HB.out | apply below_alloc | apply pw_below_drewN | apply below_drew1 | refine below_set ?_ (IsS60.ge HI363.out) | refine below_set ?_ GE43.out | refine below_set ?_ GE44.out) | exact HB.out))⟩; clear HO49 BK43 BK44 HI363 HB hq_; have HO49 := n0_; have BK43 := n1_; have BK44 := n2_; have HI363 := n3_; have HB := n4_; clear n0_ n1_ n2_ n3_ n4_)); (try (have hczrgb360_0 : w13.cell? ⟨gb43, 0, none⟩ = some (.int .i64 0) := (blk_cell BK43.out 0).trans rfl)); (try (have hfzrgb360_0 := blk_frozen BK43.out 0)); (try (have hczrgb360_1 : w13.cell? ⟨gb43, 1, none⟩ = some (.int .i64 0) := (blk_cell BK43.out 1).trans rfl)); (try (have hfzrgb360_1 := blk_frozen BK43.out 1)); (try (have hczrgb369_0 : w13.cell? ⟨gb44, 0, none⟩ = some (.int .i64 t55) := (blk_cell BK44.out 0).trans rfl)); (try (have hfzrgb369_0 := blk_frozen BK44.out 0)); (try (have hczrgb369_1 : w13.cell? ⟨gb44, 1, none⟩ = some (.int .i64 t56) := (blk_cell BK44.out 1).trans rfl)); (try (have hfzrgb369_1 := blk_frozen BK44.out 1)); have hnb18 := NB369_360.out; have hnc18 := NB360_369.out; have hnb19 := NB369_363.out; have hnc19 := NB363_369.out; obtain ⟨hcz20_0, hcz20_1, hfz20_0, hfz20_1⟩ := Lv.blks2 BK44.out))
   go_meet
   case rel => exact ⟨_, (900), (t50), H', ⟨by first | omega | exact Nat.le_refl _⟩, ⟨by (with_reducible repeat (first | apply Kd.R_alloc | apply Kd.R_drewN | apply Kd.R_drew)); exact Kd.R_mono (Kd.R_far (p := ⟨gb44, 1, none⟩) (Kd.R_far (p := ⟨gb44, 0, none⟩) (Kd.R_types HO49.out BK44.out (by decide)) (fun _ hk => hk.2) (.int .i64 900)) (fun _ hk => hk.2) (.int .i64 t50)) (fun _ hk => trivial)⟩, ⟨by (with_reducible repeat (first | refine blk_drewN ?_ _ | refine blk_drew ?_ | refine blk_alloc ?_ _)); refine blk_far ?_ NB360_369.out _; (with_reducible repeat (first | refine blk_drewN ?_ _ | refine blk_drew ?_ | refine blk_alloc ?_ _)); refine blk_far ?_ NB360_369.out _; (with_reducible repeat (first | refine blk_drewN ?_ _ | refine blk_drew ?_ | refine blk_alloc ?_ _)); exact BK43.out⟩, ⟨by (with_reducible repeat (first | refine blk_drewN ?_ _ | refine blk_drew ?_ | refine blk_alloc ?_ _)); refine blk_put (cs := #[.int .i64 900, .int .i64 t56]) ?_ 1 _ rfl; (with_reducible repeat (first | refine blk_drewN ?_ _ | refine blk_drew ?_ | refine blk_alloc ?_ _)); refine blk_put (cs := #[.int .i64 t55, .int .i64 t56]) ?_ 0 _ rfl; (with_reducible repeat (first | refine blk_drewN ?_ _ | refine blk_drew ?_ | refine blk_alloc ?_ _)); exact BK44.out⟩, ⟨by first | exact (IsS60.far (p := ⟨gb44, 1, none⟩) (IsS60.far (p := ⟨gb44, 0, none⟩) HI363.out NB363_369.out _) NB363_369.out _) | (repeat (first | (with_reducible first | exact HI363.out | apply IsS60.alloc | apply IsS60.drewN | apply IsS60.drew | refine IsS60.far ?_ NB363_360.out _ | refine IsS60.far ?_ NB363_369.out _ | apply IsS60.set_1) | exact HI363.out))⟩, ⟨by repeat (first | (with_reducible first | exact HB.out | apply below_alloc | apply pw_below_drewN | apply below_drew1 | refine below_set ?_ (IsS60.ge HI363.out) | refine below_set ?_ GE43.out | refine below_set ?_ GE44.out) | exact HB.out)⟩⟩
  replace c14 := Bool.eq_false_iff.mpr c14
  subst c14
  have H1 : (spec_DrawPushVersion.j0 k t48 t47 t53 t55 t56) = some (r1, r2, r3, r4, r5) := by rw [if_neg (show ¬ (false = true) by decide)] at H; exact H
  clear H
  have H := H1
  clear H1
  have H' := Aside0.mk H
  clear H
  go_wp2
  go_meet
  case rel => exact ⟨_, (t55), (t56), H', ⟨by first | omega | exact Nat.le_refl _⟩, ⟨by (with_reducible repeat (first | apply Kd.R_alloc | apply Kd.R_drewN | apply Kd.R_drew)); exact HO49.out⟩, ⟨by (with_reducible repeat (first | refine blk_drewN ?_ _ | refine blk_drew ?_ | refine blk_alloc ?_ _)); exact BK43.out⟩, ⟨by (with_reducible repeat (first | refine blk_drewN ?_ _ | refine blk_drew ?_ | refine blk_alloc ?_ _)); exact BK44.out⟩, ⟨by repeat (first | (with_reducible first | exact HI363.out | apply IsS60.alloc | apply IsS60.drewN | apply IsS60.drew | refine IsS60.far ?_ NB363_360.out _ | refine IsS60.far ?_ NB363_369.out _ | apply IsS60.set_1) | exact HI363.out)⟩, ⟨by repeat (first | (with_reducible first | exact HB.out | apply below_alloc | apply pw_below_drewN | apply below_drew1 | refine below_set ?_ (IsS60.ge HI363.out) | refine below_set ?_ GE43.out | refine below_set ?_ GE44.out) | exact HB.out)⟩⟩
 case rest =>
  clear HC5
  try clear c1
  try clear p2
  try clear c3
  try clear c10
  try clear c11
  try clear c12
  try clear c14
  try clear c18
  try clear c19
  try clear hcz12_0 hcz12_1
  try clear hcz20_0 hcz20_1
  try clear hfz12_0 hfz12_1
  try clear hfz20_0 hfz20_1
  obtain ⟨kq, x45_4, x46_4, HA, HJ4, HO_7, BK43, BK44, HI363, HB⟩ := hcut
  cases kq with
  | zero => exact absurd HA.out (by simp [spec_DrawPushVersion.j0])
  | succ kj4 =>
   have H := HA.out
   clear HA
   simp only [spec_DrawPushVersion.j0] at H
   replace H := Option.bind_eq_some_iff.mp H
   obtain ⟨⟨t71, t58⟩, A72, H⟩ := H
   replace H : (if t71 = true then ((spec_l1Pick.f t47 t58 (([0, 0, 0, 5] : List Int))).bind fun bt63 => (some (t48, x45_4, x46_4, true, bt63.1))) else ((spec_l1Next.f t47 t58 90).bind fun bt57 => ((spec_l1Pick.f t47 bt57.2 (([bt57.1, 9999, 10000, (-1)] : List Int))).bind fun bt62 => (some (t48, x45_4, x46_4, false, bt62.1))))) = some (r1, r2, r3, r4, r5) := H
   have A21 := Aside0.mk A72
   clear A72
   by_cases c22 : t71 = true
   ·subst c22
    have H1 : ((spec_l1Pick.f t47 t58 (([0, 0, 0, 5] : List Int))).bind fun bt63 => (some (t48, x45_4, x46_4, true, bt63.1))) = some (r1, r2, r3, r4, r5) := by rw [if_pos rfl] at H; exact H
    clear H
    have H := H1
    clear H1
    obtain ⟨y59, hy59⟩ : ∃ y_ : List Int, y_ = (([0, 0, 0, 5] : List Int)) := ⟨_, rfl⟩
    replace H : ((spec_l1Pick.f t47 t58 y59).bind fun bt63 => (some (t48, x45_4, x46_4, true, bt63.1))) = some (r1, r2, r3, r4, r5) := by first | (rw [hy59]; with_reducible exact H) | (have H2_ := (Option.bind_some _ _).symm.trans H; rw [hy59]; with_reducible exact H2_) | (have H2_ := (Option.bind_some _ _).symm.trans H; with_reducible exact H2_) | with_reducible exact H | (rw [hy59]; exact H) | exact H
    have Ny59 := Aside0.mk hy59
    clear hy59
    replace H := Option.bind_eq_some_iff.mp H
    obtain ⟨⟨t63, t77⟩, A73, H⟩ := H
    replace H : (some (t48, x45_4, x46_4, true, t63)) = some (r1, r2, r3, r4, r5) := H
    have A23 := Aside0.mk A73
    clear A73
    simp only [Option.some.injEq, Prod.mk.injEq] at H
    obtain ⟨rfl, rfl, rfl, rfl, rfl⟩ := H
    try go_wp2_with (first | ((with_reducible refine gate_callee (f := 34) rfl ?_); refine goesL_ (some 23) rfl rfl Try.func34 (by kernel_rfl) rfl #[.pointer (some ⟨g363, 0, none⟩), .int .i64 4] rfl zm ?_; (with_reducible refine (spec_l1Chance.calls g363 t47 t53 4 true t58 w _ ?side1 ?side2 A21.out).mono ?_); (case side1 => repeat (first | (with_reducible first | exact HI363.out | apply IsS60.alloc | apply IsS60.drewN | apply IsS60.drew | refine IsS60.far ?_ NB363_360.out _ | refine IsS60.far ?_ NB363_369.out _ | apply IsS60.set_1) | exact HI363.out)); (case side2 => repeat (first | (with_reducible first | exact HB.out | apply below_alloc | apply pw_below_drewN | apply below_drew1 | refine below_set ?_ (IsS60.ge HI363.out) | refine below_set ?_ GE43.out | refine below_set ?_ GE44.out) | exact HB.out)); rintro e w24 ⟨rfl, hi, hb, hk⟩; refine ⟨_, rfl, ?_⟩; have n0_ := Aside0.mk (Kd.R_mono (Kd.R_keep (IsS60.apart (show IsS60 w _ g363 t47 t53 from by repeat (first | (with_reducible first | exact HI363.out | apply IsS60.alloc | apply IsS60.drewN | apply IsS60.drew | refine IsS60.far ?_ NB363_360.out _ | refine IsS60.far ?_ NB363_369.out _ | apply IsS60.set_1) | exact HI363.out)) (by (with_reducible repeat (first | apply Kd.R_alloc | apply Kd.R_drewN | apply Kd.R_drew)); exact HO_7.out) (by decide)) hk (fun _ h => h.2)) (fun _ h => h.1)); have n1_ := Aside0.mk (KeepBut.blk hk (g' := gb43) (o := .cells #[.int .i64 0, .int .i64 0] 32 (0, 0)) zk NB360_363.out (by simp)); have n2_ := Aside0.mk (KeepBut.blk hk (g' := gb44) (o := .cells #[.int .i64 x45_4, .int .i64 x46_4] 32 (0, 0)) zk NB369_363.out (by simp)); have n3_ := Aside0.mk (hb); have n4_ := Aside0.mk (hi); clear HO_7; clear BK43; clear BK44; clear HB; clear HI363; have HO_7 := n0_; have BK43 := n1_; have BK44 := n2_; have HB := n3_; have HI363 := n4_; clear n0_ n1_ n2_ n3_ n4_; (try clear hb); (try clear hb2); (try clear hk); (try clear hi)))
    have n0_ := Aside0.mk (Kd.R_drew HO_7.out)
    have n1_ := Aside0.mk (blk_drew BK43.out)
    have n2_ := Aside0.mk (blk_drew BK44.out)
    have n3_ := Aside0.mk (IsS60.drew HI363.out)
    have n4_ := Aside0.mk (below_drew1 HB.out)
    clear HO_7
    clear BK43
    clear BK44
    clear HI363
    clear HB
    have HO_7 := n0_
    have BK43 := n1_
    have BK44 := n2_
    have HI363 := n3_
    have HB := n4_
    clear n0_ n1_ n2_ n3_ n4_
    refine start_ (n := 9) (S := fun w' => w'.cell? ⟨gb44, 0, none⟩ = some (.int .i64 x45_4) ∧ w'.cell? ⟨gb44, 1, none⟩ = some (.int .i64 x46_4)) (ds := []) #[false, false, false, false, false, false, false, false, false] (by kernel_rfl) rfl rfl ⟨(blk_cell BK44.out 0).trans rfl, (blk_cell BK44.out 1).trans rfl⟩ (fun hHeld => ?_); refine with_tabW spec_DrawPushVersion.tab6 spec_DrawPushVersion.bits6 (fun HT_ HW_ => ?_)
    generalize w24.drew = w25 at HO_7 BK43 BK44 HI363 HB hHeld ⊢
    refine zp 0 24 ?_; refine zp 2 26 ?_; refine zt 1 25 ?_
    refine one_ (i := 3) (N := some 27) #[true, true, true, true, false, false, false, false, false] rfl rfl (one_of HT_.out (by kernel_rfl)) (by decide) (fun K hK => ?_)
    refine Kd.R_lit_step (Kd.int .i64) _ 2 ?hg (N := 27) ?hd (xs := ([0, 0, 0, 5] : List Int)) (inner := [.int .i64 0, .int .i64 0, .int .i64 0, .int .i64 5]) (ok := fun _ => True) (okp := fun _ => True) ?hr ?hp (fun _ hk => hk) trivial (Below.refl _ _) (Nat.le_refl _) (by simp) ?_; (case hd => rfl); (case hg => rfl); (case hr => first | (go_simp; done) | (go_simp; rfl)); (case hp => exact (Reps.one (show Kd.M (Kd.int .i64) _ _ _ 0 [.int .i64 0] from rfl) (Reps.one (show Kd.M (Kd.int .i64) _ _ _ 0 [.int .i64 0] from rfl) (Reps.one (show Kd.M (Kd.int .i64) _ _ _ 0 [.int .i64 0] from rfl) (Reps.one (show Kd.M (Kd.int .i64) _ _ _ 5 [.int .i64 5] from rfl) (Reps.none _ _))))))
    intro v79 w26 ho27 hb hg_ hnew_
    clear hg_ hnew_
    (first | rw [← Ny59.out] at ho27 | (simp only [Int.reduceToNat] at ho27; rw [← Ny59.out] at ho27))
    have n0_ := Aside0.mk (Kd.R_below (by (with_reducible repeat (first | apply Kd.R_alloc | apply Kd.R_drewN | apply Kd.R_drew)); exact HO_7.out) hb)
    have n1_ := Aside0.mk (Kd.R_lower ho27 (below_size (by repeat (first | (with_reducible first | exact HB.out | apply below_alloc | apply pw_below_drewN | apply below_drew1 | refine below_set ?_ (IsS60.ge HI363.out) | refine below_set ?_ GE43.out | refine below_set ?_ GE44.out) | exact HB.out))))
    have n2_ := Aside0.mk (blk_below (g := gb43) (o := .cells #[.int .i64 0, .int .i64 0] 32 (0, 0)) zk hb)
    have n3_ := Aside0.mk (blk_below (g := gb44) (o := .cells #[.int .i64 x45_4, .int .i64 x46_4] 32 (0, 0)) zk hb)
    have n4_ := Aside0.mk (IsS60.below (by repeat (first | (with_reducible first | exact HI363.out | apply IsS60.alloc | apply IsS60.drewN | apply IsS60.drew | refine IsS60.far ?_ NB363_360.out _ | refine IsS60.far ?_ NB363_369.out _ | apply IsS60.set_1) | exact HI363.out)) hb)
    have n5_ := Aside0.mk (below_step (by repeat (first | (with_reducible first | exact HB.out | apply below_alloc | apply pw_below_drewN | apply below_drew1 | refine below_set ?_ (IsS60.ge HI363.out) | refine below_set ?_ GE43.out | refine below_set ?_ GE44.out) | exact HB.out)) hb)
    clear HO_7
    clear BK43
    clear BK44
    clear HI363
    clear HB
    have HO_7 := n0_
    have HO66 := n1_
    have BK43 := n2_
    have BK44 := n3_
    have HI363 := n4_
    have HB := n5_
    clear n0_ n1_ n2_ n3_ n4_ n5_
    clear hb ho27
    obtain ⟨Ao28, co28, eo28⟩ := Kd.R_slice HO66.out
    (first | subst eo28 | (injection eo28 with f1_ f2_ f3_; have f4_ := f1_.symm; have f5_ := f3_.symm; clear f1_ f2_ f3_; subst f4_; subst f5_))
    refine hK.out _ _ ⟨(blk_cell BK44.out 0).trans rfl, (blk_cell BK44.out 1).trans rfl⟩ (fun hHeld => ?_)
    clear hK K
    refine norm_ (a' := ?_) ?_ ?_
    rotate_left
    ·show Act.put _ (some 27) _ = _
     simp only [Act.put, List.setIfInBounds_toArray, List.set_cons_zero, List.set_cons_succ, i64_w, i32_w]
     rfl
    refine one_ (i := 4) (N := some 28) #[true, true, true, true, true, false, false, false, false] rfl rfl (one_of HT_.out (by kernel_rfl)) (by decide) (fun K hK => ?_)
    refine goes_ Try.func21 (by kernel_rfl) rfl #[.pointer (some ⟨g363, 0, none⟩), .slice Ao28 y59.length co28] (by rfl) rfl rfl zm ?_
    with_reducible refine (spec_l1Pick.calls g363 t47 t58 _ _ y59 t63 t77 w _ ?side1 ?side2 ?side3 ?side4 ?side5 A23.out).mono ?_
    (case side1 => repeat (first | (with_reducible first | exact HI363.out | apply IsS60.alloc | apply IsS60.drewN | apply IsS60.drew | refine IsS60.far ?_ NB363_360.out _ | refine IsS60.far ?_ NB363_369.out _ | apply IsS60.set_1) | exact HI363.out))
    (case side2 => repeat (first | (with_reducible first | exact HB.out | apply below_alloc | apply pw_below_drewN | apply below_drew1 | refine below_set ?_ (IsS60.ge HI363.out) | refine below_set ?_ GE43.out | refine below_set ?_ GE44.out) | exact HB.out))
    (case side3 => repeat (first | exact (Kd.R_reads' HO66.out).2.2 | (with_reducible first | refine Kd.C_alloc ?_ _ | refine Kd.C_drewN ?_ _ | refine Kd.C_drew ?_)))
    (case side4 => exact (Kd.R_reads' HO66.out).2.1)
    (case side5 => exact far_slice (IsS60.own_ne HI363.out HO66.out (by decide)))
    rintro e w29 ⟨rfl, hi, hb, hk⟩
    refine ⟨_, rfl, ?_⟩
    have n0_ := Aside0.mk (Kd.R_mono (Kd.R_keep (IsS60.apart (show IsS60 w _ g363 t47 t58 from by repeat (first | (with_reducible first | exact HI363.out | apply IsS60.alloc | apply IsS60.drewN | apply IsS60.drew | refine IsS60.far ?_ NB363_360.out _ | refine IsS60.far ?_ NB363_369.out _ | apply IsS60.set_1) | exact HI363.out)) (by (with_reducible repeat (first | apply Kd.R_alloc | apply Kd.R_drewN | apply Kd.R_drew)); exact HO_7.out) (by decide)) hk (fun _ h => h.2)) (fun _ h => h.1))
    have n1_ := Aside0.mk (KeepBut.blk hk (g' := gb43) (o := .cells #[.int .i64 0, .int .i64 0] 32 (0, 0)) zk NB360_363.out (by simp))
    have n2_ := Aside0.mk (KeepBut.blk hk (g' := gb44) (o := .cells #[.int .i64 x45_4, .int .i64 x46_4] 32 (0, 0)) zk NB369_363.out (by simp))
    have n3_ := Aside0.mk (Kd.R_mono (Kd.R_keep (IsS60.apart (show IsS60 w _ g363 t47 t58 from by repeat (first | (with_reducible first | exact HI363.out | apply IsS60.alloc | apply IsS60.drewN | apply IsS60.drew | refine IsS60.far ?_ NB363_360.out _ | refine IsS60.far ?_ NB363_369.out _ | apply IsS60.set_1) | exact HI363.out)) (by (with_reducible repeat (first | apply Kd.R_alloc | apply Kd.R_drewN | apply Kd.R_drew)); exact HO66.out) (by decide)) hk (fun _ h => h.2)) (fun _ h => h.1))
    have n4_ := Aside0.mk (hb)
    have n5_ := Aside0.mk (hi)
    clear HO_7
    clear BK43
    clear BK44
    clear HO66
    clear HB
    clear HI363
    have HO_7 := n0_
    have BK43 := n1_
    have BK44 := n2_
    have HO66 := n3_
    have HB := n4_
    have HI363 := n5_
    clear n0_ n1_ n2_ n3_ n4_ n5_
    (try clear hb)
    (try clear hb2)
    (try clear hk)
    (try clear hi)
    refine hK.out _ _ ⟨(blk_cell BK44.out 0).trans rfl, (blk_cell BK44.out 1).trans rfl⟩ (fun hHeld => ?_)
    clear hK K
    refine norm_ (a' := ?_) ?_ ?_
    rotate_left
    ·show Act.put _ (some 28) _ = _
     simp only [Act.put, List.setIfInBounds_toArray, List.set_cons_zero, List.set_cons_succ, i64_w, i32_w]
     rfl
    refine zp 5 2 ?_
    refine one_ (i := 6) (N := none) #[true, true, true, true, true, true, true, false, false] rfl rfl (one_of HT_.out (by kernel_rfl)) (by decide) (fun K hK => ?_)
    have hs30 : w29.cell? ⟨gb43, 0, none⟩ = some (.int .i64 0) := (blk_cell BK43.out 0).trans rfl
    have hfs30 := blk_frozen BK43.out 0
    have hns30_1 := NB369_360.out
    have hms30_1 := NB360_369.out
    have hs31 : w29.cell? ⟨gb43, 1, none⟩ = some (.int .i64 0) := (blk_cell BK43.out 1).trans rfl
    have hfs31 := blk_frozen BK43.out 1
    have hns31_1 := NB369_360.out
    have hms31_1 := NB360_369.out
    refine skip_ (w1 := ?_) (by rfl) rfl ?_ ?_
    rotate_left
    ·go_simp
     rfl
    refine hK.out _ _ ⟨((cell_far (p := ⟨gb43, _, none⟩) NB369_360.out _).trans (((cell_far (p := ⟨gb43, _, none⟩) NB369_360.out _).trans (hHeld.1)))), ((cell_far (p := ⟨gb43, _, none⟩) NB369_360.out _).trans (((cell_far (p := ⟨gb43, _, none⟩) NB369_360.out _).trans (hHeld.2))))⟩ (fun hHeld => ?_)
    clear hK K
    refine zp 7 4 ?_; refine zp 8 5 ?_
    refine done_ (done_of HT_.out (by kernel_rfl)) ?_
    try go_wp2
    refine bodyPost_ret (results_list (rs := [.tmp 2, .cell 3 32, .tmp 4, .tmp 5]) rfl (by simp) (.tmp (.cell gb43 32 #[.int .i64 x45_4, .int .i64 x46_4] (0, 0) _ rfl (by (with_reducible repeat (first | refine blk_drewN ?_ _ | refine blk_drew ?_ | refine blk_alloc ?_ _)); refine blk_put (cs := #[.int .i64 x45_4, .int .i64 0]) ?_ 1 _ rfl; (with_reducible repeat (first | refine blk_drewN ?_ _ | refine blk_drew ?_ | refine blk_alloc ?_ _)); refine blk_put (cs := #[.int .i64 0, .int .i64 0]) ?_ 0 _ rfl; (with_reducible repeat (first | refine blk_drewN ?_ _ | refine blk_drew ?_ | refine blk_alloc ?_ _)); exact BK43.out) Try.underlying32 rfl (by kernel_rfl) (.tmp (.tmp .nil))))) rfl ?_
    exact ⟨_, ze, by (with_reducible repeat (first | apply Kd.R_alloc | apply Kd.R_drewN | apply Kd.R_drew)); exact Kd.R_mono (Kd.R_far (p := ⟨gb43, 1, none⟩) (Kd.R_far (p := ⟨gb43, 0, none⟩) (Kd.R_types HO_7.out BK43.out (by decide)) (fun _ hk => hk.2) (.int .i64 x45_4)) (fun _ hk => hk.2) (.int .i64 x46_4)) (fun _ hk => trivial), by repeat (first | (with_reducible first | exact HB.out | apply below_alloc | apply pw_below_drewN | apply below_drew1 | refine below_set ?_ (IsS60.ge HI363.out) | refine below_set ?_ GE43.out | refine below_set ?_ GE44.out) | exact HB.out)⟩
   replace c22 := Bool.eq_false_iff.mpr c22
   subst c22
   have H1 : ((spec_l1Next.f t47 t58 90).bind fun bt57 => ((spec_l1Pick.f t47 bt57.2 (([bt57.1, 9999, 10000, (-1)] : List Int))).bind fun bt62 => (some (t48, x45_4, x46_4, false, bt62.1)))) = some (r1, r2, r3, r4, r5) := by rw [if_neg (show ¬ (false = true) by decide)] at H; exact H
   clear H
   have H := H1
   clear H1
   replace H := Option.bind_eq_some_iff.mp H
   obtain ⟨⟨t57, t68⟩, A74, H⟩ := H
   replace H : ((spec_l1Pick.f t47 t68 (([t57, 9999, 10000, (-1)] : List Int))).bind fun bt62 => (some (t48, x45_4, x46_4, false, bt62.1))) = some (r1, r2, r3, r4, r5) := H
   have A32 := Aside0.mk A74
   clear A74
   obtain ⟨y61, hy61⟩ : ∃ y_ : List Int, y_ = (([t57, 9999, 10000, (-1)] : List Int)) := ⟨_, rfl⟩
   replace H : ((spec_l1Pick.f t47 t68 y61).bind fun bt62 => (some (t48, x45_4, x46_4, false, bt62.1))) = some (r1, r2, r3, r4, r5) := by first | (rw [hy61]; with_reducible exact H) | (have H2_ := (Option.bind_some _ _).symm.trans H; rw [hy61]; with_reducible exact H2_) | (have H2_ := (Option.bind_some _ _).symm.trans H; with_reducible exact H2_) | with_reducible exact H | (rw [hy61]; exact H) | exact H
   have Ny61 := Aside0.mk hy61
   clear hy61
   replace H := Option.bind_eq_some_iff.mp H
   obtain ⟨⟨t62, t78⟩, A75, H⟩ := H
   replace H : (some (t48, x45_4, x46_4, false, t62)) = some (r1, r2, r3, r4, r5) := H
   have A33 := Aside0.mk A75
   clear A75
   simp only [Option.some.injEq, Prod.mk.injEq] at H
   obtain ⟨rfl, rfl, rfl, rfl, rfl⟩ := H
   try go_wp2_with (first | ((with_reducible refine gate_callee (f := 34) rfl ?_); refine goesL_ (some 23) rfl rfl Try.func34 (by kernel_rfl) rfl #[.pointer (some ⟨g363, 0, none⟩), .int .i64 4] rfl zm ?_; (with_reducible refine (spec_l1Chance.calls g363 t47 t53 4 false t58 w _ ?side1 ?side2 A21.out).mono ?_); (case side1 => repeat (first | (with_reducible first | exact HI363.out | apply IsS60.alloc | apply IsS60.drewN | apply IsS60.drew | refine IsS60.far ?_ NB363_360.out _ | refine IsS60.far ?_ NB363_369.out _ | apply IsS60.set_1) | exact HI363.out)); (case side2 => repeat (first | (with_reducible first | exact HB.out | apply below_alloc | apply pw_below_drewN | apply below_drew1 | refine below_set ?_ (IsS60.ge HI363.out) | refine below_set ?_ GE43.out | refine below_set ?_ GE44.out) | exact HB.out)); rintro e w34 ⟨rfl, hi, hb, hk⟩; refine ⟨_, rfl, ?_⟩; have n0_ := Aside0.mk (Kd.R_mono (Kd.R_keep (IsS60.apart (show IsS60 w _ g363 t47 t53 from by repeat (first | (with_reducible first | exact HI363.out | apply IsS60.alloc | apply IsS60.drewN | apply IsS60.drew | refine IsS60.far ?_ NB363_360.out _ | refine IsS60.far ?_ NB363_369.out _ | apply IsS60.set_1) | exact HI363.out)) (by (with_reducible repeat (first | apply Kd.R_alloc | apply Kd.R_drewN | apply Kd.R_drew)); exact HO_7.out) (by decide)) hk (fun _ h => h.2)) (fun _ h => h.1)); have n1_ := Aside0.mk (KeepBut.blk hk (g' := gb43) (o := .cells #[.int .i64 0, .int .i64 0] 32 (0, 0)) zk NB360_363.out (by simp)); have n2_ := Aside0.mk (KeepBut.blk hk (g' := gb44) (o := .cells #[.int .i64 x45_4, .int .i64 x46_4] 32 (0, 0)) zk NB369_363.out (by simp)); have n3_ := Aside0.mk (hb); have n4_ := Aside0.mk (hi); clear HO_7; clear BK43; clear BK44; clear HB; clear HI363; have HO_7 := n0_; have BK43 := n1_; have BK44 := n2_; have HB := n3_; have HI363 := n4_; clear n0_ n1_ n2_ n3_ n4_; (try clear hb); (try clear hb2); (try clear hk); (try clear hi)))
   have n0_ := Aside0.mk (Kd.R_drew HO_7.out)
   have n1_ := Aside0.mk (blk_drew BK43.out)
   have n2_ := Aside0.mk (blk_drew BK44.out)
   have n3_ := Aside0.mk (IsS60.drew HI363.out)
   have n4_ := Aside0.mk (below_drew1 HB.out)
   clear HO_7
   clear BK43
   clear BK44
   clear HI363
   clear HB
   have HO_7 := n0_
   have BK43 := n1_
   have BK44 := n2_
   have HI363 := n3_
   have HB := n4_
   clear n0_ n1_ n2_ n3_ n4_
   refine start_ (n := 11) (S := fun w' => w'.cell? ⟨gb44, 0, none⟩ = some (.int .i64 x45_4) ∧ w'.cell? ⟨gb44, 1, none⟩ = some (.int .i64 x46_4)) (ds := []) #[false, false, false, false, false, false, false, false, false, false, false] (by kernel_rfl) rfl rfl ⟨(blk_cell BK44.out 0).trans rfl, (blk_cell BK44.out 1).trans rfl⟩ (fun hHeld => ?_); refine with_tabW spec_DrawPushVersion.tab7 spec_DrawPushVersion.bits7 (fun HT_ HW_ => ?_)
   generalize w34.drew = w35 at HO_7 BK43 BK44 HI363 HB hHeld ⊢
   refine zp 0 29 ?_; refine zp 2 31 ?_; refine zp 3 32 ?_; refine zt 1 30 ?_
   refine one_ (i := 4) (N := some 33) #[true, true, true, true, true, false, false, false, false, false, false] rfl rfl (one_of HT_.out (by kernel_rfl)) (by decide) (fun K hK => ?_)
   refine goes_ Try.func22 (by kernel_rfl) rfl #[.pointer (some ⟨g363, 0, none⟩), .int .i64 90] (by rfl) rfl rfl zm ?_
   with_reducible refine (spec_l1Next.calls g363 t47 t58 90 t57 t68 w _ ?side1 ?side2 A32.out).mono ?_
   (case side1 => repeat (first | (with_reducible first | exact HI363.out | apply IsS60.alloc | apply IsS60.drewN | apply IsS60.drew | refine IsS60.far ?_ NB363_360.out _ | refine IsS60.far ?_ NB363_369.out _ | apply IsS60.set_1) | exact HI363.out))
   (case side2 => repeat (first | (with_reducible first | exact HB.out | apply below_alloc | apply pw_below_drewN | apply below_drew1 | refine below_set ?_ (IsS60.ge HI363.out) | refine below_set ?_ GE43.out | refine below_set ?_ GE44.out) | exact HB.out))
   rintro e w36 ⟨rfl, hi, hb, hk⟩
   refine ⟨_, rfl, ?_⟩
   have n0_ := Aside0.mk (Kd.R_mono (Kd.R_keep (IsS60.apart (show IsS60 w _ g363 t47 t58 from by repeat (first | (with_reducible first | exact HI363.out | apply IsS60.alloc | apply IsS60.drewN | apply IsS60.drew | refine IsS60.far ?_ NB363_360.out _ | refine IsS60.far ?_ NB363_369.out _ | apply IsS60.set_1) | exact HI363.out)) (by (with_reducible repeat (first | apply Kd.R_alloc | apply Kd.R_drewN | apply Kd.R_drew)); exact HO_7.out) (by decide)) hk (fun _ h => h.2)) (fun _ h => h.1))
   have n1_ := Aside0.mk (KeepBut.blk hk (g' := gb43) (o := .cells #[.int .i64 0, .int .i64 0] 32 (0, 0)) zk NB360_363.out (by simp))
   have n2_ := Aside0.mk (KeepBut.blk hk (g' := gb44) (o := .cells #[.int .i64 x45_4, .int .i64 x46_4] 32 (0, 0)) zk NB369_363.out (by simp))
   have n3_ := Aside0.mk (hb)
   have n4_ := Aside0.mk (hi)
   clear HO_7
   clear BK43
   clear BK44
   clear HB
   clear HI363
   have HO_7 := n0_
   have BK43 := n1_
   have BK44 := n2_
   have HB := n3_
   have HI363 := n4_
   clear n0_ n1_ n2_ n3_ n4_
   (try clear hb)
   (try clear hb2)
   (try clear hk)
   (try clear hi)
   refine hK.out _ _ ⟨(blk_cell BK44.out 0).trans rfl, (blk_cell BK44.out 1).trans rfl⟩ (fun hHeld => ?_)
   clear hK K
   refine norm_ (a' := ?_) ?_ ?_
   rotate_left
   ·show Act.put _ (some 33) _ = _
    simp only [Act.put, List.setIfInBounds_toArray, List.set_cons_zero, List.set_cons_succ, i64_w, i32_w]
    rfl
   refine one_ (i := 5) (N := some 34) #[true, true, true, true, true, true, false, false, false, false, false] rfl rfl (one_of HT_.out (by kernel_rfl)) (by decide) (fun K hK => ?_)
   refine Kd.R_lit_step (Kd.int .i64) _ 2 ?hg (N := 34) ?hd (xs := ([t57, 9999, 10000, (-1)] : List Int)) (inner := [.int .i64 t57, .int .i64 9999, .int .i64 10000, .int .i64 (-1)]) (ok := fun _ => True) (okp := fun _ => True) ?hr ?hp (fun _ hk => hk) trivial (Below.refl _ _) (Nat.le_refl _) (by simp) ?_; (case hd => rfl); (case hg => rfl); (case hr => first | (go_simp; done) | (go_simp; rfl)); (case hp => exact (Reps.one (show Kd.M (Kd.int .i64) _ _ _ t57 [.int .i64 t57] from rfl) (Reps.one (show Kd.M (Kd.int .i64) _ _ _ 9999 [.int .i64 9999] from rfl) (Reps.one (show Kd.M (Kd.int .i64) _ _ _ 10000 [.int .i64 10000] from rfl) (Reps.one (show Kd.M (Kd.int .i64) _ _ _ (-1) [.int .i64 (-1)] from rfl) (Reps.none _ _))))))
   intro v80 w37 ho38 hb hg_ hnew_
   clear hg_ hnew_
   (first | rw [← Ny61.out] at ho38 | (simp only [Int.reduceToNat] at ho38; rw [← Ny61.out] at ho38))
   have n0_ := Aside0.mk (Kd.R_below (by (with_reducible repeat (first | apply Kd.R_alloc | apply Kd.R_drewN | apply Kd.R_drew)); exact HO_7.out) hb)
   have n1_ := Aside0.mk (Kd.R_lower ho38 (below_size (by repeat (first | (with_reducible first | exact HB.out | apply below_alloc | apply pw_below_drewN | apply below_drew1 | refine below_set ?_ (IsS60.ge HI363.out) | refine below_set ?_ GE43.out | refine below_set ?_ GE44.out) | exact HB.out))))
   have n2_ := Aside0.mk (blk_below (g := gb43) (o := .cells #[.int .i64 0, .int .i64 0] 32 (0, 0)) zk hb)
   have n3_ := Aside0.mk (blk_below (g := gb44) (o := .cells #[.int .i64 x45_4, .int .i64 x46_4] 32 (0, 0)) zk hb)
   have n4_ := Aside0.mk (IsS60.below (by repeat (first | (with_reducible first | exact HI363.out | apply IsS60.alloc | apply IsS60.drewN | apply IsS60.drew | refine IsS60.far ?_ NB363_360.out _ | refine IsS60.far ?_ NB363_369.out _ | apply IsS60.set_1) | exact HI363.out)) hb)
   have n5_ := Aside0.mk (below_step (by repeat (first | (with_reducible first | exact HB.out | apply below_alloc | apply pw_below_drewN | apply below_drew1 | refine below_set ?_ (IsS60.ge HI363.out) | refine below_set ?_ GE43.out | refine below_set ?_ GE44.out) | exact HB.out)) hb)
   clear HO_7
   clear BK43
   clear BK44
   clear HI363
   clear HB
   have HO_7 := n0_
   have HO67 := n1_
   have BK43 := n2_
   have BK44 := n3_
   have HI363 := n4_
   have HB := n5_
   clear n0_ n1_ n2_ n3_ n4_ n5_
   clear hb ho38
   obtain ⟨Ao39, co39, eo39⟩ := Kd.R_slice HO67.out
   (first | subst eo39 | (injection eo39 with f1_ f2_ f3_; have f4_ := f1_.symm; have f5_ := f3_.symm; clear f1_ f2_ f3_; subst f4_; subst f5_))
   refine hK.out _ _ ⟨(blk_cell BK44.out 0).trans rfl, (blk_cell BK44.out 1).trans rfl⟩ (fun hHeld => ?_)
   clear hK K
   refine norm_ (a' := ?_) ?_ ?_
   rotate_left
   ·show Act.put _ (some 34) _ = _
    simp only [Act.put, List.setIfInBounds_toArray, List.set_cons_zero, List.set_cons_succ, i64_w, i32_w]
    rfl
   refine one_ (i := 6) (N := some 35) #[true, true, true, true, true, true, true, false, false, false, false] rfl rfl (one_of HT_.out (by kernel_rfl)) (by decide) (fun K hK => ?_)
   refine goes_ Try.func21 (by kernel_rfl) rfl #[.pointer (some ⟨g363, 0, none⟩), .slice Ao39 y61.length co39] (by rfl) rfl rfl zm ?_
   with_reducible refine (spec_l1Pick.calls g363 t47 t68 _ _ y61 t62 t78 w _ ?side1 ?side2 ?side3 ?side4 ?side5 A33.out).mono ?_
   (case side1 => repeat (first | (with_reducible first | exact HI363.out | apply IsS60.alloc | apply IsS60.drewN | apply IsS60.drew | refine IsS60.far ?_ NB363_360.out _ | refine IsS60.far ?_ NB363_369.out _ | apply IsS60.set_1) | exact HI363.out))
   (case side2 => repeat (first | (with_reducible first | exact HB.out | apply below_alloc | apply pw_below_drewN | apply below_drew1 | refine below_set ?_ (IsS60.ge HI363.out) | refine below_set ?_ GE43.out | refine below_set ?_ GE44.out) | exact HB.out))
   (case side3 => repeat (first | exact (Kd.R_reads' HO67.out).2.2 | (with_reducible first | refine Kd.C_alloc ?_ _ | refine Kd.C_drewN ?_ _ | refine Kd.C_drew ?_)))
   (case side4 => exact (Kd.R_reads' HO67.out).2.1)
   (case side5 => exact far_slice (IsS60.own_ne HI363.out HO67.out (by decide)))
   rintro e w40 ⟨rfl, hi, hb, hk⟩
   refine ⟨_, rfl, ?_⟩
   have n0_ := Aside0.mk (Kd.R_mono (Kd.R_keep (IsS60.apart (show IsS60 w _ g363 t47 t68 from by repeat (first | (with_reducible first | exact HI363.out | apply IsS60.alloc | apply IsS60.drewN | apply IsS60.drew | refine IsS60.far ?_ NB363_360.out _ | refine IsS60.far ?_ NB363_369.out _ | apply IsS60.set_1) | exact HI363.out)) (by (with_reducible repeat (first | apply Kd.R_alloc | apply Kd.R_drewN | apply Kd.R_drew)); exact HO_7.out) (by decide)) hk (fun _ h => h.2)) (fun _ h => h.1))
   have n1_ := Aside0.mk (KeepBut.blk hk (g' := gb43) (o := .cells #[.int .i64 0, .int .i64 0] 32 (0, 0)) zk NB360_363.out (by simp))
   have n2_ := Aside0.mk (KeepBut.blk hk (g' := gb44) (o := .cells #[.int .i64 x45_4, .int .i64 x46_4] 32 (0, 0)) zk NB369_363.out (by simp))
   have n3_ := Aside0.mk (Kd.R_mono (Kd.R_keep (IsS60.apart (show IsS60 w _ g363 t47 t68 from by repeat (first | (with_reducible first | exact HI363.out | apply IsS60.alloc | apply IsS60.drewN | apply IsS60.drew | refine IsS60.far ?_ NB363_360.out _ | refine IsS60.far ?_ NB363_369.out _ | apply IsS60.set_1) | exact HI363.out)) (by (with_reducible repeat (first | apply Kd.R_alloc | apply Kd.R_drewN | apply Kd.R_drew)); exact HO67.out) (by decide)) hk (fun _ h => h.2)) (fun _ h => h.1))
   have n4_ := Aside0.mk (hb)
   have n5_ := Aside0.mk (hi)
   clear HO_7
   clear BK43
   clear BK44
   clear HO67
   clear HB
   clear HI363
   have HO_7 := n0_
   have BK43 := n1_
   have BK44 := n2_
   have HO67 := n3_
   have HB := n4_
   have HI363 := n5_
   clear n0_ n1_ n2_ n3_ n4_ n5_
   (try clear hb)
   (try clear hb2)
   (try clear hk)
   (try clear hi)
   refine hK.out _ _ ⟨(blk_cell BK44.out 0).trans rfl, (blk_cell BK44.out 1).trans rfl⟩ (fun hHeld => ?_)
   clear hK K
   refine norm_ (a' := ?_) ?_ ?_
   rotate_left
   ·show Act.put _ (some 35) _ = _
    simp only [Act.put, List.setIfInBounds_toArray, List.set_cons_zero, List.set_cons_succ, i64_w, i32_w]
    rfl
   refine zp 7 2 ?_
   refine one_ (i := 8) (N := none) #[true, true, true, true, true, true, true, true, true, false, false] rfl rfl (one_of HT_.out (by kernel_rfl)) (by decide) (fun K hK => ?_)
   have hs41 : w40.cell? ⟨gb43, 0, none⟩ = some (.int .i64 0) := (blk_cell BK43.out 0).trans rfl
   have hfs41 := blk_frozen BK43.out 0
   have hns41_1 := NB369_360.out
   have hms41_1 := NB360_369.out
   have hs42 : w40.cell? ⟨gb43, 1, none⟩ = some (.int .i64 0) := (blk_cell BK43.out 1).trans rfl
   have hfs42 := blk_frozen BK43.out 1
   have hns42_1 := NB369_360.out
   have hms42_1 := NB360_369.out
   refine skip_ (w1 := ?_) (by rfl) rfl ?_ ?_
   rotate_left
   ·go_simp
    rfl
   refine hK.out _ _ ⟨((cell_far (p := ⟨gb43, _, none⟩) NB369_360.out _).trans (((cell_far (p := ⟨gb43, _, none⟩) NB369_360.out _).trans (hHeld.1)))), ((cell_far (p := ⟨gb43, _, none⟩) NB369_360.out _).trans (((cell_far (p := ⟨gb43, _, none⟩) NB369_360.out _).trans (hHeld.2))))⟩ (fun hHeld => ?_)
   clear hK K
   refine zp 9 4 ?_; refine zp 10 5 ?_
   refine done_ (done_of HT_.out (by kernel_rfl)) ?_
   try go_wp2
   refine bodyPost_ret (results_list (rs := [.tmp 2, .cell 3 32, .tmp 4, .tmp 5]) rfl (by simp) (.tmp (.cell gb43 32 #[.int .i64 x45_4, .int .i64 x46_4] (0, 0) _ rfl (by (with_reducible repeat (first | refine blk_drewN ?_ _ | refine blk_drew ?_ | refine blk_alloc ?_ _)); refine blk_put (cs := #[.int .i64 x45_4, .int .i64 0]) ?_ 1 _ rfl; (with_reducible repeat (first | refine blk_drewN ?_ _ | refine blk_drew ?_ | refine blk_alloc ?_ _)); refine blk_put (cs := #[.int .i64 0, .int .i64 0]) ?_ 0 _ rfl; (with_reducible repeat (first | refine blk_drewN ?_ _ | refine blk_drew ?_ | refine blk_alloc ?_ _)); exact BK43.out) Try.underlying32 rfl (by kernel_rfl) (.tmp (.tmp .nil))))) rfl ?_
   exact ⟨_, ze, by (with_reducible repeat (first | apply Kd.R_alloc | apply Kd.R_drewN | apply Kd.R_drew)); exact Kd.R_mono (Kd.R_far (p := ⟨gb43, 1, none⟩) (Kd.R_far (p := ⟨gb43, 0, none⟩) (Kd.R_types HO_7.out BK43.out (by decide)) (fun _ hk => hk.2) (.int .i64 x45_4)) (fun _ hk => hk.2) (.int .i64 x46_4)) (fun _ hk => trivial), by repeat (first | (with_reducible first | exact HB.out | apply below_alloc | apply pw_below_drewN | apply below_drew1 | refine below_set ?_ (IsS60.ge HI363.out) | refine below_set ?_ GE43.out | refine below_set ?_ GE44.out) | exact HB.out)⟩
-- PROOF --
set_option maxHeartbeats 8000000 in
set_option maxRecDepth 100000 in
theorem slices_Clone_impl_Version.calls (A0 : Option Addr) (c0 : Nat) (l0 : List (S51)) (r : List (S51)) (w : World) (hr0 : Kd.C k51 w A0 l0.length l0) (hc0 : l0.length ≤ c0) (h : slices_Clone_impl_Version.f l0 = some r) :
 Calls Try.prog 37 #[.slice A0 l0.length c0] w fun e w' => ∃ v0_ : Value, e = .returned (v0_) ∧ Kd.R k51 51 w' w.heap.size (fun _ => True) v0_ r ∧ Below w.heap.size w w' := by
 have q22 : ∀ (w : World) (a : Option Addr) (n c n' c' : Nat), (binOp .eql 24 (.slice a n c) (.slice none n' c')).run Try.prog w = .ok (.bool a.isNone) w := fun w a n c n' c' => Lib.run_eql_slice_nil w _ _ a n c n' c' Try.underlying24
 rcases A0 with _ | ad0
 ·have hl : l0 = [] := by
   rcases Nat.eq_zero_or_pos l0.length with h0 | h0
   ·exact List.eq_nil_of_length_eq_zero h0
   obtain ⟨ad, e, _⟩ := hr0.2.2 h0
   cases e
  subst hl
  have hr : r = [] := by
   simp [slices_Clone_impl_Version.f] at h
   first | exact h.symm | exact h
  subst hr
  go_enter Try.func37, Try.ntmps37
  go_wp2
  go_ret
  exact ⟨_, rfl, Kd.R_nil _ _ _ _ _, Below.refl _ _⟩
 have HR0 := Aside0.mk hr0
 have HC0 := Aside0.mk hc0
 clear hr0 hc0
 have HB := Aside0.mk (Below.refl w.heap.size w)
 have H : ((some (([] : List (S51)) : List (S51))).bind fun y7 => (if y7.length + l0.length < 4398046511104 then (some (y7 ++ l0)) else (none))) = some r := h
 clear h
 obtain ⟨y7, hy7⟩ : ∃ y_ : List (S51), y_ = (([] : List (S51))) := ⟨_, rfl⟩
 replace H : (if y7.length + l0.length < 4398046511104 then (some (y7 ++ l0)) else (none)) = some r := by first | (rw [hy7]; with_reducible exact H) | (have H2_ := (Option.bind_some _ _).symm.trans H; rw [hy7]; with_reducible exact H2_) | (have H2_ := (Option.bind_some _ _).symm.trans H; with_reducible exact H2_) | with_reducible exact H | (rw [hy7]; exact H) | exact H
 have Ny7 := Aside0.mk hy7
 clear hy7
 by_cases c2 : y7.length + l0.length < 4398046511104
 ·rw [if_pos c2] at H
  have LMc2 := Aside0.mk c2
  clear c2
  obtain ⟨y8, hy8⟩ : ∃ y_ : List (S51), y_ = (y7 ++ l0) := ⟨_, rfl⟩
  replace H : (some y8) = some r := by first | (rw [hy8]; with_reducible exact H) | (have H2_ := (Option.bind_some _ _).symm.trans H; rw [hy8]; with_reducible exact H2_) | (have H2_ := (Option.bind_some _ _).symm.trans H; with_reducible exact H2_) | with_reducible exact H | (rw [hy8]; exact H) | exact H
  have Ny8 := Aside0.mk hy8
  clear hy8
  obtain rfl := Option.some.inj H
  go_enter Try.func37, Try.ntmps37
  go_wp2_with (first | ((with_reducible refine gate_dst (N := 5) rfl ?_); refine Kd.R_lit k51 _ 51 ?hg (N := 5) ?hd (xs := ([] : List (S51))) (inner := []) (ok := fun _ => True) (okp := fun _ => True) ?hr ?hp (fun _ hk => hk) trivial (Below.refl _ _) (Nat.le_refl _) (by simp) ?_; (case hd => rfl); (case hg => rfl); (case hr => first | (go_simp; done) | (go_simp; rfl)); (case hp => exact (Reps.none _ _)); intro v10 w3 ho4 hb hg_ hnew_; clear hg_ hnew_; (first | rw [← Ny7.out] at ho4 | (simp only [Int.reduceToNat] at ho4; rw [← Ny7.out] at ho4)); have n0_ := Aside0.mk (Kd.R_lower ho4 (below_size zb)); have n1_ := Aside0.mk (below_step zb hb); clear HB; have HO9 := n0_; have HB := n1_; clear n0_ n1_; clear hb ho4) | ((with_reducible refine gate_builtin (b := .append) (xs := #[.tmp 5, .tmp 6]) rfl ?_); at_builtin; refine Kd.R_append_rows k51 (w0 := w) w.heap.size rfl (.tmp 5) (.tmp 6) 24 51 (.agg #[(.int .i64 0), (.int .i64 0), (.bool false), (.int .i64 0)]) 32 rfl Try.underlying24 info51 rfl (by decide) (by omega) v10 y7 l0 _ _ _ (fun _ => True) (fun _ => False) rfl rfl ?aO ?aR (fun _ _ h => h) (fun _ h => h.elim) ?aF ?aB ?aS ?aL ?_; (case aR => repeat (first | exact (Kd.C_below HR0.out HB.out) | (with_reducible first | refine Kd.C_alloc ?_ _ | refine Kd.C_drewN ?_ _ | refine Kd.C_drew ?_))); (case aB => exact zb); (case aF => exact (fun _ _ => trivial)); (case aO => exact (by (with_reducible repeat (first | apply Kd.R_alloc | apply Kd.R_drewN | apply Kd.R_drew)); exact HO9.out)); (case aS => exact (below_size zb)); (case aL => have := LMc2.out; omega); intro v12 w5 ho hb hg hat; rw [← Ny8.out] at ho; have n0_ := Aside0.mk (hb); have n1_ := Aside0.mk (ho); clear HB; clear HO9; have HB := n0_; have HO11 := n1_; clear n0_ n1_; clear ho hb hg hat))
  go_ret
  exact ⟨_, ze, by (with_reducible repeat (first | apply Kd.R_alloc | apply Kd.R_drewN | apply Kd.R_drew)); exact HO11.out, zb⟩
 rw [if_neg c2] at H
 exact absurd H (by simp)
end Go.Proofs.Ytkaammmkejiafaa.P
